import Derived.Test.YtfdgnogcckoalaaGreatDoorKPD
import Derived.Deep.DeepHandedRow
import Derived.Deep.DeepWitnessRowRef
import Derived.Seven
import Derived.SevenTiedAt
import Derived.Test.YtfdgnogcckoalaaGreatDoorKPA
import Derived.KernelRfl
import Derived.Shelf.Spec.BitsCarry
import Derived.Shelf.Strings.Builder1
import Derived.Shelf.Strings.Builder2
import Derived.Shelf.Strings.OnBuilder
import Derived.Shelf.Strings.Trim
import Derived.Shelf.Small.Utf8
import Derived.Shelf.Small.Bits
import Derived.Shelf.Small.Strs
import Derived.Shelf.Small.Wraps
import Derived.Shelf.Strings.BuilderF
import Derived.Shelf.Strconv.Atoi
import Derived.Shelf.Strconv.Itoa0
import Derived.Shelf.Strconv.Itoa1
import Derived.Shelf.LaysM
import Derived.Shelf.Strconv.Itoa2
import Derived.Shelf.Strconv.Itoa3
import Derived.Shelf.Strconv.AtoiErrFast
import Derived.Shelf.Strconv.ParseIntEmpty
import Derived.Shelf.Strconv.AtoiFail
import Derived.Shelf.Strconv.Clone
import Derived.Shelf.Strconv.SyntaxError
import Derived.Shelf.LaysC
import Derived.Shelf.Strconv.ToError
import Derived.Shelf.Strconv.Lower
import Derived.Shelf.Strconv.ParseUint10
import Derived.Shelf.Strconv.ParseUint10Empty
import Derived.Shelf.Strconv.ParseUint10Any
import Derived.Shelf.Strconv.ParseInt10
import Derived.Shelf.Strconv.AtoiLong
import Derived.Shelf.Strconv.AtoiInnerAll
import Derived.Shelf.Strconv.RangeError
import Derived.Shelf.Strconv.ToErrorRange
import Derived.Shelf.Strconv.AtoiAll
import Derived.Shelf.Strings.Search1
import Derived.Shelf.Strings.Search2
import Derived.Shelf.Strings.Search3
import Derived.Shelf.Strings.Cut
import Derived.Shelf.Strings.Count
import Derived.Shelf.Strings.Shaped
import Derived.Shelf.Strings.Prefix
import Derived.Shelf.Strings.Split
import Derived.Shelf.Strings.Runes
import Derived.Shelf.Strings.AsciiSet
import Derived.Shelf.Bits.Mul64
import Derived.Shelf.Strings.Repeat
import Derived.Shelf.Unicode.DecodeSlow
import Derived.Shelf.Slices.Turned
import Derived.Test.YtfdgnogcckoalaaGreatDoorProg
import Derived.Lib.ItoaNum
import Derived.Lib.Strings
import Derived.Lib.Repeat
import Derived.Lib.Bytealg
import Derived.Test.YtfdgnogcckoalaaGreatDoorKThA
import Derived.Lib.Walk
import Derived.Lib.ItoaMem
import Derived.WalkKit
import Derived.BigCall
import Derived.BigGuard
import Derived.Lib.AppendIntMem
/- Parts of a proof. -/
set_option maxRecDepth 100000
set_option maxHeartbeats 4000000
set_option linter.unusedSimpArgs false
set_option linter.unusedVariables false
set_option linter.unusedSectionVars false
open Go.Proofs.Tryz
open Array renaming size_replicate->b0, getElem?_append_left->b1
open Bool renaming and_eq_true->b2, or_eq_true->b3, not_eq_true'->b4, and_false->b5, and_true->cb, and_eq_false_iff->cc, false_and->ce, true_and->cr
open Classical renaming choose_spec->cv, choose->cx, em->cy
open Go renaming World->c6, Calls->c7, Program->c8, FuncId->da, Value->db, OpenSpec->dg, run_callFunc_extern->dl, TypeId->dp, Checked->dq, ReturnsInHanded->dz
open Go.IntKind renaming u64->ea, i64->eb, wrap_i64->ec
open Go.Lib renaming bitLen->ed, decDigits->ee, nDigits->ei, indexByte->ej, zeros24->en, trimPrefix->eq, hasPrefix->ew, pow10Tab->e6, TabIs->e7, repeatL->e8, decDigits_length->e9, itoa->fb, atoiAll->fd
open Go.Proofs.Lays renaming n99->fl, n285->fm, n283->fv, n264->gb, n219->gc, n134->ge, n129->gg, n105->gi, n103->gj, n101->gl
open Go.Shelf renaming Ren->gm
open Go.Sort renaming grow->gp
open Go.Value renaming int->gt
open Int renaming natAbs_mul->gx, natAbs_natCast->gy, ediv_emod_unique->gA, natCast_mul->gN, lt_trichotomy->gP, ediv_nonneg->g0, lt_of_le_of_lt->g5, emod_lt_of_pos->g6, lt_or_le->g7, le_of_lt->g8, ediv_le_self->g9, emod_nonneg->ha, natAbs_sign_of_ne_zero->hb, natAbs_neg->hd, fdiv_eq_ediv_of_nonneg->hg, ediv_lt_of_lt_mul->ho, tmod_lt_of_pos->hp, ofNat_dvd_left->hr, lt_tmod_of_pos->ht, natAbs_add_le->hv, natCast_add->hz, mul_ne_zero->hA, mul_le_mul->hB, ediv_one->hC, mul_sub->hD, mul_neg->hE
open List renaming range->hG, getElem?_eq_getElem->hJ, take_of_length_le->hK, map_cons->hL, exists_cons_of_ne_nil->hM, append_nil->hN, ext_getElem->hO, cons_append->hP, length_nil->hQ, map_congr_left->hS, all_cons->hT, length_eq_zero_iff->hU, length_cons->hV, replicate->hW, mem_cons->hX, take_succ_eq_append_getElem->hZ, mem_map->h3, all_reverse->h4, all_eq_true->h5, head?_cons->h6, dropLast_concat_getLast->h7, mem_range->h8, map_take->h9, map_map->ih, getElem?_range->ii, getElem_range->ik, length_range->ip, getElem?_map->ix, getElem_set->iz, getElem_map->i6, nil_append->i7, length_map->i8, foldl_cons->jp, all_append->js, range_one->j1, map_nil->j2, all_nil->j3
open List.cons renaming injEq->j4
open Nat renaming mul_comm->j5, div_lt_iff_lt_mul->j6, mod_eq_of_lt->j7, lt_of_lt_of_le->j8, pow_succ->j9, pow_le_pow_right->kb, div_div_eq_div_mul->kc, pow_pos->kd, lt_of_le_of_lt->kg, mul_le_mul_right->kh, mod_lt->kk, mul_le_mul_left->km, div_add_mod->ko, mul_assoc->kp, add_mul->kv, div_eq_of_lt->kw, pow_add->kA, le_refl->kC, pow_zero->kN, eq_zero_or_pos->kP, add_sub_cancel->kW, mod_add_div->la, mul_lt_mul''->lb, lt_or_ge->lc, add_mul_mod_self_right->li, le_div_iff_mul_le->lk, add_mul_div_left->ll, add_comm->lm, div_mul_le_self->lq, mul_lt_mul_of_pos_right->ls, one_mul->lt, mul_add->lu, add_mul_div_right->lv, mul_right_comm->lw, div_le_self->lz, div_one->l0, zero_add->l1, pow_one->l2, le_trans->l3, mod_mul_right_mod->l4, mul_mod_mul_left->l5, mod_one->md, add_zero->mi, mod_mul_right_div_self->mj, add_mul_mod_self_left->mm, add_sub_cancel_left->mo, zero_mul->mp, lt_trans->ms, gcd->mx, div_lt_self->m0, mul_div_mul_right->m1, eq_of_beq_eq_true->m2, zero_le->m3, mul_pos->m4, mul_one->m5, mul_le_mul->m6, div_le_div_right->m7, beq->m8, lt_div_mul_add->m9, mul_left_comm->na, and_two_pow_sub_one_eq_mod->nb, pow_mul->nc, mod_mul->nk, div_pos->nl, add_mod->nm, strongRecOn->nn, min_eq_left->np, pow_lt_pow_iff_right->ns, add_assoc->nz, le_mul_of_pos_right->n0, zero_mod->n1, sub_zero->n2, le_of_eq->n3, le_mul_of_pos_left->n4, gcd_comm->n5, mul_mod_mul_right->oa, not_lt->ob, lt_of_succ_lt->oe, gcd_one_right->oi, add_mod_right->oj, lt_succ_self->ol, gcd_dvd_left->oo, mul_ne_zero->op, mul_add_div->oq, lt_succ_iff->ov, le_of_lt->ox, pow_two->oy, or_comm->oz, mod_le->oS
open Rat renaming divInt->oW, normalize_eq_mkRat->o0, num_eq_zero->o1, sub_eq_add_neg->o2, add_def'->o3, neg_num->o4, neg_den->o5, mul_def->pa, inv_def->pb, div_def->pc, not_lt->pd, lt_iff->pi
open UInt8 renaming toNat_inj->pj, ofNat->pm, toNat_ofNat'->pp
namespace Go.an
open Go.Proofs
section
variable{H:Type}{enc:dp×db->H}
theorem aQe{p:Pinned}{C:dq}{P:c8}(b:p.checked=C)(d:C.prog=P){s:dg}{c:OpenClaim}(f:da)(fn:Func)
 (l:c.program=p.name)(hs:c.sum=p.sum)(q:c.spec=s.name)
 (r:c.start=.entering)(o:c.outside=[])(al:c.inits=[])(u:c.under=none)(i:c.initsInPlace=[]/\c.initsUnfollowed=false/\c.initsRecurse=false/\c.initsNamed=[]/\c.initsPassed=[])(n:c.noBlocks=false)(k:c.leaving=false)(g:c.followed=none)(m:c.narrowed=s.cond.isSome)(t:c.still=false)
 (e:P.funcNamed c.func=some f)(hf:P.funcs[f]?=some fn)
 (closed:joinedFacts P f fn s.bare c=true)
 (j:fn.isInstance P c.origin c.targs)(v:fn.isWrapper P c.wrapper c.mainSum)
 (h:∀os:Os,os.Started->∀(H:Type)(a:dp×db->H)(F:Stop.Interp),
  dz c.assume C os f .any (s.preRow a P fn c.domain c.apart c.laid) ((s.at F).post a P fn c.apart c.fresh c.handsOn c.again)):c.holds p s:=by
 subst b;subst d;exact OpenClaim.holds_of_cond f fn l hs q r o al u i n k g m t e hf closed j v (fun os st H a _ F=>by rw[OpenClaim.pre_eq_preRow];exact h os st H a F)
theorem atb{a:Assume}{C:dq}{P:c8}(q:C.prog=P){os:Os}{f:da}{fn:Func}{s:dg}{F:Stop.Interp}{h:List PathCond}{apart fresh handsOn again:Bool}{laid:List (String×DataW Unit)}
 (x:ownKnob P.godebug=none)(y:os.Started)(u:P.inits.idxOf? f=none)(r:P.funcs[f]?=some fn)
 (z:∃(w:c6)(tape:Tape)(i:Input),w.os=os/\(w.forCall tape i).Shaped P/\i.vars=[]/\Input.okWide P (w.forCall tape i) .any w.heap.size f i/\
  s.preRow enc P fn h apart laid (w.forCall tape i).memory i.args/\a.holds P (lone (Frame.enter P f i.args .normal) [] (w.forCall tape i)))
 (EJ:∀(W:c6)(d:Nat)(args:Array db)(b c:List (DataW H))(g:List MemPlace),
  (∀(j:Nat) t v,fn.params[j]?=some t->args[j]?=some v->Value.okWide P W .any d t v)->
  DataW.Whole enc P fn.params.toList s.vars apart W args.toList b c g->
  (∀k,s.cond=some k->k H (b++c)=true)->
  laidMetH P laid W->
  c7 P f args W fun e l=>∃v,e=.returned v/\(s.at F).post enc P fn apart fresh handsOn again W args v l):
 dz a C os f .any (s.preRow enc P fn h apart laid) ((s.at F).post enc P fn apart fresh handsOn again):=by
 subst q;exact returnsInHanded_of_row x y u r z (fun W d args b c g m n _ o _ p _ _=>EJ W d args b c g m n o p)
theorem Zs{C:dq}{P:c8}(c:C.prog=P){os:Os}{f:da}{fn:Func}{s:dg}{b:List PathCond}{apart:Bool}{laid:List (String×DataW Unit)}(a:c6)(args:Array db)(e:a.os=os)
 (j:(a.forCall (fun _ _=>0) ⟨#[],args,[]⟩).variablesRefB P=true)
 (g:((a.forCall (fun _ _=>0) ⟨#[],args,[]⟩).heap.toList.drop P.globals.size).take ((begin P (fun _ _=>0) default).world.heap.size-P.globals.size)=
  (begin P (fun _ _=>0) default).world.heap.toList.drop P.globals.size)
 (d:Input.okWideB P (a.forCall (fun _ _=>0) ⟨#[],args,[]⟩) f ⟨#[],args,[]⟩=true)
 (h:s.preRow enc P fn b apart laid (a.forCall (fun _ _=>0) ⟨#[],args,[]⟩).memory args):
 ∃(w:c6)(tape:Tape)(i:Input),w.os=os/\(w.forCall tape i).Shaped P/\i.vars=[]/\Input.okWide P (w.forCall tape i) .any w.heap.size f i/\
  s.preRow enc P fn b apart laid (w.forCall tape i).memory i.args/\({modest:=false}:Assume).holds P (lone (Frame.enter P f i.args .normal) [] (w.forCall tape i)):=by
 subst c;exact witness_row_atRef (C:=C) false a args e j g d h
theorem aCr{p:Pinned}{C:dq}{P:c8}(m:p.checked=C)(n:C.prog=P)(d:Looks){s:dg}{c:OpenClaim}(kinds:List LaidKind)(e:Bool)(a:Bool×String)(b:Bool){g:da}{i:Func}
 (hc:c.holds p s)(A:c.wfByText s=true)(z:c.laidByTextAt d p kinds e)
 (aN:c.start=.entering)(w:c.noBlocks=false/\c.again=false)(u:P.mainIs=some (a.1,a.2.toList))(v:(!a.1&&a.2.isEmpty&&!b)=false)
 (o:P.funcNamed c.func=some g)(hf:P.funcs[g]?=some i)(r:b=P.looks [])(x:∀t∈i.params.toList,P.wantsStandIn t=false)
 (q:false=c.goesBy P):
 Claim7.holds p (.plain s) {stood:={row:=c,standIns:=[],harness:=a,looks:=b},kinds:=[],alts:=[],laidByText:=true,laidKinds:=kinds,laidTests:=e,laidLooks:=d}:=by
 subst m;subst n;refine Claim7.holds_tied_plain_at d [] kinds e a b hc (fun _ h=>by cases h) A (fun _ h=>by cases h) z aN w u v (fun f fn k l=>?_) q;rw[o]at k;cases k;rw[hf]at l;cases l;exact⟨r,fun j t y=>x t (by simpa using Array.mem_of_getElem? y)⟩
end
theorem LQ:Go.Proofs.YtfdgnogcckoalaaGreatDoor.Tryz.pinned.checked=checked:=rfl
theorem zU:checked.prog=prog:=rfl
theorem aPw:true=prog.looks []:=k_
theorem aPD:ownKnob prog.godebug=none:=k_
theorem mix:prog.follows .mixedOrders=true:=k_
abbrev nf:da->Bool:=fun _=>false
def wB:Nat:=18446744073709551616
theorem sS(x y c:Nat)(hc:c<=1):az prog 289 [.int .u64 x,.int .u64 y,.int .u64 c] (.aD [.int .u64 ((x+y+c)% wB:Nat),.int .u64 ((x+y+c)/wB:Nat)]):=by
 refine .inr fun w ad a h=>?_;simp only[bu,aC]at h;obtain⟨_,_,rfl,rfl,_,_,rfl,rfl,_,_,rfl,rfl,rfl⟩:=h;refine⟨.tuple #[.int .u64 ((x+y+c)% wB:Nat),.int .u64 ((x+y+c)/wB:Nat)],?_,?_⟩
 ·show(callFunc 289 #[.int .u64 x,.int .u64 y,.int .u64 c]).run prog w=_;rw[dl func289 k_ k_ k_ (e:=add64Entry) k_,run_add64 x y c o_ o_ o_ o_];simp only[Result.andThen,wB];congr 5<;>omega
 ·simp only[aC,bu];exact⟨[.int .u64 ((x+y+c)% wB:Nat),.int .u64 ((x+y+c)/wB:Nat)],⟨_,_,rfl,rfl,_,_,rfl,rfl,rfl⟩,rfl⟩
theorem aB7(x y c:Nat)(hc:c<=1):az prog 291 [.int .u64 x,.int .u64 y,.int .u64 c] (.aD [.int .u64 ((x+wB-y-c)% wB:Nat),.int .u64 ((if x<y+c then 1 else 0:Nat):Int)]):=by
 refine .inr fun w ad a h=>?_;simp only[bu,aC]at h;obtain⟨_,_,rfl,rfl,_,_,rfl,rfl,_,_,rfl,rfl,rfl⟩:=h;refine⟨.tuple #[.int .u64 ((x+wB-y-c)% wB:Nat),.int .u64 ((if x<y+c then 1 else 0:Nat):Int)],?_,?_⟩
 ·show(callFunc 291 #[.int .u64 x,.int .u64 y,.int .u64 c]).run prog w=_;rw[dl func291 k_ k_ k_ (e:=sub64Entry) k_,run_sub64 x y c hc];rfl
 ·simp only[aC,bu];exact⟨[.int .u64 ((x+wB-y-c)% wB:Nat),.int .u64 ((if x<y+c then 1 else 0:Nat):Int)],⟨_,_,rfl,rfl,_,_,rfl,rfl,rfl⟩,rfl⟩
def oh(B:Nat):Nat->Nat->List Nat
 |0,_=>[]
 |f+1,n=>if n=0 then[]else n% B::oh B f (n/B)
def aw(B n:Nat):List Nat:=oh B (n+1) n
def jx(B:Nat):List Nat->Nat
 |[]=>0
 |d::l=>d+B*jx B l
def ae(B n i:Nat):Nat:=n/B^i% B
section
variable{B:Nat}
theorem Mj(a:2<=B):∀(f g n:Nat),n<f->n<g->oh B f n=oh B g n
 |0,_,_,h,_=>by omega
 |_,0,_,_,h=>by omega
 |f+1,g+1,n,b,c=>by
  simp only[oh]
  split
  ·rfl
  ·rename_i d;have:n/B<n:=m0 o_ o_;rw[Mj a f g (n/B) o_ o_]
theorem nL:aw B 0=[]:=by simp[aw,oh]
theorem u5(a:2<=B){n:Nat}(h:n≠0):aw B n=n% B::aw B (n/B):=by
 have:n/B<n:=m0 o_ o_;rw[aw,oh,if_neg h,aw,Mj a n (n/B+1) (n/B) this o_]
theorem Oi(a:2<=B)(n:Nat):jx B (aw B n)=n:=by
 induction n using nn with
 |ind n b=>
  by_cases h:n=0
  ·subst h;simp[nL,jx]
  ·rw[u5 a h,jx,b _ (m0 o_ o_)];exact la n B
theorem aD4(a:2<=B):∀(i n:Nat),(aw B n)[i]?.getD 0=ae B n i
 |i,n=>by
  induction i generalizing n with
  |zero=>
   by_cases h:n=0
   ·subst h;simp[nL,ae]
   ·rw[u5 a h];simp[ae]
  |succ i b=>
   by_cases h:n=0
   ·subst h;simp[nL,ae]
   ·rw[u5 a h,List.getElem?_cons_succ,b];simp only[ae,kc,j9];rw[j5 B]
theorem eU(a:2<=B){n i:Nat}(h:i<(aw B n).length):(aw B n)[i]=ae B n i:=by
 have:=aD4 a i n;rw[hJ h]at this;exact this
theorem cK(b:2<=B)(n:Nat):n<B^(aw B n).length:=by
 induction n using nn with
 |ind n c=>
  by_cases h:n=0
  ·subst h;simp[nL]
  ·rw[u5 b h,hV,j9];have:=c _ (m0 (n:=n) (k:=B) o_ o_);have d:=la n B;have e:=kk n (show 0<B by omega);have a:(n/B+1)*B<=B^(aw B (n/B)).length*B:=kh B this;rw[kv,j5 (n/B) B]at a;omega
theorem et(b:2<=B):∀(k n:Nat),n<B^k->(aw B n).length<=k
 |0,n,h=>by
  have:n=0:=by simpa using h
  subst this;simp[nL]
 |k+1,n,h=>by
  by_cases a:n=0
  ·subst a;simp[nL]
  ·rw[u5 b a,hV];have:=et b k (n/B) (by
    rw[j6 o_,<-j9];exact h)
   omega
theorem MT(a:2<=B){k n:Nat}(h:B^k<=n):k<(aw B n).length:=by
 have:=cK a n;exact(ns (by omega:1<B)).1 (kg h this)
def eM:List Nat->List Nat
 |[]=>[]
 |d::l=>match eM l with
  |[]=>if d=0 then[]else[d]
  |t=>d::t
theorem Fi(a:2<=B):∀{l:List Nat},(∀d∈l,d<B)->aw B (jx B l)=eM l
 |[],_=>by simp[jx,nL,eM]
 |d::l,h=>by
  have c:=Fi a (l:=l) fun x hx=>h x (List.mem_cons_of_mem _ hx);have f:=h d List.mem_cons_self;simp only[eM,jx]
  by_cases b:d+B*jx B l=0
  ·have k:d=0:=by omega
   have m:jx B l=0:=by
    rcases Nat.mul_eq_zero.1 (show B*jx B l=0 by omega)with e|e
    ·omega
    ·exact e
   rw[b,nL,<-c,m,nL];simp[k]
  ·rw[u5 a b];have e1:(d+B*jx B l)% B=d:=by rw[mm,j7 f]
   have e2:(d+B*jx B l)/B=jx B l:=by
    rw[ll _ _ o_,kw f,l1]
   rw[e1,e2,c]
   split
   ·rename_i g;have i:=c;rw[g,j a]at i;rw[if_neg (by rw[i]at b;simpa using b),g]
   ·rfl
where j (a:2<=B) {n:Nat}:(aw B n=[])=(n=0):=by
        apply propext;constructor
        ·intro h;rw[<-Oi a n,h];rfl
        ·rintro rfl;exact nL
def row(B m n:Nat):List Nat:=(hG m).map (ae B n)
theorem P5{m n:Nat}:(row B m n).length=m:=by simp[row]
theorem avb(m n:Nat):row B (m+1) n=n% B::row B m (n/B):=by
 rw[row,List.range_succ_eq_map,hL,ih];congr 1
 ·simp[ae]
 ·rw[row];apply hS;intro i _;simp only[Function.comp,ae,kc,j9];rw[j5]
theorem P3(a:2<=B):∀(m n:Nat),jx B (row B m n)=n% B^m
 |0,n=>by simp[row,jx,md]
 |m+1,n=>by
  rw[avb,jx,P3 a m,j9,j5 (B^m),nk]
theorem kf(a:2<=B){m n:Nat}(h:n<B^m):eM (row B m n)=aw B n:=by
 rw[<-Fi a (l:=row B m n),P3 a,j7 h];intro d b;simp only[row,h3]at b;obtain⟨i,_,rfl⟩:=b;exact kk _ o_
theorem aD7(b:2<=B)(n:Nat):aw B n=row B (aw B n).length n:=by
 apply hO (by simp[row]);intro i a c;rw[eU b a];simp[row]
end
section
variable{B:Nat}
theorem mod_pow_succ(n i:Nat):n% B^(i+1)=n% B^i+B^i*ae B n i:=by
 rw[j9,nk,ae]
def dD(B a b i:Nat):Nat:=(a% B^i+b% B^i)/B^i
theorem Ad(a b:Nat):dD B a b 0=0:=by simp[dD,md]
theorem mM(f:2<=B)(a b i:Nat):dD B a b i<=1:=by
 have c:0<B^i:=kd o_;have d:=kk a c;have e:=kk b c;rw[dD];have:(a% B^i+b% B^i)/B^i<2:=by rw[j6 c];omega
 omega
theorem sr(e:2<=B)(a b i:Nat):(ae B a i+ae B b i+dD B a b i)% B=ae B (a+b) i/\(ae B a i+ae B b i+dD B a b i)/B=dD B a b (i+1):=by
 have c:0<B^i:=kd o_;constructor
 ·have d:(a+b)/B^i=dD B a b i+(a/B^i+b/B^i):=by
   rw[dD]
   conv=>lhs;rw[<-la a (B^i),<-la b (B^i)]
   rw[show a% B^i+B^i*(a/B^i)+(b% B^i+B^i*(b/B^i))=(a% B^i+b% B^i)+B^i*(a/B^i+b/B^i)by rw[lu];omega];rw[ll _ _ c]
  rw[ae,ae,ae,d,nm,<-nm (a/B^i),<-nm,lm]
 ·conv=>rhs;rw[dD,mod_pow_succ,mod_pow_succ,j9,<-kc]
  rw[show a% B^i+B^i*ae B a i+(b% B^i+B^i*ae B b i)=(a% B^i+b% B^i)+B^i*(ae B a i+ae B b i)by rw[lu];omega];rw[ll _ _ c,dD,lm ((a% B^i+b% B^i)/B^i)]
theorem ka{n i:Nat}(h:n<B^i):ae B n i=0:=by
 rw[ae,kw h,n1]
theorem cN(a:2<=B)(n i:Nat):ae B n i<B:=kk _ o_
def fA(B a b i:Nat):Nat:=if a% B^i<b% B^i then 1 else 0
theorem DT(a b:Nat):fA B a b 0=0:=by simp[fA,md]
theorem Oq(d:2<=B){a b:Nat}(k:b<=a)(i:Nat):
 (ae B a i<ae B b i+fA B a b i/\fA B a b (i+1)=1/\ae B a i+B=ae B (a-b) i+(ae B b i+fA B a b i))\/
 (ae B b i+fA B a b i<=ae B a i/\fA B a b (i+1)=0/\ae B a i=ae B (a-b) i+(ae B b i+fA B a b i)):=by
 have g:0<B^i:=kd o_;obtain⟨c,rfl⟩:=Nat.le.dest k;have j:=sr d b c i;rw[show b+c-b=c by omega];have hc:∀i,fA B (b+c) b i=dD B b c i:=by
  intro i;have g:0<B^i:=kd o_;have l:=kk b g;have m:=kk c g;rw[fA,dD,nm]
  by_cases h:b% B^i+c% B^i<B^i
  ·rw[j7 h,kw h,if_neg (ob.2 (Nat.le_add_right _ _))]
  ·have e1:(b% B^i+c% B^i)/B^i=1:=by
    rw[show b% B^i+c% B^i=(b% B^i+c% B^i-B^i)+B^i*1 by omega,ll _ _ g,kw o_]
   have e2:(b% B^i+c% B^i)% B^i=b% B^i+c% B^i-B^i:=by
    rw[Nat.mod_eq_sub_mod o_,j7 o_]
   rw[e1,e2,if_pos o_]
 rw[hc,hc];have n:=cN d b i;have o:=cN d c i;have p:=mM d b c i;have f:=la (ae B b i+ae B c i+dD B b c i) B;rw[j.1,j.2]at f;have q:=mM d b c (i+1);have r:=cN d (b+c) i;rcases(show dD B b c (i+1)=0\/dD B b c (i+1)=1 by omega)with e|e
 ·right;rw[e]at f⊢;simp at f;exact⟨o_,rfl,o_⟩
 ·left;rw[e]at f⊢;simp at f;exact⟨o_,rfl,o_⟩
def ju(B a b i j:Nat):Nat:=(a% B^i)*b+ae B a i*(b% B^j)*B^i
def dE(B a b i j k:Nat):Nat:=if k<i+j then ae B (ju B a b i j) k else ae B ((a% B^i)*b) k
def mulC(B a b i j:Nat):Nat:=ju B a b i j/B^(i+j)-(a% B^i)*b/B^(i+j)
theorem aOX(a b i j:Nat):(a% B^i)*b<=ju B a b i j:=by rw[ju];omega
theorem Nh(a b i:Nat):ju B a b i 0=(a% B^i)*b:=by simp[ju,md]
theorem Eb(a b i:Nat):mulC B a b i 0=0:=by simp[mulC,Nh]
theorem Nj(a b i j:Nat):ju B a b i (j+1)=ju B a b i j+ae B a i*ae B b j*B^(i+j):=by
 rw[ju,ju,mod_pow_succ,lu,kv,kA];have:ae B a i*(B^j*ae B b j)*B^i=ae B a i*ae B b j*(B^i*B^j):=by
  rw[j5 (B^j),<-kp,kp,j5 (B^j)]
 omega
theorem O5(a b i:Nat){n:Nat}(h:b<B^n):ju B a b i n=(a% B^(i+1))*b:=by
 rw[ju,j7 h,mod_pow_succ,kv];congr 1;rw[lw,j5 (ae B a i)]
theorem zT(n k:Nat):n/B^(k+1)=n/B^k/B:=by rw[j9,kc]
theorem ES(g:2<=B)(a b i j:Nat):
 (ae B a i*ae B b j+dE B a b i j (i+j)+mulC B a b i j)% B=ae B (ju B a b i (j+1)) (i+j)/\
 (ae B a i*ae B b j+dE B a b i j (i+j)+mulC B a b i j)/B=mulC B a b i (j+1):=by
 have f:0<B^(i+j):=kd o_;have d:ju B a b i (j+1)/B^(i+j)=ju B a b i j/B^(i+j)+ae B a i*ae B b j:=by
  rw[Nj,lv _ _ f]
 have h:(a% B^i)*b/B^(i+j)<=ju B a b i j/B^(i+j):=m7 (aOX a b i j);have c:dE B a b i j (i+j)=(a% B^i)*b/B^(i+j)% B:=by rw[dE,if_neg o_,ae]
 have e:ae B a i*ae B b j+dE B a b i j (i+j)+mulC B a b i j+B*((a% B^i)*b/B^(i+j)/B)=ju B a b i (j+1)/B^(i+j):=by
  rw[d,c,mulC];have:=la ((a% B^i)*b/B^(i+j)) B;omega
 constructor
 ·conv=>rhs;rw[ae,<-e]
  rw[mm]
 ·conv=>rhs;rw[mulC,show i+(j+1)=i+j+1 from rfl,zT,zT,<-e,ll _ _ o_]
  rw[kW]
theorem Nk(f:2<=B){a b i j k:Nat}(hk:k≠i+j):dE B a b i (j+1) k=dE B a b i j k:=by
 rw[dE,dE]
 by_cases h:k<i+j
 ·rw[if_pos o_,if_pos h,Nj];have e:0<B^k:=kd o_;obtain⟨d,c⟩:∃d,i+j=k+1+d:=⟨i+j-(k+1),by
   have:k+1<=i+j:=h;rw[Nat.add_sub_cancel' this]⟩
  rw[c,kA,j9];generalize ae B a i*ae B b j=x;rw[ae,ae,show x*(B^k*B*B^d)=x*B^d*B*B^k by simp only[kp,j5,na]];rw[lv _ _ e,li]
 ·rw[if_neg o_,if_neg h]
theorem O6(a b i j:Nat):dE B a b i (j+1) (i+j)=ae B (ju B a b i (j+1)) (i+j):=by
 rw[dE,if_pos o_]
theorem xP(d:2<=B)(a:Nat){b n:Nat}(i:Nat)(h:b<B^n):(a% B^i)*b<B^(i+n):=by
 have c:0<B^i:=kd o_;rw[kA];exact lb (kk _ c) h
theorem LY(c:2<=B){a b i n:Nat}(h:b<B^n):mulC B a b i n=ae B ((a% B^(i+1))*b) (i+n):=by
 have h1:=xP c a i h;have d:=xP c a (i+1) h;rw[mulC,O5 a b i h,kw h1,n2];refine(j7 ?_).symm;rw[j6 (kd o_),j5 B,<-j9,show(i+n).succ=i+1+n by omega];exact d
theorem qy(a b i k:Nat):dE B a b i 0 k=ae B ((a% B^i)*b) k:=by
 rw[dE,Nh];split<;>rfl
theorem O7(c:2<=B){a b i n k:Nat}(h:b<B^n)(hk:k≠i+n):dE B a b i n k=ae B ((a% B^(i+1))*b) k:=by
 rw[dE]
 split
 ·rw[O5 a b i h]
 ·rename_i h1;have e1:(a% B^i)*b<B^k:=j8 (xP c a i h) (kb o_ o_);have e2:(a% B^(i+1))*b<B^k:=j8 (xP c a (i+1) h) (kb o_ o_);rw[ka e1,ka e2]
theorem uY(d:2<=B)(a b i:Nat):∀j,mulC B a b i j<B
 |0=>by rw[Eb];omega
 |j+1=>by
  have h:=(ES d a b i j).2;have f:=uY d a b i j;have g:dE B a b i j (i+j)<B:=by rw[dE];split<;>exact cN d _ _
  have e:ae B a i*ae B b j<=(B-1)*(B-1):=m6 (by have:=cN d a i;omega) (by have:=cN d b j;omega);rw[<-h,j6 o_];obtain⟨c,rfl⟩:∃c,B=c+1:=⟨B-1,o_⟩
  simp only[kW]at e;rw[kv,lu];omega
end
section
variable{B:Nat}
theorem MP{V W d:Nat}(a:0<V/d):W/V<=W/d/(V/d):=by
 have e:0<d:=by
  rcases kP d with h|h
  ·subst h;simp at a
  ·exact h
 have f:0<V:=by
  rcases kP V with h|h
  ·subst h;simp at a
  ·exact h
 rw[lk a,lk e];have b:W/V*V<=W:=lq W V;have c:V/d*d<=V:=lq V d
 calc W/V*(V/d)*d=W/V*(V/d*d):=kp _ _ _
  _<=W/V*V:=km _ c
  _<=W:=b
theorem att{V W d q:Nat}(f:0<d)(e:0<V)(h:W/d<q*(V/d)):W/V<q:=by
 rw[j6 e];have b:W<(W/d+1)*d:=by
  have:=m9 (a:=W) f;rw[kv];omega
 have c:V/d*d<=V:=lq V d
 calc W<(W/d+1)*d:=b
  _<=q*(V/d)*d:=kh _ h
  _=q*(V/d*d):=kp _ _ _
  _<=q*V:=km _ c
theorem Zn{V W d q:Nat}(c:0<d)(i:q*d<=V)(b:0<V)(h:q*(V/d)<=W/d):q<=W/V+1:=by
 rcases kP q with hq|hq
 ·subst hq;exact m3 _
 have:q-1<=W/V:=by
  rw[lk b,Nat.sub_mul,lt];have a:V<=V/d*d+d:=ox (m9 c);have e:W/d*d<=W:=lq W d;have f:q*V<=q*(V/d)*d+q*d:=by
   calc q*V<=q*(V/d*d+d):=km _ a
    _=q*(V/d)*d+q*d:=by rw[lu,kp]
  have g:q*(V/d)*d<=W/d*d:=kh _ h;omega
 omega
theorem EF{q b c T a r:Nat}(d:q*b+r=T):q*(b*B+c)<=T*B+a↔q*c<=r*B+a:=by
 subst d;rw[lu,kv,kp];omega
theorem uw(n k:Nat):n/B^k=n/B^(k+1)*B+ae B n k:=by
 rw[zT,ae,j5];exact(ko _ _).symm
theorem sK(n j i:Nat):ae B (n/B^j) i=ae B n (j+i):=by
 rw[ae,ae,kc,kA]
theorem Fk{n m i:Nat}(h:i<m):ae B (n% B^m) i=ae B n i:=by
 obtain⟨d,rfl⟩:∃d,m=i+(d+1):=⟨m-i-1,o_⟩
 rw[ae,ae,kA,mj,j9,j5 (B^d),l4]
theorem z7{n c m i:Nat}(h:i<m):ae B (n+c*B^m) i=ae B n i:=by
 rw[<-Fk (n:=n+c*B^m) h,li,Fk h]
def UD(B W V q n:Nat):Nat:=W+B^(n+1)-q*V
theorem aP0{W V q n:Nat}(h:q*V<=W){i:Nat}(hi:i<n+1):ae B (UD B W V q n) i=ae B (W-q*V) i:=by
 rw[UD,show W+B^(n+1)-q*V=(W-q*V)+1*B^(n+1)by omega,z7 hi]
theorem Nn(b:2<=B){R d j:Nat}(k:Nat):ae B (R% B^j+d*B^j) k=if k<j then ae B R k else ae B d (k-j):=by
 have a:0<B^j:=kd o_
 split
 ·rename_i h;rw[z7 h,Fk h]
 ·rename_i h;obtain⟨e,rfl⟩:∃e,k=j+e:=⟨k-j,o_⟩
  rw[<-sK,lv _ _ a,kw (kk _ a),l1,mo]
theorem Al{R V j:Nat}:R% (V*B^j)=R% B^j+(R/B^j% V)*B^j/\R/(V*B^j)=R/B^j/V:=by
 constructor
 ·rw[j5 V,nk,j5 (B^j)]
 ·rw[j5 V,kc]
end
section
variable{c v1 v0 T u1 q r:Nat}
def hq(c b a T u1:Nat):Nat:=(T*c+u1)/(b*c+a)
theorem Th(a:T<v1*c+v0)(b:u1<c):hq c v1 v0 T u1<c:=by
 rw[hq,j6 o_]
 calc T*c+u1<T*c+c:=by omega
  _=(T+1)*c:=by rw[kv,lt]
  _<=(v1*c+v0)*c:=kh _ a
  _=c*(v1*c+v0):=j5 _ _
theorem Qw(e:0<v1)(g:v0<c)(f:u1<c):hq c v1 v0 T u1<=T/v1:=by
 have hc:0<c:=o_
 have a:(v1*c+v0)/c=v1:=by rw[j5,oq hc,kw g,mi]
 have b:(T*c+u1)/c=T:=by rw[j5,oq hc,kw f,mi]
 have h:=MP (V:=v1*c+v0) (W:=T*c+u1) (d:=c) (by rw[a];exact e)
 rwa [a,b]at h
theorem Fe(a:0<v1)(hc:0<c)(d:q*v1+r=T)(f:hq c v1 v0 T u1<=q)(e:q*v0<=c*r+u1):q=hq c v1 v0 T u1:=by
 have b:0<v1*c+v0:=by have:=m4 a hc;omega
 have h:q*(v1*c+v0)<=T*c+u1:=(EF d).2 (by rw[j5 r];exact e);have:q<=hq c v1 v0 T u1:=by rw[hq,lk b];exact h
 omega
theorem RX(b:0<v1)(hc:0<c)(f:q*v1+r=T)(i:hq c v1 v0 T u1<=q)(a:c<=q/\hq c v1 v0 T u1<c\/c*r+u1<q*v0):hq c v1 v0 T u1<=q-1:=by
 rcases a with⟨a,g⟩|a
 ·omega
 ·have d:0<v1*c+v0:=by have:=m4 b hc;omega
  have h:¬q*(v1*c+v0)<=T*c+u1:=fun e=>by
   have:=(EF f).1 e;rw[j5 r]at this;omega
  have:hq c v1 v0 T u1<q:=by rw[hq,j6 d];omega
  omega
theorem av0(a:T<v1*c+v0)(e:v0<c)(b:q*v1+r=T)(d:c<=r):q<c:=by
 rcases lc q c with h|h
 ·exact h
 ·have:c*v1<=q*v1:=kh _ h;rw[j5 c]at this;omega
theorem Po(b:0<v1)(d:T<v1*c+v0)(g:v0<c)(a:q*v1+r=T)(f:c<=r)(e:hq c v1 v0 T u1<=q):q=hq c v1 v0 T u1:=by
 have j:=av0 d g a f;refine Fe b o_ a e ?_;have h:q*v0<=c*v0:=kh _ o_;have i:c*v0<=c*r:=km _ o_;omega
theorem Tf(a:0<v1)(b:T<v1*c+v0)(d:c<=2*v1)(e:v0<c):T/v1<=c+1:=by
 have:T/v1<c+2:=by
  rw[j6 a,kv,j5 c];omega
 omega
theorem Qv:T*c+u1-hq c v1 v0 T u1*(v1*c+v0)=(T*c+u1)% (v1*c+v0):=by
 rw[hq];generalize T*c+u1=A;generalize v1*c+v0=V;have:=ko A V;rw[j5 (A/V)];omega
theorem aLn{Y U c:Nat}(hY:0<Y):U/Y=U/c/Y*c+((U/c% Y)*c+U% c)/Y/\U% Y=((U/c% Y)*c+U% c)% Y:=by
 have e:U=(U/c% Y*c+U% c)+(U/c/Y*c)*Y:=by
  have a:=ko U c;have b:=ko (U/c) Y;have d:(Y*(U/c/Y)+U/c% Y)*c=U/c*c:=by rw[b]
  rw[kv,j5 Y,lw]at d;rw[j5 c]at a;omega
 constructor
 ·conv=>lhs;rw[e]
  rw[lv _ _ hY,lm]
 ·conv=>lhs;rw[e]
  rw[li]
end
section
variable{B W V n q r:Nat}
theorem aQP(b:2<=B)(c:2<=n)(a:V<B^n):V/B^(n-2)=ae B V (n-1)*B+ae B V (n-2):=by
 obtain⟨k,rfl⟩:∃k,n=k+2:=⟨n-2,o_⟩
 have e1:k+2-2=k:=o_
 have e2:k+2-1=k+1:=o_
 rw[e1,e2,uw];have:V/B^(k+1)=ae B V (k+1):=by
  rw[ae,j7];rw[j6 (kd o_),j5,<-j9];exact a
 rw[this]
theorem aQN(c:2<=B)(d:2<=n)(a:B^(n-1)<=V)(b:V<B^n):V/B^(n-1)=ae B V (n-1)/\0<ae B V (n-1):=by
 obtain⟨k,rfl⟩:∃k,n=k+1:=⟨n-1,o_⟩
 have e2:k+1-1=k:=o_
 rw[e2]at*;have:V/B^k=ae B V k:=by
  rw[ae,j7];rw[j6 (kd o_),j5,<-j9];exact b
 exact⟨this,by rw[<-this];exact nl a (kd o_)⟩
theorem ED(b:2<=B)(c:2<=n)(a:B^(n-1)<=V):0<V:=j8 (kd o_) a
theorem Qz(c:2<=B)(f:2<=n)(d:B^(n-1)<=V)(e:V<B^n):W/V<=W/B^(n-1)/ae B V (n-1):=by
 obtain⟨a,b⟩:=aQN c f d e;rw[<-a];exact MP (by rw[a];exact b)
theorem RY(a:2<=B)(c:2<=n)(b:V<B^n)(d:q*ae B V (n-1)+r=W/B^(n-1)):
 q*(V/B^(n-2))<=W/B^(n-2)↔q*ae B V (n-2)<=r*B+ae B W (n-2):=by
 rw[aQP a c b,uw,show n-2+1=n-1 by omega];exact EF d
theorem GA(b:2<=B)(c:2<=n)(a:B^(n-1)<=V)(d:V<B^n)(g:q*ae B V (n-1)+r=W/B^(n-1))(hq:q<B)(h:q*ae B V (n-2)<=r*B+ae B W (n-2)):q<=W/V+1:=by
 have f:0<B^(n-2):=kd o_;refine Zn f ?_ (ED b c a) ((RY b c d g).2 h);have e:n-1=n-2+1:=o_
 rw[e,j9,j5]at a;exact l3 (kh _ o_) a
theorem RZ(a:2<=B)(b:2<=n)(c:B^(n-1)<=V)(d:V<B^n)(f:q*ae B V (n-1)+r=W/B^(n-1))(g:r*B+ae B W (n-2)<q*ae B V (n-2)):W/V<q:=by
 have e:0<B^(n-2):=kd o_;refine att e (ED a b c) ?_;rcases lc (W/B^(n-2)) (q*(V/B^(n-2)))with h|h
 ·exact h
 ·have:=(RY a b d f).1 h;omega
theorem Qy(a:2<=B)(b:B<=r)(hq:q<B):q*ae B V (n-2)<=r*B+ae B W (n-2):=by
 have e:ae B V (n-2)<B:=cN a _ _;have c:q*ae B V (n-2)<=B*B:=m6 o_ o_;have d:B*B<=r*B:=kh _ b;omega
theorem Ff(e:2<=B)(f:1<=n)(c:V<B^n)(a:W<V*B):W/B^n<=ae B V (n-1)/\W/V<B:=by
 obtain⟨k,rfl⟩:∃k,n=k+1:=⟨n-1,o_⟩
 have e2:k+1-1=k:=o_
 rw[e2];have hk:0<B^k:=kd o_;have b:V/B^k=ae B V k:=by
  rw[ae,j7];rw[j6 hk,j5,<-j9];exact c
 refine⟨?_,?_⟩
 ·rw[<-b,j9,j5,<-kc];refine m7 ?_;have:W/B<V:=by rw[j6 o_];exact a
  omega
 ·have d:0<V:=by
   rcases kP V with h|h
   ·subst h;simp at a
   ·exact h
  rw[j6 d,j5];exact a
def jk(B V q i:Nat):Nat:=q*(V% B^i)/B^i
theorem ase:jk B V q 0=0:=by simp[jk,md]
theorem avd(b:2<=B)(i:Nat):(q*ae B V i+jk B V q i)% B=ae B (q*V) i/\(q*ae B V i+jk B V q i)/B=jk B V q (i+1):=by
 have a:0<B^i:=kd o_;have e:q*(V% B^(i+1))/B^i=q*ae B V i+jk B V q i:=by
  rw[mod_pow_succ,lu,na,ll _ _ a,jk,lm]
 rw[<-e];constructor
 ·have e2:q*V=q*(V% B^(i+1))+q*(V/B^(i+1))*B^(i+1):=by
   have:=la V (B^(i+1))
   conv=>lhs;rw[<-this]
   rw[lu,j5 (B^(i+1)),kp]
  conv=>rhs;rw[e2,z7 o_]
  rfl
 ·rw[jk,zT]
theorem aQb(b:2<=B)(hq:q<B)(i:Nat):jk B V q i<B:=by
 have a:0<B^i:=kd o_;rw[jk,j6 a];exact lb hq (kk _ a)
theorem avf(c:2<=B)(hq:q<B)(a:V<B^n):jk B V q n=ae B (q*V) n:=by
 have b:0<B^n:=kd o_;rw[jk,j7 a,ae];refine(j7 ?_).symm;rw[j6 b];exact lb hq a
theorem Y6(hq:q<B)(a:V<B^n):q*V<B^(n+1):=by
 rw[j9,j5 (B^n)];exact lb hq a
theorem xL{m i:Nat}(hi:i<m):ae B (W+B^m) i=ae B W i:=by
 have:=z7 (B:=B) (n:=W) (c:=1) hi
 rwa [lt]at this
theorem YJ(b:W<B^(n+1))(a:q*V<B^(n+1)):fA B (W+B^(n+1)) (q*V) (n+1)=if W<q*V then 1 else 0:=by
 rw[fA,oj,j7 b,j7 a]
theorem aP1(h:q*V<=W)(b:q<=W/V+1)(a:0<V)(c:W/V<=q):q=W/V/\W-q*V=W% V:=by
 have e:q=W/V:=by
  have:=(lk a).2 h;omega
 refine⟨e,?_⟩;have:=ko W V;rw[e,j5];omega
theorem avj(h:W<q*V)(b:q<=W/V+1)(a:0<V)(c:W/V<=q):q=W/V+1/\∀M,q*V<=W+M->W+M-q*V+V=W% V+M:=by
 have e:q=W/V+1:=by
  have:¬q<=W/V:=fun e=>by
   have:=(lk a).1 e;omega
  omega
 refine⟨e,fun M d=>?_⟩;have:=ko W V;have e2:q*V=V*(W/V)+V:=by rw[e,kv,lt,j5]
 omega
end
section
variable{S T:Nat}
theorem LI{x0 x1:Nat}(h:x0<S)(c:0<T):(x0+S*x1)% (S*T)=x0+S*(x1% T):=by
 have d:0<S:=o_
 have e:x1=x1% T+T*(x1/T):=(la x1 T).symm
 conv=>lhs;rw[e,lu,<-kp,<-nz,mm]
 refine j7 ?_;have a:x1% T+1<=T:=kk _ c;have b:S*(x1% T+1)<=S*T:=km _ a;rw[lu,m5]at b;omega
theorem au6(w:Nat):ae (S*T) (w*S) 0=(ae (S*T) w 0*S)% (S*T):=by
 simp only[ae,kN,l0];rw[Nat.mod_mul_mod]
theorem au7(b:0<S)(a:0<T)(w i:Nat):ae (S*T) (w*S) (i+1)=(ae (S*T) w (i+1)*S)% (S*T)+ae (S*T) w i/T:=by
 have d:0<S*T:=m4 b a;have e0:w*S/(S*T)^(i+1)=w/(S*T)^i/T:=by
  rw[j9,j5 S T,<-kp,m1 _ _ b,kc]
 have e1:w/(S*T)^(i+1)=w/(S*T)^i/(S*T):=by rw[j9,kc]
 simp only[ae];rw[e0,e1];generalize w/(S*T)^i=x;have e2:x/T=x% (S*T)/T+S*(x/(S*T)):=by
  conv=>lhs;rw[<-la x (S*T)]
  rw[show S*T*(x/(S*T))=T*(S*(x/(S*T)))by rw[j5 S T,kp],ll _ _ a]
 have c:x% (S*T)/T<S:=by rw[j6 a];exact kk _ d
 rw[e2,LI c a];have e3:x/(S*T)% (S*T)*S% (S*T)=S*(x/(S*T)% T):=by
  rw[j5 _ S,l5,j5 S T,l4]
 rw[e3,lm]
theorem aQl(a:0<S)(e:0<T)(R i:Nat):ae (S*T) (R/S) i=ae (S*T) R i/S+(ae (S*T) R (i+1)*T)% (S*T):=by
 have d:0<S*T:=m4 a e;have e0:R/S/(S*T)^i=R/(S*T)^i/S:=by rw[kc,j5,kc]
 have e1:R/(S*T)^(i+1)=R/(S*T)^i/(S*T):=by rw[j9,kc]
 simp only[ae];rw[e0,e1];generalize R/(S*T)^i=x;have e2:x/S=x% (S*T)/S+T*(x/(S*T)):=by
  conv=>lhs;rw[<-la x (S*T)]
  rw[kp,ll _ _ a]
 have c:x% (S*T)/S<T:=by rw[j6 a,j5 T];exact kk _ d
 have b:=LI (S:=T) (T:=S) (x0:=x% (S*T)/S) (x1:=x/(S*T)) c a;rw[j5 T S]at b;rw[e2,b];have e3:x/(S*T)% (S*T)*T% (S*T)=T*(x/(S*T)% S):=by
  rw[j5 _ T,j5 S T,l5,j5 T S,l4]
 rw[e3]
end
theorem FM{a b s:Nat}(c:b<2^s):a*2^s|||b=a*2^s+b:=by
 have:=Nat.shiftLeft_add_eq_or_of_lt c a;rw[Nat.shiftLeft_eq]at this;exact this.symm
def eW(l:List Nat):List PV:=l.map fun x:Nat=>.int .u64 x
theorem UL(w:List Nat):fh prog 1 (w.map (AV.p∘fun x:Nat=>PV.int .u64 x)):=by
 rw[xw];intro v a;obtain⟨x,_,rfl⟩:=h3.1 a;simp[aa,aP,bO]
theorem DU:∀l:List Nat,eM (l++[0])=eM l
 |[]=>by simp[eM]
 |d::l=>by rw[hP,eM,DU l,eM]
theorem xq:∀(l:List Nat)(d:Nat),d≠0->eM (l++[d])=l++[d]
 |[],d,h=>by simp[eM,h]
 |x::l,d,h=>by
  rw[hP,eM,xq l d h]
  split
  ·rename_i e;simp at e
  ·rfl
theorem u7(w:List Nat)(h:w.length<=1048576):az prog 290 [.seq (eW w)] (.seq (eW (eM w))):=by
 refine aJ nf (i_ func290) mix (by simp[f290]) ?_;simp only[eW];simp[f290];refine lp (α:=Nat) (fun i=>⟨[(3,.p (.int .i64 i)),(0,.p (.seq (w.map fun x:Nat=>.int .u64 x)))],[]⟩) (fun i=>i<=w.length/\eM w=eM (w.take i)) (fun i=>i) w.length s_ ?_;rintro i ⟨k1,k2⟩
 by_cases hi:0<i
 ·obtain⟨j,rfl⟩:∃j,i=j+1:=⟨i-1,o_⟩
  have d:eb.wrap (j:Int)=j:=aK _ o_ o_;have a:j<w.length:=o_
  have c:(0:Int)<(j:Int)+1:=o_
  have k3:=k2;rw[hZ a]at k2
  by_cases b:w[j]=0
  ·rw[b,DU]at k2;have e:((w[j]:Nat):Int)=0:=by omega
   simp[c,d,a,b];exact rd j ⟨o_,k2⟩
  ·rw[xq _ _ b,<-hZ a]at k2;simp[c,d,a,b];refine⟨⟨o_,o_,UL w⟩,?_⟩;rw[k2,h9];exact bI.refl _
 ·obtain rfl:i=0:=by omega
  simp[eM]at k2;simp[k2];exact UL w
def eN(n:Nat):PV:=.seq ((aw wB n).map fun x:Nat=>.int .u64 x)
theorem bt:2<=wB:=by decide
def gf(a b:Nat):Int:=if a<b then -1 else if b<a then 1 else 0
theorem Mn{a b:Nat}(h:(aw wB a).length<(aw wB b).length):a<b:=by
 have d:=cK bt a;rcases lc a b with c|c
 ·exact c
 ·have:=et bt (aw wB a).length b (kg c d);omega
theorem N7{a b i:Nat}(h:a/wB^(i+1)=b/wB^(i+1))(e:ae wB a i<ae wB b i):a<b:=by
 rw[j9,<-kc,<-kc]at h;have e1:=ko (a/wB^i) wB;have e2:=ko (b/wB^i) wB;rw[ae,ae]at e;rw[h]at e1;rcases lc a b with d|d
 ·exact d
 ·have:=m7 (c:=wB^i) d;omega
theorem awk{a b i:Nat}(h:a/wB^(i+1)=b/wB^(i+1))(c:ae wB a i=ae wB b i):a/wB^i=b/wB^i:=by
 rw[j9,<-kc,<-kc]at h;have e1:=ko (a/wB^i) wB;have e2:=ko (b/wB^i) wB;rw[ae,ae]at c;rw[h]at e1;omega
theorem Lu(a b:Nat)(w:(aw wB a).length<=1048576)(z:(aw wB b).length<=1048576):az prog 243 [eN a,eN b] (.int .i64 (gf a b)):=by
 refine aJ nf (i_ func243) mix (by simp[f243]) ?_
 by_cases hl:(aw wB a).length=(aw wB b).length
 case neg=>
  have m:¬((aw wB a).length:Int)=(aw wB b).length:=o_
  by_cases t:(aw wB a).length<(aw wB b).length
  ·have g:((aw wB a).length:Int)<(aw wB b).length:=by omega
   have:=Mn t;have hc:gf a b= -1:=if_pos this;simp[f243,eN,m,g,hc]
  ·have g:¬((aw wB a).length:Int)<(aw wB b).length:=by omega
   have:=Mn (a:=b) (b:=a) o_;have hc:gf a b=1:=by rw[gf,if_neg o_,if_pos this]
   simp[f243,eN,m,g,hc]
 have q:∀i(h:i<(aw wB a).length),(aw wB a)[i]=ae wB a i:=fun i h=>eU bt h;have r:∀i(h:i<(aw wB b).length),(aw wB b)[i]=ae wB b i:=fun i h=>eU bt h;have o:=cK bt a;have l:=cK bt b;rw[<-hl]at l;have s:a/wB^(aw wB a).length=b/wB^(aw wB a).length:=by rw[kw o,kw l]
 have A:a=b\/a≠b:=o_
 simp only[eN];generalize aw wB a=x at*;generalize aw wB b=y at*;have v:eb.wrap ((y.length:Int)-1)=y.length-1:=aK _ o_ o_;simp[f243,hl,v];refine lp (α:=Nat) (fun i=>⟨[(5,.p (.int .i64 ((i:Int)-1))),(1,.p (.seq (y.map fun x:Nat=>.int .u64 x))),(0,.p (.seq (x.map fun x:Nat=>.int .u64 x)))],[]⟩) (fun i=>i<=y.length/\a/wB^i=b/wB^i) (fun i=>i) y.length ⟨kC _,by rw[<-hl];exact s⟩ ?_;rintro i ⟨k1,k2⟩
 by_cases hi:0<i
 ·obtain⟨j,rfl⟩:∃j,i=j+1:=⟨i-1,o_⟩
  have c:j<x.length:=o_
  have d:j<y.length:=o_
  have u:eb.wrap ((j:Int)-1)=j-1:=aK _ o_ o_;have e:=q j c;have f:=r j d
  by_cases hq:ae wB a j=ae wB b j
  ·simp[c,d,e,f,hq,u];exact rd j ⟨o_,awk k2 hq⟩
  ·have n:¬(ae wB a j:Int)=ae wB b j:=by omega
   by_cases k:ae wB a j<ae wB b j
   ·have:=N7 k2 k;have hc:gf a b= -1:=if_pos this;simp[c,d,e,f,n,k,hc]
   ·have:=N7 k2.symm (show ae wB b j<ae wB a j by omega);have hc:gf a b=1:=by rw[gf,if_neg o_,if_pos this]
    simp[c,d,e,f,n,k,hc]
 ·obtain rfl:i=0:=by omega
  rw[kN,l0,l0]at k2;have hc:gf a b=0:=by rw[gf,if_neg o_,if_neg o_]
  simp[hc]
@[simp] theorem NU{α:Type}{f:α->PV}:∀{l:List α},fj (l.map (AV.p∘f))=some (l.map f)
 |[]=>rfl
 |x::l=>by simp only[hL,Function.comp,fj];rw[show(l.map (AV.p∘f))=l.map (fun x=>AV.p (f x))from rfl]at*;have:=@NU α f l;rw[show(l.map (AV.p∘f))=l.map (fun x=>AV.p (f x))from rfl]at this;simp[this]
def uA(x:Nat):AV:=.p (.int .u64 x)
def iB(n i:Nat)(f:Nat->Nat):List AV:=(hG n).map fun j=>uA (if j<i then f j else 0)
theorem Fq(n i:Nat)(f:Nat->Nat):(iB n i f).length=n:=by simp[iB]
theorem O8(n:Nat)(f:Nat->Nat):hW n (AV.p (.int .u64 0))=iB n 0 f:=by
 apply hO (by simp[iB]);intro i a b;simp[iB,uA]
theorem Fp{n i:Nat}(f:Nat->Nat)(h:i<n):(iB n i f).set i (.p (.int .u64 (f i)))=iB n (i+1) f:=by
 apply hO (by simp[iB]);intro j h1 c;simp only[iB,i8,ip]at c;rw[iz];simp only[iB,i6,ik,uA]
 by_cases a:i=j
 ·subst a;rw[if_pos rfl,if_pos o_]
 ·rw[if_neg a]
  by_cases b:j<i
  ·rw[if_pos b,if_pos o_]
  ·rw[if_neg b,if_neg o_]
theorem O9(n:Nat)(f:Nat->Nat):iB n n f=((hG n).map f).map (AV.p∘fun x:Nat=>PV.int .u64 x):=by
 rw[iB,ih];apply hS;intro j a;rw[if_pos (h8.1 a)];rfl
@[simp] theorem aTA{N:Nat×Nat->Prop}{n i:Nat}{f:Nat->Nat}:aV N (iB n i f)=True:=by
 rw[cB,eq_iff_iff,iff_true];intro v a;simp only[iB,h3]at a;obtain⟨x,_,rfl⟩:=a;trivial
theorem xM{n i j:Nat}(f:Nat->Nat)(h:j<n):(iB n i f)[j]?=some (uA (if j<i then f j else 0)):=by
 rw[iB,ix,ii h];rfl
theorem Y1{A C n:Nat}(a:A<wB^n)(b:C<wB^n):dD wB A C n=ae wB (A+C) n:=by
 have c:0<wB^n:=kd (by decide);have:=mM bt A C n;rw[dD,j7 a,j7 b]at*;rw[ae,j7];exact kg this (by decide)
theorem Fj{n i:Nat}(h:(aw wB n).length<=i):ae wB n i=0:=ka (j8 (cK bt n) (kb (by decide) h))
theorem Y5(a b:Nat)(E:(aw wB a).length<=1000000)(F:(aw wB b).length<=1000000):az prog 242 [eN a,eN b] (eN (a+b)):=by
 refine aJ nf (i_ func242) mix (by simp[f242]) ?_;simp[f242,-bB];rw[bB];simp[-bB];refine join (fun s=>∃A C,A+C=a+b/\(aw wB C).length<=(aw wB A).length/\(aw wB A).length<=1000000/\aS s.env 0=.p (eN A)/\aS s.env 1=.p (eN C)/\s.heap=[]) ?_ ?_
 ·by_cases hl:(aw wB a).length<(aw wB b).length
  ·have j:((aw wB a).length:Int)<(aw wB b).length:=by omega
   simp[eN,j];exact⟨b,a,o_,o_,F,rfl,rfl⟩
  ·have j:¬((aw wB a).length:Int)<(aw wB b).length:=by omega
   simp[eN,j];exact⟨a,b,rfl,o_,E,rfl,rfl⟩
 rintro⟨Q,S⟩ ⟨A,C,hs,K,T,f0,f1,B⟩;dsimp only at f0 f1 B;subst B;rw[<-hs];simp only[eN]at f0 f1⊢;have G:∀i(h:i<(aw wB A).length),(aw wB A)[i]=ae wB A i:=fun i h=>eU bt h;have H:∀i(h:i<(aw wB C).length),(aw wB C)[i]=ae wB C i:=fun i h=>eU bt h;have I:=cK bt A;have J:=j8 (cK bt C) (kb (show 0<wB by decide) K);have t:=Y1 I J;have L:=@Fj C;have M:eM ((hG ((aw wB A).length+1)).map (ae wB (A+C)))=aw wB (A+C):=kf bt (by
  have R:2*wB^(aw wB A).length<=wB^((aw wB A).length+1):=by rw[j9,j5];exact km _ bt
  omega)
 have d:=u7 ((hG ((aw wB A).length+1)).map (ae wB (A+C))) (by simp;omega);rw[M]at d;generalize aw wB (A+C)=z at*;generalize aw wB A=x at*;generalize aw wB C=y at*;obtain⟨n,c⟩:∃n,x.length=n:=⟨_,rfl⟩
 obtain⟨m,o⟩:∃m,y.length=m:=⟨_,rfl⟩
 rw[c]at t d;have u:=O9 (n+1) (ae wB (A+C));have k:((hG (n+1)).map (ae wB (A+C))).length=n+1:=s_
 generalize (hG (n+1)).map (ae wB (A+C))=l at d u k;have U:n<=1000000:=o_
 have V:m<=n:=o_
 have N:eb.wrap ((n:Int)+1)=n+1:=bS o_;simp[f0,f1,c,N];refine⟨⟨o_,by simp only[cJ];omega⟩,?_⟩;rw[O8 (n+1) (ae wB (A+C))];refine lp (α:=Nat) (fun i=>⟨[(22,.p (.int .i64 i)),(21,.p (.int .i64 n)),(6,.p (.int .u64 (dD wB A C i:Nat))),(5,.sl 0 0 1 0 (n+1)),(1,.p (.seq (y.map fun x:Nat=>.int .u64 x))),(0,.p (.seq (x.map fun x:Nat=>.int .u64 x)))],[.arr .exact 0 1 (iB (n+1) i (ae wB (A+C)))]⟩)
  (fun i=>i<=n) (fun i=>n-i) 0 s_ ?_ (he:=by simp[f0,f1,Ad])
 intro i k1;have D:=bS (i:=i) o_
 by_cases hi:i<n
 ·have g:i<x.length:=by rw[c];exact hi
  have hx:=G i g;have e:=sS (ae wB A i) (ae wB C i) (dD wB A C i) (mM bt A C i);obtain⟨g1,g2⟩:=sr bt A C i;rw[g1,g2]at e;have aN:=Fp (n:=n+1) (ae wB (A+C)) (show i<n+1 by omega);have al:i<(iB (n+1) i (ae wB (A+C))).length:=by rw[Fq];omega
  have w:(iB (n+1) i (ae wB (A+C))).length=n+1:=Fq _ _ _;have W:iB (n+1) i (ae wB (A+C))≠[]:=by intro h;rw[h]at w;simp at w
  have f:i<n+1:=o_
  by_cases q:i<m
  ·have v:i<y.length:=by rw[o];exact q
   have O:=H i v;have r:(i:Int)<m:=o_
   simp[c,o,hi,q,r,hx,O,g,v];refine c3 e ?_;simp[f,aN,D,xM _ f,aa,aP,bO,uA];exact rd (i+1) (show i+1<=n by omega)
  ·have r:¬(i:Int)<m:=by omega
   have P:=L (i:=i) o_;rw[P]at e;simp[c,o,hi,q,r,hx,g];refine c3 e ?_;simp[f,aN,D,xM _ f,aa,aP,bO,uA];exact rd (i+1) (show i+1<=n by omega)
 have:i=n:=o_
 subst this;simp[c,t,xM _ (ol i),Fp _ (ol i),u,aa,aP,bO,uA];refine cp d (by simp[k];exact⟨rfl,rfl⟩) ?_ (h1:=by simp[eW,hK,k]);simp;exact bI.refl _
end Go.an
namespace Go.an
open Go.Proofs
theorem au0{x y c d:Nat}(h:x+wB=d+(y+c))(a:d<wB):(x+wB-y-c)% wB=d:=by rw[show x+wB-y-c=d by omega];exact j7 a
theorem auZ{x y c d:Nat}(h:x=d+(y+c))(a:d<wB):(x+wB-y-c)% wB=d:=by rw[show x+wB-y-c=d+wB by omega,oj];exact j7 a
theorem RJ{A C:Nat}(h:C<=A)(i:Nat):az prog 291 [.int .u64 (ae wB A i),.int .u64 (ae wB C i),.int .u64 (fA wB A C i)] (.aD [.int .u64 (ae wB (A-C) i),.int .u64 (fA wB A C (i+1))]):=by
 have c:fA wB A C i<=1:=by rw[fA];split<;>omega
 have a:=aB7 (ae wB A i) (ae wB C i) (fA wB A C i) c;have b:=cN bt (A-C) i;have e:=cN bt A i;have f:=cN bt C i;have d:wB=18446744073709551616:=rfl;rcases Oq bt h i with⟨e1,e2,e3⟩|⟨e1,e2,e3⟩
 ·rw[if_pos e1,au0 e3 b]at a;rw[e2];exact a
 ·rw[if_neg o_,auZ e3 b]at a;rw[e2];exact a
theorem Mx(A C:Nat)(k:C<=A)(D:(aw wB A).length<=1000000):az prog 244 [eN A,eN C] (eN (A-C)):=by
 refine aJ nf (i_ func244) mix (by simp[f244]) ?_;have F:(aw wB C).length<=(aw wB A).length:=et bt _ _ (kg k (cK bt A));have s:∀i(h:i<(aw wB A).length),(aw wB A)[i]=ae wB A i:=fun i h=>eU bt h;have t:∀i(h:i<(aw wB C).length),(aw wB C)[i]=ae wB C i:=fun i h=>eU bt h;have u:=@Fj C;have v:eM ((hG (aw wB A).length).map (ae wB (A-C)))=aw wB (A-C):=kf bt (kg (Nat.sub_le A C) (cK bt A));have b:=u7 ((hG (aw wB A).length).map (ae wB (A-C))) (by simp;omega);rw[v]at b;simp only[eN];generalize aw wB (A-C)=z at*;generalize aw wB A=x at*;generalize aw wB C=y at*;obtain⟨n,a⟩:∃n,x.length=n:=⟨_,rfl⟩
 obtain⟨m,f⟩:∃m,y.length=m:=⟨_,rfl⟩
 rw[a]at b;have o:=O9 n (ae wB (A-C));have e:((hG n).map (ae wB (A-C))).length=n:=s_
 generalize (hG n).map (ae wB (A-C))=l at b o e;have E:n<=1000000:=o_
 have H:m<=n:=o_
 simp[f244,a];refine⟨by simp only[cJ];omega,?_⟩;rw[O8 n (ae wB (A-C))];refine lp (α:=Nat) (fun i=>⟨[(14,.p (.int .i64 i)),(13,.p (.int .i64 n)),(6,.p (.int .u64 (fA wB A C i:Nat))),(5,.sl 0 0 1 0 n),(1,.p (.seq (y.map fun x:Nat=>.int .u64 x))),(0,.p (.seq (x.map fun x:Nat=>.int .u64 x)))],[.arr .exact 0 1 (iB n i (ae wB (A-C)))]⟩)
  (fun i=>i<=n) (fun i=>n-i) 0 s_ ?_ (he:=by simp[DT])
 intro i k1;have r:=bS (i:=i) o_
 by_cases hi:i<n
 ·have d:i<x.length:=by rw[a];exact hi
  have hx:=s i d;have c:=RJ k i;have aN:=Fp (n:=n) (ae wB (A-C)) hi;have G:(iB n i (ae wB (A-C))).length=n:=Fq _ _ _
  by_cases g:i<m
  ·have q:i<y.length:=by rw[f];exact g
   have w:=t i q;have j:(i:Int)<m:=o_
   simp[a,f,hi,g,j,hx,w,d,q];refine c3 c ?_;simp[hi,aN,r,xM _ hi,aa,aP,bO,uA];exact rd (i+1) (show i+1<=n by omega)
  ·have j:¬(i:Int)<m:=by omega
   have B:=u (i:=i) o_;rw[B]at c;simp[a,f,hi,g,j,hx,d];refine c3 c ?_;simp[hi,aN,r,xM _ hi,aa,aP,bO,uA];exact rd (i+1) (show i+1<=n by omega)
 have:i=n:=o_
 subst this;simp[a,o,aa,aP,bO,uA];refine cp b (by simp[e];exact⟨rfl,rfl⟩) ?_ (h1:=by simp[eW,hK,e]);simp;exact bI.refl _
end Go.an
namespace Go.Proofs
open Go.Shelf
def Tryz.YF:gm:=⟨fun|134=>340|129=>317|n=>n,fun|53=>307|3=>3|4=>4|46=>322|5=>5|9=>9|n=>n,fun|n=>n⟩
theorem Tryz.aOK:ge prog YF:={
 mixed:=k_
 f129:=func317.trans (congrArg some k_)
 f134:=func340.trans (congrArg some k_)
 t3:=underlying3
 a3:=isAgg3
 z3:=sizeOf3
 v3:=zeroValue3
 t4:=underlying4
 a4:=isAgg4
 z4:=sizeOf4
 v4:=zeroValue4
 t5:=underlying5
 a5:=isAgg5
 z5:=sizeOf5
 v5:=zeroValue5
 t9:=underlying9
 a9:=isAgg9
 z9:=sizeOf9
 v9:=zeroValue9
 t46:=underlying322
 a46:=isAgg322
 z46:=sizeOf322
 v46:=zeroValue322
 t53:=underlying307
 a53:=isAgg307
 z53:=sizeOf307
 v53:=zeroValue307}
theorem Tryz.bits_LeadingZeros64(x:Int)(w:c6)(a:0<=x)(b:x<=18446744073709551615):
 c7 prog 340 #[.int .u64 x] w fun e w'=>e=.returned (.int .i64 (64-(ed x.toNat:Int)))/\w'=w:=Any.bits_LeadingZeros64 aOK x w a b
def Tryz.YG:gm:=⟨fun|129=>317|n=>n,fun|53=>307|3=>3|4=>4|46=>322|5=>5|9=>9|n=>n,fun|n=>n⟩
theorem Tryz.aOJ:gg prog YG:={
 mixed:=k_
 f129:=func317.trans (congrArg some k_)
 t3:=underlying3
 a3:=isAgg3
 z3:=sizeOf3
 v3:=zeroValue3
 t4:=underlying4
 a4:=isAgg4
 z4:=sizeOf4
 v4:=zeroValue4
 t5:=underlying5
 a5:=isAgg5
 z5:=sizeOf5
 v5:=zeroValue5
 t9:=underlying9
 a9:=isAgg9
 z9:=sizeOf9
 v9:=zeroValue9
 t46:=underlying322
 a46:=isAgg322
 z46:=sizeOf322
 v46:=zeroValue322
 t53:=underlying307
 a53:=isAgg307
 z53:=sizeOf307
 v53:=zeroValue307}
theorem Tryz.bits_Len64(x:Int)(w:c6)(a:0<=x)(b:x<=18446744073709551615):
 c7 prog 317 #[.int .u64 x] w fun e w'=>e=.returned (.int .i64 (ed x.toNat))/\w'=w:=Any.bits_Len64 aOJ x w a b
def Tryz.YD:gm:=⟨fun|264=>247|n=>n,fun|53=>307|46=>322|n=>n,fun|n=>n⟩
theorem Tryz.aON:gb prog YD:={
 mixed:=k_
 f264:=func247.trans (congrArg some k_)
 t46:=underlying322
 a46:=isAgg322
 z46:=sizeOf322
 v46:=zeroValue322
 t53:=underlying307
 a53:=isAgg307
 z53:=sizeOf307
 v53:=zeroValue307}
open Go.RowKit Go.Lib in
theorem Tryz.bits_Mul64(x y:Nat)(hx:x<18446744073709551616)(hy:y<18446744073709551616)(w:c6):
 c7 prog 247 #[.int .u64 x,.int .u64 y] w fun e w'=>e=.returned (.tuple #[.int .u64 ((x*y/18446744073709551616:Nat):Int),.int .u64 ((x*y% 18446744073709551616:Nat):Int)])/\w'=w:=Any.bits_Mul64 aON x y hx hy w
end Go.Proofs
namespace Go.an
open Go.Proofs
section
variable[Gl]{P:c8}
theorem jA{f:da}{fn:Func}(h:P.funcs[f]?=some fn)(hs:(fn.body.isSome&&(fn.name != "runtime.NumGoroutine"))=true):Enters P f:=by
 intro args w;simp only[b2,bne_iff_ne]at hs;cases a:fn.body with
 |none=>rw[a]at hs;simp at hs
 |some c=>simp[callFunc,h,hs.2,a]
theorem kG{f:da}{args:List PV}{v:PV}(l:Enters P f)
 (h:∀(w:c6)(ad:Nat->Prop)(a:List db),(∀k,ad k->k<w.heap.size)->nT P w ad->bu P w ad args a->
  c7 P f a.toArray w fun e w'=>∃b,e=.returned b/\(w.heap.size<=w'.heap.size/\(∀k,k<w.heap.size->w'.heap[k]?=w.heap[k]?)/\w'.os=w.os/\w'.output=w.output)/\∀(w:c6)(ad:Nat->Prop),aC P w ad v b):az P f args v:=by
 refine .inl ⟨l,fun w ad a d m j=>(h w ad a d m j).mono ?_⟩;rintro e w' ⟨b,rfl,⟨c,g,n⟩,i⟩;exact⟨b,ad,rfl,fun _ x=>x,fun _ x=>.inl x,fun k hk=>j8 (d k hk) c,c,g,n,i _ _⟩
theorem nN{w:c6}{ad:Nat->Prop}{a b:PV}{cs:List db}(h:bu P w ad [a,b] cs):∃x y,cs=[x,y]/\aC P w ad a x/\aC P w ad b y:=by
 simp only[bu]at h;obtain⟨x,xs,rfl,c,y,e,rfl,d,rfl⟩:=h;exact⟨x,y,rfl,c,d⟩
theorem AQ{w:c6}{ad:Nat->Prop}{a:PV}{cs:List db}(h:bu P w ad [a] cs):∃x,cs=[x]/\aC P w ad a x:=by
 simp only[bu]at h;obtain⟨x,xs,rfl,b,rfl⟩:=h;exact⟨x,rfl,b⟩
end
theorem A5(x y:Nat)(hx:x<18446744073709551616)(g:y<18446744073709551616):az prog 247 [.int .u64 x,.int .u64 y] (.aD [.int .u64 ((x*y/18446744073709551616:Nat):Int),.int .u64 ((x*y% 18446744073709551616:Nat):Int)]):=by
 refine kG (jA func247 k_) fun w ad h _ _ f=>?_;obtain⟨a,b,rfl,c,d⟩:=nN f;simp only[aC]at c d;subst c d;refine(bits_Mul64 x y hx g w).mono ?_;rintro e w' ⟨rfl,rfl⟩;refine⟨_,rfl,⟨kC _,fun _ _=>rfl,rfl,rfl⟩,fun w ad=>?_⟩;simp only[aC,bu];exact⟨[_,_],⟨_,_,rfl,rfl,_,_,rfl,rfl,rfl⟩,rfl⟩
theorem RM(x:Nat)(hx:x<18446744073709551616):az prog 340 [.int .u64 x] (.int .i64 (64-(ed x:Int))):=by
 refine kG (jA func340 k_) fun w ad d _ _ c=>?_;obtain⟨a,rfl,b⟩:=AQ c;simp only[aC]at b;subst b;refine(bits_LeadingZeros64 x w o_ o_).mono ?_;rintro e w' ⟨rfl,rfl⟩;refine⟨_,rfl,⟨kC _,fun _ _=>rfl,rfl,rfl⟩,fun w ad=>?_⟩;simp only[aC];rfl
end Go.an
namespace Go.an
open Go.Proofs
theorem fx(n:Int)(h:0<=n)(a:n<wB):ea.wrap n=n:=IntWalk.u64_in n ⟨h,by simp only[wB]at a;omega⟩
def cE(n:Nat)(f:Nat->Nat):List AV:=(hG n).map fun j=>uA (f j)
theorem PS(n:Nat)(f:Nat->Nat):(cE n f).length=n:=by simp[cE]
theorem nK{n j:Nat}(f:Nat->Nat)(h:j<n):(cE n f)[j]?=some (.p (.int .u64 (f j))):=by
 rw[cE,ix,ii h];rfl
theorem ET{n:Nat}{f:Nat->Nat}(h:∀j,f j=0):hW n (AV.p (.int .u64 0))=cE n f:=by
 apply hO (by simp[cE]);intro i a b;simp[cE,uA,h]
theorem qH{n i v:Nat}{f g:Nat->Nat}(d:g i=v)(c:∀k,k≠i->g k=f k):(cE n f).set i (.p (.int .u64 v))=cE n g:=by
 apply hO (by simp[cE]);intro j e b;simp only[cE,i8,ip]at b;rw[iz];simp only[cE,i6,ik,uA]
 by_cases a:i=j
 ·subst a;rw[if_pos rfl,d]
 ·rw[if_neg a,c j o_]
theorem EU(n:Nat)(f:Nat->Nat):cE n f=((hG n).map f).map (AV.p∘fun x:Nat=>PV.int .u64 x):=by
 rw[cE,ih];rfl
theorem Ec{n:Nat}{f g:Nat->Nat}(h:∀k,f k=g k):cE n f=cE n g:=by rw[show f=g from funext h]
@[simp] theorem aTz{N:Nat×Nat->Prop}{n:Nat}{f:Nat->Nat}:aV N (cE n f)=True:=by
 rw[cB,eq_iff_iff,iff_true];intro v a;simp only[cE,h3]at a;obtain⟨x,_,rfl⟩:=a;trivial
@[simp] theorem aTF{σ:Nat->Nat}{n:Nat}{f:Nat->Nat}:cF σ (cE n f)=cE n f:=by
 have:∀l:List Nat,cF σ (l.map fun j=>uA (f j))=l.map fun j=>uA (f j):=by
  intro l
  induction l with
  |nil=>rfl
  |cons a r b=>simp only[hL,cF,b];rfl
 exact this _
theorem mul_two(P o k:Nat)(h:(P+o+k)/wB<wB)(a:o<wB)(hk:k<wB):
 ((P% wB+o+0)% wB+k+0)% wB=(P+o+k)% wB/\P/wB+(P% wB+o+0)/wB+((P% wB+o+0)% wB+k+0)/wB=(P+o+k)/wB/\P/wB+(P% wB+o+0)/wB<wB:=by
 simp only[wB]at*;omega
theorem Y3(a b:Nat)(D:(aw wB a).length+(aw wB b).length<=1000000):az prog 249 [eN a,eN b] (eN (a*b)):=by
 refine aJ nf (i_ func249) mix (by simp[f249]) ?_;have Q:∀i(h:i<(aw wB a).length),(aw wB a)[i]=ae wB a i:=fun i h=>eU bt h;have R:∀i(h:i<(aw wB b).length),(aw wB b)[i]=ae wB b i:=fun i h=>eU bt h;have t:=cK bt a;have q:=cK bt b;have V:eM ((hG ((aw wB a).length+(aw wB b).length)).map (ae wB (a*b)))=aw wB (a*b):=kf bt (by
  rw[kA];exact lb t q)
 have e:=u7 ((hG ((aw wB a).length+(aw wB b).length)).map (ae wB (a*b))) (by simp;omega);rw[V]at e;simp only[eN];generalize aw wB (a*b)=z at*;generalize aw wB a=x at*;generalize aw wB b=y at*;obtain⟨n,d⟩:∃n,x.length=n:=⟨_,rfl⟩
 obtain⟨m,c⟩:∃m,y.length=m:=⟨_,rfl⟩
 rw[d]at t e D;rw[c]at q e D;have E:=EU (n+m) (ae wB (a*b));have u:((hG (n+m)).map (ae wB (a*b))).length=n+m:=s_
 generalize (hG (n+m)).map (ae wB (a*b))=l at e E u;have ah:eb.wrap ((n:Int)+m)=((n+m:Nat):Int):=by rw[aK _ o_ o_];omega
 have U:((n:Int)+m).toNat=n+m:=o_
 have T:0<=(n:Int)+m:=o_
 have Y:eb.wrap ((n:Int)+m)=(n:Int)+m:=aK _ o_ o_;simp[f249,d,c,Y,U,T];refine⟨by simp only[cJ];omega,?_⟩;rw[ET (f:=dE wB a b 0 0) (by intro j;simp[qy,md,ae])];refine lp (α:=Nat) (fun i=>⟨[(22,.p (.int .i64 i)),(21,.p (.int .i64 n)),(20,.p (.seq (x.map fun x:Nat=>.int .u64 x))),(5,.sl 0 0 1 0 (n+m)),(1,.p (.seq (y.map fun x:Nat=>.int .u64 x)))],[.arr .exact 0 1 (cE (n+m) (dE wB a b i 0))]⟩)
  (fun i=>i<=n) (fun i=>n-i) 0 s_ ?_ (he:=s_)
 intro i k1;have W:=bS (i:=i) o_
 by_cases hi:i<n
 ·have F:i<x.length:=by rw[d];exact hi
  have hx:=Q i F;simp[d,c,hi,F,hx];refine lp (α:=Nat) (fun j=>⟨[(29,.p (.int .i64 j)),(28,.p (.int .i64 m)),(27,.p (.seq (y.map fun x:Nat=>.int .u64 x))),(8,.p (.int .u64 (mulC wB a b i j:Nat))),(7,.p (.int .u64 (ae wB a i:Nat))),(6,.p (.int .i64 i)),(22,.p (.int .i64 i)),(21,.p (.int .i64 n)),(20,.p (.seq (x.map fun x:Nat=>.int .u64 x))),(5,.sl 0 0 1 0 (n+m)),(1,.p (.seq (y.map fun x:Nat=>.int .u64 x)))],[.arr .exact 0 1 (cE (n+m) (dE wB a b i j))]⟩)
   (fun j=>j<=m) (fun j=>m-j) 0 s_ ?_ (he:=by simp[Eb])
  intro j k2;have X:=bS (i:=j) o_;have A:((i:Int)+j).toNat=i+j:=o_
  have w:0<=(i:Int)+j:=o_
  have I:eb.wrap ((i:Int)+j)=(i:Int)+j:=aK _ o_ o_
  by_cases G:j<m
  ·have H:j<y.length:=by rw[c];exact G
   have ab:=R j H;have s:i+j<n+m:=o_
   have o:=nK (dE wB a b i j) s;have r:=ES bt a b i j;have N:=uY bt a b i j;have O:=uY bt a b i (j+1);have P:dE wB a b i j (i+j)<wB:=by rw[dE];split<;>exact cN bt _ _
   obtain⟨e1,e2,e3⟩:=mul_two (ae wB a i*ae wB b j) (dE wB a b i j (i+j)) (mulC wB a b i j) (by rw[r.2];exact O) P N;rw[r.1]at e1;rw[r.2]at e2;have J:=A5 (ae wB a i) (ae wB b j) (cN bt _ _) (cN bt _ _);rw[show(18446744073709551616:Nat)=wB from rfl]at J;have ac:=sS (ae wB a i*ae wB b j% wB) (dE wB a b i j (i+j)) 0 o_;have K:=sS ((ae wB a i*ae wB b j% wB+dE wB a b i j (i+j)+0)% wB) (mulC wB a b i j) 0 o_;rw[e1]at K;have hs:=qH (n:=n+m) (i:=i+j) (f:=dE wB a b i j) (g:=dE wB a b i (j+1)) (O6 a b i j) (fun k hk=>Nk bt hk);generalize ae wB a i*ae wB b j% wB=L at*;generalize ae wB a i*ae wB b j/wB=B at*;generalize (L+dE wB a b i j (i+j)+0)% wB=ad at*;generalize (L+dE wB a b i j (i+j)+0)/wB=C at*;generalize (ad+mulC wB a b i j+0)/wB=af at*;have M:ea.wrap ((B:Int)+C)=((B+C:Nat):Int):=by rw[fx _ o_ o_];omega
   have ag:ea.wrap ((B:Int)+C+af)=(mulC wB a b i (j+1):Nat):=by rw[fx _ o_ o_];omega
   simp[d,c,G,H,ab];refine c2 J ?_;simp[I,A,w,s,o,aa,aP,bO];refine c3 ac ?_;simp[M];refine c3 K ?_;simp[I,A,w,s,o,hs,M,ag,X,aa,aP,bO];exact rd (j+1) (show j+1<=m by omega)
  have:j=m:=o_
  subst this;have Z:eb.wrap ((i:Int)+j)=(i:Int)+j:=aK _ o_ o_;have al:i+j<n+j:=o_
  have o:=nK (dE wB a b i j) al;have hs:=qH (n:=n+j) (i:=i+j) (f:=dE wB a b i j) (g:=dE wB a b (i+1) 0) (v:=mulC wB a b i j) (by rw[qy,LY bt q]) (fun k hk=>by rw[qy,O7 bt q hk]);simp[c,Z,A,w,hi,al,o,hs,W,aa,aP,bO];exact rd (i+1) (show i+1<=n by omega)
 have:i=n:=o_
 subst this;have S:cE (i+m) (dE wB a b i 0)=cE (i+m) (ae wB (a*b)):=Ec fun k=>by rw[qy,j7 t]
 simp[d,S,E];refine cp e (by simp[u];exact⟨rfl,rfl⟩) ?_ (h1:=by simp[eW,hK,u]);simp;exact bI.refl _
theorem A0(n:Nat):ea.wrap (n:Int)=(n% wB:Nat):=by
 rw[show ea.wrap (n:Int)=(n:Int)% 18446744073709551616 from rfl];rfl
theorem zb(x s:Nat)(hs:s<64):ea.wrap ((x:Int)*2^(min s ea.bits))=(x*2^s% wB:Nat):=by
 rw[show ea.bits=64 from rfl,np o_,<-A0];congr 1
theorem vX(x s:Nat)(hs:s<=64):(x:Int).fdiv (2^(min s ea.bits))=(x/2^s:Nat):=by
 rw[show ea.bits=64 from rfl,np hs,show(2:Int)^s=((2^s:Nat):Int)by push_cast;rfl,hg _ (Int.natCast_nonneg _)];rfl
theorem G3(a b:Nat)(c:a<wB)(d:b<wB):ea.wrap ((a% 2^ea.bits|||b% 2^ea.bits:Nat):Int)=(a|||b:Nat):=by
 rw[show(2^ea.bits:Nat)=wB from rfl,j7 c,j7 d,A0,j7];exact Nat.or_lt_two_pow (n:=64) c d
def cu(a s i:Nat):Nat:=if i=0 then 0 else ae wB a (i-1)/2^(64-s)
def ij(a s i k:Nat):Nat:=if k<i then ae wB (a*2^s) k else if k=i then cu a s i else 0
theorem Bo{s:Nat}(hs:s<64):2^s*2^(64-s)=wB:=by rw[<-kA,show s+(64-s)=64 by omega];rfl
theorem PC(a s i:Nat)(hs:s<64):cu a s i|||(ae wB a i*2^s% wB)=ae wB (a*2^s) i:=by
 have c:0<2^s:=kd (by decide);have d:0<2^(64-s):=kd (by decide);have b:=Bo hs;have hc:cu a s i<2^s:=by
  rw[cu];split
  ·exact c
  ·rw[j6 d,b];exact cN bt _ _
 have e:ae wB a i*2^s% wB=ae wB a i% 2^(64-s)*2^s:=by
  rw[<-b,j5,l5,j5]
 rw[oz,e,FM hc,<-e];cases i with
 |zero=>rw[cu,if_pos rfl,mi,<-b];exact(au6 a).symm
 |succ i=>rw[cu,if_neg o_,kW,<-b];exact(au7 c d a i).symm
theorem D2{n:Nat}{f g:Nat->Nat}(h:∀k,k<n->f k=g k):cE n f=cE n g:=by
 rw[cE,cE];exact hS fun k hk=>by rw[h k (h8.1 hk)]
theorem aC1(a s n:Nat)(hs:s<64)(h:ae wB a n=0):cu a s n=ae wB (a*2^s) n:=by
 rw[<-PC a s n hs,h,mp,n1,Nat.or_zero]
theorem NZ(a s:Nat)(hs:s<64)(A:(aw wB a).length<=1000000):b8 prog 341 [] [.p (eN a),.p (.int .i64 s)] [.arr .exact 0 1 (cE ((aw wB a).length+1) (ae wB (a*2^s)))] (.sl 0 0 1 0 ((aw wB a).length+1)):=by
 refine dS nf (i_ func341) mix (by simp[f341]) ?_;have C:∀i(h:i<(aw wB a).length),(aw wB a)[i]=ae wB a i:=fun i h=>eU bt h;have F:=@Fj a;simp only[eN];generalize aw wB a=x at*;obtain⟨n,c⟩:∃n,x.length=n:=⟨_,rfl⟩
 rw[c]at A;have J:eb.wrap ((n:Int)+1)=(n:Int)+1:=bS o_;simp[f341,c,J];refine⟨⟨o_,by simp only[cJ];omega⟩,?_⟩;rw[ET (f:=ij a s 0) (by intro j;simp[ij,cu])];refine lp (α:=Nat) (fun i=>⟨[(14,.p (.int .i64 i)),(13,.p (.int .i64 n)),(12,.p (.seq (x.map fun x:Nat=>.int .u64 x))),(5,.sl 0 0 1 0 (n+1)),(1,.p (.int .i64 s))],[.arr .exact 0 1 (cE (n+1) (ij a s i))]⟩)
  (fun i=>i<=n) (fun i=>n-i) 0 s_ ?_ (he:=s_)
 intro i k1;have w:=bS (i:=i) o_
 by_cases hi:i<n
 ·have l:i<x.length:=by rw[c];exact hi
  have hx:=C i l;have e:i<n+1:=o_
  have o:=nK (ij a s i) e;have E:ae wB a i*2^s% wB<wB:=kk _ (by decide);have B:ij a s i i<wB:=by
   rw[ij,if_neg o_,if_pos rfl,cu];split
   ·decide
   ·exact kg (lz _ _) (cN bt _ _)
  have e1:=zb (ae wB a i) s hs;have e2:=G3 (ij a s i i) (ae wB a i*2^s% wB) B E;have e3:ij a s i i|||(ae wB a i*2^s% wB)=ae wB (a*2^s) i:=by rw[<-PC a s i hs,ij,if_neg o_,if_pos rfl]
  rw[e3]at e2;have y:eb.wrap (64-(s:Int))=((64-s:Nat):Int):=by rw[aK _ o_ o_];omega
  have e4:=vX (ae wB a i) (64-s) o_;have r:i+1<n+1:=o_
  have u:=qH (n:=n+1) (i:=i) (f:=ij a s i) (g:=fun k=>if k=i then ae wB (a*2^s) i else ij a s i k) (if_pos rfl) (fun k hk=>if_neg hk);have G:=qH (n:=n+1) (i:=i+1) (v:=ae wB a i/2^(64-s)) (f:=fun k=>if k=i then ae wB (a*2^s) i else ij a s i k) (g:=ij a s (i+1)) (by
   simp[ij,cu]) (fun k hk=>by
   by_cases d:k=i
   ·subst d;simp[ij]
   ·simp only[ij,d,if_false]
    by_cases b:k<i
    ·rw[if_pos o_,if_pos b]
    ·rw[if_neg o_,if_neg hk,if_neg b])
  have D:=nK (n:=n+1) (fun k=>if k=i then ae wB (a*2^s) i else ij a s i k) r;have H:s=0->cE (n+1) (fun k=>if k=i then ae wB (a*2^s) i else ij a s i k)=cE (n+1) (ij a s (i+1)):=fun h=>by
   have K:ae wB a i/2^(64-s)=0:=by rw[h];exact kw (cN bt _ _)
   refine Ec fun k=>?_
   by_cases d:k=i
   ·subst d;simp[ij]
   ·simp only[ij,d,if_false]
    by_cases b:k<i
    ·rw[if_pos b,if_pos o_]
    ·by_cases q:k=i+1
     ·rw[q,if_neg o_,if_neg o_,if_pos rfl,cu,if_neg o_,kW,K]
     ·rw[if_neg b,if_neg o_,if_neg q]
  generalize ae wB a i*2^s% wB=L at*;generalize ae wB a i/2^(64-s)=M at*;generalize (fun k=>if k=i then ae wB (a*2^s) i else ij a s i k)=g1 at*;obtain⟨t,I⟩:∃t,t=64-s:=⟨_,rfl⟩
  rw[<-I]at y e4
  by_cases m:0<s
  ·simp[c,hi,e,l,hx,o,e1,e2,m,y,e4,w,u,r,D,G,aa,aP,bO];refine⟨⟨by rfl,by rfl,by rfl⟩,?_⟩;refine⟨o_,?_⟩;exact rd (i+1) (show i+1<=n by omega)
  ·have z:s=0:=by omega
   simp[c,hi,e,l,hx,o,e1,e2,m,w,u,H z,aa,aP,bO];refine⟨⟨by rfl,by rfl,by rfl⟩,?_⟩;exact rd (i+1) (show i+1<=n by omega)
 have:i=n:=o_
 subst this;simp[c];refine .inl (D2 fun k hk=>?_);rw[ij]
 by_cases b:k<i
 ·rw[if_pos b]
 ·obtain rfl:k=i:=by omega
  rw[if_neg b,if_pos rfl,aC1 a s k hs (F o_)]
theorem Ao:∀(n x:Nat),x<=n->0<x->x<2^64->1<=ed x/\2^(ed x-1)<=x/\x<2^ed x
 |0,x,h,a,_=>by omega
 |n+1,x,h,a,c=>by
  have d:=Lib.bitLen_half x o_ c
  by_cases b:x=1
  ·subst b;decide
  ·obtain⟨i1,i2,i3⟩:=Ao n (x/2) o_ o_ o_;rw[d];generalize ed (x/2)=L at*;obtain⟨k,rfl⟩:∃k,L=k+1:=⟨L-1,o_⟩
   rw[show 1+(k+1)=k+2 by omega,show k+2-1=k+1 by omega,j9,j9];rw[j9]at i3;simp only[kW]at i2;omega
theorem SD{x:Nat}(a:0<x)(h:x<2^64):ed x<=64:=by
 obtain⟨_,b,_⟩:=Ao x x (kC _) a h;have:=(ns (show 1<2 by decide)).1 (kg b h);omega
def wH:Nat:=4294967296
theorem wHH:wH*wH=wB:=rfl
theorem O4{y:Nat}(a:0<y)(h:y<2^64):∃s,s<64/\ed y+s=64/\wB<=2*(y*2^s)/\y*2^s<wB:=by
 obtain⟨d,b,c⟩:=Ao y y (kC _) a h;have e:=SD a h;refine⟨64-ed y,o_,o_,?_,?_⟩
 ·have:=kh (2^(64-ed y)) b;rw[<-kA,show ed y-1+(64-ed y)=63 by omega]at this;simp only[wB];omega
 ·have:=ls c (kd (show 0<2 by decide) (n:=64-ed y));rw[<-kA,show ed y+(64-ed y)=64 by omega]at this;simp only[wB];omega
structure U4(hi lo y s:Nat) where
 Y:Nat
 v1:Nat
 v0:Nat
 T:Nat
 u:Nat
 u1:Nat
 u0:Nat
 q1:Nat
 R:Nat
 q0:Nat
 hY:Y=y*2^s
 eY:Y=v1*wH+v0
 CG:v1<wH
 my:v0<wH
 v8:wH<=2*v1
 zg:T<Y
 Cp:hi*2^s<wB
 G4:hi*2^s|||lo/2^(64-s)=T
 eu:u=lo*2^s% wB
 Gw:u1=u/wH
 Gv:u0=u% wH
 CF:u1<wH
 CE:u0<wH
 pL:q1=hq wH v1 v0 T u1
 Cy:q1<wH
 eR:R=T*wH+u1-q1*Y
 zf:R<Y
 UB:q1*Y<=T*wH+u1
 yT:q0=hq wH v1 v0 R u0
 Cw:q0<wH
 UA:q0*Y<=R*wH+u0
 Fo:q1*wH+q0=(hi*wB+lo)/y
 rem:(R*wH+u0-q0*Y)/2^s=(hi*wB+lo)% y
theorem aD8{hi lo y:Nat}(o:hi<y)(H:y<wB)(B:lo<wB):∃s,s<64/\ed y+s=64/\Nonempty (U4 hi lo y s):=by
 obtain⟨s,hs,w,J,m⟩:=O4 (y:=y) o_ H;have g:=Bo hs;have a:0<2^s:=kd (by decide);have x:0<2^(64-s):=kd (by decide);refine⟨s,hs,w,⟨?_⟩⟩;have e0:y*2^s=y*2^s/wH*wH+y*2^s% wH:=by rw[j5 _ wH,ko]
 have E:y*2^s% wH<wH:=kk _ (by decide);have F:y*2^s/wH<wH:=by rw[j6 (by decide)];exact m
 have G:wH<=2*(y*2^s/wH):=by simp only[wH,wB]at*;omega
 have A:lo/2^(64-s)<2^s:=by rw[j6 x,g];exact B
 have v:hi*2^s<wB:=ms (ls o a) m;have h:hi*2^s+lo/2^(64-s)<y*2^s:=by
  have:=kh (2^s) (show hi+1<=y from o);rw[kv,lt]at this;omega
 have C:hi*2^s|||lo/2^(64-s)=hi*2^s+lo/2^(64-s):=FM A
 have n:lo*2^s% wB/wH<wH:=by rw[j6 (by decide)];exact kk _ (by decide)
 have b:lo*2^s% wB% wH<wH:=kk _ (by decide);have i:(hi*wB+lo)*2^s=((hi*2^s+lo/2^(64-s))*wH+lo*2^s% wB/wH)*wH+lo*2^s% wB% wH:=by
  have e1:lo*2^s=lo/2^(64-s)*wB+lo*2^s% wB:=by
   have e2:lo*2^s/wB=lo/2^(64-s):=by
    rw[<-g,j5 lo,Nat.mul_div_mul_left _ _ a]
   rw[<-e2,j5 _ wB,ko]
  have e3:lo*2^s% wB=lo*2^s% wB/wH*wH+lo*2^s% wB% wH:=by rw[j5 _ wH,ko]
  rw[kv,lw,e1,kv (_*wH),kp (_+_) wH wH,wHH,kv];generalize hi*2^s*wB=I;rw[<-e1];generalize lo*2^s% wB=a2 at*;generalize lo/2^(64-s)*wB=a3 at*;omega
 have l:0<y*2^s:=o_
 obtain⟨e,d⟩:=aLn (Y:=y*2^s) (U:=(hi*wB+lo)*2^s) (c:=wH) l;have j:(hi*wB+lo)*2^s/wH=(hi*2^s+lo/2^(64-s))*wH+lo*2^s% wB/wH:=by
  rw[i,lm,lv _ _ (by decide),kw b,l1]
 have k:(hi*wB+lo)*2^s% wH=lo*2^s% wB% wH:=by
  rw[i,lm,li,j7 b]
 rw[j,k,m1 _ _ a]at e;rw[j,k,j5 _ (2^s),j5 y,l5]at d;rw[j5 (2^s) y]at d;generalize z:y*2^s=Y at*;generalize hi*2^s+lo/2^(64-s)=T at*;generalize D:lo*2^s% wB=u at*;have t:=Qv (T:=T) (c:=wH) (u1:=u/wH) (v1:=Y/wH) (v0:=Y% wH);rw[<-e0]at t;have r:=Qv (T:=(T*wH+u/wH)% Y) (c:=wH) (u1:=u% wH) (v1:=Y/wH) (v0:=Y% wH);rw[<-e0]at r;have q:hq wH (Y/wH) (Y% wH) T (u/wH)=(T*wH+u/wH)/Y:=by rw[hq,<-e0]
 have p:hq wH (Y/wH) (Y% wH) ((T*wH+u/wH)% Y) (u% wH)=((T*wH+u/wH)% Y*wH+u% wH)/Y:=by rw[hq,<-e0]
 have f:(T*wH+u/wH)% Y<Y:=kk _ l;exact{
  Y:=Y,v1:=Y/wH,v0:=Y% wH,T:=T,u:=u,u1:=u/wH,u0:=u% wH
  q1:=hq wH (Y/wH) (Y% wH) T (u/wH),R:=(T*wH+u/wH)% Y,q0:=hq wH (Y/wH) (Y% wH) ((T*wH+u/wH)% Y) (u% wH)
  hY:=z.symm,eY:=e0,CG:=F,my:=E,v8:=G,zg:=h,Cp:=v,G4:=C,eu:=D.symm,Gw:=rfl,Gv:=rfl,CF:=n,CE:=b
  pL:=rfl,Cy:=Th (by rw[<-e0];exact h) n,eR:=t.symm,zf:=f
  UB:=by rw[q];exact lq _ _
  yT:=rfl,Cw:=Th (by rw[<-e0];exact f) b
  UA:=by rw[p];exact lq _ _
  Fo:=by rw[q,p,<-e]
  rem:=by rw[r,<-d,Nat.mul_div_cancel_left _ a]}
section
variable[Gl]{P:c8}{ah:da->Bool}{q:Nat×Nat}
theorem tP{b:Code}{Q:bD->St->Prop}{s:St}{id:Nat}(R:St->Prop)(f:fg P ah q (.loop b) (sY id (tx R (fun _ _=>False))) s)(c:∀s',R s'->Q .normal s'):fg P ah q (.loop b) (sY id Q) s:=by
 refine oQ _ (fun e s a=>?_) f;cases e with
 |normal=>exact c s a
 |exit i=>
  simp only[sY,pD]at a⊢
  by_cases d:i=id
  ·simp[d,tx]at a⊢;exact c s a
  ·simp[d,tx]at a
 |ret=>exact a.elim
end
theorem N8(a:Nat)(b:a<wB):ea.wrap ((a% 2^ea.bits&&&4294967295% 2^ea.bits:Nat):Int)=(a% wH:Nat):=by
 rw[show(2^ea.bits:Nat)=wB from rfl,j7 b,show 4294967295% wB=2^32-1 from rfl,nb,A0];rw[show(2:Nat)^32=wH from rfl,j7 (j8 (kk _ (by decide)) (show wH<=wB by decide))]
theorem U3{a b c:Int}{R:Nat}(h:a+b-c=R)(hR:R<wB):ea.wrap (ea.wrap (ea.wrap a+b)-ea.wrap c)=R:=by
 show(((a% 18446744073709551616+b)% 18446744073709551616)-c% 18446744073709551616)% 18446744073709551616=R;have:R<18446744073709551616:=hR;omega
theorem QM(hi lo y:Nat)(aE:hi<y)(aj:y<wB)(ah:lo<wB):az prog 339 [.int .u64 hi,.int .u64 lo,.int .u64 y] (.aD [.int .u64 ((hi*wB+lo)/y:Nat),.int .u64 ((hi*wB+lo)% y:Nat)]):=by
 refine aJ nf (i_ func339) mix (by simp[f339]) ?_;have H:¬(y:Int)=0:=o_
 have N:¬(y:Int)<=hi:=o_
 have af:¬y<=hi:=o_
 have ae:¬y=0:=o_
 by_cases ad:hi=0
 ·subst ad;have ag:ea.wrap ((lo:Int)/y)=(lo:Int)/y:=fx _ (g0 o_ o_) (g5 (g9 _ o_) o_);have ay:(lo:Int).tmod y=(lo:Int)% y:=Int.tmod_eq_emod_of_nonneg o_;simp[f339,H,N,ae,af,ag,ay]
 obtain⟨s,hs,aT,⟨Y,b,v0,T,u,u1,u0,q1,R,q0,ac,eY,CG,my,v8,zg,Cp,G4,eu,Gw,Gv,CF,CE,pL,Cy,eR,zf,UB,yT,Cw,UA,Fo,rem⟩⟩:=aD8 aE aj ah;have aC:=RM y aj;obtain⟨t,ai⟩:∃t,t=64-s:=⟨_,rfl⟩
 have O:wH=4294967296:=rfl;have aA:wB=18446744073709551616:=rfl;have X:Y<wB:=by
  rw[O]at CG my eY;rw[aA];omega
 have av:ea.wrap (64-((ed y:Nat):Int))=s:=by rw[fx _ o_ o_];omega
 have f2:ea.wrap (64-(s:Int))=t:=by rw[fx _ o_ o_];omega
 have f3:ea.wrap ((y:Int)*2^(min s ea.bits))=Y:=by rw[zb y s hs,<-ac,j7 X]
 have f4:(Y:Int).fdiv (2^(min 32 ea.bits))=b:=by
  rw[vX Y 32 o_];rw[O]at my eY;congr 1;omega
 have f5:ea.wrap ((hi:Int)*2^(min s ea.bits))=(hi*2^s:Nat):=by rw[zb hi s hs,j7 Cp]
 have f6:(lo:Int).fdiv (2^(min t ea.bits))=(lo/2^t:Nat):=vX lo t o_;have f7:=G3 (hi*2^s) (lo/2^t) Cp (kg (lz _ _) ah);rw[ai,G4,<-ai]at f7;have f8:ea.wrap ((lo:Int)*2^(min s ea.bits))=u:=by rw[zb lo s hs,<-eu]
 have aP:u<wB:=by rw[eu];exact kk _ (by decide)
 have f9:(u:Int).fdiv (2^(min 32 ea.bits))=u1:=by
  rw[vX u 32 o_];congr 1;rw[Gw];rfl
 have d:0<b:=by rw[O]at v8;omega
 have am:¬b=0:=o_
 have an:¬(b:Int)=0:=o_
 have aQ:T<wB:=o_
 generalize hi*2^s=aR at*;generalize lo/2^t=aU at*;have aI:T/b<=wH+1:=Tf d (by rw[<-eY];exact zg) v8 my;have aN:T/b*b+T% b=T:=by rw[j5,ko]
 have aV:T% b<b:=kk _ d;have aL:=Qw (T:=T) (u1:=u1) d my CF;have aw:ea.wrap ((T:Int)/b)=(T/b:Nat):=by rw[fx _ (g0 o_ o_) (g5 (g9 _ o_) o_)];rfl
 generalize T/b=K at*;generalize T% b=ak at*;have ax:ea.wrap ((T:Int)-ea.wrap ((K:Int)*b))=ak:=by
  have e:((K*b:Nat):Int)=(K:Int)*b:=by push_cast;rfl
  rw[fx ((K:Int)*b) o_ o_,fx _ o_ o_];omega
 have aa:=N8 Y X;have ab:=N8 u aP;rw[show Y% wH=v0 by rw[eY,lm,li,j7 my]]at aa;rw[<-Gv]at ab;have a1:b<4294967296:=CG;have aZ:v0<4294967296:=my;have aY:u1<4294967296:=CF;have aX:u0<4294967296:=CE;have a0:4294967296<=2*b:=v8;have aK:R/b<=wH+1:=Tf d (by rw[<-eY];exact zf) v8 my;have aO:R/b*b+R% b=R:=by rw[j5,ko]
 have aW:R% b<b:=kk _ d;have aq:R<wB:=o_
 have aM:=Qw (T:=R) (u1:=u0) d my CE;have aF:ea.wrap ((R:Int)/b)=(R/b:Nat):=by rw[fx _ (g0 o_ o_) (g5 (g9 _ o_) o_)];rfl
 generalize R/b=L at*;generalize R% b=al at*;have aG:ea.wrap ((R:Int)-ea.wrap ((L:Int)*b))=al:=by
  have e:((L*b:Nat):Int)=(L:Int)*b:=by push_cast;rfl
  rw[fx ((L:Int)*b) o_ o_,fx _ o_ o_];omega
 have ao:ea.wrap (ea.wrap (ea.wrap ((T:Int)*4294967296)+u1)-ea.wrap ((q1:Int)*Y))=R:=by
  refine U3 (h:=?_) (hR:=aq);have e1:((T*wH:Nat):Int)=(T:Int)*4294967296:=by push_cast;rfl
  have e2:((q1*Y:Nat):Int)=(q1:Int)*Y:=by push_cast;rfl
  omega
 have M2:ea.wrap (ea.wrap ((q1:Int)*4294967296)+q0)=((q1*wH+q0:Nat):Int):=by
  have H:q1*4294967296+q0<18446744073709551616:=by
   have N:q1<4294967296:=Cy;have ag:q0<4294967296:=Cw;omega
  rw[fx ((q1:Int)*4294967296) o_ o_,fx _ o_ o_];push_cast;rfl
 obtain⟨Z,P⟩:∃Z,Z=R*wH+u0-q0*Y:=⟨_,rfl⟩
 have ar:Z<wB:=by
  have H:Z/2^s<y:=by rw[P,rem];exact kk _ o_
  rw[j6 (kd (by decide)),<-ac]at H;omega
 have ap:ea.wrap (ea.wrap (ea.wrap ((R:Int)*4294967296)+u0)-ea.wrap ((q0:Int)*Y))=Z:=by
  refine U3 (h:=?_) (hR:=ar);have e1:((R*wH:Nat):Int)=(R:Int)*4294967296:=by push_cast;rfl
  have e2:((q0*Y:Nat):Int)=(q0:Int)*Y:=by push_cast;rfl
  omega
 have M:=vX Z s o_;rw[P,rem]at M;rw[<-P]at M;rw[Fo]at M2;simp[f339,H,N,ae,af,ad];refine c1 aC ?_;simp[av,f2,f3,f4,f5,f6,f7,f8,f9,am,an,aw,ax,aa,ab];refine tP (fun s'=>aS s'.env 15=.p (.int .u64 q1)/\aS s'.env 14=.p (.int .u64 u0)/\aS s'.env 13=.p (.int .u64 u1)/\aS s'.env 11=.p (.int .u64 T)/\aS s'.env 10=.p (.int .u64 v0)/\aS s'.env 9=.p (.int .u64 b)/\aS s'.env 8=.p (.int .u64 s)/\aS s'.env 2=.p (.int .u64 Y)/\s'.heap=[]) ?_ ?_
 ·refine lp (α:=Nat×Nat) (fun a=>⟨[(16,.p (.int .u64 a.2)),(15,.p (.int .u64 a.1)),(14,.p (.int .u64 u0)),(13,.p (.int .u64 u1)),(11,.p (.int .u64 T)),(10,.p (.int .u64 v0)),(9,.p (.int .u64 b)),(8,.p (.int .u64 s)),(2,.p (.int .u64 Y))],[]⟩) (fun a=>a.1*b+a.2=T/\hq wH b v0 T u1<=a.1/\a.2<wH/\a.1<=wH+1) (fun a=>a.1) (K,ak) ⟨aN,aL,o_,aI⟩ ?_;rintro⟨x,r⟩ ⟨k1,k2,k3,k4⟩;dsimp only at k1 k2 k3 k4;have aH:r<4294967296:=k3;have W:x<=4294967297:=k4;have g:ea.wrap ((x:Int)*v0)=(x*v0:Nat):=by
   have:=m6 W (show v0<=4294967295 by omega);rw[fx _ (by rw[<-gN];omega) (by rw[<-gN];omega)];push_cast;rfl
  have v:ea.wrap (4294967296*(r:Int))=4294967296*r:=fx _ o_ o_;have w:ea.wrap (4294967296*(r:Int)+u1)=4294967296*r+u1:=fx _ o_ o_;have m:ea.wrap ((r:Int)+b)=r+b:=fx _ o_ o_
  by_cases i:4294967296<=x\/4294967296*r+u1<x*v0
  ·have j:=RX d (show 0<wH by decide) k1 k2 (i.imp (fun h=>⟨h,by rw[<-pL];exact Cy⟩) id);obtain⟨k,rfl⟩:∃k,x=k+1:=⟨x-1,by
    rcases i with h|h
    ·omega
    ·rcases kP x with e|e
     ·rw[e]at h;omega
     ·omega⟩
   have l:ea.wrap (k:Int)=k:=fx _ o_ o_;have k5:k*b+(r+b)=T:=by rw[<-k1,kv];omega
   rw[kW]at j;have kB:k<=wH+1:=o_
   by_cases Q:4294967296<=r+b
   ·have hq:=Po d (by rw[<-eY];exact zg) my k5 Q j;have f:(4294967296:Int)<=(r:Int)+b:=by omega
    rw[<-pL]at hq;subst hq;rcases lc (k+1) 4294967296 with hc|hc
    ·have n:((k:Int)+1<4294967296):=by omega
     have c:¬((4294967296:Int)<=(k:Int)+1):=o_
     have o:(4294967296*(r:Int)+u1<((k+1)*v0:Nat)):=o_
     have q:4294967296*r+u1<(k+1)*v0:=o_
     generalize (k+1)*v0=J at*;push_cast at g;simp[g,v,w,l,m,n,c,o,q,f]
    ·have c:((4294967296:Int)<=(k:Int)+1):=by omega
     simp[l,m,c,f]
   ·have f:¬(4294967296:Int)<=(r:Int)+b:=by omega
    rcases lc (k+1) 4294967296 with hc|hc
    ·have n:((k:Int)+1<4294967296):=by omega
     have c:¬((4294967296:Int)<=(k:Int)+1):=o_
     have o:(4294967296*(r:Int)+u1<((k+1)*v0:Nat)):=o_
     have q:4294967296*r+u1<(k+1)*v0:=o_
     generalize (k+1)*v0=J at*;push_cast at g;simp[g,v,w,l,m,n,c,o,q,f];exact rd (k,r+b) ⟨k5,j,show r+b<4294967296 by omega,kB⟩
    ·have c:((4294967296:Int)<=(k:Int)+1):=by omega
     simp[l,m,c,f];exact rd (k,r+b) ⟨k5,j,show r+b<4294967296 by omega,kB⟩
  ·have aD:¬4294967296<=x:=fun h=>i (.inl h);have U:¬4294967296*r+u1<x*v0:=fun h=>i (.inr h);have hq:=Fe d (show 0<wH by decide) k1 k2 (ob.1 U);rw[<-pL]at hq;subst hq;have S:¬(4294967296:Int)<=x:=by omega
   have V:¬(4294967296*(r:Int)+u1<(x*v0:Nat)):=o_
   generalize x*v0=J at*;simp[g,v,w,S,V]
 rintro⟨au,aB⟩ ⟨z,A,B,C,D,E,F,G,I⟩;dsimp only at z A B C D E F G I;subst I;simp[z,A,B,C,D,E,F,G,ao,am,an,aF,aG];refine tP (fun s'=>aS s'.env 18=.p (.int .u64 q0)/\aS s'.env 15=.p (.int .u64 q1)/\aS s'.env 17=.p (.int .u64 R)/\aS s'.env 14=.p (.int .u64 u0)/\aS s'.env 10=.p (.int .u64 v0)/\aS s'.env 9=.p (.int .u64 b)/\aS s'.env 8=.p (.int .u64 s)/\aS s'.env 2=.p (.int .u64 Y)/\s'.heap=[]) ?_ ?_
 ·refine lp (α:=Nat×Nat) (fun a=>⟨[(16,.p (.int .u64 a.2)),(18,.p (.int .u64 a.1)),(15,.p (.int .u64 q1)),(17,.p (.int .u64 R)),(14,.p (.int .u64 u0)),(10,.p (.int .u64 v0)),(9,.p (.int .u64 b)),(8,.p (.int .u64 s)),(2,.p (.int .u64 Y))],[]⟩) (fun a=>a.1*b+a.2=R/\hq wH b v0 R u0<=a.1/\a.2<wH/\a.1<=wH+1) (fun a=>a.1) (L,al) ⟨aO,aM,o_,aK⟩ ?_ (he:=by simp[z,A,B,C,D,E,F,G]);rintro⟨x,r⟩ ⟨k1,k2,k3,k4⟩;dsimp only at k1 k2 k3 k4;have aH:r<4294967296:=k3;have W:x<=4294967297:=k4;have g:ea.wrap ((x:Int)*v0)=(x*v0:Nat):=by
   have:=m6 W (show v0<=4294967295 by omega);rw[fx _ (by rw[<-gN];omega) (by rw[<-gN];omega)];push_cast;rfl
  have v:ea.wrap (4294967296*(r:Int))=4294967296*r:=fx _ o_ o_;have w:ea.wrap (4294967296*(r:Int)+u0)=4294967296*r+u0:=fx _ o_ o_;have m:ea.wrap ((r:Int)+b)=r+b:=fx _ o_ o_
  by_cases i:4294967296<=x\/4294967296*r+u0<x*v0
  ·have j:=RX d (show 0<wH by decide) k1 k2 (i.imp (fun h=>⟨h,by rw[<-yT];exact Cw⟩) id);obtain⟨k,rfl⟩:∃k,x=k+1:=⟨x-1,by
    rcases i with h|h
    ·omega
    ·rcases kP x with e|e
     ·rw[e]at h;omega
     ·omega⟩
   have l:ea.wrap (k:Int)=k:=fx _ o_ o_;have k5:k*b+(r+b)=R:=by rw[<-k1,kv];omega
   rw[kW]at j;have kB:k<=wH+1:=o_
   by_cases Q:4294967296<=r+b
   ·have hq:=Po d (by rw[<-eY];exact zf) my k5 Q j;have f:(4294967296:Int)<=(r:Int)+b:=by omega
    rw[<-yT]at hq;subst hq;rcases lc (k+1) 4294967296 with hc|hc
    ·have n:((k:Int)+1<4294967296):=by omega
     have c:¬((4294967296:Int)<=(k:Int)+1):=o_
     have o:(4294967296*(r:Int)+u0<((k+1)*v0:Nat)):=o_
     have q:4294967296*r+u0<(k+1)*v0:=o_
     generalize (k+1)*v0=J at*;push_cast at g;simp[g,v,w,l,m,n,c,o,q,f]
    ·have c:((4294967296:Int)<=(k:Int)+1):=by omega
     simp[l,m,c,f]
   ·have f:¬(4294967296:Int)<=(r:Int)+b:=by omega
    rcases lc (k+1) 4294967296 with hc|hc
    ·have n:((k:Int)+1<4294967296):=by omega
     have c:¬((4294967296:Int)<=(k:Int)+1):=o_
     have o:(4294967296*(r:Int)+u0<((k+1)*v0:Nat)):=o_
     have q:4294967296*r+u0<(k+1)*v0:=o_
     generalize (k+1)*v0=J at*;push_cast at g;simp[g,v,w,l,m,n,c,o,q,f];exact rd (k,r+b) ⟨k5,j,show r+b<4294967296 by omega,kB⟩
    ·have c:((4294967296:Int)<=(k:Int)+1):=by omega
     simp[l,m,c,f];exact rd (k,r+b) ⟨k5,j,show r+b<4294967296 by omega,kB⟩
  ·have aD:¬4294967296<=x:=fun h=>i (.inl h);have U:¬4294967296*r+u0<x*v0:=fun h=>i (.inr h);have hq:=Fe d (show 0<wH by decide) k1 k2 (ob.1 U);rw[<-yT]at hq;subst hq;have S:¬(4294967296:Int)<=x:=by omega
   have V:¬(4294967296*(r:Int)+u0<(x*v0:Nat)):=o_
   generalize x*v0=J at*;simp[g,v,w,S,V]
 rintro⟨au,aB⟩ ⟨z,A,B,C,D,E,F,G,I⟩;dsimp only at z A B C D E F G I;subst I;simp[z,A,B,C,D,E,F,G,M2,ap,M]
def dW(j n:Nat)(g f:Nat->Nat)(k:Nat):Nat:=if j<=k/\k<j+n then f (k-j)else g k
theorem uH{j:Nat}{g f:Nat->Nat}:dW j 0 g f=g:=by
 funext k;rw[dW,if_neg o_]
theorem AD{m j i:Nat}{g f:Nat->Nat}{v:Nat}(a:f i=v):(cE m (dW j i g f)).set (j+i) (.p (.int .u64 v))=cE m (dW j (i+1) g f):=by
 refine qH ?_ fun k hk=>?_
 ·rw[dW,if_pos o_,mo,a]
 ·rw[dW,dW]
  by_cases h:j<=k/\k<j+i
  ·rw[if_pos h,if_pos o_]
  ·rw[if_neg h,if_neg o_]
theorem AE{m j i:Nat}{g f:Nat->Nat}(h:j+i<m):(cE m (dW j i g f))[j+i]?=some (.p (.int .u64 (g (j+i)))):=by
 rw[nK _ h,dW,if_neg o_]
theorem avJ{j n:Nat}{g f a:Nat->Nat}:dW j n (dW j n g f) a=dW j n g a:=by
 funext k;rw[dW,dW,dW];split<;>rfl
theorem aLd(X V m j n:Nat)(t:(aw wB V).length=n)(G:2<=n)(bv:j+n+1<=m)(bx:m<=1000002)(a2:X<V*wB^(j+1)):
 b8 prog 342 [.arr .exact 0 1 (cE m (ae wB X))] [.sl 0 0 1 j (n+1),.p (eN V)] [.arr .exact 0 1 (cE m (ae wB (X% (V*wB^j))))] (.p (.int .u64 (X/(V*wB^j):Nat))):=by
 refine dS nf (i_ func342) mix (by simp[f342]) ?_;have l:=cK bt V;have I:wB^(n-1)<=V:=by
  rcases lc V (wB^(n-1))with h|h
  ·have:=et bt (n-1) V h;omega
  ·exact h
 rw[t]at l;have U:∀i(h:i<(aw wB V).length),(aw wB V)[i]=ae wB V i:=fun i h=>eU bt h;have aM:0<V:=ED bt G I;obtain⟨W,w⟩:∃W,X/wB^j=W:=⟨_,rfl⟩
 have ag:W<V*wB:=by
  rw[<-w,j6 (kd (by decide)),kp,j5 wB,<-j9];exact a2
 have T:W<wB^(n+1):=ms ag (by rw[j9];exact ls l (by decide));have ak:∀i,i<n+1->(cE m (ae wB X))[j+i]?=some (.p (.int .u64 (ae wB W i))):=fun i hi=>by rw[nK _ o_,<-w,sK]
 have a4:X/(V*wB^j)=W/V:=by rw[Al.2,w]
 have aQ:∀f:Nat->Nat,(∀i,i<n+1->f i=ae wB (W% V) i)->cE m (dW j (n+1) (ae wB X) f)=cE m (ae wB (X% (V*wB^j))):=fun f hf=>D2 fun k hk=>by
  rw[Al.1,w,Nn bt,dW]
  by_cases u:k<j
  ·rw[if_neg o_,if_pos u]
  ·rw[if_neg u]
   by_cases H:k<j+(n+1)
   ·rw[if_pos o_,hf _ o_]
   ·have e1:ae wB X k=0:=by
     obtain⟨e,rfl⟩:∃e,k=j+e:=⟨k-j,o_⟩
     rw[<-sK,w];exact ka (j8 T (kb (by decide) o_))
    have e2:ae wB (W% V) (k-j)=0:=ka (j8 (kg (oS _ _) T) (kb (by decide) o_));rw[if_neg o_,e1,e2]
 rw[a4];simp only[eN];generalize aw wB V=x at*;have aJ:∀i,i<n->i<x.length:=fun i h=>by omega
 have e1:eb.wrap ((n:Int)-1)=((n-1:Nat):Int):=by rw[aK _ o_ o_];omega
 have e2:eb.wrap ((n:Int)-2)=((n-2:Nat):Int):=by rw[aK _ o_ o_];omega
 obtain⟨b,E⟩:∃b,b=n-1:=⟨_,rfl⟩
 obtain⟨d,an⟩:∃d,d=n-2:=⟨_,rfl⟩
 rw[<-E]at e1;rw[<-an]at e2;have F:=U b o_;have aT:=U d o_;have bl:b<x.length:=o_
 have bm:d<x.length:=o_
 have L:x[b]?=some (ae wB V b):=by rw[hJ bl,F]
 have bk:x[d]?=some (ae wB V d):=by rw[hJ bm,aT]
 have O:b<n:=o_
 have Y:d<n:=o_
 have R:b<n+1:=o_
 have Z:d<n+1:=o_
 have aE:=ak n o_;have aF:=ak b o_;have ad:=ak d o_;have a9:n=b+1:=o_
 have aI:W/wB^n=ae wB W n:=by
  rw[ae,j7];rw[j6 (kd (by decide)),j5,<-j9];exact T
 have ah:W/wB^b=ae wB W n*wB+ae wB W b:=by rw[uw,<-a9,aI]
 simp[f342,-bB,t];rw[bB];simp[-bB,t];rw[bB];simp[-bB,t];rw[bB];simp[-bB,t];rw[bB];simp[-bB,t];refine join (fun s=>∃q r o:Nat,q*ae wB V b+(r+o*wB)=W/wB^b/\W/V<=q/\q<wB/\r<wB/\o<=1/\aS s.env 0=.sl 0 0 1 j (n+1)/\aS s.env 1=.p (.seq (x.map fun x:Nat=>.int .u64 x))/\aS s.env 5=.p (.int .i64 n)/\aS s.env 6=.p (.int .u64 q)/\aS s.env 7=.p (.int .u64 r)/\aS s.env 8=.p (.int .u64 o)/\s.heap=[.arr .exact 0 1 (cE m (ae wB X))]) ?_ ?_
 ·by_cases hc:ae wB V b<=ae wB W n
  ·have ai:(ae wB V b:Int)<=ae wB W n:=by omega
   simp[e1,e2,F,L,O,R,aE,aF,ai,t,aa,aP,bO];refine e3 (sS (ae wB W b) (ae wB V b) 0 o_) ?_;simp;have aX:=cN bt W b;have aD:=cN bt V b;have aY:ae wB W n=ae wB V b:=by
    have:=(Ff bt o_ l ag).1;rw[aI,<-E]at this;omega
   refine⟨18446744073709551615,(ae wB W b+ae wB V b)% wB,(ae wB W b+ae wB V b)/wB,?_,?_,by decide,kk _ (by decide),?_,rfl,rfl,rfl⟩
   ·rw[ah,aY];simp only[wB];omega
   ·have:=(Ff bt o_ l ag).2;simp only[wB]at this;omega
   ·simp only[wB]at*;omega
  ·have ai:¬(ae wB V b:Int)<=ae wB W n:=by omega
   simp[e1,e2,F,L,O,R,aE,aF,ai,t,aa,aP,bO];refine e3 (QM (ae wB W n) (ae wB W b) (ae wB V b) o_ (cN bt _ _) (cN bt _ _)) ?_;simp;have aX:=cN bt W b;have aD:=cN bt V b;refine⟨(ae wB W n*wB+ae wB W b)/ae wB V b,(ae wB W n*wB+ae wB W b)% ae wB V b,0,?_,?_,?_,?_,o_,rfl,rfl,rfl⟩
   ·rw[ah,mp,mi,j5,ko]
   ·rw[<-ah,E];exact Qz bt G I l
   ·rw[j6 o_];have:=kh wB (show ae wB W n+1<=ae wB V b by omega);rw[kv,lt]at this;rw[j5 wB];omega
   ·exact ms (kk _ o_) aD
 rintro⟨aZ,a6⟩ ⟨q,r,o,k1,k2,k3,k4,k5,y,z,A,B,aq,ar,K⟩;dsimp only at y z A B aq ar K;subst K;simp[y,z,A,B,aq,ar];refine tP (fun s=>∃q:Nat,W/V<=q/\q<=W/V+1/\q<wB/\aS s.env 0=.sl 0 0 1 j (n+1)/\aS s.env 1=.p (.seq (x.map fun x:Nat=>.int .u64 x))/\aS s.env 5=.p (.int .i64 n)/\aS s.env 6=.p (.int .u64 q)/\s.heap=[.arr .exact 0 1 (cE m (ae wB X))]) ?_ ?_
 ·have bc:q*ae wB V b+(r+o*wB)=W/wB^b/\W/V<=q/\q<wB/\r<wB/\o<=1:=⟨k1,k2,k3,k4,k5⟩
  clear k1 k2 k3 k4 k5;refine lp (α:=Nat×Nat×Nat) (fun a=>⟨[(8,.p (.int .u64 a.2.2)),(7,.p (.int .u64 a.2.1)),(6,.p (.int .u64 a.1)),(5,.p (.int .i64 n)),(1,.p (.seq (x.map fun x:Nat=>.int .u64 x))),(0,.sl 0 0 1 j (n+1))],[.arr .exact 0 1 (cE m (ae wB X))]⟩)
   (fun a=>a.1*ae wB V b+(a.2.1+a.2.2*wB)=W/wB^b/\W/V<=a.1/\a.1<wB/\a.2.1<wB/\a.2.2<=1) (fun a=>a.1) (q,r,o) bc ?_ (he:=by simp[y,z,A,B,aq,ar])
  rintro⟨q,r,o⟩ ⟨k1,k2,k3,k4,k5⟩;dsimp only at k1 k2 k3 k4 k5
  by_cases ba:o=0
  ·subst ba;rw[mp,mi]at k1;have S:=A5 q (ae wB V d) k3 (cN bt _ _);rw[show(18446744073709551616:Nat)=wB from rfl]at S;have bq:=ko (q*ae wB V d) wB;have br:q*ae wB V d% wB<wB:=kk _ (by decide);have aH:=fun h=>GA bt G I l (by rw[<-E];exact k1) k3 (by rw[<-an];exact h);have aG:=fun h=>RZ (q:=q) (r:=r) bt G I l (by rw[<-E];exact k1) (by rw[<-an];exact h);have bs:=cN bt W d;generalize q*ae wB V d% wB=lo at*;generalize q*ae wB V d/wB=hi at*;generalize q*ae wB V d=P at*;have v:=sS r (ae wB V b) 0 o_;simp[e1,e2,F,L,aT,bk,O,R,Y,Z,t];refine c2 S ?_;rcases Nat.lt_trichotomy hi r with h|h|h
   ·have hI:(hi:Int)<r:=by omega
    simp[hI];refine⟨q,k2,aH (by
     have:=km wB (show hi+1<=r by omega);rw[lu,m5,j5 wB r]at this;omega),k3,rfl⟩
   ·subst h
    by_cases hl:lo<=ae wB W d
    ·have hI:(lo:Int)<=ae wB W d:=by omega
     simp[hI,e2,ad,Y,Z];exact⟨q,k2,aH (by rw[j5 hi];omega),k3,rfl⟩
    ·have hI:¬(lo:Int)<=ae wB W d:=by omega
     have J:=aG (by rw[j5 hi];omega);have bd:0<q:=kg (m3 _) J;obtain⟨k,rfl⟩:∃k,q=k+1:=⟨q-1,o_⟩
     have ap:ea.wrap (k:Int)=k:=fx _ o_ o_;simp[hI,e1,e2,ad,O,R,Y,Z,F,L,ap,aa,aP,bO];refine c3 v ?_;simp;have ax:=la (hi+ae wB V b) wB;have ay:k*ae wB V b+((hi+ae wB V b)% wB+(hi+ae wB V b)/wB*wB)=W/wB^b:=by
      rw[j5 _ wB,ax,<-k1,kv,lt,nz,lm hi]
     have aA:=cN bt V b;have aB:(hi+ae wB V b)/wB<=1:=by
      have aC:=k4;simp only[wB]at aA aC⊢;omega
     exact rd (k,(hi+ae wB V b)% wB,(hi+ae wB V b)/wB) ⟨ay,ov.1 J,oe k3,kk _ (by decide),aB⟩
   ·have hI:¬(hi:Int)<r:=by omega
    have a1:¬(hi:Int)=r:=o_
    have a3:=km wB (show r+1<=hi by omega);rw[lu,m5,j5 wB r]at a3;have J:=aG o_;have bd:0<q:=kg (m3 _) J;obtain⟨k,rfl⟩:∃k,q=k+1:=⟨q-1,o_⟩
    have ap:ea.wrap (k:Int)=k:=fx _ o_ o_;simp[hI,a1,e1,e2,ad,O,R,Y,Z,F,L,ap,aa,aP,bO];refine c3 v ?_;simp;have ax:=la (r+ae wB V b) wB;have ay:k*ae wB V b+((r+ae wB V b)% wB+(r+ae wB V b)/wB*wB)=W/wB^b:=by
     rw[j5 _ wB,ax,<-k1,kv,lt,nz,lm r]
    have aA:=cN bt V b;have aB:(r+ae wB V b)/wB<=1:=by
     have aC:=k4;simp only[wB]at aA aC⊢;omega
    exact rd (k,(r+ae wB V b)% wB,(r+ae wB V b)/wB) ⟨ay,ov.1 J,oe k3,kk _ (by decide),aB⟩
  ·have bb:o=1:=by omega
   subst bb;simp;exact⟨q,k2,GA bt G I l (by rw[<-E];exact k1) k3 (Qy bt o_ k3),k3,rfl⟩
 rintro⟨aZ,a6⟩ ⟨q,k2,k3,k4,y,z,A,B,K⟩;dsimp only at y z A B K;subst K;have be:q*V<wB^(n+1):=Y6 k4 l;have aN:q*V<=W+wB^(n+1):=o_
 obtain⟨D,af⟩:∃D,D=W+wB^(n+1)-q*V:=⟨_,rfl⟩
 have aR:∀i,i<n+1->az prog 291 [.int .u64 (ae wB W i),.int .u64 (ae wB (q*V) i),.int .u64 (fA wB (W+wB^(n+1)) (q*V) i)] (.aD [.int .u64 (ae wB D i),.int .u64 (fA wB (W+wB^(n+1)) (q*V) (i+1))]):=fun i hi=>by
  have h:=RJ aN i;rw[<-af,xL hi]at h;exact h
 have bg:∀i,(q*ae wB V i% wB+jk wB V q i+0)% wB=ae wB (q*V) i/\ea.wrap (((q*ae wB V i/wB:Nat):Int)+((q*ae wB V i% wB+jk wB V q i+0)/wB:Nat))=(jk wB V q (i+1):Nat):=fun i=>by
  obtain⟨u,H⟩:=avd (q:=q) (V:=V) bt i;have a0:=aQb (V:=V) bt k4 (i+1);rw[<-u,<-H];rw[<-H]at a0;generalize q*ae wB V i=P at*;generalize jk wB V q i=c at*;have e:P/wB+(P% wB+c+0)/wB=(P+c)/wB:=by simp only[wB];omega
  refine⟨by simp only[wB];omega,?_⟩;rw[fx _ o_ o_];omega
 have a5:=YJ (V:=V) (q:=q) T be;have bf:=avf bt k4 l;have bw:(cE m (ae wB X)).length=m:=PS _ _;simp[y,z,A,B];refine lp (α:=Nat) (fun i=>⟨[(105,.p (.int .i64 i)),(104,.p (.int .i64 n)),(12,.p (.int .u64 (jk wB V q i:Nat))),(11,.p (.int .u64 (fA wB (W+wB^(n+1)) (q*V) i:Nat))),(6,.p (.int .u64 q)),(5,.p (.int .i64 n)),(1,.p (.seq (x.map fun x:Nat=>.int .u64 x))),(0,.sl 0 0 1 j (n+1))],[.arr .exact 0 1 (cE m (dW j i (ae wB X) (ae wB D)))]⟩)
  (fun i=>i<=n) (fun i=>n-i) 0 s_ ?_ (hn:=by simp[uH]) (he:=by simp[y,z,A,B,ase,DT]) (hh:=by simp[uH])
 intro i k5;have bi:=bS (i:=i) o_
 by_cases hi:i<n
 ·have N:i<x.length:=aJ i hi;have M:=U i N;have ao:x[i]?=some (ae wB V i):=by rw[hJ N,M]
  have S:=A5 q (ae wB V i) k4 (cN bt _ _);rw[show(18446744073709551616:Nat)=wB from rfl]at S;have v:=sS (q*ae wB V i% wB) (jk wB V q i) 0 o_;obtain⟨bn,bo⟩:=bg i;have ab:=aR i o_;rw[bn]at v;generalize q*ae wB V i% wB=lo at*;generalize q*ae wB V i/wB=bu at*;generalize (lo+jk wB V q i+0)/wB=c' at*;have al:i<n+1:=o_
  have C:(cE m (dW j i (ae wB X) (ae wB D)))[j+i]?=some (.p (.int .u64 (ae wB W i))):=by rw[AE o_,<-w,sK]
  have ac:=AD (m:=m) (j:=j) (i:=i) (g:=ae wB X) (f:=ae wB D) rfl;simp[t,hi,M,ao];refine c2 S ?_;simp;refine c3 v ?_;simp[bo,al,C];refine c3 ab ?_;simp[al,C,ac,bi,aa,aP,bO];exact rd (i+1) (show i+1<=n by omega)
 have a7:i=n:=o_
 subst a7;have C:(cE m (dW j i (ae wB X) (ae wB D)))[j+i]?=some (.p (.int .u64 (ae wB W i))):=by rw[AE o_,<-w,sK]
 have ac:=AD (m:=m) (j:=j) (i:=i) (g:=ae wB X) (f:=ae wB D) rfl;have ab:=aR i o_;rw[<-bf]at ab;simp[C];refine c3 ab ?_;rw[a5]
 by_cases aO:q*V<=W
 ·obtain⟨aV,au⟩:=aP1 aO k3 aM k2;have aj:=aQ (ae wB D) fun k hk=>by rw[af,<-au];exact aP0 aO hk
  have av:(q:Int)=(W:Int)/V:=by rw[aV];rfl
  have am:(if W<q*V then 1 else 0:Nat)=0:=if_neg o_;rw[am];simp[C,ac,aj,<-av,aa,aP,bO]
 ·obtain⟨aV,au⟩:=avj o_ k3 aM k2;have aW:=au (wB^(i+1)) aN;rw[<-af]at aW;have aj:=aQ (ae wB (D+V)) fun k hk=>by rw[aW,xL hk]
  have am:(if W<q*V then 1 else 0:Nat)=1:=if_pos o_;have av:ea.wrap ((q:Int)-1)=(W:Int)/V:=by
   have e:((W/V:Nat):Int)=(W:Int)/V:=rfl;rw[<-e];generalize W/V=Q at*;rw[fx _ o_ o_];omega
  rw[am];simp[C,ac,aa,aP,bO];refine lp (α:=Nat) (fun k=>⟨[(157,.p (.int .i64 k)),(156,.p (.int .i64 i)),(17,.p (.int .u64 (dD wB D V k:Nat))),(6,.p (.int .u64 q)),(5,.p (.int .i64 i)),(1,.p (.seq (x.map fun x:Nat=>.int .u64 x))),(0,.sl 0 0 1 j (i+1))],[.arr .exact 0 1 (cE m (dW j k (dW j (i+1) (ae wB X) (ae wB D)) (ae wB (D+V))))]⟩)
   (fun k=>k<=i) (fun k=>i-k) 0 s_ ?_ (hn:=by simp[uH]) (he:=by simp[Ad]) (hh:=by simp[uH])
  intro k k6;have bj:=bS (i:=k) o_;have gk:(cE m (dW j k (dW j (i+1) (ae wB X) (ae wB D)) (ae wB (D+V))))[j+k]?=some (.p (.int .u64 (ae wB D k))):=by rw[AE o_,dW,if_pos o_,mo]
  have aU:=AD (m:=m) (j:=j) (i:=k) (g:=dW j (i+1) (ae wB X) (ae wB D)) (f:=ae wB (D+V)) rfl;obtain⟨u,H⟩:=sr bt D V k
  by_cases hk:k<i
  ·have N:k<x.length:=aJ k hk;have M:=U k N;have ao:x[k]?=some (ae wB V k):=by rw[hJ N,M]
   have v:=sS (ae wB D k) (ae wB V k) (dD wB D V k) (mM bt _ _ _);rw[u,H]at v;have aL:k<i+1:=o_
   simp[t,hk,aL,M,ao,gk,aa,aP,bO];refine e3 v ?_;simp[aL,gk,aU,bj,aa,aP,bO];refine⟨⟨by rfl,by rfl,by rfl⟩,?_⟩;exact rd (k+1) (show k+1<=i by omega)
  have a8:k=i:=o_
  subst a8;have bh:ae wB V k=0:=ka l;rw[bh,mi]at u;have bp:ea.wrap ((ae wB D k:Int)+(dD wB D V k:Nat))=(ae wB (D+V) k:Nat):=by rw[<-hz,A0,u]
  simp[gk,aU,bp,av,aj,avJ,aa,aP,bO]
theorem avG{a b i:Nat}(c:0<b):(a/wB^(i+1)% b*wB+ae wB a i)/b=ae wB (a/b) i/\(a/wB^(i+1)% b*wB+ae wB a i)% b=a/wB^i% b:=by
 have e:=uw (B:=wB) a i;have g:=ko (a/wB^(i+1)) b;have f:a/wB^i=(a/wB^(i+1)% b*wB+ae wB a i)+a/wB^(i+1)/b*wB*b:=by
  rw[e];generalize ae wB a i=d;generalize a/wB^(i+1)/b=Q at*;generalize a/wB^(i+1)% b=R at*;rw[<-g,kv,j5 b,lw Q b wB];omega
 have j:(a/wB^(i+1)% b*wB+ae wB a i)/b<wB:=by
  rw[j6 c];have k:=cN bt a i;have h:=kh wB (show a/wB^(i+1)% b+1<=b from kk _ c);rw[kv,lt]at h;rw[j5 wB];omega
 constructor
 ·conv=>rhs;rw[ae,kc,j5 b,<-kc,f,lv _ _ c,li,j7 j]
 ·rw[f,li]
def qF(Q i k:Nat):Nat:=if i<=k then ae wB Q k else 0
theorem QV{m Q i:Nat}:(cE m (qF Q (i+1))).set i (.p (.int .u64 (ae wB Q i)))=cE m (qF Q i):=by
 refine qH ?_ fun k hk=>?_
 ·rw[qF,if_pos (kC _)]
 ·rw[qF,qF]
  by_cases h:i<=k
  ·rw[if_pos h,if_pos o_]
  ·rw[if_neg h,if_neg o_]
theorem Qa{m Q:Nat}:cE m (qF Q 0)=cE m (ae wB Q):=Ec fun k=>by rw[qF,if_pos (m3 _)]
theorem Qb{m Q:Nat}:hW m (AV.p (.int .u64 0))=cE m (qF Q m):=by
 rw[ET (f:=fun _=>0) (fun _=>rfl)];exact D2 fun k hk=>by rw[qF,if_neg o_]
theorem Fu{m N:Nat}(h:N<wB^m)(b:m<=1048576):∃l:List Nat,l.length=m/\cE m (ae wB N)=l.map (AV.p∘fun x:Nat=>PV.int .u64 x)/\az prog 290 [.seq (eW l)] (eN N):=by
 refine⟨(hG m).map (ae wB N),s_,EU m _,?_⟩;have a:=u7 ((hG m).map (ae wB N)) (by simp;omega);rw[show eM ((hG m).map (ae wB N))=aw wB N from kf bt h]at a;exact a
theorem qK{a b:Nat}:gf a b<0↔a<b:=by
 rw[gf];split
 ·simp[*]
 ·split<;>simp[*]
theorem Zv(r:Nat):((r:Int)% 2^ea.bits).toNat=r% 2^ea.bits:=by
 rw[show ea.bits=64 from rfl];omega
theorem aKI{b d n a s V:Nat}(g:b/wB^a=d)(h:n=a+1)(hs:s<64)(o:wB<=2*(d*2^s))(i:d*2^s<wB)(f:V=b*2^s):V<wB^n/\wB^n<=2*V:=by
 have m:0<wB^a:=kd (by decide);have j:0<2^s:=kd (by decide);have k:b<(d+1)*wB^a:=by
  rw[<-g,kv,lt];exact m9 m
 have l:(d+1)*2^s<=wB:=by
  have c:=Bo hs;have e:d<2^(64-s):=by
   rw[<-c,j5 d]at i;exact Nat.lt_of_mul_lt_mul_left i
  rw[<-c,j5];exact km _ e
 constructor
 ·rw[f,h,j9,j5 _ wB];refine j8 (ls k j) ?_;rw[lw];exact kh _ l
 ·rw[f,h,j9,j5 _ wB];refine l3 (kh _ o) ?_;have c:d*wB^a<=b:=by rw[<-g];exact lq _ _
  have e:=kh (2^s) c;rw[kp 2,lw d];exact km _ e
theorem av8{a n b s V:Nat}(f:a<wB^b)(hs:s<64)(e:wB^n<=2*V)(i:n<=b):a*2^s<V*wB^(b-n+1):=by
 have d:2*2^s<=wB:=by
  have c:2^(s+1)<=2^64:=kb (by decide) hs;rw[j9,j5]at c;exact c
 have g:=kh (wB^(b-n+1)) e;rw[<-kA,show n+(b-n+1)=b+1 by omega,j9,kp]at g;have c:=km a d;have h:=ls f (show 0<wB by decide);rw[na]at c;generalize wB^b*wB=j at*;generalize V*wB^(b-n+1)=z2 at*;generalize a*2^s=z3 at*;generalize a*wB=z4 at*;clear d e f;omega
theorem aKJ{a b n d c:Nat}(h:a<wB^c)(f:0<b)(i:n=d+1)(g:wB^d<=b)(j:n<=c):a/b<wB^(c-n+1):=by
 rw[j6 f];refine j8 h ?_;have e:=km (wB^(c-n+1)) g;rw[<-kA,show c-n+1+d=c by omega]at e;exact e
theorem av9{a b s k:Nat}(c:0<2^s):a*2^s% (b*2^s*wB^(k+1))/(b*2^s*wB^k)=ae wB (a/b) k:=by
 rw[j9,<-kp,mj,<-kc,m1 _ _ c,ae]
theorem PT{n N:Nat}{f g:Nat->Nat}(a:n<=N)(h:∀k,k<n->f k=g k):((hG N).map f).take n=(hG n).map g:=by
 rw[<-h9,List.take_range,np a];exact hS fun k hk=>h k (h8.1 hk)
theorem EM(a b:Nat)(A:0<b)(bf:(aw wB a).length<=1000000)(bM:(aw wB b).length<=1000000):az prog 286 [eN a,eN b] (.aD [eN (a/b),eN (a% b)]):=by
 refine aJ nf (i_ func286) mix (by simp[f286]) ?_;have bi:=Lu a b o_ o_;simp[f286];refine c2 bi ?_
 by_cases I:a<b
 ·have G:=qK.2 I;simp[G,kw I,j7 I,eN,aw,oh]
 have G:¬gf a b<0:=fun h=>I (qK.1 h);have bl:∀i(h:i<(aw wB a).length),(aw wB a)[i]=ae wB a i:=fun i h=>eU bt h;have W:∀i(h:i<(aw wB b).length),(aw wB b)[i]=ae wB b i:=fun i h=>eU bt h;have B:=cK bt a;have q:=cK bt b
 by_cases K:(aw wB b).length=1
 ·rw[K,l2]at q;have Y:((aw wB b).length:Int)=1:=by omega
  obtain⟨l,C,L,z⟩:=Fu (m:=(aw wB a).length) (N:=a/b) (kg (lz _ _) B) o_;have ax:=u7 [a% b] s_;have bk:eM [a% b]=aw wB (a% b):=by
   have M:a% b<wB:=ms (kk _ A) q;have:=kf bt (m:=1) (n:=a% b) (by rw[l2];exact M);rw[<-this,row,j1,hL,j2,ae,kN,l0,j7 M]
  rw[bk]at ax;have bg:(aw wB b)[0]?=some b:=by
   rw[hJ o_,W 0 o_,ae,kN,l0,j7 q]
  have bh:∀h:0<(aw wB b).length,(aw wB b)[0]'h=b:=fun h=>by rw[W 0 h,ae,kN,l0,j7 q]
  have aG:a/wB^(aw wB a).length% b=0:=by rw[kw B,n1]
  simp only[eN]at z⊢;generalize aw wB (a/b)=bF at*;generalize aw wB (a% b)=aX at*;generalize aw wB a=x at*;generalize aw wB b=y at*;obtain⟨n,w⟩:∃n,x.length=n:=⟨_,rfl⟩
  rw[w]at C L aG bf;have e1:eb.wrap ((n:Int)-1)=n-1:=aK _ o_ o_;simp[G,K,Y,w,e1];refine⟨by simp only[cJ];omega,?_⟩;rw[Qb (Q:=a/b)];refine lp (α:=Nat) (fun i=>⟨[(8,.p (.int .i64 ((i:Int)-1))),(7,.p (.int .u64 (a/wB^i% b:Nat))),(6,.sl 0 0 1 0 n),(1,.p (.seq (y.map fun x:Nat=>.int .u64 x))),(0,.p (.seq (x.map fun x:Nat=>.int .u64 x)))],[.arr .exact 0 1 (cE n (qF (a/b) i))]⟩)
   (fun i=>i<=n) (fun i=>i) n (kC _) ?_ (he:=by simp[aG])
  intro i k1
  by_cases hi:0<i
  ·obtain⟨k,rfl⟩:∃k,i=k+1:=⟨i-1,o_⟩
   have e2:eb.wrap ((k:Int)-1)=k-1:=aK _ o_ o_;have aV:k<x.length:=o_
   have hx:=bl k aV;have af:x[k]?=some (ae wB a k):=by rw[hJ aV,hx]
   have av:=QM (a/wB^(k+1)% b) (ae wB a k) b (kk _ A) q (cN bt _ _);obtain⟨r,ah⟩:=avG (a:=a) (i:=k) A;rw[r,ah]at av;have aN:=QV (m:=n) (Q:=a/b) (i:=k);have gk:=nK (n:=n) (qF (a/b) (k+1)) (show k<n by omega);have aI:k<n:=o_
   generalize a/wB^(k+1)% b=bG at*;simp[w,e2,hx,af,bg,bh,K,aI,aa,aP,bO];refine e3 av ?_;simp[aN,gk,e2,aI,aa,aP,bO];refine⟨by rfl,?_⟩;exact rd k (show k<=n by omega)
  ·obtain rfl:i=0:=by omega
   simp[Qa,L];refine cp z (by simp[C];exact⟨rfl,rfl⟩) ?_ (h1:=by simp[eW,hK,C]);simp;refine cp ax (by simp;exact⟨rfl,rfl⟩) ?_ (h1:=by simp[eW]);simp;exact bI.refl _
 have bQ:2<=(aw wB b).length:=by
  rcases lc (aw wB b).length 1 with h|h
  ·have e:(aw wB b).length=0:=by omega
   rw[e,kN]at q;omega
  ·omega
 have Y:¬((aw wB b).length:Int)=1:=o_
 obtain⟨n,w⟩:∃n,(aw wB b).length=n:=⟨_,rfl⟩
 obtain⟨c,Z⟩:∃c,(aw wB a).length=c:=⟨_,rfl⟩
 obtain⟨o,ab⟩:∃o,n=o+1:=⟨n-1,o_⟩
 have aE:wB^o<=b:=by
  rcases lc b (wB^o)with h|h
  ·have:=et bt o b h;omega
  ·exact h
 obtain⟨d,J⟩:∃d,d=ae wB b o:=⟨_,rfl⟩
 have aF:d<wB:=by rw[J];exact cN bt _ _
 have aD:b/wB^o=d:=by
  rw[J,ae,j7];rw[j6 (kd (by decide)),j5,<-j9,show o.succ=n from ab.symm,<-w];exact q
 have bj:0<d:=by rw[<-aD];exact nl aE (kd (by decide))
 obtain⟨s,hs,bL,bw,bx⟩:=O4 bj aF;have aO:=RM d aF;obtain⟨V,E⟩:∃V,V=b*2^s:=⟨_,rfl⟩
 have D:0<2^s:=kd (by decide);have bd:b<=V:=by rw[E];exact n0 _ D
 have bc:0<V:=j8 A bd;obtain⟨aB,be⟩:=aKI aD ab hs bw bx E;have aA:(aw wB V).length=n:=by
  have u:=et bt n V aB;rcases lc (aw wB V).length n with h|h
  ·have ar:=j8 (cK bt V) (kb (show 0<wB by decide) (show(aw wB V).length<=o by omega));omega
  ·omega
 have z:=Fu (m:=n+1) (N:=V) (j8 aB (kb (by decide) o_)) o_;obtain⟨l,C,L,z⟩:=z;have ad:=NZ b s hs o_;have ac:=NZ a s hs o_;have ag:o<(aw wB b).length:=o_
 have hx:=W o ag;have af:(aw wB b)[o]?=some d:=by rw[hJ ag,hx,J]
 rw[w,<-E]at ad;rw[Z]at ac;have aR:n<=c:=by
  rcases lc c n with h|h
  ·have:=j8 B (kb (show 0<wB by decide) (show(aw wB a).length<=o by omega));omega
  ·exact h
 rw[Z]at B;have a5:=av8 (n:=n) B hs be aR;have a7:=aKJ (n:=n) B A ab aE aR;have a8:a% b<wB^n:=ms (kk _ A) (by rw[w]at q;exact q);have bA:eM ((hG n).map (ae wB (a% b)))=aw wB (a% b):=kf bt a8;have iM:∀X j,j+n+1<=c+1->X<V*wB^(j+1)->_:=fun X j u ar=>aLd X V (c+1) j n aA o_ u o_ ar;simp only[eN]at z⊢ac ad iM;generalize aw wB V=bE at*;generalize bB:aw wB (a/b)=bF at*;generalize bR:aw wB (a% b)=aX at*;generalize aw wB a=x at*;generalize aw wB b=y at*;have e1:eb.wrap ((n:Int)-1)=o:=by rw[aK _ o_ o_];omega
 have bv:(64:Int)-(ed d:Nat)=s:=o_
 rw[bv]at aO;rw[<-J]at hx;have bo:¬(n:Int)=1:=o_
 have bp:¬n=1:=o_
 simp[G,K,Y,bo,bp,w,e1,hx,af,ag,aa,aP,bO];refine c1 aO ?_;simp;refine Gq ad ?_;simp[L];refine cp z (by simp[C];exact⟨rfl,rfl⟩) ?_ (h1:=by simp[eW,hK,C]);simp;refine Gq ac ?_;obtain⟨m,aQ⟩:∃m,m=c-n:=⟨_,rfl⟩
 have e2:eb.wrap ((c:Int)-n)=m:=by rw[aK _ o_ o_];omega
 have e3:eb.wrap ((m:Int)+1)=m+1:=bS o_;simp[aA,Z,e2,e3];refine⟨⟨o_,by simp only[cJ];omega⟩,?_⟩;have au:a*2^s% (V*wB^(m+1))=a*2^s:=j7 (by rw[aQ];exact a5);rw[Qb (Q:=a/b)];refine tP (fun s'=>aS s'.env 9=.p (.int .i64 s)/\aS s'.env 11=.sl 1 0 1 0 (c+1)/\aS s'.env 12=.p (.int .i64 n)/\aS s'.env 13=.sl 2 0 1 0 (m+1)/\s'.heap=[.arr .frozen 0 1 (l.map (AV.p∘fun x:Nat=>PV.int .u64 x)),.arr .exact 0 1 (cE (c+1) (ae wB (a% b*2^s))),.arr .exact 0 1 (cE (m+1) (ae wB (a/b)))]) ?_ ?_
 ·refine lp (α:=Nat) (fun j=>⟨[(14,.p (.int .i64 ((j:Int)-1))),(13,.sl 2 0 1 0 (m+1)),(12,.p (.int .i64 n)),(11,.sl 1 0 1 0 (c+1)),(10,.p (.seq (bE.map fun x:Nat=>.int .u64 x))),(9,.p (.int .i64 s))],[.arr .frozen 0 1 (l.map (AV.p∘fun x:Nat=>PV.int .u64 x)),.arr .exact 0 1 (cE (c+1) (ae wB (a*2^s% (V*wB^j)))),.arr .exact 0 1 (cE (m+1) (qF (a/b) j))]⟩)
   (fun j=>j<=m+1) (fun j=>j) (m+1) (kC _) ?_ (hn:=by simp[au]) (hh:=by simp[au])
  intro j k1
  by_cases bP:0<j
  ·obtain⟨k,rfl⟩:∃k,j=k+1:=⟨j-1,o_⟩
   have e4:eb.wrap ((k:Int)-1)=k-1:=aK _ o_ o_;have e5:eb.wrap ((k:Int)+n)=k+n:=aK _ o_ o_;have a0:eb.wrap ((k:Int)+n+1)=k+n+1:=aK _ o_ o_;have aN:=iM (a*2^s% (V*wB^(k+1))) k o_ (kk _ (m4 bc (kd (by decide))));have hq:a*2^s% (V*wB^(k+1))/(V*wB^k)=ae wB (a/b) k:=by
    rw[E];exact av9 D
   have M:a*2^s% (V*wB^(k+1))% (V*wB^k)=a*2^s% (V*wB^k):=by
    rw[j9,<-kp,l4]
   rw[hq,M]at aN;generalize a*2^s% (V*wB^(k+1))=X at*;generalize aC:a*2^s% (V*wB^k)=bH at*;have a4:((k:Int)+n+1).toNat=k+n+1:=o_
   have f2:(0:Int)<=(k:Int)+n+1:=o_
   have f3:(k:Int)+n+1<=(c:Int)+1:=o_
   have f4:k<=k+n+1:=o_
   have f5:¬k=k+n+1:=o_
   have f6:k+n+1-k=n+1:=o_
   have f7:k<m+1:=o_
   have gk:=nK (n:=m+1) (qF (a/b) (k+1)) f7;have bD:=QV (m:=m+1) (Q:=a/b) (i:=k);simp[e4,e5,a0,PS,a4,f2,f3,f4,f5,f6];rw[show(if k=0 then({v:=.sl 1 0 1 0 (k+n+1),al:=[(1,.arr .exact 0 1 (cE (c+1) (ae wB X)))]}:aZ)else{v:=.sl 1 0 1 k (n+1),al:=[(1,.arr .exact 0 1 (cE (c+1) (ae wB X)))]})={v:=.sl 1 0 1 k (n+1),al:=[(1,.arr .exact 0 1 (cE (c+1) (ae wB X)))]}by split<;>simp[*]];simp;refine⟨o_,?_⟩;refine cf aN [1] ?_;simp[gk,bD,e4,f7,aa,aP,bO];exact rd k (show k<=m+1 by omega) (hn:=by simp[aC]) (hh:=by simp[aC])
  ·obtain rfl:j=0:=by omega
   have a6:a*2^s% V=a% b*2^s:=by rw[E,oa]
   simp[Qa,a6]
 rintro⟨bJ,bN⟩ ⟨ai,aj,ak,am,aT⟩;dsimp only at ai aj ak am aT;subst aT;obtain⟨R,H⟩:∃R,R=a% b*2^s:=⟨_,rfl⟩
 rw[<-H];simp[ai,aj,ak,am];refine lp (α:=Nat) (fun i=>⟨[(97,.p (.int .i64 i)),(96,.p (.int .i64 n)),(13,.sl 2 0 1 0 (m+1)),(12,.p (.int .i64 n)),(11,.sl 1 0 1 0 (c+1)),(9,.p (.int .i64 s))],[.arr .frozen 0 1 (l.map (AV.p∘fun x:Nat=>PV.int .u64 x)),.arr .exact 0 1 (cE (c+1) (dW 0 i (ae wB R) (ae wB (a% b)))),.arr .exact 0 1 (cE (m+1) (ae wB (a/b)))]⟩)
  (fun i=>i<=n) (fun i=>n-i) 0 (m3 _) ?_ (hn:=by simp[uH]) (he:=by simp[ai,aj,ak,am]) (hh:=by simp[uH])
 intro i k1;have O:=bS (i:=i) o_
 by_cases hi:i<n
 ·have F:i<c+1:=by omega
  have aH:i+1<c+1:=o_
  have ap:(cE (c+1) (dW 0 i (ae wB R) (ae wB (a% b))))[i]?=some (.p (.int .u64 (ae wB R i))):=by
   have:=AE (m:=c+1) (j:=0) (i:=i) (g:=ae wB R) (f:=ae wB (a% b)) o_
   rwa [l1]at this
  have an:=vX (ae wB R i) s o_;have bn:i<c:=o_
  by_cases aq:0<s
  ·obtain⟨t,bz⟩:∃t,t=64-s:=⟨_,rfl⟩
   have a2:eb.wrap (64-(s:Int))=(t:Int):=by rw[aK _ o_ o_];omega
   have a3:=zb (ae wB R (i+1)) t o_;have aN:=Bo hs;rw[<-bz]at aN;have ba:0<2^t:=kd (by decide);have bu:ae wB R i/2^s<2^t:=by rw[j6 D,j5,aN];exact cN bt _ _
   have aU:ae wB R (i+1)*2^t% wB=ae wB R (i+1)% 2^s*2^t:=by rw[<-aN,oa]
   have bs:ae wB R i/2^s|||(ae wB R (i+1)*2^t% wB)=ae wB (a% b) i:=by
    have u:=aQl D ba R i;rw[aN,H,Nat.mul_div_cancel _ D,<-H]at u;rw[oz,aU,FM bu,<-aU,u,lm]
   have T:=G3 (ae wB R i/2^s) (ae wB R (i+1)*2^t% wB) (kg (lz _ _) (cN bt _ _)) (kk _ (by decide));rw[bs]at T;generalize ae wB R i/2^s=r at*;generalize ae wB R (i+1)*2^t% wB=ah at*;have aY:ea.wrap ((r% 2^ea.bits|||((ah:Int)% 2^ea.bits).toNat:Nat):Int)=(ae wB (a% b) i:Nat):=by
    rw[Zv];exact T
   have S:=qH (n:=c+1) (i:=i) (v:=r) (f:=dW 0 i (ae wB R) (ae wB (a% b))) (g:=fun k=>if k=i then r else dW 0 i (ae wB R) (ae wB (a% b)) k) (if_pos rfl) (fun k hk=>if_neg hk);have U:=nK (n:=c+1) (fun k=>if k=i then r else dW 0 i (ae wB R) (ae wB (a% b)) k) F;have ao:=nK (n:=c+1) (fun k=>if k=i then r else dW 0 i (ae wB R) (ae wB (a% b)) k) aH;rw[if_pos rfl]at U;rw[if_neg o_,dW,if_neg o_]at ao;have bC:=qH (n:=c+1) (i:=i) (v:=ae wB (a% b) i) (f:=fun k=>if k=i then r else dW 0 i (ae wB R) (ae wB (a% b)) k) (g:=dW 0 (i+1) (ae wB R) (ae wB (a% b))) (by rw[dW,if_pos o_,n2]) (fun k hk=>by
    rw[if_neg hk,dW,dW]
    by_cases h:k<i
    ·rw[if_pos o_,if_pos o_]
    ·rw[if_neg o_,if_neg o_])
   generalize (fun k=>if k=i then r else dW 0 i (ae wB R) (ae wB (a% b)) k)=bK at*;simp[hi,F,ap,an,aq,O,S,aa,aP,bO];simp[F,aH,bn,a2,O,U,ao,aa,aP,bO];simp[a3,T,aY,F,O,bC,U,aa,aP,bO];refine⟨o_,⟨by rfl,by rfl,by rfl,by rfl,by rfl⟩,?_⟩;exact rd (i+1) (show i+1<=n by omega)
  ·have aW:s=0:=by omega
   have a9:ae wB R i=ae wB (a% b) i:=by rw[H,aW,kN,m5]
   have S:=AD (m:=c+1) (j:=0) (i:=i) (g:=ae wB R) (f:=ae wB (a% b)) (v:=ae wB R i) a9.symm;rw[l1]at S;have a1:(ae wB R i:Int).fdiv (2^(min s ea.bits))=(ae wB R i:Nat):=by rw[an,aW,kN,l0]
   simp[hi,F,ap,aq,O,S,a1,aa,aP,bO];exact rd (i+1) (show i+1<=n by omega)
 obtain rfl:i=n:=o_
 obtain⟨bT,aL,bq,ay⟩:=Fu (m:=m+1) (N:=a/b) (by rw[aQ];exact a7) o_;obtain⟨P,aM,br,bb⟩:∃P:List Nat,P.length=c+1/\cE (c+1) (dW 0 i (ae wB R) (ae wB (a% b)))=P.map (AV.p∘fun x:Nat=>PV.int .u64 x)/\az prog 290 [.seq (eW (P.take i))] (.seq (aX.map fun x:Nat=>.int .u64 x)):=by
  refine⟨(hG (c+1)).map (dW 0 i (ae wB R) (ae wB (a% b))),s_,EU _ _,?_⟩;have e:((hG (c+1)).map (dW 0 i (ae wB R) (ae wB (a% b)))).take i=(hG i).map (ae wB (a% b)):=by
   exact PT o_ fun k hk=>by rw[dW,if_pos o_,n2]
  rw[e];have u:=u7 ((hG i).map (ae wB (a% b))) (by simp;omega);rw[bA]at u;exact u
 simp only[eN,bB]at ay;simp[bq,br];refine ep ay (by simp[aL];exact⟨rfl,rfl⟩) (by simp;exact⟨rfl,rfl⟩) ?_ (h1:=by simp[eW,hK,aL]);simp[aM];refine⟨o_,?_⟩;have bm:i<=c+1:=o_
 refine ep bb (by simp[aM,bm];exact⟨rfl,rfl⟩) (by simp;exact⟨rfl,rfl⟩) ?_ (h1:=by simp[eW,h9]);simp;rfl
def bE(k:Nat)(q:Rat):Prop:=q.num.natAbs<2^k/\q.den<2^k
theorem bE.mono{k l:Nat}{q:Rat}(h:bE k q)(hl:k<=l):bE l q:=
 ⟨j8 h.1 (kb o_ hl),j8 h.2 (kb o_ hl)⟩
theorem mK{n:Int}{d:Nat}(h:d≠0):(oW n d).num=n/(mx n.natAbs d:Nat)/\(oW n d).den=d/mx n.natAbs d:=by
 have:oW n d=Rat.normalize n d h:=by
  rw[o0];rfl
 rw[this,Rat.normalize_eq h];exact⟨rfl,rfl⟩
theorem ER{n:Int}{d k:Nat}(h:d≠0)(a:n.natAbs<2^k)(b:d<2^k):bE k (oW n d):=by
 obtain⟨e1,e2⟩:=mK (n:=n) h;refine⟨?_,?_⟩
 ·rw[e1];refine kg ?_ a;rw[Int.natAbs_ediv_of_dvd (hr.2 (oo _ _))];exact lz _ _
 ·rw[e2];exact kg (lz _ _) b
theorem BH{a b:Nat}{x y:Rat}(h:bE a x)(c:bE b y):bE (a+b+1) (x+y):=by
 have e:x+y=oW (x.num*y.den+y.num*x.den) ((x.den*y.den:Nat):Int):=by rw[o3];rfl
 rw[e];have e1:2^(a+b+1)=2^a*2^b+2^a*2^b:=by rw[j9,kA];omega
 refine ER (op x.den_nz y.den_nz) ?_ ?_
 ·rw[e1];refine kg (hv _ _) ?_;rw[gx,gx,gy,gy];have f:=lb h.1 c.2;have d:=lb c.1 h.2;rw[j5 (2^b)]at d;omega
 ·have:=lb h.2 c.2;rw[e1];omega
theorem vg{a:Nat}{x:Rat}(h:bE a x):bE a (-x):=by
 refine⟨by rw[o4,hd];exact h.1,by rw[o5];exact h.2⟩
theorem uD{a b:Nat}{x y:Rat}(h:bE a x)(c:bE b y):bE (a+b+1) (x-y):=by
 rw[o2];exact BH h (vg c)
theorem ke{a b:Nat}{x y:Rat}(h:bE a x)(c:bE b y):bE (a+b) (x*y):=by
 have e:x*y=oW (x.num*y.num) ((x.den*y.den:Nat):Int):=by
  rw[pa,o0];rfl
 rw[e];refine ER (op x.den_nz y.den_nz) ?_ ?_
 ·rw[gx,kA];exact lb h.1 c.1
 ·rw[kA];exact lb h.2 c.2
theorem atn{x:Rat}(h:x≠0):(x⁻¹).num=x.num.sign*x.den/\(x⁻¹).den=x.num.natAbs:=by
 have a:x.num≠0:=fun e=>h (o1.1 e);have e:x⁻¹=oW (x.num.sign*x.den) (x.num.natAbs:Nat):=by
  rw[pb];rcases gP x.num 0 with h|h|h
  ·have e1:x.num.sign= -1:=Int.sign_eq_neg_one_of_neg h;have e2:((x.num.natAbs:Nat):Int)= -x.num:=by omega
   rw[e1,e2,show(-1*(x.den:Int))= -(x.den:Int)by omega,Rat.divInt_neg',Int.neg_neg]
  ·exact(a h).elim
  ·have e1:x.num.sign=1:=Int.sign_eq_one_of_pos h;have e2:((x.num.natAbs:Nat):Int)=x.num:=by omega
   rw[e1,e2,Int.one_mul]
 have b:mx (x.num.sign*x.den).natAbs x.num.natAbs=1:=by
  rw[gx,hb a,lt,gy,n5];exact x.reduced
 obtain⟨e1,e2⟩:=mK (n:=x.num.sign*x.den) (d:=x.num.natAbs) o_;rw[e,e1,e2,b];simp
theorem Ls{a:Nat}{x:Rat}(h:bE a x):bE a x⁻¹:=by
 by_cases b:x=0
 ·subst b;have:(0:Rat)⁻¹=0:=Rat.inv_zero;rw[this];exact h
 ·obtain⟨e1,e2⟩:=atn b;have c:x.num≠0:=fun e=>b (o1.1 e);refine⟨?_,by rw[e2];exact h.1⟩;rw[e1,gx,hb c,lt,gy];exact h.2
theorem avH{a b:Nat}{x y:Rat}(h:bE a x)(c:bE b y):bE (a+b) (x/y):=by
 rw[pc];exact ke h (Ls c)
theorem yk{k:Nat}{n:Int}(h:n.natAbs<2^k)(hk:0<k):bE k (n:Rat):=by
 refine⟨h,?_⟩;show(1:Nat)<2^k;exact Nat.one_lt_two_pow o_
structure NI where
 v:Int
 m:Bool
def NI.sm(a:NI):Bool:=decide (-9223372036854775808<a.v/\a.v<9223372036854775808)||(decide (a.v= -9223372036854775808)&&a.m)
def NI.of(n:Int):NI:=⟨n,true⟩
def NI.mk'(n:Int):NI:=⟨n,false⟩
def NI.neg(a:NI):NI:=.mk' (-a.v)
def NI.abs(a:NI):NI:=if a.v<0 then .mk' (-a.v)else a
def NI.add(a b:NI):NI:=⟨a.v+b.v,a.sm&&b.sm⟩
def NI.sub(a b:NI):NI:=a.add b.neg
def NI.mul(a b:NI):NI:=.mk' (a.v*b.v)
def NI.div(a b:NI):NI:=⟨a.v/b.v,decide (a.v% b.v≠0)⟩
def NI.mod(a b:NI):NI:=.mk' (a.v% b.v)
structure NF where
 q:Rat
 m:Bool
def NF.num(a:NF):NI:=⟨a.q.num,a.m⟩
def NF.den(a:NF):NI:=.mk' a.q.den
def NF.whole(a:NI):NF:=⟨a.v,a.m⟩
def NF.int(n:Int):NF:=⟨n,true⟩
def NF.fL(a:NF):Bool:=decide (a.q.den=1)
def NF.add(a b:NF):NF:=⟨a.q+b.q,a.fL&&b.fL&&(a.num.sm&&b.num.sm)⟩
def NF.neg(a:NF):NF:=⟨-a.q,false⟩
def NF.sub(a b:NF):NF:=a.add b.neg
def NF.mul(a b:NF):NF:=⟨a.q*b.q,false⟩
def NF.inv(a:NF):NF:=⟨a.q⁻¹,false⟩
def NF.div(a b:NF):NF:=⟨a.q/b.q,false⟩
@[simp] theorem NI.tH(a b:NI):(a.add b).v=a.v+b.v:=rfl
@[simp] theorem NI.mX(a b:NI):(a.mul b).v=a.v*b.v:=rfl
@[simp] theorem NI.GU(a:NI):a.neg.v= -a.v:=rfl
@[simp] theorem NI.UN(a b:NI):(a.sub b).v=a.v-b.v:=by show a.v+-b.v=_;omega
@[simp] theorem NF.Lr(a b:NF):(a.add b).q=a.q+b.q:=rfl
@[simp] theorem NF.aTE(a:NF):a.neg.q= -a.q:=rfl
@[simp] theorem NF.jF(a b:NF):(a.sub b).q=a.q-b.q:=by show a.q+-b.q=_;rw[o2]
@[simp] theorem NF.aTD(a b:NF):(a.mul b).q=a.q*b.q:=rfl
@[simp] theorem NF.aSU(a:NF):a.inv.q=a.q⁻¹:=rfl
@[simp] theorem NF.aRQ(a b:NF):(a.div b).q=a.q/b.q:=rfl
@[simp] theorem NF.aST(n:Int):(NF.int n).q=n:=rfl
def fw(z:Int):PV:=.st 162 [.int .i64 z,.aH]
def lL(z:Int):PV:=.st 162 [.int .i64 (if z<0 then -1 else 1),eN z.natAbs]
def GL(p:PV)(z:Int):Prop:=(p=fw z/\-9223372036854775808<=z/\z<=9223372036854775807)\/(p=lL z/\9223372036854775808<=z.natAbs)
theorem S2(a:NI):∃p,p=if a.sm=true then fw a.v else lL a.v:=⟨_,rfl⟩
noncomputable def eI(a:NI):PV:=cx (S2 a)
theorem jP(a:NI):eI a=if a.sm=true then fw a.v else lL a.v:=cv (S2 a)
theorem NI.BJ{a:NI}(h:-9223372036854775808<a.v)(b:a.v<9223372036854775808):a.sm=true:=by
 simp[NI.sm,h,b]
theorem NI.qN{a:NI}(h:a.sm=true):-9223372036854775808<=a.v/\a.v<=9223372036854775807:=by
 simp only[NI.sm,b3,decide_eq_true_eq,b2]at h;omega
theorem NI.Bs{a:NI}(h:¬a.sm=true):9223372036854775808<=a.v.natAbs:=by
 simp only[NI.sm,b3,decide_eq_true_eq,b2,not_or,not_and]at h;omega
theorem NI.Ui(z:Int):(NI.mk' z).sm=decide (-9223372036854775808<z/\z<9223372036854775808):=by
 rw[NI.sm,NI.mk',b5,Bool.or_false]
theorem NI.jj(z:Int):(NI.mk' z).v=z:=rfl
theorem nh(a:NI):GL (eI a) a.v:=by
 rw[jP]
 by_cases h:a.sm=true
 ·rw[if_pos h];have:=NI.qN h;exact .inl ⟨rfl,this⟩
 ·rw[if_neg h];exact .inr ⟨rfl,NI.Bs h⟩
theorem pH{z:Int}(h:-9223372036854775808<z)(a:z<9223372036854775808):eI (.mk' z)=fw z:=by
 rw[jP,NI.Ui,if_pos (by simp[h,a]),NI.jj]
theorem S1{z:Int}(h:9223372036854775808<=z.natAbs):eI (.mk' z)=lL z:=by
 rw[jP,NI.Ui,if_neg (by simp;omega),NI.jj]
theorem vB{z:Int}(h:-9223372036854775808<=z)(c:z<=9223372036854775807):eI (.of z)=fw z:=by
 rw[jP,if_pos]
 ·rfl
 ·by_cases b:z= -9223372036854775808
  ·subst b;rfl
  ·exact NI.BJ (a:=.of z) (by show _<z;omega) (by show z<_;omega)
@[simp] theorem bxN(u:dp)(h:¬u=117):(Gl.bx u:Option dp)=none:=by
 have a:m8 u 117=false:=by
  cases a:m8 u 117
  ·rfl
  ·exact(h (m2 a)).elim
 show(bif m8 u 117 then some 118 else none)=none;rw[a];rfl
@[simp] theorem aRG:(Gl.bx 117:Option dp)=some 118:=(rfl)
theorem mq:aw wB 0=[]:=by simp[aw,oh]
theorem u6{n:Nat}(a:0<n)(h:n<wB):aw wB n=[n]:=by
 have h1:=kf bt (m:=1) (n:=n) (by rw[l2];exact h);rw[<-h1,row,j1,hL,j2,ae,kN,l0,j7 h];have:=xq [] n o_
 rwa [i7]at this
theorem tM(n:Int):az prog 178 [.int .i64 n] (fw n):=by
 refine aJ nf (i_ func178) mix (by simp[f178]) ?_;simp[f178,fw]
theorem F3(n:Int)(h:-9223372036854775808<=n)(b:n<=9223372036854775807):az prog 248 [.int .i64 n] (.int .u64 (n.natAbs:Nat)):=by
 refine aJ nf (i_ func248) mix (by simp[f248]) ?_
 by_cases a:n<0
 ·have e:ea.wrap (eb.wrap (-n))=(n.natAbs:Nat):=by
   by_cases hm:n= -9223372036854775808
   ·subst hm;rfl
   ·rw[aK _ o_ o_,fx _ o_ (by simp only[wB];omega)];omega
  simp[f248,a,e]
 ·have e:ea.wrap n=(n.natAbs:Nat):=by rw[fx _ o_ (by simp only[wB];omega)];omega
  simp[f248,a,e]
theorem pf(p:PV)(z:Int)(h:GL p z):az prog 240 [p] (.aD [.bool (decide (z<0)),eN z.natAbs]):=by
 refine aJ nf (i_ func240) mix (by simp[f240]) ?_;rcases h with⟨rfl,b,d⟩|⟨rfl,b⟩
 ·have hs:=F3 z b d
  by_cases a:z=0
  ·subst a;simp[f240,fw,eN,mq,dy,cU]
  ·simp[f240,fw,a,dy,cU];refine e1 hs ?_;simp[eN,u6 (n:=z.natAbs) o_ (by simp only[wB];omega)]
   done
 ·have e:aw wB z.natAbs≠[]:=fun h=>by
   have:=cK bt z.natAbs;rw[h,hQ,kN]at this;omega
  simp only[lL,eN];obtain⟨c,cs,hc⟩:=hM e;rw[hc];have f:decide ((if z<0 then(-1:Int)else 1)<0)=decide (z<0):=by split<;>simp[*]
  generalize (if z<0 then(-1:Int)else 1)=g at*;simp[f240,dy,cU,f]
theorem yn(neg:Bool)(n:Nat)(k:(aw wB n).length<=1048576):az prog 241 [.bool neg,eN n] (eI (.mk' (if neg then -(n:Int)else n))):=by
 by_cases i:n=0
 ·subst i;rw[show(if neg=true then -((0:Nat):Int)else((0:Nat):Int))=0 by simp,pH (by decide) (by decide)];refine aJ nf (i_ func241) mix (by simp[f241]) ?_;simp[f241,fw,eN,mq,dy,cU]
 by_cases q:n<=9223372036854775807
 ·have d:=u6 (n:=n) o_ (by simp only[wB];omega);have hI:(n:Int)<=9223372036854775807:=by omega
  have f:eb.wrap (n:Int)=n:=aK _ o_ o_;have g:eb.wrap (-(n:Int))= -n:=aK _ o_ o_;cases neg
  ·rw[if_neg (by decide),pH o_ o_];refine aJ nf (i_ func241) mix (by simp[f241]) ?_;simp[f241,fw,eN,d,hI,f,g,dy,cU]
  ·rw[if_pos rfl,pH o_ o_];refine aJ nf (i_ func241) mix (by simp[f241]) ?_;simp[f241,fw,eN,d,hI,f,g,dy,cU]
 ·have l:aw wB n≠[]:=fun h=>by
   have:=cK bt n;rw[h,hQ,kN]at this;omega
  have e:(aw wB n).length=1->(aw wB n)[0]?=some n:=fun h=>by
   have a:=cK bt n;rw[h,l2]at a;rw[u6 o_ a];rfl
  have hI:¬(n:Int)<=9223372036854775807:=o_
  have b:(if neg then -(n:Int)else n).natAbs=n:=by cases neg<;>simp
  have m:(if(if neg then -(n:Int)else n)<0 then(-1:Int)else 1)=if neg then -1 else 1:=by
   cases neg
   ·simp only[Bool.false_eq_true,if_false];rw[if_neg o_]
   ·simp only[if_true];rw[if_pos o_]
  rw[S1 (by rw[b];omega)];refine aJ nf (i_ func241) mix (by simp[f241]) ?_;rw[lL,b,m];simp only[eN];obtain⟨c,cs,hc⟩:=hM l;rw[hc]at e⊢;rw[hc]at k;cases cs with
  |nil=>
   have j:c=n:=by simpa using e rfl
   subst j;cases neg<;>simp[f241,hI,dy,cU]
  |cons c2 cs=>
   have o:¬((cs.length:Int)+1+1=1):=o_
   have p:¬((cs.length:Int)+1+1=0):=o_
   cases neg<;>simp[f241,o,p,dy,cU]
def okW(z:Int):Prop:=(aw wB z.natAbs).length<=900000
theorem aN3{p:PV}{z:Int}(h:GL p z):∃a b,p=.st 162 [a,b]:=by
 rcases h with⟨rfl,_⟩|⟨rfl,_⟩
 ·exact⟨_,_,rfl⟩
 ·exact⟨_,_,rfl⟩
theorem yb(a:NI):∃x y,eI a=.st 162 [x,y]:=aN3 (nh a)
theorem vw(a:NI)(l:okW a.v):az prog 237 [eI a] (eI a.neg):=by
 have h:=nh a;have d:=pf (eI a) a.v h;have b:=yn (!decide (a.v<0)) a.v.natAbs (by rw[okW]at l;omega);have k:(if(!decide (a.v<0))=true then -((a.v.natAbs:Nat):Int)else a.v.natAbs)= -a.v:=by
  by_cases e:a.v<0
  ·simp[e];omega
  ·simp[e];omega
 rw[k]at b;rw[show a.neg=.mk' (-a.v)from rfl];generalize a.v=z at*;generalize n:eI a=p at*;obtain⟨o,q,g⟩:=yb (.mk' (-z));rcases h with⟨rfl,i,m⟩|⟨rfl,i⟩
 ·by_cases f:z= -9223372036854775808
  ·rw[g]at b⊢;refine aJ nf (i_ func237) mix (by simp[f237]) ?_;subst f;simp only[fw]at d⊢;simp[f237,dy,cU];refine c1 d ?_;simp[eN]at b⊢;refine c2 b ?_;simp[aa,aP,bO]
  ·rw[pH o_ o_];have w:eb.wrap (-z)= -z:=aK _ o_ o_;refine aJ nf (i_ func237) mix (by simp[f237]) ?_;simp[f237,fw,f,w,dy,cU]
 ·rw[g]at b⊢;refine aJ nf (i_ func237) mix (by simp[f237]) ?_;have j:aw wB z.natAbs≠[]:=fun h=>by
   have:=cK bt z.natAbs;rw[h,hQ,kN]at this;omega
  simp only[lL,eN]at d b⊢;obtain⟨c,cs,hc⟩:=hM j;rw[hc]at d b⊢;generalize (if z<0 then(-1:Int)else 1)=r at*;simp[f237,dy,cU];refine c1 d ?_;simp at b⊢;refine c2 b ?_;simp[aa,aP,bO]
theorem vi(a:NI):az prog 205 [eI a] (.int .i64 (if a.v<0 then -1 else if a.v=0 then 0 else 1)):=by
 have h:=nh a;generalize a.v=z at*;generalize eI a=p at*;refine aJ nf (i_ func205) mix (by simp[f205]) ?_;rcases h with⟨rfl,b,c⟩|⟨rfl,b⟩
 ·simp[f205,fw];rcases gP z 0 with h|h|h
  ·have e:z<1:=by omega
   simp[h,e];omega
  ·subst h;simp
  ·have e1:¬z<0:=by omega
   have e2:¬z=0:=o_
   have e3:¬z<1:=o_
   simp[e1,e2,e3]
 ·simp[f205,lL,eN]
  by_cases h:z<0
  ·simp[h]
  ·have e2:¬z=0:=by omega
   simp[h,e2]
theorem Z3{z:Int}(h:-18446744073709551616<=z)(a:z<=18446744073709551614):eb.wrap z=if z< -9223372036854775808 then z+18446744073709551616 else if 9223372036854775807<z then z-18446744073709551616 else z:=by
 rw[ec]
 split
 ·omega
 ·split<;>omega
theorem o8{z:Int}(h:okW z):(aw wB z.natAbs).length<=900000:=h
theorem Yu{a b L:Nat}(c:(aw wB a).length<=L)(d:(aw wB b).length<=L):(aw wB (a+b)).length<=L+1:=by
 refine et bt _ _ ?_;have e:=j8 (cK bt a) (kb (show 0<wB by decide) c);have f:=j8 (cK bt b) (kb (show 0<wB by decide) d);have g:2*wB^L<=wB^(L+1):=by rw[j9,j5];exact km _ bt
 omega
theorem Xf{a b:Int}(i:okW a)(j:okW b):
 ((decide (a<0)=decide (b<0)/\az prog 241 [.bool (decide (a<0)),eN (a.natAbs+b.natAbs)] (eI (.mk' (a+b))))\/
  (decide (a<0)≠decide (b<0)/\b.natAbs<=a.natAbs/\az prog 241 [.bool (decide (a<0)),eN (a.natAbs-b.natAbs)] (eI (.mk' (a+b))))\/
  (decide (a<0)≠decide (b<0)/\a.natAbs<b.natAbs/\az prog 241 [.bool (decide (b<0)),eN (b.natAbs-a.natAbs)] (eI (.mk' (a+b))))):=by
 have hl:=Yu (a:=a.natAbs) (b:=b.natAbs) i j;have l:∀n,n<=a.natAbs+b.natAbs->(aw wB n).length<=1048576:=fun n h=>by
  have:=et bt _ _ (kg h (cK bt (a.natAbs+b.natAbs)));omega
 have f:∀(neg:Bool)(n:Nat),n<=a.natAbs+b.natAbs->(if neg then -(n:Int)else n)=a+b->az prog 241 [.bool neg,eN n] (eI (.mk' (a+b))):=fun neg n h e=>by
  have g:=yn neg n (l n h);rw[e]at g;exact g
 by_cases d:decide (a<0)=decide (b<0)
 ·have c:=f (decide (a<0)) (a.natAbs+b.natAbs) (kC _) (by
   by_cases h:a<0
   ·have:b<0:=by simpa[h]using d
    simp[h];omega
   ·have:¬b<0:=by simpa[h]using d
    simp[h];omega)
  exact .inl ⟨d,c⟩
 ·by_cases k:b.natAbs<=a.natAbs
  ·have c:=f (decide (a<0)) (a.natAbs-b.natAbs) o_ (by
    by_cases h:a<0
    ·have:¬b<0:=by simpa[h]using d
     simp[h];omega
    ·have:b<0:=by simpa[h]using d
     simp[h];omega)
   exact .inr (.inl ⟨d,k,c⟩)
  ·have c:=f (decide (b<0)) (b.natAbs-a.natAbs) o_ (by
    by_cases h:b<0
    ·have:¬a<0:=fun c=>d (by simp[h,c]);simp[h];omega
    ·have:a<0:=by
      by_cases c:a<0
      ·exact c
      ·exact(d (by simp[h,c])).elim
     simp[h];omega)
   exact .inr (.inr ⟨d,o_,c⟩)
theorem FX(a:NI):(eI a=fw a.v/\a.sm=true/\-9223372036854775808<=a.v/\a.v<=9223372036854775807)\/(a.sm=false/\∃d c cs,eI a=.st 162 [.int .i64 d,.seq (c::cs)]):=by
 by_cases h:a.sm=true
 ·left;exact⟨by rw[jP,if_pos h],h,NI.qN h⟩
 ·right;refine⟨by simpa using h,?_⟩;have e:=NI.Bs h;have b:aw wB a.v.natAbs≠[]:=fun h=>by
   have:=cK bt a.v.natAbs;rw[h,hQ,kN]at this;omega
  obtain⟨c,cs,hc⟩:=hM b;rw[jP,if_neg h,lL,eN,hc];exact⟨_,_,_,rfl⟩
theorem yL(a b:NI)(B:okW a.v)(D:okW b.v):az prog 181 [eI a,eI b] (eI (a.add b)):=by
 have o:=pf (eI a) a.v (nh a);have q:=pf (eI b) b.v (nh b);have U:=o8 B;have V:=o8 D;have t:=Lu a.v.natAbs b.v.natAbs o_ o_;have C:=Y5 a.v.natAbs b.v.natAbs o_ o_;have y:=Xf B D;have vZ:=FX a;have G:=FX b
 by_cases u:(a.sm=true/\b.sm=true)/\-9223372036854775808<=a.v+b.v/\a.v+b.v<=9223372036854775807
 ·obtain⟨⟨g,n⟩,d,l⟩:=u;rw[show eI a=fw a.v by rw[jP,if_pos g],show eI b=fw b.v by rw[jP,if_pos n],show a.add b=.of (a.v+b.v)by rw[NI.add,g,n];rfl,vB d l];generalize a.v=a at*;generalize b.v=b at*;refine aJ nf (i_ func181) mix (by simp[f181]) ?_;have w:=aK (a+b) d l;have e:(decide (a<a+b)==decide (0<b))=true:=by
   have:a<a+b↔0<b:=o_
   simp[this]
  simp[f181,fw,w,dy,cU,e]
 have F:eI (a.add b)=eI (.mk' (a.v+b.v)):=by
  by_cases h:-9223372036854775808<a.v+b.v/\a.v+b.v<9223372036854775808
  ·rw[pH h.1 h.2,jP,if_pos (NI.BJ h.1 h.2)];rfl
  ·by_cases l:(a.sm&&b.sm)=true
   ·have H:a.sm=true/\b.sm=true:=by simpa using l
    have I:¬(-9223372036854775808<=a.v+b.v/\a.v+b.v<=9223372036854775807):=fun h=>u ⟨H,h⟩;rw[S1 o_,jP,if_neg,NI.tH];intro g;have:=NI.qN g;rw[NI.tH]at this;omega
   ·rw[NI.add,NI.mk'];rw[show(a.sm&&b.sm)=false by simpa using l]
 rw[F];clear F;obtain⟨M,N,J⟩:=yb a;obtain⟨O,P,K⟩:=yb b;obtain⟨Y,Z,L⟩:=yb (.mk' (a.v+b.v));rw[L]at y⊢;rw[J]at o vZ⊢;rw[K]at q G⊢;generalize a.v=f at*;generalize b.v=bv at*;refine aJ nf (i_ func181) mix (by simp[f181]) ?_;simp[f181,-bB];rw[bB];simp[-bB];refine join (fun s=>aS s.env 2=.ptr 0 []/\aS s.env 3=.ptr 1 []/\aS s.env 4=.ptr 2 []/\s.heap=[.box false (.p (.st 162 [M,N])),.box false (.p (.st 162 [O,P])),.box false (.p (.st 162 [.int .i64 0,.aH]))]) ?_ ?_
 ·clear y t C o q;rcases vZ with⟨d,m,l,g⟩|⟨m,Q,c,cs,d⟩
  ·simp only[fw,PV.st.injEq,j4,and_true,true_and]at d;obtain⟨rfl,rfl⟩:=d;rcases G with⟨n,A,S,T⟩|⟨A,Q,c,cs,n⟩
   ·simp only[fw,PV.st.injEq,j4,and_true,true_and]at n;obtain⟨rfl,rfl⟩:=n;have I:¬(-9223372036854775808<=f+bv/\f+bv<=9223372036854775807):=fun h=>u ⟨⟨m,A⟩,h⟩;have w:=Z3 (z:=f+bv) o_ o_;have e:¬(f<eb.wrap (f+bv)↔0<bv):=by
     rw[w]
     by_cases W:0<bv
     ·rw[if_neg o_,if_pos o_];omega
     ·rw[if_pos o_];omega
    simp[dy,cU,e]
   ·simp only[PV.st.injEq,j4,and_true,true_and]at n;obtain⟨rfl,rfl⟩:=n;simp[dy,cU]
  ·simp only[PV.st.injEq,j4,and_true,true_and]at d;obtain⟨rfl,rfl⟩:=d;simp[dy,cU]
 rintro⟨R,X⟩ ⟨i,j,k,E⟩;dsimp only at i j k E;subst E;simp[i,j,k];refine c1 o ?_;simp[i,j,k,aa,aP,bO];refine c1 q ?_;rcases y with⟨d,g⟩|⟨d,l,g⟩|⟨d,l,g⟩
 ·have m:(f<0↔bv<0):=by simpa using d
  rw[d]at g;simp[i,j,k,m,aa,aP,bO];refine c2 C ?_;simp;refine c2 g ?_;simp[i,j,k,aa,aP,bO]
 ·have m:¬(f<0↔bv<0):=by simpa using d
  have r:0<=gf f.natAbs bv.natAbs:=by
   have h:=mt qK.1 (show¬f.natAbs<bv.natAbs by omega);omega
  have x:=Mx f.natAbs bv.natAbs l o_;simp[i,j,k,m,aa,aP,bO];refine c2 t ?_;simp[r];refine c2 x ?_;simp[i,j,k,aa,aP,bO];refine c2 g ?_;simp[i,j,k,aa,aP,bO]
 ·have m:¬(f<0↔bv<0):=by simpa using d
  have r:¬0<=gf f.natAbs bv.natAbs:=by have:=qK.2 l;omega
  have x:=Mx bv.natAbs f.natAbs o_ o_;simp[i,j,k,m,aa,aP,bO];refine c2 t ?_;simp[r];refine c2 x ?_;simp[i,j,k,aa,aP,bO];refine c2 g ?_;simp[i,j,k,aa,aP,bO]
@[simp] theorem aTV(a:NI):aP (eI a)=.agg 162:=by
 obtain⟨x,y,h⟩:=yb a;rw[h];rfl
theorem UI(a:NI):∃z:Int,z=if a.sm=true then a.v else if a.v<0 then -1 else 1:=⟨_,rfl⟩
noncomputable def sI(a:NI):Int:=cx (UI a)
theorem Bt(a:NI):sI a=if a.sm=true then a.v else if a.v<0 then -1 else 1:=cv (UI a)
theorem U0(a:NI):∃p:PV,p=if a.sm=true then .aH else eN a.v.natAbs:=⟨_,rfl⟩
noncomputable def wI(a:NI):PV:=cx (U0 a)
theorem FL(a:NI):wI a=if a.sm=true then .aH else eN a.v.natAbs:=cv (U0 a)
@[simp] theorem aKU(a:NI):cS (eI a)=[.int .i64 (sI a),wI a]:=by
 by_cases h:a.sm=true
 ·rw[jP,Bt,FL,if_pos h,if_pos h,if_pos h];rfl
 ·rw[jP,Bt,FL,if_neg h,if_neg h,if_neg h];rfl
theorem UJ(a:NI):sI a<0↔a.v<0:=by
 rw[Bt];split
 ·exact Iff.rfl
 ·split<;>omega
theorem mY{a:NI}(h:a.sm=true):wI a=.aH:=by rw[FL,if_pos h]
theorem pE{a:NI}(h:a.sm=false):∃c cs,wI a=.seq (c::cs):=by
 rcases FX a with⟨_,b,_⟩|⟨_,e,c,cs,d⟩
 ·rw[h]at b;exact absurd b (by decide)
 ·refine⟨c,cs,?_⟩;have:=aKU a;rw[d]at this;simp[cS]at this;exact this.2.symm
theorem nY{a:NI}(h:a.sm=true):sI a=a.v:=by rw[Bt,if_pos h]
theorem Gj(a b:NI)(d:okW a.v)(c:okW b.v):az prog 250 [eI a,eI b] (eI (a.sub b)):=by
 refine aJ nf (i_ func250) mix (by simp[f250]) ?_;have e:okW b.neg.v:=by simpa[okW]using c
 simp[f250];refine e1 (vw b c) ?_;simp;refine e2 (yL a b.neg d e) ?_;simp[aa];exact Wk.refl _
theorem SE(a:NI)(c:okW a.v):az prog 292 [eI a] (eI a.abs):=by
 refine aJ nf (i_ func292) mix (by simp[f292]) ?_
 by_cases h:a.v<0
 ·have b:=(UJ a).2 h;have e:a.abs=a.neg:=by rw[NI.abs,if_pos h];rfl
  simp[f292,aa,b];refine c1 (vw a c) ?_;simp[aa,e]
 ·have b:=mt (UJ a).1 h;have e:a.abs=a:=by rw[NI.abs,if_neg h]
  simp[f292,aa,b,e]
def kY(x y:Int):Int:=if x<y then -1 else if x=y then 0 else 1
theorem SF(a b:NI)(m:okW a.v)(n:okW b.v):az prog 187 [eI a,eI b] (.int .i64 (kY a.v b.v)):=by
 refine aJ nf (i_ func187) mix (by simp[f187]) ?_;have p:(a.sm=true/\b.sm=true)\/¬(a.sm=true/\b.sm=true):=cy _;rcases p with⟨d,l⟩|d
 ·have f:=mY d;have g:=mY l;have j:=nY d;have k:=nY l;rcases gP a.v b.v with h|h|h
  ·have e:kY a.v b.v= -1:=by rw[kY,if_pos h]
   simp[f187,aa,f,g,j,k,h,e,dy,cU]
  ·have e:kY b.v b.v=0:=by rw[kY,if_neg o_,if_pos rfl]
   have d:¬a.v<b.v:=o_
   simp[f187,aa,f,g,j,k,h,e,dy,cU]
  ·have e:kY a.v b.v=1:=by rw[kY,if_neg o_,if_neg o_]
   have d:¬a.v<b.v:=o_
   simp[f187,aa,f,g,j,k,h,d,e,dy,cU]
 ·have e:(if(a.sub b).v<0 then(-1:Int)else if(a.sub b).v=0 then 0 else 1)=kY a.v b.v:=by
   rw[NI.UN,kY];rcases gP a.v b.v with h|h|h
   ·rw[if_pos o_,if_pos h]
   ·rw[if_neg o_,if_pos o_,if_neg o_,if_pos h]
   ·rw[if_neg o_,if_neg o_,if_neg o_,if_neg o_]
  have i:=vi (a.sub b);rw[e]at i;rcases hs:a.sm with _|_
  ·obtain⟨c,cs,f⟩:=pE hs;simp[f187,aa,f,dy,cU];refine c2 (Gj a b m n) ?_;simp;refine c1 i ?_;simp
  ·have f:=mY hs;obtain⟨c,cs,g⟩:=pE (a:=b) (by cases o:b.sm with|false=>rfl|true=>exact(d ⟨hs,o⟩).elim);simp[f187,aa,f,g,dy,cU];refine c2 (Gj a b m n) ?_;simp;refine c1 i ?_;simp
theorem Yt{a b L M:Nat}(e:(aw wB a).length<=L)(f:(aw wB b).length<=M):(aw wB (a*b)).length<=L+M:=by
 refine et bt _ _ ?_;have c:=j8 (cK bt a) (kb (show 0<wB by decide) e);have d:=j8 (cK bt b) (kb (show 0<wB by decide) f);rw[kA];exact lb c d
theorem BR(a b:NI)(K:(aw wB a.v.natAbs).length+(aw wB b.v.natAbs).length<=900000):az prog 183 [eI a,eI b] (eI (a.mul b)):=by
 have I:=pf (eI a) a.v (nh a);have hq:=pf (eI b) b.v (nh b);have G:=Y3 a.v.natAbs b.v.natAbs o_;have N:=Yt (kC (aw wB a.v.natAbs).length) (kC (aw wB b.v.natAbs).length);have z:=yn (decide (a.v<0)!=decide (b.v<0)) (a.v.natAbs*b.v.natAbs) o_;have e:(if(decide (a.v<0)!=decide (b.v<0))=true then -((a.v.natAbs*b.v.natAbs:Nat):Int)else(a.v.natAbs*b.v.natAbs:Nat))=a.v*b.v:=by
  rw[<-gx];rcases g7 a.v 0 with j|j
  ·rcases g7 b.v 0 with d|d
   ·have:=Int.mul_nonneg_of_nonpos_of_nonpos (g8 j) (g8 d);simp[j,d];omega
   ·have:=Int.mul_nonpos_of_nonpos_of_nonneg (g8 j) d;have o:¬b.v<0:=by omega
    simp[j,o];omega
  ·have o:¬a.v<0:=by omega
   rcases g7 b.v 0 with d|d
   ·have:=Int.mul_nonpos_of_nonneg_of_nonpos j (g8 d);simp[o,d];omega
   ·have:=Int.mul_nonneg j d;have E:¬b.v<0:=by omega
    simp[o,E];omega
 rw[e]at z;rw[show a.mul b=.mk' (a.v*b.v)from rfl];refine aJ nf (i_ func183) mix (by simp[f183]) ?_;simp[f183,-bB];rw[bB];simp[-bB];refine join (fun s=>aS s.env 2=.ptr 0 []/\aS s.env 3=.ptr 1 []/\aS s.env 4=.ptr 2 []/\s.heap=[.box false (.p (eI a)),.box false (.p (eI b)),.box false (.p (.st 162 [.int .i64 0,.aH]))]) ?_ ?_
 ·rcases hs:a.sm with _|_
  ·obtain⟨c,cs,i⟩:=pE hs;simp[aa,i,dy,cU]
  ·have i:=mY hs;rcases q:b.sm with _|_
   ·obtain⟨c,cs,k⟩:=pE q;simp[aa,i,k,dy,cU]
   ·have k:=mY q;have f:=nY hs;have g:=nY q;have B:=NI.qN hs;have C:=NI.qN q;have t:=F3 a.v B.1 B.2;have u:=F3 b.v C.1 C.2;have M:=A5 a.v.natAbs b.v.natAbs o_ o_;obtain⟨H,x⟩:∃H,H=a.v.natAbs*b.v.natAbs/18446744073709551616:=⟨_,rfl⟩
    obtain⟨L,r⟩:∃L,L=a.v.natAbs*b.v.natAbs% 18446744073709551616:=⟨_,rfl⟩
    rw[<-x,<-r]at M;have F:a.v.natAbs*b.v.natAbs=H*18446744073709551616+L:=o_
    clear x r
    by_cases c1:H=0/\L<=9223372036854775807
    ·obtain⟨rfl,r⟩:=c1;have y:(L:Int)<=9223372036854775807:=by omega
     have w:eb.wrap (L:Int)=L:=aK _ o_ o_;have D:eb.wrap (-(L:Int))= -L:=aK _ o_ o_;rw[F]at e;simp only[mp,l1]at e;rw[pH (by rw[<-e];split<;>omega) (by rw[<-e];split<;>omega),fw]
     by_cases c2:a.v<0↔b.v<0
     ·rw[if_neg (by simp[c2])]at e;rw[<-e];simp[aa,i,k,f,g,dy,cU];refine e1 t ?_;simp[f,g];refine e1 u ?_;simp;refine e2 M ?_;simp[y,c2,aa,i,k,f,g,w]
     ·rw[if_pos (by simp[c2])]at e;rw[<-e];simp[aa,i,k,f,g,dy,cU];refine e1 t ?_;simp[f,g];refine e1 u ?_;simp;refine e2 M ?_;simp[y,c2,aa,i,k,f,g,w,D]
    ·simp[aa,i,k,f,g,dy,cU];refine e1 t ?_;simp[f,g];refine e1 u ?_;simp;refine e2 M ?_
     by_cases c2:H=0
     ·have c3:¬(L:Int)<=9223372036854775807:=fun h=>c1 ⟨c2,o_⟩;simp[c2,c3]
     ·have c3:¬(H:Int)=0:=by omega
      simp[c2,c3]
 ·rintro⟨J,O⟩ ⟨l,m,n,A⟩;dsimp only at l m n A;subst A;simp[l,m,n];refine c1 I ?_;simp[l,m,n];refine c1 hq ?_;simp[l,m,n];refine c2 G ?_;simp;refine c2 z ?_;simp[l,m,n,aa]
  done
theorem n6{a b:NI}(h:a.v=b.v)(d:a.v= -9223372036854775808->a.m=b.m):eI a=eI b:=by
 by_cases c:a.v= -9223372036854775808
 ·have:=d c;cases a;cases b;dsimp only at h this;subst h this;rfl
 ·have e:a.sm=b.sm:=by
   simp only[NI.sm,h];rw[h]at c;simp[c]
  rw[jP,jP,e,h]
theorem awa{a b:Int}(c:0<b):(a.tdiv b=a/b/\a.tmod b=a% b/\¬a.tmod b<0)\/(a.tdiv b-1=a/b/\a.tmod b+b=a% b/\a.tmod b<0/\a/b<0):=by
 have f:=Int.tmod_add_mul_tdiv a b;have g:=ht a c;have i:=hp a c
 by_cases h:a.tmod b<0
 ·right;have e:=(gA (a:=a) (r:=a.tmod b+b) (q:=a.tdiv b-1) c).2 ⟨by rw[hD];omega,o_,o_⟩;have j:a<0:=by
   rcases g7 a 0 with d|d
   ·exact d
   ·have:=Int.tmod_nonneg b d;omega
  have d:a/b<0:=ho c o_;omega
 ·left;have e:=(gA (a:=a) (r:=a.tmod b) (q:=a.tdiv b) c).2 ⟨o_,o_,o_⟩;omega
theorem aD9{a b:Int}(c:0<b):((if a<0 then -((a.natAbs% b.natAbs:Nat):Int)else(a.natAbs% b.natAbs:Nat))<0/\a/b=(if a<0 then -((a.natAbs/b.natAbs:Nat):Int)else(a.natAbs/b.natAbs:Nat))-1/\a% b=(if a<0 then -((a.natAbs% b.natAbs:Nat):Int)else(a.natAbs% b.natAbs:Nat))+b)\/
 (¬(if a<0 then -((a.natAbs% b.natAbs:Nat):Int)else(a.natAbs% b.natAbs:Nat))<0/\a/b=(if a<0 then -((a.natAbs/b.natAbs:Nat):Int)else(a.natAbs/b.natAbs:Nat))/\a% b=(if a<0 then -((a.natAbs% b.natAbs:Nat):Int)else(a.natAbs% b.natAbs:Nat))):=by
 have e:((b.natAbs:Nat):Int)=b:=o_
 have f:=la a.natAbs b.natAbs;have g:=kk a.natAbs (show 0<b.natAbs by omega);have i:((a.natAbs% b.natAbs:Nat):Int)+b*(a.natAbs/b.natAbs:Nat)=(a.natAbs:Nat):=by
  rw[<-e,<-gN,<-hz,e,f]
 generalize a.natAbs% b.natAbs=r at*;generalize a.natAbs/b.natAbs=q at*
 by_cases h:a<0
 ·simp only[if_pos h]
  by_cases j:r=0
  ·right;have d:=(gA (a:=a) (r:=0) (q:=-(q:Int)) c).2 ⟨by rw[hE];omega,o_,o_⟩;omega
  ·left;have d:=(gA (a:=a) (r:=-(r:Int)+b) (q:=-(q:Int)-1) c).2 ⟨by rw[hD,hE];omega,o_,o_⟩;omega
 ·simp only[if_neg h];right;have d:=(gA (a:=a) (r:=(r:Int)) (q:=(q:Int)) c).2 ⟨o_,o_,o_⟩;omega
theorem OG(a b:NI)(i:0<b.v)(M:okW a.v)(z:okW b.v):az prog 293 [eI a,eI b] (.aD [eI (a.div b),eI (a.mod b)]):=by
 have V:=pf (eI a) a.v (nh a);have hq:=pf (eI b) b.v (nh b);have af:=o8 M;have ag:=o8 z;have O:=EM a.v.natAbs b.v.natAbs o_ o_ o_;refine aJ nf (i_ func293) mix (by simp[f293]) ?_;simp[f293,-bB];rw[bB];simp[-bB];refine join (fun s=>aS s.env 2=.ptr 0 []/\aS s.env 3=.ptr 1 []/\aS s.env 4=.ptr 2 []/\aS s.env 5=.ptr 3 []/\s.heap=[.box false (.p (eI a)),.box false (.p (eI b)),.box false (.p (.st 162 [.int .i64 0,.aH])),.box false (.p (.st 162 [.int .i64 0,.aH]))]) ?_ ?_
 ·rcases hs:a.sm with _|_
  ·obtain⟨c,cs,l⟩:=pE hs;simp[aa,l,dy,cU]
  ·have l:=mY hs;rcases n:b.sm with _|_
   ·obtain⟨c,cs,m⟩:=pE n;simp[aa,l,m,dy,cU]
   ·have m:=mY n;have u:=nY hs;have w:=nY n;have al:=NI.qN hs;have am:=NI.qN n
    by_cases t:a.v= -9223372036854775808
    ·simp[aa,l,m,u,w,t,dy,cU]
    ·have r:¬b.v=0:=by omega
     have E:-9223372036854775808<a.v/b.v:=by
      have:=Int.le_ediv_of_mul_le (a:=-9223372036854775807) (b:=a.v) i o_;omega
     have F:a.v/b.v<9223372036854775808:=ho i o_;have G:=g6 a.v i;have H:=ha a.v r;have J:eI (a.div b)=fw (a.v/b.v):=by rw[jP,if_pos (NI.BJ E F)];rfl
     have f2:eI (a.mod b)=fw (a.v% b.v):=pH o_ o_;rw[J,f2];have aj:=ht a.v i;have ai:=hp a.v i;rcases awa (a:=a.v) i with⟨d1,d2,d3⟩|⟨d1,d2,d3,d4⟩
     ·have q1:eb.wrap (a.v.tdiv b.v)=a.v/b.v:=by rw[d1];exact aK _ o_ o_
      simp[aa,l,m,u,w,t,r,dy,cU,fw,d3,q1];exact d2.symm
     ·have q1:eb.wrap (eb.wrap (a.v.tdiv b.v)-1)=a.v/b.v:=by rw[aK (a.v.tdiv b.v) o_ o_,d1];exact aK _ o_ o_
      have Z:eb.wrap (a.v.tmod b.v+b.v)=a.v% b.v:=by rw[d2];exact aK _ o_ o_
      simp[aa,l,m,u,w,t,r,dy,cU,fw,d3,q1,Z]
 ·rintro⟨ab,ah⟩ ⟨d,e,f,g,A⟩;dsimp only at d e f g A;subst A;have S:(aw wB (a.v.natAbs/b.v.natAbs)).length<=900000:=by
   have:=et bt _ _ (kg (lz a.v.natAbs b.v.natAbs) (cK bt a.v.natAbs));omega
  have T:(aw wB (a.v.natAbs% b.v.natAbs)).length<=900000:=by
   have:=et bt _ _ (kg (oS a.v.natAbs b.v.natAbs) (cK bt a.v.natAbs));omega
  have C:=yn (decide (a.v<0)) (a.v.natAbs/b.v.natAbs) o_;have D:=yn (decide (a.v<0)) (a.v.natAbs% b.v.natAbs) o_;have P:=aD9 (a:=a.v) i;simp only[decide_eq_true_eq]at C D;have ak:=kk a.v.natAbs (show 0<b.v.natAbs by omega);generalize a.v.natAbs/b.v.natAbs=k at*;generalize a.v.natAbs% b.v.natAbs=j at*;have ae:-b.v<(if a.v<0 then -(j:Int)else(j:Int)):=by split<;>omega
  have L:a.v<0->(if a.v<0 then -(j:Int)else(j:Int))<=0:=fun h=>by rw[if_pos h];omega
  have X:okW (if a.v<0 then -(k:Int)else(k:Int)):=by rw[okW];split<;>simpa using S
  have Y:okW (if a.v<0 then -(j:Int)else(j:Int)):=by rw[okW];split<;>simpa using T
  have W:(if a.v<0 then -(k:Int)else(k:Int))= -9223372036854775808->a.v<0:=by split<;>omega
  generalize (if a.v<0 then -(k:Int)else(k:Int))=Q at*;generalize (if a.v<0 then -(j:Int)else(j:Int))=R at*;have y:=vi (.mk' R);simp only[NI.jj]at y;have G:=g6 a.v i;have H:=ha a.v (show b.v≠0 by omega);simp[d,e,f,g];refine c1 V ?_;simp[d,e,f,g];refine c1 hq ?_;simp[d,e,f,g];refine c2 O ?_;simp;refine c2 C ?_;simp;refine c2 D ?_;simp[d,e,f,g,aa];refine c1 y ?_;rcases P with⟨d1,d2,d3⟩|⟨d1,d2,d3⟩
  ·have B:=Gj (.mk' Q) (.of 1) X (by rw[okW];decide);have N:=yL (.mk' R) b Y z;rw[vB (by decide) (by decide)]at B;have o:eI (a.div b)=eI ((NI.mk' Q).sub (.of 1)):=by
    refine n6 (by rw[NI.UN];exact d2) (fun h=>?_);have I:Q= -9223372036854775807:=by have:a.v/b.v= -9223372036854775808:=h;omega
    have U:¬a.v% b.v=0:=o_
    subst I;show decide (a.v% b.v≠0)=_;simp[U];rfl
   have q:eI (a.mod b)=eI ((NI.mk' R).add b):=n6 (by rw[NI.tH];exact d3) (fun h=>by have:a.v% b.v= -9223372036854775808:=h;omega);rw[o,q];simp[d,e,f,g,aa,d1];refine e1 (tM 1) ?_;simp[d,e,f,g,aa];refine e2 B ?_;simp[d,e,f,g,aa];refine e2 N ?_;simp[d,e,f,g,aa];exact⟨rfl,rfl⟩
  ·have o:eI (a.div b)=eI (.mk' Q):=by
    refine n6 d2 (fun h=>?_);have ac:a.v/b.v= -9223372036854775808:=h;have ad:=L (W o_);have K:a.v% b.v=0:=o_
    show decide (a.v% b.v≠0)=false;simp[K]
   have q:eI (a.mod b)=eI (.mk' R):=n6 d3 (fun h=>by have:a.v% b.v= -9223372036854775808:=h;omega);rw[o,q]
   by_cases x:R=0
   ·simp[d,e,f,g,aa,x]
   ·simp[d,e,f,g,aa,d1,x]
theorem sL{a b:Int}(h:okW b)(c:a.natAbs<=b.natAbs):okW a:=by
 have:=et bt _ _ (kg c (cK bt b.natAbs));have:=o8 h;rw[okW];omega
theorem SJ(a b:NI)(e:0<b.v)(d:okW a.v)(f:okW b.v):az prog 246 [eI a,eI b] (eI (a.div b)):=by
 have c:=vi b;rw[if_neg o_,if_neg o_]at c;refine aJ nf (i_ func246) mix (by simp[f246]) ?_;simp[f246];refine c1 c ?_;simp;refine c2 (OG a b e d f) ?_;simp[aa]
 done
theorem NI.A8(a:NI):a.abs.v.natAbs=a.v.natAbs:=by
 rw[NI.abs];split
 ·rw[NI.jj,hd]
 ·rfl
theorem NI.SA(a:NI):0<=a.abs.v:=by
 rw[NI.abs];split
 ·rw[NI.jj];omega
 ·omega
def fc(a b:Int):Int:=(mx a.natAbs b.natAbs:Nat)
theorem SG(a b:NI)(j:okW a.v)(k:okW b.v):az prog 245 [eI a,eI b] (eI (.mk' (fc a.v b.v))):=by
 refine aJ nf (i_ func245) mix (by simp[f245]) ?_;simp[f245];refine e1 (SE a j) ?_;simp;refine e1 (SE b k) ?_;simp[aa];refine⟨⟨rfl,rfl⟩,?_⟩;have n:fc a.abs.v b.abs.v=fc a.v b.v:=by rw[fc,fc,NI.A8,NI.A8]
 refine lp (α:=NI×NI) (fun x=>⟨[(4,.ptr 2 []),(3,.ptr 1 []),(2,.ptr 0 [])],[.box false (.p (eI x.1)),.box false (.p (eI x.2)),.box false (.p (.st 162 [.int .i64 0,.aH]))]⟩)
  (fun x=>0<=x.1.v/\0<=x.2.v/\okW x.1.v/\okW x.2.v/\fc x.1.v x.2.v=fc a.v b.v) (fun x=>x.2.v.toNat) (a.abs,b.abs) ⟨NI.SA a,NI.SA b,sL j (n3 (NI.A8 a)),sL k (n3 (NI.A8 b)),n⟩ ?_
 rintro⟨x,y⟩ ⟨l,g,i,c,f⟩;dsimp only at l g i c f;have d:=vi y
 by_cases e:y.v=0
 ·rw[if_neg o_,if_pos e]at d;have hx:eI (.mk' (fc a.v b.v))=eI x:=by
   refine n6 ?_ (fun h=>?_)
   ·rw[NI.jj,<-f,e,fc];simp;omega
   ·rw[NI.jj,fc]at h;omega
  rw[hx];simp;refine c1 d ?_;simp[aa]
 ·rw[if_neg o_,if_neg e]at d;have q:=g6 x.v (show 0<y.v by omega);have o:=ha x.v e;have m:(x.v% y.v).natAbs=x.v.natAbs% y.v.natAbs:=by
   have e1:(x.v.natAbs:Int)=x.v:=o_
   have e2:(y.v.natAbs:Int)=y.v:=o_
   have e3:((x.v.natAbs% y.v.natAbs:Nat):Int)=x.v% y.v:=by rw[Int.natCast_emod,e1,e2]
   omega
  simp;refine c1 d ?_;simp[aa];refine c2 (OG x y o_ i c) ?_;simp[aa];refine⟨rfl,?_⟩;refine rd (y,x.mod y) ⟨g,o,c,sL c (by show(x.v% y.v).natAbs<=_;omega),?_⟩ (by show(x.v% y.v).toNat<y.v.toNat;omega);show fc y.v (x.v% y.v)=_;rw[<-f,fc,fc,m,n5 y.v.natAbs,<-Nat.gcd_rec,n5]
theorem aPN{o x k A:Nat}(hx:1<=x)(d:1<=o)(h:o*x^k=A)(hk:1<=k):o*x<=A/\(2<=k->x*x<=A):=by
 have a:x<=x^k:=by
  calc x=x^1:=(l2 x).symm
   _<=x^k:=kb hx hk
 refine⟨by rw[<-h];exact km _ a,fun b=>?_⟩;have c:x*x<=x^k:=by
  calc x*x=x^2:=by rw[oy]
   _<=x^k:=kb hx b
 rw[<-h];exact l3 c (n4 _ d)
theorem aAM(a:NI)(n A:Nat)(E:1<=a.v)(q:A=a.v.natAbs^n)(hl:(aw wB A).length<=400000)(F:(aw wB a.v.natAbs).length<=400000)(J:n<=1000000):az prog 264 [eI a,.int .i64 n] (eI (.mk' A)):=by
 refine aJ nf (i_ func264) mix (by simp[f264]) ?_;simp[f264];refine c1 (tM 1) ?_;rw[show fw 1=eI (.of 1)from(vB (by decide) (by decide)).symm];simp[aa];refine lp (α:=Nat×NI×NI) (fun s=>⟨[(1,.p (.int .i64 s.1)),(5,.ptr 2 []),(4,.ptr 1 []),(2,.ptr 0 [])],[.box false (.p (eI s.2.1)),.box false (.p (.st 162 [.int .i64 0,.aH])),.box false (.p (eI s.2.2))]⟩)
  (fun s=>s.1<=n/\1<=s.2.1.v/\1<=s.2.2.v/\(0<s.1->s.2.2.v.natAbs*s.2.1.v.natAbs^s.1=A)/\(s.1=0->s.2.2.v.natAbs=A)/\(aw wB s.2.1.v.natAbs).length<=400000) (fun s=>s.1) (n,a,.of 1) ⟨kC _,E,(by decide:(1:Int)<=1),fun _=>by rw[q];show(1:Int).natAbs*_=_;simp,fun h=>by have h:n=0:=h;rw[q,h,kN];rfl,F⟩ ?_
 rintro⟨k,x,o⟩ ⟨C,c,i,b,l,m⟩;dsimp only at C c i b l m
 by_cases k0:k=0
 ·subst k0;have e:eI (.mk' A)=eI o:=by
   refine n6 ?_ (fun h=>?_)
   ·rw[NI.jj,<-l rfl];omega
   ·rw[NI.jj]at h;omega
  rw[e];simp[aa]
 have b:=b o_;have r:=aPN (o:=o.v.natAbs) (x:=x.v.natAbs) o_ o_ b o_;have d:eb.wrap (k% 2^eb.bits&&&1% 2^eb.bits:Nat)=(k% 2:Nat):=by
  rw[show(2^eb.bits:Nat)=18446744073709551616 from rfl,j7 (show k<18446744073709551616 by omega),show 1% 18446744073709551616=2^1-1 from rfl,nb];exact aK _ o_ o_
 have hs:(k:Int).fdiv (2^min 1 eb.bits)=(k/2:Nat):=by
  rw[show((2:Int)^min 1 eb.bits)=2 from rfl,hg _ (by decide)];omega
 have j:0<k:=o_
 have K:(aw wB o.v.natAbs).length<=400000:=by
  have D:o.v.natAbs<=A:=l3 (n0 _ (show 0<x.v.natAbs by omega)) r.1;have:=et bt _ _ (kg D (cK bt A));omega
 have z:2<=k->(aw wB (x.v*x.v).natAbs).length<=400000:=fun h=>by
  have:=et bt _ _ (kg (r.2 h) (cK bt A));rw[gx];omega
 have y:(1:Int)<=o.v*x.v:=by
  have:=hB i c (by decide) o_;omega
 have B:(1:Int)<=x.v*x.v:=by
  have:=hB c c (by decide) o_;omega
 have u:=BR o x o_;have w:=BR x x o_;have g:x.v.natAbs^k=(x.v*x.v).natAbs^(k/2)*x.v.natAbs^(k% 2):=by
  rw[gx,<-oy,<-nc,<-kA,ko]
 by_cases H:k% 2=1
 ·rw[H,l2]at g;have t:((k% 2:Nat):Int)=1:=by omega
  rw[t]at d
  by_cases k1:1<k
  ·have f:(1:Int)<k:=by omega
   simp[j,d];refine c2 u ?_;simp[aa,f];refine c2 w ?_;simp[aa,hs];refine rd (k/2,x.mul x,o.mul x) ⟨o_,B,y,fun _=>?_,fun h=>by dsimp only at h;omega,z k1⟩ (by dsimp only;omega);rw[g]at b;show(o.v*x.v).natAbs*(x.v*x.v).natAbs^(k/2)=A;rw[<-b,gx o.v,j5 ((x.v*x.v).natAbs^(k/2)),kp]
  ·have f:¬(1:Int)<k:=by omega
   have G:k=1:=o_
   simp[j,d];refine c2 u ?_;simp[aa,f,hs];refine rd (k/2,x,o.mul x) ⟨o_,c,y,fun h=>by dsimp only at h;omega,fun _=>?_,m⟩ (by dsimp only;omega);subst G;rw[l2]at b;show(o.v*x.v).natAbs=A;rw[<-b,gx]
 ·have I:k% 2=0:=by omega
  rw[I,kN,m5]at g;have t:¬((k% 2:Nat):Int)=1:=o_
  rw[show((k% 2:Nat):Int)=0 by omega]at d;have f:(1:Int)<k:=o_
  simp[j,d,f];refine c2 w ?_;simp[aa,hs];refine rd (k/2,x.mul x,o) ⟨o_,B,i,fun _=>?_,fun h=>by dsimp only at h;omega,z o_⟩ (by dsimp only;omega);show o.v.natAbs*(x.v*x.v).natAbs^(k/2)=A;rw[<-g,b]
theorem JV(x:Nat)(hx:x<18446744073709551616):az prog 317 [.int .u64 x] (.int .i64 (ed x:Nat)):=by
 refine kG (jA func317 k_) fun w ad d _ _ c=>?_;obtain⟨a,rfl,b⟩:=AQ c;simp only[aC]at b;subst b;refine(bits_Len64 x w o_ o_).mono ?_;rintro e w' ⟨rfl,rfl⟩;refine⟨_,rfl,⟨kC _,fun _ _=>rfl,rfl,rfl⟩,fun w ad=>?_⟩;simp only[aC];rfl
def pI(n:Nat):Nat:=if n=0 then 0 else 64*((aw wB n).length-1)+ed (ae wB n ((aw wB n).length-1))
theorem uz{n:Nat}:aw wB n=[]↔n=0:=by
 constructor
 ·intro h;have:=cK bt n;rw[h,hQ,kN]at this;omega
 ·rintro rfl;exact mq
theorem OL(n:Nat):n<2^pI n:=by
 by_cases b:n=0
 ·subst b;exact kd (by decide)
 ·rw[pI,if_neg b];have hl:=cK bt n;have i:0<(aw wB n).length:=by
   rcases kP (aw wB n).length with h|h
   ·exact(b (uz.1 (hU.1 h))).elim
   ·exact h
  obtain⟨m,g⟩:∃m,(aw wB n).length=m+1:=⟨(aw wB n).length-1,o_⟩
  rw[g]at hl⊢;rw[kW];have d:n/wB^m<wB:=by
   rw[j6 (kd (by decide)),j5,<-j9];exact hl
  have e:ae wB n m=n/wB^m:=by rw[ae,j7 d]
  have f:0<n/wB^m:=by
   rcases kP (n/wB^m)with h|h
   ·have c:n<wB^m:=by
     rcases lc n (wB^m)with a|a
     ·exact a
     ·have:=nl a (kd (show 0<wB by decide));omega
    have:=et bt m n c;omega
   ·exact h
  have c:=Ao (n/wB^m) (n/wB^m) (kC _) f d;rw[e,kA,nc];show n<wB^m*_;have a:n<(n/wB^m+1)*wB^m:=by
   rw[<-j6 (kd (by decide))];omega
  rw[j5]at a;exact j8 a (km _ c.2.2)
theorem aAD(a:NI)(l:okW a.v):az prog 285 [eI a] (.int .i64 (pI a.v.natAbs:Nat)):=by
 have b:=pf (eI a) a.v (nh a);refine aJ nf (i_ func285) mix (by simp[f285]) ?_;have o:=o8 l;have q:∀i(h:i<(aw wB a.v.natAbs).length),(aw wB a.v.natAbs)[i]=ae wB a.v.natAbs i:=fun i h=>eU bt h;have f:=cN (B:=wB) bt a.v.natAbs ((aw wB a.v.natAbs).length-1);have j:=JV _ f;have A:=OL a.v.natAbs;have s:=uz (n:=a.v.natAbs)
 by_cases e:a.v.natAbs=0
 ·rw[e]at b⊢;simp only[eN,mq]at b;simp[f285];refine c1 b ?_;simp[pI]
 ·have k:=mt s.1 e;rw[pI,if_neg e];have p:ed (ae wB a.v.natAbs ((aw wB a.v.natAbs).length-1))<=64:=by
   rcases kP (ae wB a.v.natAbs ((aw wB a.v.natAbs).length-1))with h|h
   ·rw[h];decide
   ·exact SD h f
  simp only[eN]at b;generalize aw wB a.v.natAbs=x at*;obtain⟨m,d⟩:∃m,x.length=m+1:=⟨x.length-1,by cases x with|nil=>exact(k rfl).elim|cons c cs=>simp⟩
  rw[d,kW]at j p f;rw[d,kW];rw[d]at o;have hx:=q m o_;have t:x[m]?=some (ae wB a.v.natAbs m):=by rw[hJ o_,hx]
  have u:eb.wrap (m:Int)=m:=aK _ o_ o_;have w:eb.wrap (64*(m:Int))=64*m:=aK _ o_ o_;have y:eb.wrap (64*(m:Int)+(ed (ae wB a.v.natAbs m):Nat))=(64*m+ed (ae wB a.v.natAbs m):Nat):=by rw[aK _ o_ o_];push_cast;rfl
  generalize ed (ae wB a.v.natAbs m)=g at*;have z:eb.wrap (64*(m:Int)+g)=64*m+g:=by rw[y];push_cast;rfl
  simp[f285];refine c1 b ?_;have r:¬((m:Int)+1=0):=o_
  simp[k,d,u,w,t,hx,r];refine c1 j ?_;simp[z]
noncomputable def eF(a:NF):PV:=.st 164 [eI a.num,eI a.den]
@[simp] theorem aTT(a:NF):aP (eF a)=.agg 164:=rfl
@[simp] theorem aSC(a:NF):cS (eF a)=[eI a.num,eI a.den]:=rfl
@[simp] theorem aUc(n:Int):aP (fw n)=.agg 162:=rfl
@[simp] theorem aRJ:prog.cellsOf 162=2:=k_
@[simp] theorem aRK:prog.cellsOf 164=4:=k_
theorem PH:fw 1=eI (.mk' 1):=(pH (by decide) (by decide)).symm
def kB:Nat:=100000
theorem rG:kB<=3*kB:=n4 _ (by decide)
theorem AF{n k:Nat}(h:n<2^k):(aw wB n).length<=k/64+1:=by
 refine et bt _ _ (j8 h ?_);rw[show wB=2^64 from rfl,<-nc];exact kb (by decide) o_
theorem iV{z:Int}{k:Nat}(h:z.natAbs<2^k)(hk:k<=3*kB):okW z:=by
 have:=AF h;have a:kB=100000:=rfl;rw[okW];omega
def NF.make(n d:NI):NF:=⟨oW n.v d.v,n.m&&decide (d.v=1)⟩
theorem Ep(a:NF):az prog 180 [eF a] (.bool a.fL):=by
 refine aJ nf (i_ func180) mix (by simp[f180]) ?_;have f:a.den.v=a.q.den:=rfl;have h:=a.q.den_pos;rcases hs:a.den.sm with _|_
 ·obtain⟨c,cs,d⟩:=pE hs;have g:=NI.Bs (a:=a.den) (by rw[hs];decide);have b:a.fL=false:=by rw[NF.fL,decide_eq_false_iff_not];omega
  simp[f180,aa,d,dy,cU,b]
 ·have d:=mY hs;have e:=nY hs;rw[f]at e;have b:a.fL=decide ((a.q.den:Int)=1):=by rw[NF.fL,decide_eq_decide];omega
  simp[f180,aa,d,e,dy,cU,b];rfl
theorem Fy(a:NI):az prog 177 [eI a] (eF (.whole a)):=by
 refine aJ nf (i_ func177) mix (by simp[f177]) ?_;simp[f177];refine e1 (tM 1) ?_;have b:(NF.whole a).num=a:=by cases a;rfl
 have c:(NF.whole a).den=.mk' 1:=rfl;simp[aa,eF,b,c,PH]
theorem ry(n:Int)(h:-9223372036854775808<=n)(b:n<=9223372036854775807):az prog 94 [.int .i64 n] (eF (.int n)):=by
 have a:=Fy (.of n);rw[vB h b]at a;refine aJ nf (i_ func94) mix (by simp[f94]) ?_;simp[f94];refine c1 (tM n) ?_;simp;refine c1 a ?_;simp[aa];exact Wk.refl _
theorem FP(q:Rat):(if q<0 then(-1:Int)else if q=0 then 0 else 1)=if q.num<0 then -1 else if q.num=0 then 0 else 1:=by
 have a:q<0↔q.num<0:=by rw[<-Rat.not_le,<-Rat.num_nonneg];omega
 have b:q=0↔q.num=0:=o1.symm;simp only[a,b]
theorem Fw(a:NF):az prog 122 [eF a] (.int .i64 (if a.q<0 then -1 else if a.q=0 then 0 else 1)):=by
 have b:=vi a.num;refine aJ nf (i_ func122) mix (by simp[f122]) ?_;simp[f122,aa];refine c1 b ?_;simp;exact FP a.q
theorem BD(a:NF)(h:bE kB a.q):az prog 173 [eF a] (eF a.neg):=by
 have d:=vw a.num (iV h.1 rG);refine aJ nf (i_ func173) mix (by simp[f173]) ?_;simp[f173,aa];refine e1 d ?_;have b:a.neg.num=a.num.neg:=by show(⟨(-a.q).num,false⟩:NI)=⟨-a.q.num,false⟩;rw[o4]
 have c:a.neg.den=a.den:=by show(⟨((-a.q).den:Int),false⟩:NI)=⟨a.q.den,false⟩;rw[o5]
 simp[aa,eF,b,c]
theorem Zg{n d:NI}(j:0<d.v):(NI.mk' (fc n.v d.v)).v≠0/\0<fc n.v d.v/\(¬d.v=1->eI (n.div (.mk' (fc n.v d.v)))=eI (NF.make n d).num)/\eI (d.div (.mk' (fc n.v d.v)))=eI (NF.make n d).den:=by
 obtain⟨dn,e⟩:∃dn:Nat,d.v=dn:=⟨d.v.toNat,o_⟩
 have f:dn≠0:=o_
 obtain⟨e1,e2⟩:=mK (n:=n.v) f;have c:fc n.v d.v=(mx n.v.natAbs dn:Nat):=by rw[fc,e];rfl
 have k:0<mx n.v.natAbs dn:=Nat.gcd_pos_of_pos_right _ o_;have i:(mx n.v.natAbs dn:Int)∣n.v:=hr.2 (oo _ _);refine⟨by rw[NI.jj,c];omega,by rw[c];omega,fun g=>?_,?_⟩
 ·refine n6 ?_ (fun _=>?_)
  ·show n.v/fc n.v d.v=(oW n.v d.v).num;rw[c,e,e1]
  ·show decide (n.v% fc n.v d.v≠0)=(n.m&&decide (d.v=1))
   rw[c,Int.emod_eq_zero_of_dvd i];simp[g]
 ·refine n6 ?_ (fun h=>?_)
  ·show d.v/fc n.v d.v=((oW n.v d.v).den:Int)
   rw[c,e,e2];exact(Int.natCast_ediv _ _).symm
  ·have:d.v/fc n.v d.v= -9223372036854775808:=h;have:=g0 (a:=d.v) (b:=fc n.v d.v) o_ (by rw[c];omega);omega
theorem avL{n d:NI}(a:d.v<0):NF.make n.neg d.neg=NF.make n d:=by
 rw[NF.make,NF.make];have e1:oW n.neg.v d.neg.v=oW n.v d.v:=Rat.neg_divInt_neg _ _;have e2:(n.neg.m&&decide (d.neg.v=1))=(n.m&&decide (d.v=1)):=by
  rw[show n.neg.m=false from rfl,ce,decide_eq_false o_,b5]
 rw[e1,e2]
theorem Mi(n:Int):(oW n 1).num=n/\(oW n 1).den=1:=by
 obtain⟨e1,e2⟩:=mK (n:=n) (show 1≠0 by decide);rw[oi]at e1 e2;refine⟨?_,?_⟩
 ·exact e1.trans (hC n)
 ·exact e2
theorem F7(n d:NI)(A:d.v≠0)(q:okW n.v)(o:okW d.v):az prog 182 [eI n,eI d] (eF (.make n d)):=by
 have i:=vi d;refine aJ nf (i_ func182) mix (by simp[f182]) ?_;simp[f182,-bB];rw[bB];simp[-bB];refine join (fun s=>∃a d':NI,0<d'.v/\okW a.v/\okW d'.v/\NF.make a d'=NF.make n d/\aS s.env 2=.ptr 0 []/\aS s.env 3=.ptr 1 []/\aS s.env 4=.ptr 2 []/\s.heap=[.box false (.p (eI a)),.box false (.p (eI d')),.box false (.p (.st 164 [.st 162 [.int .i64 0,.aH],.st 162 [.int .i64 0,.aH]]))]) ?_ ?_
 ·by_cases l:d.v<0
  ·rw[if_pos l]at i;simp;refine c1 i ?_;simp;refine e1 (vw n q) ?_;simp;refine e1 (vw d o) ?_;simp[aa];exact⟨⟨rfl,rfl⟩,n.neg,d.neg,by rw[NI.GU];omega,sL q (by rw[NI.GU];omega),sL o (by rw[NI.GU];omega),avL l,rfl,rfl⟩
  ·rw[if_neg l,if_neg A]at i;simp;refine c1 i ?_;simp;exact⟨n,d,o_,q,o,rfl,rfl,rfl⟩
 ·rintro⟨G,H⟩ ⟨a,d',F,y,r,z,b,e,f,u⟩;dsimp only at b e f u;subst u;rw[<-z];clear z i;have t:=SG a d' y r;obtain⟨g1,g2,g3,g4⟩:=Zg (n:=a) F;have og:okW (fc a.v d'.v):=by
   refine sL r ?_;rw[fc];exact l3 (n3 (gy _)) (Nat.gcd_le_right _ o_)
  have w:=SJ a (.mk' (fc a.v d'.v)) g2 y og;have x:=SJ d' (.mk' (fc a.v d'.v)) g2 r og
  by_cases hs:d'.v=1
  ·have g:d'.sm=true:=NI.BJ o_ o_;have j:=mY g;have k:=nY g;rw[hs]at k;have C:eF (.make a d')=.st 164 [eI a,eI d']:=by
    rw[eF];have D:(NF.make a d').num=a:=by
     show(⟨(oW a.v d'.v).num,a.m&&decide (d'.v=1)⟩:NI)=a;rw[hs,(Mi _).1];simp
    have E:eI (NF.make a d').den=eI d':=by
     refine n6 ?_ (fun h=>?_)
     ·show((oW a.v d'.v).den:Int)=d'.v;rw[hs,(Mi _).2];rfl
     ·have:((oW a.v d'.v).den:Int)= -9223372036854775808:=h;omega
    rw[D,E]
   rw[C];simp[b,e,f,aa,j,k,dy,cU]
   done
  ·rw[eF,<-g3 hs,<-g4];have B:(wI d'=.aH/\¬sI d'=1)\/∃c cs,wI d'=.seq (c::cs):=by
    rcases g:d'.sm with _|_
    ·exact .inr (pE g)
    ·exact .inl ⟨mY g,by rw[nY g];exact hs⟩
   rcases B with⟨j,k⟩|⟨c,cs,j⟩
   ·simp[b,e,f,aa,j,k,dy,cU];refine c2 t ?_;simp[b,e,f,aa];refine e2 w ?_;simp[b,e,f,aa];refine e2 x ?_;simp[b,e,f,aa]
    done
   ·simp[b,e,f,aa,j,dy,cU];refine c2 t ?_;simp[b,e,f,aa];refine e2 w ?_;simp[b,e,f,aa];refine e2 x ?_;simp[b,e,f,aa]
    done
theorem mn(a:NF):a.num.v=a.q.num:=rfl
theorem kj(a:NF):a.den.v=a.q.den:=rfl
theorem lA(a:NF):a.den.v.natAbs=a.q.den:=by rw[kj,gy]
theorem tD{x y:NI}{k l:Nat}(hx:x.v.natAbs<2^k)(a:y.v.natAbs<2^l)(h:k+l<=4*kB):az prog 183 [eI x,eI y] (eI (x.mul y)):=by
 have b:=AF hx;have c:=AF a;have d:kB=100000:=rfl;exact BR x y o_
theorem qp{x y:Int}{k l:Nat}(hx:x.natAbs<2^k)(a:y.natAbs<2^l):(x*y).natAbs<2^(k+l):=by
 rw[gx,kA];exact lb hx a
theorem Fa{n d:NI}{q:Rat}(m:Bool)(hq:oW n.v d.v=q)(a:(n.m&&decide (d.v=1))=m):NF.make n d=⟨q,m⟩:=by rw[NF.make,hq,a]
theorem avI(a b:NF):NF.make (a.num.mul b.num) (a.den.mul b.den)=a.mul b:=by
 refine Fa _ ?_ rfl;rw[NI.mX,NI.mX,mn,mn,kj,kj,pa,o0];rfl
theorem qQ(a b:NF)(c:bE kB a.q)(d:bE kB b.q):az prog 184 [eF a,eF b] (eF (a.mul b)):=by
 have f:=tD (x:=a.num) (y:=b.num) c.1 d.1 o_;have g:=tD (x:=a.den) (y:=b.den) (by rw[lA];exact c.2) (by rw[lA];exact d.2) o_;have e:=F7 (a.num.mul b.num) (a.den.mul b.den) (by rw[NI.mX,kj,kj];have:=a.q.den_nz;have:=b.q.den_nz;exact hA o_ o_) (iV (qp c.1 d.1) o_) (iV (qp (x:=a.den.v) (y:=b.den.v) (by rw[lA];exact c.2) (by rw[lA];exact d.2)) o_);rw[avI]at e;refine aJ nf (i_ func184) mix (by simp[f184]) ?_;simp[f184,aa];refine e2 f ?_;simp[aa];refine e2 g ?_;simp[aa];refine e2 e ?_;simp[aa]
theorem avZ(a:NF)(h:a.q≠0):NF.make a.den a.num=a.inv:=by
 refine Fa _ ?_ rfl;rw[mn,kj];show oW a.q.den a.q.num=a.q⁻¹;rw[pb]
theorem O2(a:NF)(c:bE kB a.q)(b:a.q≠0):az prog 185 [eF a] (eF a.inv):=by
 have d:=F7 a.den a.num (by rw[mn];exact mt o1.1 b) (iV (by rw[lA];exact c.2) rG) (iV c.1 rG);rw[avZ a b]at d;refine aJ nf (i_ func185) mix (by simp[f185]) ?_;simp[f185,aa];refine c2 d ?_;simp[aa]
theorem Sz(a b:NF)(g:bE kB a.q)(c:bE kB b.q)(f:b.q≠0):az prog 99 [eF a,eF b] (eF (a.div b)):=by
 have h:=O2 b c f;have d:=qQ a b.inv g (Ls c);have e:a.mul b.inv=a.div b:=by
  rw[NF.mul,NF.div,NF.inv,pc]
 rw[e]at d;refine aJ nf (i_ func99) mix (by simp[f99]) ?_;simp[f99,aa];refine e1 h ?_;simp[aa];refine e2 d ?_;simp[aa]
theorem awN(a b:NF)(h:¬(a.fL=true/\b.fL=true)):NF.make ((a.num.mul b.den).add (b.num.mul a.den)) (a.den.mul b.den)=a.add b:=by
 have g:(a.fL&&b.fL)=false:=by simpa using h
 refine Fa _ ?_ ?_
 ·rw[NI.tH,NI.mX,NI.mX,NI.mX,mn,mn,kj,kj,o3];rfl
 ·rw[g,ce];have:¬(a.den.mul b.den).v=1:=by
   intro c;rw[NI.mX,kj,kj]at c;have d:a.q.den*b.q.den=1:=by exact_mod_cast c
   have e:=Nat.eq_one_of_mul_eq_one_right d;have f:=Nat.eq_one_of_mul_eq_one_left d;exact h ⟨by rw[NF.fL];simp[e,f],by rw[NF.fL];simp[e,f]⟩
  rw[decide_eq_false this,b5]
theorem PJ{q:Rat}(h:q.den=1):(q.num:Rat)=q:=by
 apply Rat.ext
 ·rw[Rat.num_intCast]
 ·rw[Rat.den_intCast,h]
theorem vG(a b:NF)(j:bE kB a.q)(k:bE kB b.q):az prog 96 [eF a,eF b] (eF (a.add b)):=by
 have d:=Ep a;have n:=Ep b;refine aJ nf (i_ func96) mix (by simp[f96]) ?_
 by_cases hw:a.fL=true/\b.fL=true
 ·rw[hw.1]at d;rw[hw.2]at n;have l:=yL a.num b.num (iV j.1 rG) (iV k.1 rG);have g:=Fy (a.num.add b.num);have c:a.q.den=1:=by simpa[NF.fL]using hw.1
  have f:b.q.den=1:=by simpa[NF.fL]using hw.2
  have e:NF.whole (a.num.add b.num)=a.add b:=by
   rw[NF.whole,NF.add];have e1:(((a.num.add b.num).v:Int):Rat)=a.q+b.q:=by
    rw[NI.tH,mn,mn,Rat.intCast_add,PJ c,PJ f]
   have e2:(a.num.add b.num).m=(a.fL&&b.fL&&(a.num.sm&&b.num.sm)):=by rw[hw.1,hw.2];rfl
   rw[e1,e2]
  rw[e]at g;simp[f96,aa];refine c1 d ?_;simp[aa];refine c1 n ?_;simp[aa];refine c2 l ?_;simp[aa];refine c1 g ?_;simp[aa]
 ·have h:a.den.v.natAbs<2^kB:=by rw[lA];exact j.2
  have i:b.den.v.natAbs<2^kB:=by rw[lA];exact k.2
  have l:=tD (x:=a.num) (y:=b.den) j.1 i o_;have g:=tD (x:=b.num) (y:=a.den) k.1 h o_;have s:(a.num.mul b.den).v.natAbs<2^(kB+kB):=qp j.1 i;have t:(b.num.mul a.den).v.natAbs<2^(kB+kB):=qp k.1 h;have p:=yL _ _ (iV s o_) (iV t o_);have r:=tD (x:=a.den) (y:=b.den) h i o_;have u:((a.num.mul b.den).add (b.num.mul a.den)).v.natAbs<2^(kB+kB+1):=by
   rw[NI.tH,j9];exact kg (hv _ _) o_
  have w:kB=100000:=rfl;have o:=F7 ((a.num.mul b.den).add (b.num.mul a.den)) (a.den.mul b.den) (by rw[NI.mX,kj,kj];have:=a.q.den_nz;have:=b.q.den_nz;exact hA o_ o_) (iV u o_) (iV (qp (x:=a.den.v) (y:=b.den.v) h i) o_);rw[awN a b hw]at o;have hc:a.fL=false\/(a.fL=true/\b.fL=false):=by
   rcases c:a.fL with _|_
   ·exact .inl rfl
   ·exact .inr ⟨rfl,by rcases f:b.fL with _|_;rfl;exact(hw ⟨c,f⟩).elim⟩
  rcases hc with c|⟨c,f⟩
  ·rw[c]at d;simp[f96,aa];refine c1 d ?_;simp[aa];refine e2 l ?_;simp[aa];refine e2 g ?_;simp[aa];refine e2 p ?_;simp[aa];refine e2 r ?_;simp[aa];refine e2 o ?_;simp[aa]
  ·rw[c]at d;rw[f]at n;simp[f96,aa];refine c1 d ?_;simp[aa];refine c1 n ?_;simp[aa];refine e2 l ?_;simp[aa];refine e2 g ?_;simp[aa];refine e2 p ?_;simp[aa];refine e2 r ?_;simp[aa];refine e2 o ?_;simp[aa]
theorem yo(a b:NF)(d:bE kB a.q)(c:bE kB b.q):az prog 172 [eF a,eF b] (eF (a.sub b)):=by
 have e:=BD b c;have f:=vG a b.neg d (vg c);refine aJ nf (i_ func172) mix (by simp[f172]) ?_;simp[f172,aa];refine e1 e ?_;simp[aa];refine e2 f ?_;simp[aa];exact Wk.refl _
def dx(x y:Rat):Int:=if x<y then -1 else if x=y then 0 else 1
theorem aPl(a b:Rat):kY (a.num*b.den) (b.num*a.den)=dx a b:=by
 have c:a<b↔a.num*b.den<b.num*a.den:=pi _ _;have f:a=b↔a.num*b.den=b.num*a.den:=by
  constructor
  ·rintro rfl;rfl
  ·intro h
   by_cases d:a<b
   ·rw[c]at d;omega
   ·by_cases e:b<a
    ·have g:=(pi b a).1 e;omega
    ·exact Rat.le_antisymm (pd.1 e) (pd.1 d)
 simp only[kY,dx,c,f]
theorem rl(a b:NF)(c:bE kB a.q)(d:bE kB b.q):az prog 101 [eF a,eF b] (.int .i64 (dx a.q b.q)):=by
 have e:a.den.v.natAbs<2^kB:=by rw[lA];exact c.2
 have f:b.den.v.natAbs<2^kB:=by rw[lA];exact d.2
 have j:=tD (x:=a.num) (y:=b.den) c.1 f o_;have k:=tD (x:=b.num) (y:=a.den) d.1 e o_;have h:(a.num.mul b.den).v.natAbs<2^(kB+kB):=qp c.1 f;have i:(b.num.mul a.den).v.natAbs<2^(kB+kB):=qp d.1 e;have g:=SF _ _ (iV h o_) (iV i o_);rw[NI.mX,NI.mX,mn,mn,kj,kj,aPl]at g;refine aJ nf (i_ func101) mix (by simp[f101]) ?_;simp[f101,aa];refine e2 j ?_;simp[aa];refine e2 k ?_;simp[aa];refine e2 g ?_;simp[aa]
def low:Nat->Nat->List Nat
 |0,_=>[]
 |i+1,n=>(48+n/10^i% 10)::low i n
def nd(n:Nat):Nat:=if h:n=0 then 0 else nd (n/10)+1
 decreasing_by omega
theorem n8:∀(i n:Nat),i<nd n↔10^i<=n
 |0,n=>by
  rw[nd];split
  ·subst n;simp
  ·simp;omega
 |i+1,n=>by
  rw[nd];split
  ·rename_i h;subst h;have:=kd (n:=i+1) (show 0<10 by omega);constructor
   ·intro h;omega
   ·intro h;omega
  ·have:=n8 i (n/10);rw[lk o_,<-j9]at this;rw[<-this];omega
theorem sQ(b n:Nat):∀a,low (a+b) n=low a (n/10^b)++low b n
 |0=>by simp[low]
 |a+1=>by
  rw[show a+1+b=(a+b)+1 by omega,low,low,sQ b n a,kc,<-kA,lm b a];rfl
theorem Fb(n k:Nat):∀b,b<=k->low b (n% 10^k)=low b n
 |0,_=>rfl
 |b+1,h=>by
  have e:k=b+(k-b-1+1):=o_
  have a:n% 10^k/10^b=n/10^b% 10^(k-b-1+1):=by
   conv=>lhs;rw[e,kA]
   rw[mj]
  rw[low,low,Fb n k b o_,a,Nat.mod_mod_of_dvd _ (Nat.pow_dvd_pow 10 (show 1<=k-b-1+1 by omega)|>fun h=>by simpa using h)]
theorem aO0{n m:Nat}(h:∀i,i<nd n↔i<m):nd n=m:=by
 have a:=h m;have b:=h (nd n);omega
theorem FR{n k:Nat}(h:10^k<=n):nd n=nd (n/10^k)+k:=by
 refine aO0 fun i=>?_;rw[n8]
 by_cases hi:i<k
 ·have:=kb (show 0<10 by omega) (ox hi);constructor
  ·intro _;omega
  ·intro _;omega
 ·obtain⟨j,rfl⟩:∃j,i=j+k:=⟨i-k,o_⟩
  rw[kA,<-lk (kd o_),<-n8];omega
theorem tF{n k:Nat}(h:n<10^k):nd n<=k:=by
 rcases lc k (nd n)with a|a
 ·rw[n8]at a;omega
 ·exact a
theorem yB{n:Nat}(h:0<n):0<nd n:=by rw[n8,kN];exact h
theorem avM{M:Nat}(h:10^9<=M):low (nd M) M=low (nd (M/10^9)) (M/10^9)++low 9 (M% 10^9):=by
 rw[FR h,sQ,Fb _ _ _ (kC 9)]
theorem sP(n:Nat):∀i,(low i n).length=i
 |0=>rfl
 |i+1=>by simp[low,sP n i]
def bc(n:Nat):List Nat:=low (max 1 (nd n)) n
def bW(z:Int):List Nat:=if z<0 then 45::bc z.natAbs else bc z.natAbs
def bg(q:Rat):List Nat:=if q.den=1 then bW q.num else bW q.num++47::bc q.den
def bd(s:List Nat):Nat:=s.foldl (fun n c=>n*10+(c-48)) 0
def cH(c:Nat):Bool:=decide (48<=c)&&decide (c<=57)
theorem Ar(s:List Nat)(c:Nat):bd (s++[c])=bd s*10+(c-48):=by simp[bd]
theorem uN(i n:Nat):low (i+1) n=low i (n/10)++[48+n% 10]:=by
 have:=sQ 1 n i;rw[this];simp[low]
theorem Uf:∀(i n:Nat),(low i n).all cH=true
 |0,n=>rfl
 |i+1,n=>by
  rw[low,hT,Uf i n];have:=kk (n/10^i) (show 0<10 by omega);simp[cH];omega
theorem Og:∀(i n:Nat),bd (low i n)=n% 10^i
 |0,n=>by simp[low,bd,md]
 |i+1,n=>by
  rw[uN,Ar,Og i,j9,j5 (10^i),nk];omega
theorem Be(n:Nat):n<10^nd n:=by
 rcases lc n (10^nd n)with h|h
 ·exact h
 ·have:=(n8 (nd n) n).2 h;omega
theorem qU(n:Nat):bd (bc n)=n:=by
 rw[bc,Og];refine j7 (j8 (Be n) (kb o_ o_))
theorem CK{a b:Nat}(h:bc a=bc b):a=b:=by rw[<-qU a,h,qU]
theorem qA(n:Nat):(bc n).length=max 1 (nd n):=sP _ _
theorem pJ(n:Nat):(bc n).all cH=true:=Uf _ _
theorem nP:bc 0=[48]:=by
 have:nd 0=0:=by rw[nd,dif_pos rfl]
 rw[bc,this];rfl
theorem Vh{n:Nat}(h:0<n):(bc n).head?=some (48+n/10^(nd n-1))/\0<n/10^(nd n-1)/\n/10^(nd n-1)<10:=by
 have d:=yB h;obtain⟨k,hk⟩:∃k,nd n=k+1:=⟨nd n-1,o_⟩
 have e:max 1 (nd n)=k+1:=o_
 have c:=(n8 k n).1 o_;have a:=Be n;rw[hk]at a;have b:n/10^k<10:=by rw[j6 (kd o_),j5,<-j9];exact a
 rw[bc,e,hk,kW];exact⟨by rw[low,h6,j7 b],nl c (kd o_),b⟩
def dV(s:List Nat):Bool:=!s.isEmpty&&s.all cH&&(decide (s.head?≠some 48)||decide (s=[48]))
theorem Hw(n:Nat):dV (bc n)=true:=by
 rcases kP n with rfl|h
 ·rw[nP];rfl
 ·obtain⟨b,f,g⟩:=Vh h;have d:(bc n).isEmpty=false:=by
   have:=qA n;cases he:bc n with
   |nil=>rw[he]at this;simp at this;omega
   |cons a l=>rfl
  have c:¬(some (48+n/10^(nd n-1))=some 48):=by intro e;injection e with e;omega
  simp only[dV,d,pJ,b,Bool.not_false,cr,ne_eq,c,not_false_eq_true,decide_true,Bool.true_or]
theorem jZ:∀(k:Nat)(s:List Nat),s.length=k->s.all cH=true->bd s<10^k
 |0,s,h,_=>by
            have:s=[]:=hU.1 h
            subst this;simp[bd]
 |n+1,s,h,a=>by
  have b:s≠[]:=by intro e;subst e;simp at h
  obtain⟨t,c,rfl⟩:∃t c,s=t++[c]:=⟨s.dropLast,s.getLast b,(h7 b).symm⟩
  simp only[js,hT,j3,cb,b2]at a;have d:=jZ n t (by simpa using h) a.1;have hc:=a.2;simp only[cH,b2,decide_eq_true_eq]at hc;rw[Ar,j9];omega
theorem Pb:∀(k:Nat)(s:List Nat),s.length=k->s.all cH=true->low k (bd s)=s
 |0,s,h,_=>by
            have:s=[]:=hU.1 h
            subst this;rfl
 |n+1,s,h,a=>by
  have b:s≠[]:=by intro e;subst e;simp at h
  obtain⟨t,c,rfl⟩:∃t c,s=t++[c]:=⟨s.dropLast,s.getLast b,(h7 b).symm⟩
  simp only[js,hT,j3,cb,b2]at a;have d:=Pb n t (by simpa using h) a.1;have hc:=a.2;simp only[cH,b2,decide_eq_true_eq]at hc;rw[uN,Ar];have e1:(bd t*10+(c-48))/10=bd t:=o_
  have e2:(bd t*10+(c-48))% 10=c-48:=o_
  rw[e1,e2,d];congr 2;omega
theorem Xw(c:Nat)(s:List Nat)(h:49<=c):10^s.length<=bd (c::s):=by
 have key:∀(s:List Nat)(a:Nat),a*10^s.length<=s.foldl (fun n c=>n*10+(c-48)) a:=by
  intro s
  induction s with
  |nil=>intro a;simp
  |cons x r b=>
   intro a;rw[jp,hV];refine l3 ?_ (b _);rw[j9,j5 (10^r.length),<-kp];exact kh _ o_
 have:=key s (c-48);rw[bd,jp,mp,l1];refine l3 ?_ this;have:1*10^s.length<=(c-48)*10^s.length:=kh _ o_;omega
theorem ye{s:List Nat}(h:dV s=true):bc (bd s)=s:=by
 simp only[dV,b2,b3,decide_eq_true_eq,b4]at h;obtain⟨⟨f,a⟩,b⟩:=h;rcases b with b|rfl
 ·cases s with
  |nil=>simp at f
  |cons c r=>
   have hc:cH c=true:=by simpa using(hT.symm.trans a|>fun h=>by simpa using h:cH c=true/\r.all cH=true).1
   simp only[cH,b2,decide_eq_true_eq]at hc;have i:49<=c:=by
    have:c≠48:=fun e=>b (by rw[e];rfl);omega
   have g:=jZ _ _ rfl a;have j:=Xw c r i;have k:nd (bd (c::r))=r.length+1:=by
    have l:=(n8 r.length _).2 j;have d:=tF g;rw[hV]at d;omega
   rw[bc,k,show max 1 (r.length+1)=r.length+1 by omega];exact Pb _ _ rfl a
 ·have:bd [48]=0:=rfl;rw[this,nP]
def cz(c:Nat):List Nat->List Nat×List Nat×Bool
 |[]=>([],[],false)
 |x::r=>if x=c then([],r,true)else(x::(cz c r).1,(cz c r).2.1,(cz c r).2.2)
theorem EI(c:Nat):∀(a b:List Nat),c∉a->cz c (a++c::b)=(a,b,true)
 |[],b,_=>by simp[cz]
 |x::a,b,h=>by
  simp only[hX,not_or]at h;rw[hP,cz,if_neg (fun e=>h.1 e.symm),EI c a b h.2]
theorem Eo(c:Nat):∀(a:List Nat),c∉a->cz c a=(a,[],false)
 |[],_=>rfl
 |x::a,h=>by
  simp only[hX,not_or]at h;rw[cz,if_neg (fun e=>h.1 e.symm),Eo c a h.2]
theorem qJ(c:Nat):∀(s:List Nat),((cz c s).2.2=true/\s=(cz c s).1++c::(cz c s).2.1)\/((cz c s).2.2=false/\(cz c s).1=s/\(cz c s).2.1=[])
 |[]=>by simp[cz]
 |x::s=>by
  rw[cz]
  by_cases h:x=c
  ·subst h;simp
  ·rw[if_neg h];rcases qJ c s with⟨a,b⟩|⟨a,b,d⟩
   ·left;exact⟨a,by dsimp only;rw[hP,<-b]⟩
   ·right;exact⟨a,by dsimp only;rw[b],d⟩
def cq(s:List Nat):Bool:=decide (s.head?=some 45)
def dh(s:List Nat):List Nat:=if cq s=true then s.tail else s
def bM(s:List Nat):List Nat:=(cz 47 (dh s)).1
def b6(s:List Nat):List Nat:=(cz 47 (dh s)).2.1
def eK(s:List Nat):Bool:=(cz 47 (dh s)).2.2
def kJ(s:List Nat):Bool:=dV (bM s)&&!(cq s&&decide (bM s=[48]))&&(!eK s||(dV (b6 s)&&decide (b6 s≠[48])&&decide (b6 s≠[49])))
def bK(s:List Nat):Int:=
 if kJ s=false then 1
 else if 600<(bM s).length\/600<(b6 s).length then 4
 else if eK s=true/\mx (bd (bM s)) (bd (b6 s))≠1 then 1 else 0
def aI(s:List Nat):Rat:=oW (if cq s=true then -(bd (bM s):Int)else bd (bM s)) (if eK s=true then bd (b6 s)else 1:Nat)
theorem CJ{s:List Nat}(h:s.all cH=true){c:Nat}(hc:cH c=false):c∉s:=by
 intro a;rw[h5]at h;rw[h c a]at hc;cases hc
theorem jR{s:List Nat}(h:dV s=true):s.all cH=true:=by
 simp only[dV,b2]at h;exact h.1.2
theorem xo(n:Nat):bW (n:Int)=bc n:=by
 rw[bW,if_neg o_];rfl
theorem aQQ{n:Nat}(h:0<n):bW (-(n:Int))=45::bc n:=by
 rw[bW,if_pos o_];congr 1;rw[hd];rfl
theorem AJ{s:List Nat}(h:dV s=true)(a:s≠[48]):0<bd s:=by
 rcases kP (bd s)with e|e
 ·have:=ye h;rw[e,nP]at this;exact(a this.symm).elim
 ·exact e
theorem jg{s:List Nat}(h:bK s=0):bg (aI s)=s/\(aI s).num=(if cq s=true then -(bd (bM s):Int)else bd (bM s))/\(aI s).den=(if eK s=true then bd (b6 s)else 1:Nat):=by
 unfold bK at h
 split at h
 ·cases h
 rename_i b
 split at h
 ·cases h
 split at h
 ·cases h
 rename_i g;have b:kJ s=true:=by simpa using b
 simp only[kJ,b2,b4,cc,decide_eq_false_iff_not,b3,decide_eq_true_eq]at b;obtain⟨⟨d,a2⟩,a3⟩:=b;have hs:s=(if cq s=true then[45]else[])++dh s:=by
  rw[dh]
  by_cases a:cq s=true
  ·rw[if_pos a,if_pos a];simp only[cq,decide_eq_true_eq]at a;cases s with
   |nil=>simp at a
   |cons c r=>simp at a;subst a;rfl
  ·rw[if_neg a,if_neg a];rfl
 have i:(if eK s=true then bd (b6 s)else 1:Nat)≠0:=by
  split
  ·rename_i hf;rcases a3 with a3|a3
   ·rw[hf]at a3;cases a3
   ·have:=AJ a3.1.1 a3.1.2;omega
  ·omega
 have j:mx (if cq s=true then -(bd (bM s):Int)else bd (bM s)).natAbs (if eK s=true then bd (b6 s)else 1:Nat)=1:=by
  have e:(if cq s=true then -(bd (bM s):Int)else bd (bM s)).natAbs=bd (bM s):=by split<;>omega
  rw[e]
  by_cases hf:eK s=true
  ·rw[if_pos hf];exact Decidable.not_not.1 fun e=>g ⟨hf,e⟩
  ·rw[if_neg hf,oi]
 obtain⟨e1,e2⟩:=mK (n:=if cq s=true then -(bd (bM s):Int)else bd (bM s)) i;rw[j]at e1 e2;simp only[l0]at e2;have e1:(aI s).num=(if cq s=true then -(bd (bM s):Int)else bd (bM s)):=by rw[aI,e1];exact hC _
 have e2:(aI s).den=(if eK s=true then bd (b6 s)else 1:Nat):=e2;refine⟨?_,e1,e2⟩;have hI:bW (aI s).num=(if cq s=true then[45]else[])++bM s:=by
  rw[e1]
  by_cases a:cq s=true
  ·rw[if_pos a,if_pos a,aQQ,ye d];·rfl
   refine AJ d ?_;rcases a2 with a2|a2
   ·rw[a]at a2;cases a2
   ·exact a2
  ·rw[if_neg a,if_neg a,xo,ye d];rfl
 rw[bg,hI,e2]
 by_cases hf:eK s=true
 ·have f:dV (b6 s)=true/\b6 s≠[48]/\b6 s≠[49]:=by
   rcases a3 with a3|a3
   ·rw[hf]at a3;cases a3
   ·exact⟨a3.1.1,a3.1.2,a3.2⟩
  have k:bd (b6 s)≠1:=by
   intro e;have:=ye f.1;rw[e]at this;have b:nd 1=1:=by rw[nd,dif_neg o_,nd,dif_pos o_]
   have:bc 1=[49]:=by rw[bc,b];rfl
   exact f.2.2 (by rw[<-this];assumption|>Eq.symm)
  rw[if_pos hf,if_neg k,ye f.1]
  conv=>rhs;rw[hs]
  rw[List.append_assoc];congr 1;rcases qJ 47 (dh s)with⟨g1,g2⟩|⟨g1,_⟩
  ·exact g2.symm
  ·rw[eK,g1]at hf;cases hf
 ·rw[if_neg hf,if_pos rfl]
  conv=>rhs;rw[hs]
  congr 1;rcases qJ 47 (dh s)with⟨g1,g2⟩|⟨g1,g2,_⟩
  ·exact(hf g1).elim
  ·exact g2
theorem As(z:Int)(r:List Nat):cq (bW z++r)=decide (z<0)/\dh (bW z++r)=bc z.natAbs++r:=by
 by_cases h:z<0
 ·have:bW z=45::bc z.natAbs:=by rw[bW,if_pos h]
  rw[this];simp[cq,dh,h]
 ·have e:bW z=bc z.natAbs:=by rw[bW,if_neg h]
  have a:=pJ z.natAbs;have hl:=qA z.natAbs;rw[e];have b:cq (bc z.natAbs++r)=false:=by
   cases d:bc z.natAbs with
   |nil=>rw[d]at hl;simp at hl;omega
   |cons c t=>
    rw[d]at a;simp only[hT,b2]at a;have hc:=a.1;simp only[cH,b2,decide_eq_true_eq]at hc;have:¬(some c=some 45):=by intro e;injection e with e;omega
    simp only[cq,hP,h6,this,decide_false]
  exact⟨by rw[b];simp[h],by rw[dh,b];simp⟩
theorem uV(q:Rat):cq (bg q)=decide (q.num<0)/\bM (bg q)=bc q.num.natAbs/\eK (bg q)=decide (q.den≠1)/\b6 (bg q)=if q.den=1 then[]else bc q.den:=by
 have d:47∉bc q.num.natAbs:=CJ (pJ _) rfl
 by_cases h:q.den=1
 ·have e:bg q=bW q.num++[]:=by rw[bg,if_pos h,hN]
  obtain⟨c,b⟩:=As q.num [];rw[hN,hN]at b;have a:=Eo 47 _ d;rw[<-b]at a;rw[e];refine⟨c,?_,?_,?_⟩
  ·rw[hN,bM,a,b]
  ·rw[hN,eK,a,h];rfl
  ·rw[hN,b6,a,if_pos h]
 ·have e:bg q=bW q.num++47::bc q.den:=by rw[bg,if_neg h]
  obtain⟨c,b⟩:=As q.num (47::bc q.den);have a:=EI 47 _ (bc q.den) d;rw[<-b]at a;rw[e];refine⟨c,?_,?_,?_⟩
  ·rw[bM,a]
  ·rw[eK,a];simp[h]
  ·rw[b6,a,if_neg h]
theorem yz(q:Rat):aI (bg q)=q:=by
 obtain⟨a,b,c,d⟩:=uV q;have e1:(if cq (bg q)=true then -(bd (bM (bg q)):Int)else bd (bM (bg q)))=q.num:=by
  rw[a,b,qU]
  by_cases h:q.num<0
  ·simp[h];omega
  ·simp[h];omega
 have e2:(if eK (bg q)=true then bd (b6 (bg q))else 1:Nat)=q.den:=by
  rw[c,d]
  by_cases h:q.den=1
  ·simp[h]
  ·simp[h,qU]
 rw[aI,e1,e2,Rat.num_divInt_den]
theorem aQR{a b:Rat}(h:bg a=bg b):a=b:=by rw[<-yz a,h,yz]
theorem Hv:bc 1=[49]:=by
 have a:nd 1=1:=by rw[nd,dif_neg o_,nd,dif_pos o_]
 rw[bc,a];rfl
theorem aC0{q:Rat}(g:(bc q.num.natAbs).length<=600)(i:(bc q.den).length<=600):bK (bg q)=0:=by
 obtain⟨g1,g2,g3,g4⟩:=uV q;have hf:kJ (bg q)=true:=by
  simp only[kJ,g1,g2,g3,g4,Hw,cr,b2,b3,b4,cc,decide_eq_false_iff_not,decide_eq_true_eq];refine⟨?_,?_⟩
  ·by_cases h:q.num<0
   ·right;intro e;have:=CK (b:=0) (e.trans nP.symm);omega
   ·exact .inl h
  ·by_cases h:q.den=1
   ·left;simp[h]
   ·right;rw[if_neg h];have f:=q.den_nz;refine⟨⟨Hw _,fun e=>?_⟩,fun e=>?_⟩
    ·exact f (CK (e.trans nP.symm))
    ·exact h (CK (e.trans Hv.symm))
 rw[bK,hf,if_neg s_,g2,g3,g4];rw[if_neg (by
  intro h;rcases h with h|h
  ·omega
  ·split at h
   ·simp at h
   ·omega)]
 rw[if_neg];rintro⟨c,a⟩;have d:¬q.den=1:=by simpa using c
 rw[if_neg d,qU,qU]at a;exact a q.reduced
theorem xn{n k:Nat}(h:n<10^k)(hk:1<=k):(bc n).length<=k:=by
 rw[qA];have:=tF h;omega
theorem QQ{n k:Nat}(h:(bc n).length<=k):n<10^k:=by
 rw[qA]at h;exact j8 (Be n) (kb o_ o_)
theorem E8(z:Int):(bW z).length<=(bc z.natAbs).length+1:=by
 rw[bW];split<;>simp
theorem CL(q:Rat):(bg q).length<=(bc q.num.natAbs).length+(bc q.den).length+2:=by
 have:=E8 q.num;rw[bg];split<;>simp<;>omega
theorem Vi(q:Rat):∀c∈bg q,c<58:=by
 have a:∀n,∀c∈bc n,c<58:=fun n c hc=>by
  have:=h5.1 (pJ n) c hc;simp only[cH,b2,decide_eq_true_eq]at this;omega
 have hI:∀z,∀c∈bW z,c<58:=fun z c hc=>by
  rw[bW]at hc
  split at hc
  ·rcases hX.1 hc with rfl|hc
   ·omega
   ·exact a _ c hc
  ·exact a _ c hc
 intro c hc;rw[bg]at hc
 split at hc
 ·exact hI _ c hc
 ·rcases List.mem_append.1 hc with hc|hc
  ·exact hI _ c hc
  ·rcases hX.1 hc with rfl|hc
   ·omega
   ·exact a _ c hc
theorem YM(k:Nat):2^(3*k)<=10^k:=by
 rw[nc];exact Nat.pow_le_pow_left o_ k
theorem ME{n k:Nat}(h:n<2^(3*k))(hk:1<=k):(bc n).length<=k:=xn (j8 h (YM k)) hk
theorem pK{n k K:Nat}(h:n<2^K)(a:K<=3*k)(hk:1<=k):(bc n).length<=k:=ME (j8 h (kb (by decide) a)) hk
def mD:Nat:=600
theorem Ia{s:List Nat}(h:bK s=0):(aI s).num.natAbs<10^mD/\(aI s).den<10^mD:=by
 obtain⟨k,f,g⟩:=jg h;unfold bK at h
 split at h
 ·cases h
 rename_i a
 split at h
 ·cases h
 rename_i hl;have a:kJ s=true:=by simpa using a
 simp only[kJ,b2,b3,decide_eq_true_eq]at a;obtain⟨⟨b,_⟩,a3⟩:=a;have c:=jZ _ _ rfl (jR b);have i:10^(bM s).length<=10^mD:=kb o_ (by rw[mD];omega);refine⟨?_,?_⟩
 ·rw[f];have e:(if cq s=true then -(bd (bM s):Int)else bd (bM s)).natAbs=bd (bM s):=by split<;>omega
  rw[e];exact j8 c i
 ·rw[g]
  by_cases hf:eK s=true
  ·rw[if_pos hf];rcases a3 with a3|a3
   ·rw[hf]at a3;cases a3
   ·have d:=jZ _ _ rfl (jR a3.1.1);have j:10^(b6 s).length<=10^mD:=kb o_ (by rw[mD];omega);exact j8 d j
  ·rw[if_neg hf];exact Nat.one_lt_pow (by decide) o_
open Go
def dj(l:List UInt8):List Nat:=l.map (·.toNat)
theorem YU(l:List UInt8):(dj l).map pm=l:=by
 induction l with
 |nil=>rfl
 |cons a r b=>simp only[dj,hL]at b⊢;rw[b];simp
def ou(c:Nat):List Nat->Nat->Int
 |[],_=>-1
 |x::r,i=>bif m8 x c then(i:Int)else ou c r (i+1)
theorem Pm(c:UInt8):∀(l:List UInt8)(i:Nat),ou c.toNat (dj l) i=if ej l c= -1 then -1 else ej l c+i
 |[],i=>by simp[ou,dj,ej]
 |x::r,i=>by
  have b:=Pm c r (i+1);simp only[dj]at b;simp only[dj,hL,ou,ej]
  by_cases hx:x=c
  ·subst hx;simp
  ·have e:m8 x.toNat c.toNat=false:=by
    cases d:m8 x.toNat c.toNat
    ·rfl
    ·exact(hx (pj.1 (m2 d))).elim
   have f:=Lib.indexByte_ge r c;simp only[e,cond_false,b,beq_iff_eq,hx,if_false]
   by_cases a:ej r c= -1
   ·simp[a]
   ·rw[if_neg a,if_neg a];rw[if_neg o_];omega
theorem Pn(c:Nat):∀(s:List Nat)(k:Nat),((cz c s).2.2=false/\ou c s k= -1/\cz c s=(s,[],false))\/
 ∃i,i<s.length/\ou c s k=((k+i:Nat):Int)/\cz c s=(s.take i,s.drop (i+1),true)
 |[],k=>by simp[cz,ou]
 |x::r,k=>by
  rw[cz,ou]
  by_cases h:x=c
  ·subst h;right;refine⟨0,s_,?_,?_⟩
   ·simp
   ·simp
  ·have d:m8 x c=false:=by
    cases d:m8 x c
    ·rfl
    ·exact(h (m2 d)).elim
   rw[d,if_neg h,cond_false];rcases Pn c r (k+1)with⟨e,a,b⟩|⟨i,e,a,b⟩
   ·left;exact⟨e,a,by rw[b]⟩
   ·right;refine⟨i+1,by simp;omega,?_,?_⟩
    ·rw[a];congr 1;omega
    ·rw[b];simp
theorem DC(n:Nat):dj (ee n)=bc n:=by
 induction n using nn with
 |ind n a=>
  rw[ee]
  by_cases h:n<10
  ·rw[dif_pos h,bc];have c:nd n<=1:=tF o_;rw[show max 1 (nd n)=1 by omega];rw[show(1:Nat)=0+1 from rfl,uN,low,i7,j7 h];simp[dj,pp];omega
  ·rw[dif_neg h];have b:=a (n/10) o_;have e:nd n=nd (n/10)+1:=by
    have:=FR (n:=n) (k:=1) o_;rw[l2]at this;exact this
   have d:0<nd (n/10):=yB o_;rw[bc,e,show max 1 (nd (n/10)+1)=max 1 (nd (n/10))+1 by omega,uN];have:dj (ee (n/10)++[pm (48+n% 10)])=dj (ee (n/10))++[48+n% 10]:=by
    simp[dj,pp];omega
   rw[this,b,bc]
theorem aN5(z:Int):dj (fb z)=bW z:=by
 rw[fb,bW]
 by_cases h:z<0
 ·rw[if_pos h,if_pos h];show 45::dj _=_;rw[DC]
 ·rw[if_neg h,if_neg h,DC];congr 1;omega
def tW(s:List Nat):Nat->List Nat
 |0=>[]
 |n+1=>s++tW s n
theorem Oy(s:List UInt8):∀n,tW (dj s) n=dj (e8 s n)
 |0=>by simp[tW,e8,dj]
 |n+1=>by
  have a:=Oy s n;simp only[dj]at a;simp[tW,e8,dj,a]
theorem Ez(c:Nat):∀n,tW [c] n=hW n c
 |0=>rfl
 |n+1=>by rw[tW,Ez c n];rfl
theorem D7(l:List UInt8):ew l [45]=cq (dj l):=by
 cases l with
 |nil=>rfl
 |cons c r=>
  rw[ew,cq];simp only[dj,hL,List.isPrefixOf,h6,cb,Option.some.injEq]
  by_cases h:c=45
  ·subst h;rfl
  ·have a:¬c.toNat=45:=fun e=>h (pj.1 e);have b:((45:UInt8)==c)=false:=by simpa using fun e=>h e.symm
   rw[b];simp[a]
theorem L5(l:List UInt8):dj (eq l [45])=dh (dj l):=by
 rw[eq,D7,dh];cases h:cq (dj l)
 ·simp
 ·cases l with
  |nil=>simp[dj,cq]at h
  |cons c r=>simp[dj]
def ml(s:List Nat):List Nat:=s.dropWhile cH
def jC(s:List Nat):List Nat:=(s.reverse.dropWhile cH).reverse
theorem zS{p:Nat->Bool}:∀{s:List Nat},s.dropWhile p=[]↔s.all p=true
 |[]=>by simp
 |x::r=>by
  rw[List.dropWhile_cons];cases h:p x
  ·simp[h]
  ·simp[h,zS]
theorem Zt(s:List Nat):ml (jC s)=[]↔s.all cH=true:=by
 rw[ml,zS,jC];constructor
 ·intro h
  by_cases a:s.reverse.dropWhile cH=[]
  ·rw[zS,h4]at a;exact a
  ·have b:=List.head_dropWhile_not cH a;rw[h4,h5]at h;rw[h _ (List.head_mem a)]at b;cases b
 ·intro h;have:s.reverse.dropWhile cH=[]:=by rw[zS,h4];exact h
  rw[this];rfl
end Go.an
namespace Go.Proofs
open Go.Shelf
def Tryz.YH:gm:=⟨fun|103=>256|210=>301|206=>304|n=>n,fun|9=>9|4=>4|24=>316|3=>3|n=>n,fun|n=>n⟩
theorem Tryz.aOG:gj prog YH:={
 mixed:=k_
 f103:=func256.trans (congrArg some k_)
 f206:=func304.trans (congrArg some k_)
 f210:=func301.trans (congrArg some k_)
 t3:=underlying3
 a3:=isAgg3
 z3:=sizeOf3
 v3:=zeroValue3
 t4:=underlying4
 a4:=isAgg4
 z4:=sizeOf4
 v4:=zeroValue4
 t9:=underlying9
 a9:=isAgg9
 z9:=sizeOf9
 v9:=zeroValue9
 t24:=underlying316
 a24:=isAgg316
 z24:=sizeOf316
 v24:=zeroValue316}
open Go.RowKit in
theorem Tryz.strings_CutPrefix(s p:ByteArray)(w:c6):
 c7 prog 256 #[.string s,.string p] w fun e w'=>e=.returned (.tuple #[.string ⟨(eq s.data.toList p.data.toList).toArray⟩,.bool (ew s.data.toList p.data.toList)])/\w'=w:=Any.strings_CutPrefix aOG s p w
def Tryz.YC:gm:=⟨fun|283=>273|n=>n,fun|3=>3|9=>9|4=>4|n=>n,fun|n=>n⟩
theorem Tryz.aOO:fv prog YC:={
 mixed:=k_
 f283:=func273.trans (congrArg some k_)
 t3:=underlying3
 a3:=isAgg3
 z3:=sizeOf3
 v3:=zeroValue3
 t4:=underlying4
 a4:=isAgg4
 z4:=sizeOf4
 v4:=zeroValue4
 t9:=underlying9
 a9:=isAgg9
 z9:=sizeOf9
 v9:=zeroValue9}
open Go.Lib in
theorem Tryz.internal_strconv_small(i:Nat)(h:i<100)(w:c6):
 c7 prog 273 #[.int .i64 i] w fun e w'=>e=.returned (.string ⟨(ee i).toArray⟩)/\w'=w:=Any.internal_strconv_small aOO i h w
def Tryz.XZ:gm:=⟨fun|284=>274|129=>317|317=>329|318=>330|n=>n,fun|53=>307|3=>3|212=>366|0=>0|4=>4|46=>322|5=>5|9=>9|n=>n,fun|17=>1|n=>n⟩
theorem Tryz.avR:Go.Proofs.LaysM.n284 prog XZ:={
 mixed:=k_
 f129:=func317.trans (congrArg some k_)
 f284:=func274.trans (congrArg some k_)
 f317:=func329.trans (congrArg some k_)
 f318:=func330.trans (congrArg some k_)
 t0:=underlying0
 a0:=isAgg0
 z0:=sizeOf0
 v0:=zeroValue0
 t3:=underlying3
 a3:=isAgg3
 z3:=sizeOf3
 v3:=zeroValue3
 t4:=underlying4
 a4:=isAgg4
 z4:=sizeOf4
 v4:=zeroValue4
 t5:=underlying5
 a5:=isAgg5
 z5:=sizeOf5
 v5:=zeroValue5
 t9:=underlying9
 a9:=isAgg9
 z9:=sizeOf9
 v9:=zeroValue9
 t46:=underlying322
 a46:=isAgg322
 z46:=sizeOf322
 v46:=zeroValue322
 t53:=underlying307
 a53:=isAgg307
 z53:=sizeOf307
 v53:=zeroValue307
 t212:=underlying366
 a212:=isAgg366
 z212:=sizeOf366
 v212:=zeroValue366
 g17:=k_
 i0:=k_
 i3:=k_
 i4:=k_
 i5:=k_
 i9:=k_
 i46:=k_
 i53:=k_
 i212:=k_
 m17:=k_}
open Go.Lib in
theorem Tryz.internal_strconv_numDigits(u:Nat)(h1:1<=u)(h2:u<18446744073709551616)(w:c6)(htab:e7 prog w "internal/strconv.uint64pow10" .u64 e6):
 c7 prog 274 #[.int .u64 u] w fun e w'=>e=.returned (.int .i64 (ei u))/\w'=w:=Any.internal_strconv_numDigits avR u h1 h2 w htab
def Tryz.YA:gm:=⟨fun|285=>275|n=>n,fun|37=>116|53=>307|3=>3|4=>4|51=>355|9=>9|5=>5|0=>0|n=>n,fun|n=>n⟩
theorem Tryz.aOP:fm prog YA:={
 mixed:=k_
 f285:=func275.trans (congrArg some k_)
 t0:=underlying0
 a0:=isAgg0
 z0:=sizeOf0
 v0:=zeroValue0
 t3:=underlying3
 a3:=isAgg3
 z3:=sizeOf3
 v3:=zeroValue3
 t4:=underlying4
 a4:=isAgg4
 z4:=sizeOf4
 v4:=zeroValue4
 t5:=underlying5
 a5:=isAgg5
 z5:=sizeOf5
 v5:=zeroValue5
 t9:=underlying9
 a9:=isAgg9
 z9:=sizeOf9
 v9:=zeroValue9
 t37:=underlying116
 a37:=isAgg116
 z37:=sizeOf116
 v37:=zeroValue116
 t51:=underlying355
 a51:=isAgg355
 z51:=sizeOf355
 v51:=zeroValue355
 t53:=underlying307
 a53:=isAgg307
 z53:=sizeOf307
 v53:=zeroValue307}
open Go.RowKit Go.Sort Go.Lib in
theorem Tryz.internal_strconv_formatBase10(aq off cap:Nat)(u:Nat)(d:Array UInt8)(w:c6)(hH:Holds (fun(b:UInt8)=>gt .u8 (b.toNat:Int)) w aq off d)(hu:u<10^d.size)(hu64:u<18446744073709551616)(hsz:d.size<4611686018427387904):
 c7 prog 275 #[.slice (some ⟨aq,off,none⟩) d.size cap,.int .u64 u] w fun e w'=>
  e=.returned (.tuple #[])/\∃(n v':Nat)(dk:Array UInt8),w'=(putRow (fun(b:UInt8)=>gt .u8 (b.toNat:Int)) w aq off dk).drewN n/\FmtInv d.size u 0 v' dk:=Any.internal_strconv_formatBase10 aOP aq off cap u d w hH hu hu64 hsz
def Tryz.XL:gm:=⟨fun|171=>54|243=>140|246=>222|283=>273|284=>274|285=>275|286=>276|129=>317|317=>329|318=>330|319=>331|320=>332|337=>371|338=>372|n=>n,fun|3=>3|9=>9|2=>2|4=>4|171=>325|0=>0|53=>307|37=>116|5=>5|173=>328|212=>366|51=>355|20=>20|213=>367|46=>322|232=>417|233=>418|n=>n,fun|17=>1|18=>6|19=>7|n=>n⟩
theorem Tryz.avS:Go.Proofs.LaysM.n171 prog XL:={
 mixed:=k_
 f129:=func317.trans (congrArg some k_)
 f171:=func54.trans (congrArg some k_)
 f243:=func140.trans (congrArg some k_)
 f246:=func222.trans (congrArg some k_)
 f283:=func273.trans (congrArg some k_)
 f284:=func274.trans (congrArg some k_)
 f285:=func275.trans (congrArg some k_)
 f286:=func276.trans (congrArg some k_)
 f317:=func329.trans (congrArg some k_)
 f318:=func330.trans (congrArg some k_)
 f319:=func331.trans (congrArg some k_)
 f320:=func332.trans (congrArg some k_)
 f337:=func371.trans (congrArg some k_)
 f338:=func372.trans (congrArg some k_)
 t0:=underlying0
 a0:=isAgg0
 z0:=sizeOf0
 v0:=zeroValue0
 t2:=underlying2
 a2:=isAgg2
 z2:=sizeOf2
 v2:=zeroValue2
 t3:=underlying3
 a3:=isAgg3
 z3:=sizeOf3
 v3:=zeroValue3
 t4:=underlying4
 a4:=isAgg4
 z4:=sizeOf4
 v4:=zeroValue4
 t5:=underlying5
 a5:=isAgg5
 z5:=sizeOf5
 v5:=zeroValue5
 t9:=underlying9
 a9:=isAgg9
 z9:=sizeOf9
 v9:=zeroValue9
 t20:=underlying20
 a20:=isAgg20
 z20:=sizeOf20
 v20:=zeroValue20
 t37:=underlying116
 a37:=isAgg116
 z37:=sizeOf116
 v37:=zeroValue116
 t46:=underlying322
 a46:=isAgg322
 z46:=sizeOf322
 v46:=zeroValue322
 t51:=underlying355
 a51:=isAgg355
 z51:=sizeOf355
 v51:=zeroValue355
 t53:=underlying307
 a53:=isAgg307
 z53:=sizeOf307
 v53:=zeroValue307
 t171:=underlying325
 a171:=isAgg325
 z171:=sizeOf325
 v171:=zeroValue325
 t173:=underlying328
 a173:=isAgg328
 z173:=sizeOf328
 v173:=zeroValue328
 t212:=underlying366
 a212:=isAgg366
 z212:=sizeOf366
 v212:=zeroValue366
 t213:=underlying367
 a213:=isAgg367
 z213:=sizeOf367
 t232:=underlying417
 a232:=isAgg417
 z232:=sizeOf417
 v232:=zeroValue417
 t233:=underlying418
 a233:=isAgg418
 z233:=sizeOf418
 v233:=zeroValue418
 g17:=k_
 g18:=k_
 g19:=k_
 i0:=k_
 i2:=k_
 i3:=k_
 i4:=k_
 i5:=k_
 i9:=k_
 i20:=k_
 i37:=k_
 i46:=k_
 i51:=k_
 i53:=k_
 i171:=k_
 i173:=k_
 i212:=k_
 i232:=k_
 i233:=k_
 m17:=k_
 m18:=k_
 m19:=k_}
open Go.RowKit Go.Sort Go.Lib in
theorem Tryz.strconv_Itoa(n:Int)(h0: -9223372036854775808<=n)(h1:n<=9223372036854775807)(w:c6)(htab:e7 prog w "internal/strconv.uint64pow10" .u64 e6):
 c7 prog 54 #[.int .i64 n] w fun e w'=>e=.returned (.string ⟨(fb n).toArray⟩)/\∃k os,w'=grow (w.drewN k) os:=Any.strconv_Itoa avS n h0 h1 w htab
def Tryz.XM:gm:=⟨fun|172=>263|244=>306|245=>307|247=>357|279=>358|280=>359|281=>360|282=>361|287=>380|316=>381|171=>54|205=>382|321=>387|322=>388|243=>140|246=>222|283=>273|284=>274|285=>275|286=>276|129=>317|317=>329|318=>330|319=>331|320=>332|337=>371|338=>372|n=>n,fun|9=>9|3=>3|75=>120|76=>121|4=>4|5=>5|167=>387|37=>116|0=>0|85=>388|2=>2|168=>390|53=>307|175=>407|46=>322|210=>411|127=>286|145=>427|143=>425|21=>21|171=>325|173=>328|212=>366|51=>355|20=>20|213=>367|232=>417|233=>418|80=>224|n=>n,fun|15=>4|16=>5|17=>1|18=>6|19=>7|n=>n⟩
theorem Tryz.avT:Go.Proofs.LaysC.n172 prog XM:={
 mixed:=k_
 f129:=func317.trans (congrArg some k_)
 f171:=func54.trans (congrArg some k_)
 f172:=func263.trans (congrArg some k_)
 f205:=func382.trans (congrArg some k_)
 f243:=func140.trans (congrArg some k_)
 f244:=func306.trans (congrArg some k_)
 f245:=func307.trans (congrArg some k_)
 f246:=func222.trans (congrArg some k_)
 f247:=func357.trans (congrArg some k_)
 f279:=func358.trans (congrArg some k_)
 f280:=func359.trans (congrArg some k_)
 f281:=func360.trans (congrArg some k_)
 f282:=func361.trans (congrArg some k_)
 f283:=func273.trans (congrArg some k_)
 f284:=func274.trans (congrArg some k_)
 f285:=func275.trans (congrArg some k_)
 f286:=func276.trans (congrArg some k_)
 f287:=func380.trans (congrArg some k_)
 f316:=func381.trans (congrArg some k_)
 f317:=func329.trans (congrArg some k_)
 f318:=func330.trans (congrArg some k_)
 f319:=func331.trans (congrArg some k_)
 f320:=func332.trans (congrArg some k_)
 f321:=func387.trans (congrArg some k_)
 f322:=func388.trans (congrArg some k_)
 f337:=func371.trans (congrArg some k_)
 f338:=func372.trans (congrArg some k_)
 t0:=underlying0
 a0:=isAgg0
 z0:=sizeOf0
 v0:=zeroValue0
 t2:=underlying2
 a2:=isAgg2
 z2:=sizeOf2
 v2:=zeroValue2
 t3:=underlying3
 a3:=isAgg3
 z3:=sizeOf3
 v3:=zeroValue3
 t4:=underlying4
 a4:=isAgg4
 z4:=sizeOf4
 v4:=zeroValue4
 t5:=underlying5
 a5:=isAgg5
 z5:=sizeOf5
 v5:=zeroValue5
 t9:=underlying9
 a9:=isAgg9
 z9:=sizeOf9
 v9:=zeroValue9
 t20:=underlying20
 a20:=isAgg20
 z20:=sizeOf20
 v20:=zeroValue20
 t21:=underlying21
 a21:=isAgg21
 z21:=sizeOf21
 v21:=zeroValue21
 t37:=underlying116
 a37:=isAgg116
 z37:=sizeOf116
 v37:=zeroValue116
 t46:=underlying322
 a46:=isAgg322
 z46:=sizeOf322
 v46:=zeroValue322
 t51:=underlying355
 a51:=isAgg355
 z51:=sizeOf355
 v51:=zeroValue355
 t53:=underlying307
 a53:=isAgg307
 z53:=sizeOf307
 v53:=zeroValue307
 t75:=underlying120
 a75:=isAgg120
 z75:=sizeOf120
 v75:=zeroValue120
 t76:=underlying121
 a76:=isAgg121
 z76:=sizeOf121
 v76:=zeroValue121
 t85:=underlying388
 a85:=isAgg388
 z85:=sizeOf388
 v85:=zeroValue388
 t127:=underlying286
 a127:=isAgg286
 z127:=sizeOf286
 v127:=zeroValue286
 t143:=underlying425
 a143:=isAgg425
 z143:=sizeOf425
 v143:=zeroValue425
 t145:=underlying427
 a145:=isAgg427
 z145:=sizeOf427
 v145:=zeroValue427
 t167:=underlying387
 a167:=isAgg387
 z167:=sizeOf387
 v167:=zeroValue387
 t168:=underlying390
 a168:=isAgg390
 z168:=sizeOf390
 v168:=zeroValue390
 t171:=underlying325
 a171:=isAgg325
 z171:=sizeOf325
 v171:=zeroValue325
 t173:=underlying328
 a173:=isAgg328
 z173:=sizeOf328
 v173:=zeroValue328
 t175:=underlying407
 a175:=isAgg407
 z175:=sizeOf407
 v175:=zeroValue407
 t210:=underlying411
 a210:=isAgg411
 z210:=sizeOf411
 v210:=zeroValue411
 t212:=underlying366
 a212:=isAgg366
 z212:=sizeOf366
 v212:=zeroValue366
 t213:=underlying367
 a213:=isAgg367
 z213:=sizeOf367
 t232:=underlying417
 a232:=isAgg417
 z232:=sizeOf417
 v232:=zeroValue417
 t233:=underlying418
 a233:=isAgg418
 z233:=sizeOf418
 v233:=zeroValue418
 g15:=k_
 g16:=k_
 g17:=k_
 g18:=k_
 g19:=k_
 t80:=underlying224
 a80:=isAgg224
 z80:=sizeOf224
 v80:=zeroValue224
 i0:=k_
 i2:=k_
 i3:=k_
 i4:=k_
 i5:=k_
 i9:=k_
 i20:=k_
 i21:=k_
 i37:=k_
 i46:=k_
 i51:=k_
 i53:=k_
 i75:=k_
 i76:=k_
 i80:=k_
 i85:=k_
 i127:=k_
 i143:=k_
 i145:=k_
 i167:=k_
 i168:=k_
 i171:=k_
 i173:=k_
 i175:=k_
 i210:=k_
 i212:=k_
 i232:=k_
 i233:=k_
 m15:=k_
 m16:=k_
 m17:=k_
 m18:=k_
 m19:=k_
 c0:=k_
 c2:=k_
 c3:=k_
 c4:=k_
 c5:=k_
 c9:=k_
 c20:=k_
 c21:=k_
 c37:=k_
 c46:=k_
 c51:=k_
 c53:=k_
 c75:=k_
 c76:=k_
 c80:=k_
 c85:=k_
 c127:=k_
 c143:=k_
 c145:=k_
 c167:=k_
 c168:=k_
 c171:=k_
 c173:=k_
 c175:=k_
 c210:=k_
 c212:=k_
 c213:=k_
 c232:=k_
 c233:=k_}
open Go.RowKit in
theorem Tryz.strconv_Atoi_ok(s:ByteArray)(hmax:s.size<=9223372036854775806)(v:Int)(h:fd s.data.toList= .ok v)(w:c6):
 c7 prog 263 #[.string s] w fun e w'=>e=.returned (.tuple #[.int .i64 v,.nilIface])/\(w'=w\/∃t,w'=Lib.bytesWorld w 5 t):=Any.strconv_Atoi_ok avT s hmax v h w
def Tryz.YE:gm:=⟨fun|219=>303|217=>353|225=>354|224=>355|267=>356|266=>378|314=>379|n=>n,fun|9=>9|3=>3|4=>4|5=>5|46=>322|146=>402|51=>355|n=>n,fun|1=>0|n=>n⟩
theorem Tryz.aOM:gc prog YE:={
 mixed:=k_
 f217:=func353.trans (congrArg some k_)
 f219:=func303.trans (congrArg some k_)
 f224:=func355.trans (congrArg some k_)
 f225:=func354.trans (congrArg some k_)
 f266:=func378.trans (congrArg some k_)
 f267:=func356.trans (congrArg some k_)
 f314:=func379.trans (congrArg some k_)
 t3:=underlying3
 a3:=isAgg3
 z3:=sizeOf3
 v3:=zeroValue3
 t4:=underlying4
 a4:=isAgg4
 z4:=sizeOf4
 v4:=zeroValue4
 t5:=underlying5
 a5:=isAgg5
 z5:=sizeOf5
 v5:=zeroValue5
 t9:=underlying9
 a9:=isAgg9
 z9:=sizeOf9
 v9:=zeroValue9
 t46:=underlying322
 a46:=isAgg322
 z46:=sizeOf322
 v46:=zeroValue322
 t51:=underlying355
 a51:=isAgg355
 z51:=sizeOf355
 v51:=zeroValue355
 t146:=underlying402
 a146:=isAgg402
 z146:=sizeOf402
 v146:=zeroValue402
 g1:=k_}
open Go.RowKit Go.Lib in
theorem Tryz.stringslite_Index_one(s:ByteArray)(c:UInt8)(w:c6):
 c7 prog 303 #[.string s,.string ⟨#[c]⟩] w fun e w'=>e=.returned (.int .i64 (ej s.data.toList c))/\w'=w:=Any.stringslite_Index_one aOM s c w
def Tryz.Zl:gm:=⟨fun|99=>261|206=>304|n=>n,fun|9=>9|4=>4|3=>3|n=>n,fun|n=>n⟩
theorem Tryz.aOQ:fl prog Zl:={
 mixed:=k_
 f99:=func261.trans (congrArg some k_)
 f206:=func304.trans (congrArg some k_)
 t3:=underlying3
 a3:=isAgg3
 z3:=sizeOf3
 v3:=zeroValue3
 t4:=underlying4
 a4:=isAgg4
 z4:=sizeOf4
 v4:=zeroValue4
 t9:=underlying9
 a9:=isAgg9
 z9:=sizeOf9
 v9:=zeroValue9}
open Go.RowKit Go.Lib in
theorem Tryz.strings_HasPrefix(s p:ByteArray)(w:c6):
 c7 prog 261 #[.string s,.string p] w fun e w'=>e=.returned (.bool (ew s.data.toList p.data.toList))/\w'=w:=Any.strings_HasPrefix aOQ s p w
def Tryz.YI:gm:=⟨fun|101=>262|208=>305|206=>304|n=>n,fun|9=>9|4=>4|3=>3|n=>n,fun|n=>n⟩
theorem Tryz.aOF:gl prog YI:={
 mixed:=k_
 f101:=func262.trans (congrArg some k_)
 f206:=func304.trans (congrArg some k_)
 f208:=func305.trans (congrArg some k_)
 t3:=underlying3
 a3:=isAgg3
 z3:=sizeOf3
 v3:=zeroValue3
 t4:=underlying4
 a4:=isAgg4
 z4:=sizeOf4
 v4:=zeroValue4
 t9:=underlying9
 a9:=isAgg9
 z9:=sizeOf9
 v9:=zeroValue9}
open Go.RowKit Go.Lib in
theorem Tryz.strings_TrimPrefix(s p:ByteArray)(w:c6):
 c7 prog 262 #[.string s,.string p] w fun e w'=>e=.returned (.string ⟨(eq s.data.toList p.data.toList).toArray⟩)/\w'=w:=Any.strings_TrimPrefix aOF s p w
def Tryz.LM:gm:=⟨fun|105=>288|212=>344|99=>261|165=>221|166=>52|170=>141|169=>142|263=>374|264=>247|206=>304|240=>138|241=>272|276=>220|277=>328|n=>n,fun|9=>9|3=>3|4=>4|20=>20|0=>0|46=>322|109=>377|5=>5|72=>118|76=>121|51=>355|146=>402|53=>307|148=>308|70=>115|37=>116|75=>120|127=>286|164=>282|80=>224|n=>n,fun|n=>n⟩
theorem Tryz.aOH:gi prog LM:={
 mixed:=k_
 f99:=func261.trans (congrArg some k_)
 f105:=func288.trans (congrArg some k_)
 f165:=func221.trans (congrArg some k_)
 f166:=func52.trans (congrArg some k_)
 f169:=func142.trans (congrArg some k_)
 f170:=func141.trans (congrArg some k_)
 f206:=func304.trans (congrArg some k_)
 f212:=func344.trans (congrArg some k_)
 f240:=func138.trans (congrArg some k_)
 f241:=func272.trans (congrArg some k_)
 f263:=func374.trans (congrArg some k_)
 f264:=func247.trans (congrArg some k_)
 f276:=func220.trans (congrArg some k_)
 f277:=func328.trans (congrArg some k_)
 t0:=underlying0
 a0:=isAgg0
 z0:=sizeOf0
 v0:=zeroValue0
 t3:=underlying3
 a3:=isAgg3
 z3:=sizeOf3
 v3:=zeroValue3
 t4:=underlying4
 a4:=isAgg4
 z4:=sizeOf4
 v4:=zeroValue4
 t5:=underlying5
 a5:=isAgg5
 z5:=sizeOf5
 v5:=zeroValue5
 t9:=underlying9
 a9:=isAgg9
 z9:=sizeOf9
 v9:=zeroValue9
 t20:=underlying20
 a20:=isAgg20
 z20:=sizeOf20
 v20:=zeroValue20
 t37:=underlying116
 a37:=isAgg116
 z37:=sizeOf116
 v37:=zeroValue116
 t46:=underlying322
 a46:=isAgg322
 z46:=sizeOf322
 v46:=zeroValue322
 t51:=underlying355
 a51:=isAgg355
 z51:=sizeOf355
 v51:=zeroValue355
 t53:=underlying307
 a53:=isAgg307
 z53:=sizeOf307
 v53:=zeroValue307
 t70:=underlying115
 a70:=isAgg115
 z70:=sizeOf115
 v70:=zeroValue115
 t72:=underlying118
 a72:=isAgg118
 z72:=sizeOf118
 v72:=zeroValue118
 t75:=underlying120
 a75:=isAgg120
 z75:=sizeOf120
 v75:=zeroValue120
 t76:=underlying121
 a76:=isAgg121
 z76:=sizeOf121
 v76:=zeroValue121
 t109:=underlying377
 a109:=isAgg377
 z109:=sizeOf377
 v109:=zeroValue377
 t127:=underlying286
 a127:=isAgg286
 z127:=sizeOf286
 v127:=zeroValue286
 t146:=underlying402
 a146:=isAgg402
 z146:=sizeOf402
 v146:=zeroValue402
 t148:=underlying308
 a148:=isAgg308
 z148:=sizeOf308
 v148:=zeroValue308
 t164:=underlying282
 a164:=isAgg282
 z164:=sizeOf282
 v164:=zeroValue282}
theorem Tryz.Xj:Builder.Extra prog LM:={
 sizeBuilder:=k_
 liesBuilder:=k_
 t5:=underlying5
 a5:=isAgg5
 z5:=sizeOf5
 v5:=zeroValue5
 infoByte:=k_
 cellsByte:=k_
 sizeByte:=k_
 neB5:=by decide}
open Go.RowKit Go.Lib in
theorem Tryz.strings_Repeat(s:ByteArray)(c:Nat)(w:c6)(hc:c<=9223372036854775807)(hlen:s.size*c<=140737488355328):
 c7 prog 288 #[.string s,.int .i64 c] w fun e w'=>e=.returned (.string ⟨(e8 s.data.toList c).toArray⟩)/\Below w.heap.size w w':=Any.strings_Repeat aOH Xj s c w hc hlen
end Go.Proofs
namespace Go.Proofs
open Go.Shelf Go.RowKit Go.Sort Go.Lib
set_option maxHeartbeats 6400000 in
set_option maxRecDepth 100000 in
theorem Tryz.Xi(u:Nat)(hu64:u<18446744073709551616)(w:c6)
 (htab:e7 prog w "internal/strconv.uint64pow10" .u64 e6):
 c7 prog 343 #[.int .u64 u,.int .i64 10] w fun e w'=>e=.returned (.string ⟨(ee u).toArray⟩)/\∃k os,w'=grow (w.drewN k) os:=by
 have e273:∀args w,(callFunc 273 args).run prog w=.ok (.enter 273 args) w:=enters_of func273 k_ rfl;have e274:∀args w,(callFunc 274 args).run prog w=.ok (.enter 274 args) w:=enters_of func274 k_ rfl;have e275:∀args w,(callFunc 275 args).run prog w=.ok (.enter 275 args) w:=enters_of func275 k_ rfl
 by_cases hs:u<100
 ·go_enter func343,ntmps343
  go_wp2_with (go_at_fn 273;refine(internal_strconv_small u hs _).mono ?_;rintro e w' ⟨rfl,rfl⟩)
  go_ret
  exact⟨rfl,0,#[],by simp[World.drewN_zero]⟩
 ·have hu1:1<=u:=by omega
  have hnd20:ei u<=20:=by have:=Lib.numDigits_eq u hu1 hu64;split at this<;>omega
  have hb3:ei u<=24:=o_
  have hal:prog.arrayLen 325=24:=k_
  have hsl1:∀W,(Instr.sliceAt 325 (.pointer (some ⟨w.heap.size,0,none⟩)) none (some (.int .i64 (ei u:Int))) none).run prog W=.ok (.slice (some ⟨w.heap.size,0,none⟩) (ei u) 24) W:=fun W=>by
   rw[run_sliceAt_array_h W 325 ⟨w.heap.size,0,none⟩ k_ .i64 (ei u:Int) o_ (by rw[hal];omega)]
   go_simp
  have hH0:=Lib.holds_zero0 w 325 (ei u) hb3;have hfmt:=internal_strconv_formatBase10 w.heap.size 0 24 u (Array.replicate (ei u) 0) (w.alloc (.cells en 325)) hH0 (by rw[b0];exact Lib.lt_pow_nDigits u) hu64 (by rw[b0];omega);rw[b0]at hfmt;have HH0:=Lib.hid hH0;clear hH0 hal
  go_enter func343,ntmps343
  go_wp2_with (first
   |(go_at_fn 274;refine(internal_strconv_numDigits u hu1 hu64 _ (Lib.tabIs_alloc htab _)).mono ?_;rintro e w' ⟨rfl,rfl⟩))
  go_at_fn 275
  refine hfmt.mono ?_;rintro e w' ⟨rfl,k,v',dk,rfl,hF⟩;have hcv:(convert 116 9 (.slice (some ⟨w.heap.size,0,none⟩) (ei u) 24)).run prog ((putRow (fun(b:UInt8)=>gt .u8 (b.toNat:Int)) (w.alloc (.cells en 325)) w.heap.size 0 dk).drewN k)=.ok (.string ⟨(ee u).toArray⟩) ((putRow (fun(b:UInt8)=>gt .u8 (b.toNat:Int)) (w.alloc (.cells en 325)) w.heap.size 0 dk).drewN k):=by
   have h:=run_convert_bytes_back (P:=prog) ((putRow (fun(b:UInt8)=>gt .u8 (b.toNat:Int)) (w.alloc (.cells en 325)) w.heap.size 0 dk).drewN k) 116 9 5 ⟨w.heap.size,0,none⟩ 24 (ee u) k_ k_ k_ (fun j hj=>by
    rw[Lib.row_is_numeral hF j hj,Lib.add_plain,World.cell?_drewN];exact cell?_putRow (fun(b:UInt8)=>gt .u8 (b.toNat:Int)) _ w.heap.size 0 _ dk HH0.out (by rw[hF.size,b0]) j (by rw[hF.size];rw[e9]at hj;exact hj))
   rw[e9]at h;exact h
  go_wp2
  go_ret
  obtain⟨os,eo⟩:=Lib.fin_at w (.cells en 325) dk k 0;exact⟨rfl,k,os,eo⟩
end Go.Proofs
namespace Go.an
open Go.Proofs
theorem vh{P:c8}{w:c6}{ad:Nat->Prop}(l:List UInt8):aC P w ad (.str (dj l)) (.string ⟨l.toArray⟩):=by
 simp only[aC];exact⟨_,rfl,by simp[dj]⟩
theorem nX{P:c8}{w:c6}{ad:Nat->Prop}{s:List Nat}{v:db}(h:aC P w ad (.str s) v):∃bs:ByteArray,v=.string bs/\s=dj bs.data.toList:=by
 simp only[aC]at h;obtain⟨bs,rfl,rfl⟩:=h;exact⟨bs,rfl,rfl⟩
theorem one_byte{w:c6}{ad:Nat->Prop}{c:Nat}{v:db}(h:aC prog w ad (.str [c]) v):∃b:UInt8,v=.string ⟨#[b]⟩/\c=b.toNat:=by
 obtain⟨bs,rfl,f⟩:=nX h;clear h;have h:=f;clear f
 match e:bs.data.toList with
 |[]=>rw[e]at h;simp[dj]at h
 |[b]=>
  rw[e]at h;simp[dj]at h;refine⟨b,?_,h⟩;congr 1;cases bs with
  |mk d=>simp at e⊢;exact Array.ext' (by simpa using e)
 |a::b::r=>rw[e]at h;simp[dj]at h
theorem FY{w:c6}{ad:Nat->Prop}{v:db}(h:aC prog w ad (.str [45]) v):v=.string ⟨#[45]⟩:=by
 obtain⟨b,rfl,a⟩:=one_byte h;have:b=45:=pj.1 a.symm;rw[this]
theorem KR(s:List Nat)(c:Nat):az prog 303 [.str s,.str [c]] (.int .i64 (ou c s 0)):=by
 refine kG (jA func303 k_) fun w ad g _ _ f=>?_;obtain⟨x,y,rfl,a,d⟩:=nN f;obtain⟨b,rfl,rfl⟩:=one_byte d;obtain⟨bs,rfl,rfl⟩:=nX a;refine(stringslite_Index_one bs b w).mono ?_;rintro e w' ⟨rfl,rfl⟩;refine⟨_,rfl,⟨kC _,fun _ _=>rfl,rfl,rfl⟩,fun w ad=>?_⟩;have e1:=Pm b bs.data.toList 0;simp only[aC]at e1⊢;rw[e1]
 by_cases h:ej bs.data.toList b= -1<;>simp[h]
theorem aAV(s:List Nat)(c:Nat)(h:s.length<=1048576):az prog 260 [.str s,.str [c]] (.aD [.str (cz c s).1,.str (cz c s).2.1,.bool (cz c s).2.2]):=by
 refine aJ nf (i_ func260) mix (by simp[f260]) ?_;simp[f260];refine c2 (KR s c) ?_;rcases Pn c s 0 with⟨_,a,b⟩|⟨i,d,a,b⟩
 ·simp[a,b]
 ·rw[l1]at a;have w:=bS (i:=i) o_;have e1:((i:Int)+1).toNat=i+1:=by omega
  simp[a,b,w,e1];omega
theorem SK(s:List Nat)(c:Nat)(h:s.length<=1048576):az prog 192 [.str s,.str [c]] (.aD [.str (cz c s).1,.str (cz c s).2.1,.bool (cz c s).2.2]):=by
 refine aJ nf (i_ func192) mix (by simp[f192]) ?_;simp[f192];refine c2 (aAV s c h) ?_;simp
theorem awz(s:List Nat):az prog 261 [.str s,.str [45]] (.bool (cq s)):=by
 refine kG (jA func261 k_) fun w ad d _ _ c=>?_;obtain⟨x,y,rfl,a,b⟩:=nN c;obtain rfl:=FY b;obtain⟨bs,rfl,rfl⟩:=nX a;refine(strings_HasPrefix bs _ w).mono ?_;rintro e w' ⟨rfl,rfl⟩;exact⟨_,rfl,⟨kC _,fun _ _=>rfl,rfl,rfl⟩,fun w ad=>by rw[<-D7];simp only[aC]⟩
theorem NO(s:List Nat):az prog 262 [.str s,.str [45]] (.str (dh s)):=by
 refine kG (jA func262 k_) fun w ad d _ _ c=>?_;obtain⟨x,y,rfl,a,b⟩:=nN c;obtain rfl:=FY b;obtain⟨bs,rfl,rfl⟩:=nX a;refine(strings_TrimPrefix bs _ w).mono ?_;rintro e w' ⟨rfl,rfl⟩;exact⟨_,rfl,⟨kC _,fun _ _=>rfl,rfl,rfl⟩,fun w ad=>by rw[<-L5];exact vh _⟩
theorem awB(s:List Nat):az prog 256 [.str s,.str [45]] (.aD [.str (dh s),.bool (cq s)]):=by
 refine kG (jA func256 k_) fun w ad d _ _ c=>?_;obtain⟨x,y,rfl,a,b⟩:=nN c;obtain rfl:=FY b;obtain⟨bs,rfl,rfl⟩:=nX a;refine(strings_CutPrefix bs _ w).mono ?_;rintro e w' ⟨rfl,rfl⟩;refine⟨_,rfl,⟨kC _,fun _ _=>rfl,rfl,rfl⟩,fun w ad=>?_⟩;rw[<-L5,<-D7];simp only[aC,bu];refine⟨[_,_],⟨_,_,rfl,?_,_,_,rfl,rfl,rfl⟩,rfl⟩;exact⟨_,rfl,by simp[dj]⟩
theorem QR{w:c6}{ad:Nat->Prop}(b:nT prog w ad):e7 prog w "internal/strconv.uint64pow10" .u64 e6:=by
 obtain⟨_,T,a⟩:=b.raw 1 _ rfl;have c:prog.globalNamed "internal/strconv.uint64pow10" =some 1:=k_
 simp only[e7,World.var?,c,Option.bind_some,a];rfl
theorem KQ(n:Int)(b:-9223372036854775808<=n)(c:n<=9223372036854775807):az prog 54 [.int .i64 n] (.str (bW n)):=by
 refine kG (jA func54 k_) fun w ad g _ f d=>?_;obtain⟨x,rfl,a⟩:=AQ d;simp only[aC]at a;subst a;refine(strconv_Itoa n b c w (QR f)).mono ?_;rintro e w' ⟨rfl,k,os,rfl⟩;refine⟨_,rfl,⟨?_,fun k hk=>?_,rfl,rfl⟩,fun w ad=>?_⟩
 ·simp[gp,World.drewN]
 ·simp only[gp];exact b1 hk
 ·rw[<-aN5];exact vh _
theorem aBh(u:Nat)(f:u<18446744073709551616):az prog 343 [.int .u64 u,.int .i64 10] (.str (bc u)):=by
 refine kG (jA func343 k_) fun w ad g _ d c=>?_;obtain⟨x,y,rfl,a,b⟩:=nN c;simp only[aC]at a b;subst a b;refine(Xi u f w (QR d)).mono ?_;rintro e w' ⟨rfl,k,os,rfl⟩;refine⟨_,rfl,⟨?_,fun k hk=>?_,rfl,rfl⟩,fun w ad=>?_⟩
 ·simp[gp,World.drewN]
 ·simp only[gp];exact b1 hk
 ·rw[<-DC];exact vh _
theorem SL(u:Nat)(a:u<18446744073709551616):az prog 287 [.int .u64 u,.int .i64 10] (.str (bc u)):=by
 refine aJ nf (i_ func287) mix (by simp[f287]) ?_;simp[f287];refine c2 (aBh u a) ?_;simp
theorem SN(s:List Nat)(c:Nat)(hc:c<=9223372036854775807)(hl:s.length*c<=140737488355328):az prog 288 [.str s,.int .i64 c] (.str (tW s c)):=by
 refine kG (jA func288 k_) fun w ad g _ h f=>?_;obtain⟨x,y,rfl,d,b⟩:=nN f;obtain⟨bs,rfl,rfl⟩:=nX d;simp only[aC]at b;subst b;refine(strings_Repeat bs c w hc (by simpa[dj]using hl)).mono ?_;rintro e w' ⟨rfl,a⟩;exact⟨_,rfl,⟨a.size,a.block,a.os,a.output⟩,fun w ad=>by
  rw[Oy];exact vh _⟩
theorem KW(s:List Nat)(v:Int)(h:fd (s.map pm)=.ok v)(hl:s.length<=9223372036854775806):az prog 263 [.str s] (.aD [.int .i64 v,.gK]):=by
 refine kG (jA func263 k_) fun w ad f _ g c=>?_;obtain⟨x,rfl,b⟩:=AQ c;obtain⟨bs,rfl,rfl⟩:=nX b;rw[YU]at h;refine(strconv_Atoi_ok bs (by simpa[dj]using hl) v h w).mono ?_;rintro e w' ⟨rfl,d⟩;refine⟨_,rfl,?_,fun w ad=>by simp[aC,bu]⟩;rcases d with rfl|⟨t,rfl⟩
 ·exact⟨kC _,fun _ _=>rfl,rfl,rfl⟩
 ·have a:=Lib.bytesWorld_below w 5 t;exact⟨a.size,a.block,a.os,a.output⟩
end Go.an
