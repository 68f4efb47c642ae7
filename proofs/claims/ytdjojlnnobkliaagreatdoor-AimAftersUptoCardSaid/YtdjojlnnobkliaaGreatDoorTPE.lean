import Derived.Test.YtdjojlnnobkliaaGreatDoorTPD
import Derived.Deep.DeepHandedRow
import Derived.Deep.DeepWitnessRowRef
import Derived.Seven
import Derived.SevenTiedAt
import Derived.Test.YtdjojlnnobkliaaGreatDoorTPA
import Derived.KernelRfl
import Derived.Shelf.Spec.BitsCarry
import Derived.Shelf.Strings.Builder1
import Derived.Shelf.Strings.Builder2
import Derived.Shelf.Strings.Trim
import Derived.Shelf.Small.Utf8
import Derived.Shelf.Small.Bits
import Derived.Shelf.Small.Strs
import Derived.Shelf.Small.Wraps
import Derived.Shelf.Strings.BuilderF
import Derived.Shelf.Strings.Builder2Cap
import Derived.Shelf.Strconv.Atoi
import Derived.Shelf.Strconv.Itoa0
import Derived.Shelf.Strconv.Itoa1
import Derived.Shelf.LaysM
import Derived.Shelf.Strconv.Itoa2
import Derived.Shelf.Strconv.Itoa3
import Derived.Shelf.Strconv.AtoiErrFast
import Derived.Shelf.Strconv.ParseIntEmpty
import Derived.Shelf.Strconv.AtoiFail
import Derived.Shelf.Strconv.Clone
import Derived.Shelf.Strconv.SyntaxError
import Derived.Shelf.LaysC
import Derived.Shelf.Strconv.ToError
import Derived.Shelf.Strconv.Lower
import Derived.Shelf.Strconv.ParseUint10
import Derived.Shelf.Strconv.ParseUint10Empty
import Derived.Shelf.Strconv.ParseUint10Any
import Derived.Shelf.Strconv.ParseInt10
import Derived.Shelf.Strconv.AtoiLong
import Derived.Shelf.Strconv.AtoiInnerAll
import Derived.Shelf.Strconv.RangeError
import Derived.Shelf.Strconv.ToErrorRange
import Derived.Shelf.Strconv.AtoiAll
import Derived.Shelf.Strconv.ParseUintEmpty
import Derived.Shelf.Strings.Search1
import Derived.Shelf.Strings.Search2
import Derived.Shelf.Strings.Cut
import Derived.Shelf.Strings.Shaped
import Derived.Shelf.Strings.Prefix
import Derived.Shelf.Unicode.Decode
import Derived.Shelf.Strings.Runes
import Derived.Shelf.Strings.AsciiSet
import Derived.Shelf.Bits.Mul64
import Derived.Shelf.Strings.Repeat
import Derived.Shelf.Unicode.DecodeSlow
import Derived.Shelf.Unicode.DecodeAny
import Derived.Shelf.Unicode.DecodeLast
import Derived.Shelf.Slices.Turned
import Derived.Test.YtdjojlnnobkliaaGreatDoorProg
import Derived.Lib.ItoaNum
import Derived.Lib.Strings
import Derived.Lib.Repeat
import Derived.Lib.Bytealg
import Derived.Test.YtdjojlnnobkliaaGreatDoorTThA
import Derived.Lib.Walk
import Derived.Lib.ItoaMem
import Derived.WalkKit
import Derived.BigCall
import Derived.BigGuard
import Derived.Lib.AppendIntMem
import Derived.Lib.Builder
import Derived.Laws.Externs
import Derived.Shelf.RegionOpenPlain
/- Parts of a proof. -/
set_option maxRecDepth 100000
set_option maxHeartbeats 4000000
set_option linter.unusedSimpArgs false
set_option linter.unusedVariables false
set_option linter.unusedSectionVars false
open Go.Proofs.Tryz
open Array renaming size_replicate->b0, getElem?_append_left->b1
open Bool renaming and_eq_true->b2, or_eq_true->b3, and_false->b4, and_true->b5, not_eq_true'->cb, false_and->cc
open Classical renaming choose_spec->cd, choose->ce, em->ck
open Go renaming World->cx, Calls->cy, Program->c6, run_callFunc_extern->da, FuncId->db, Value->dd, OpenSpec->dg, TypeId->dl, Checked->dp, ReturnsInHanded->dq
open Go.IntKind renaming u64->dx, i64->dy, wrap_i64->dz
open Go.Lib renaming bitLen->ea, decDigits->eb, nDigits->ec, indexByte->ed, zeros24->ee, trimPrefix->ei, hasPrefix->ej, pow10Tab->eq, TabIs->er, repeatL->ew, decDigits_length->ey, itoa->eM, atoiAll->eP
open Go.Oper renaming upon_value->e7
open Go.Proofs.Lays renaming n99->e8, n285->e9, n283->fb, n264->fd, n219->fl, n134->fm, n129->fv, n105->fw, n103->gb, n101->gc
open Go.Result renaming andThen->ge
open Go.Shelf renaming Ren->gg
open Go.Sort renaming grow->gi
open Go.Value renaming int->gj
open Int renaming natAbs_mul->gm, natAbs_natCast->gt, ediv_emod_unique->gx, natCast_mul->gy, lt_trichotomy->g0, ediv_nonneg->g5, lt_of_le_of_lt->g6, emod_lt_of_pos->g7, lt_or_le->g8, le_of_lt->g9, ediv_le_self->ha, emod_nonneg->hb, natAbs_sign_of_ne_zero->hd, natAbs_neg->hg, fdiv_eq_ediv_of_nonneg->hl, ediv_lt_of_lt_mul->ho, tmod_lt_of_pos->hp, ofNat_dvd_left->hr, lt_tmod_of_pos->ht, natAbs_add_le->hv, natCast_add->hA, mul_ne_zero->hB, mul_le_mul->hC, ediv_one->hD, mul_sub->hE, mul_neg->hG
open List renaming range->hJ, getElem?_eq_getElem->hK, take_of_length_le->hL, map_cons->hM, exists_cons_of_ne_nil->hN, append_nil->hO, replicate->hP, ext_getElem->hQ, cons_append->hS, length_nil->hT, map_congr_left->hU, all_cons->hV, length_eq_zero_iff->hW, length_cons->hX, take_succ_eq_append_getElem->hZ, mem_map->h3, all_reverse->h4, dropLast_concat_getLast->h5, mem_range->h6, map_take->h7, map_map->h8, getElem?_range->h9, getElem_range->ih, length_range->ii, getElem?_map->ik, getElem_set->ip, getElem_map->ix, all_eq_true->iz, nil_append->iA, length_map->iB, head?_cons->i6, foldl_cons->i7, all_append->i8, range_one->jp, mem_cons->js, map_nil->j1, all_nil->j2
open List.cons renaming injEq->j3
open Nat renaming mul_comm->j4, mod_eq_of_lt->j5, div_lt_iff_lt_mul->j6, lt_of_lt_of_le->j7, pow_le_pow_right->j8, pow_succ->j9, div_div_eq_div_mul->kb, pow_pos->kc, lt_of_le_of_lt->kd, mul_le_mul_right->kf, mod_lt->kh, mul_le_mul_left->kk, div_add_mod->km, div_eq_of_lt->ko, mul_assoc->kp, le_refl->kv, add_mul->kw, pow_add->kx, lt_or_ge->kA, pow_zero->kC, mod_add_div->kF, mul_lt_mul''->kH, eq_zero_or_pos->kL, add_sub_cancel->kO, add_mul_mod_self_right->kP, le_div_iff_mul_le->kX, add_mul_div_left->la, add_comm->lb, div_mul_le_self->lc, mul_lt_mul_of_pos_right->li, one_mul->lk, mul_add->ll, add_mul_div_right->lm, mul_right_comm->lq, div_le_self->ls, div_one->lt, zero_add->lu, pow_one->lv, le_trans->lw, mod_mul_right_mod->lx, mul_mod_mul_left->lz, mod_one->l0, add_zero->l1, mod_mul_right_div_self->l2, add_mul_mod_self_left->l3, add_sub_cancel_left->l4, zero_mul->l5, lt_trans->mb, gcd->md, div_lt_self->me, mul_div_mul_right->mm, eq_of_beq_eq_true->mo, zero_le->mp, mul_pos->ms, mul_one->mx, mul_le_mul->m1, div_pos->m2, div_le_div_right->m3, beq->m4, lt_div_mul_add->m5, mul_left_comm->m6, and_two_pow_sub_one_eq_mod->m7, pow_mul->m8, mod_mul->m9, add_mod->na, strongRecOn->nb, min_eq_left->nc, pow_lt_pow_iff_right->nk, add_assoc->nm, le_mul_of_pos_right->np, zero_mod->ns, sub_zero->nF, le_of_eq->nI, le_mul_of_pos_left->nJ, gcd_comm->n0, mul_mod_mul_right->n1, not_lt->n2, lt_of_succ_lt->n3, gcd_one_right->n4, add_mod_right->n5, lt_succ_self->oa, gcd_dvd_left->ob, mul_ne_zero->oc, mul_add_div->oe, lt_succ_iff->oi, le_of_lt->oj, pow_two->ol, or_comm->om, mod_le->oo
open Rat renaming divInt->oq, normalize_eq_mkRat->ot, num_eq_zero->ou, sub_eq_add_neg->ov, add_def'->ox, neg_num->oy, neg_den->oz, mul_def->oA, inv_def->oB, div_def->oD, not_lt->oF, lt_iff->oG
open UInt8 renaming toNat_inj->oH, ofNat->oM, toNat_ofNat'->oN
namespace Go.ag
open Go.Proofs
section
variable{H:Type}{enc:dl×dd->H}
theorem aQz{p:Pinned}{C:dp}{P:c6}(b:p.checked=C)(d:C.prog=P){s:dg}{c:OpenClaim}(f:db)(fn:Func)
 (hn:c.program=p.name)(hs:c.sum=p.sum)(o:c.spec=s.name)
 (q:c.start=.entering)(n:c.outside=[])(ar:c.inits=[])(t:c.under=none)(i:c.initsInPlace=[]/\c.initsUnfollowed=false/\c.initsRecurse=false/\c.initsNamed=[]/\c.initsPassed=[])(m:c.noBlocks=false)(k:c.leaving=false)(g:c.followed=none)(l:c.narrowed=s.cond.isSome)(r:c.still=false)
 (e:P.funcNamed c.func=some f)(hf:P.funcs[f]?=some fn)
 (closed:joinedFacts P f fn s.bare c=true)
 (j:fn.isInstance P c.origin c.targs)(u:fn.isWrapper P c.wrapper c.mainSum)
 (h:∀os:Os,os.Started->∀(H:Type)(a:dl×dd->H)(F:Stop.Interp),
  dq c.assume C os f .any (s.preRow a P fn c.domain c.apart c.laid) ((s.at F).post a P fn c.apart c.fresh c.handsOn c.again)):c.holds p s:=by
 subst b;subst d;exact OpenClaim.holds_of_cond f fn hn hs o q n ar t i m k g l r e hf closed j u (fun os st H a _ F=>by rw[OpenClaim.pre_eq_preRow];exact h os st H a F)
theorem atb{a:Assume}{C:dp}{P:c6}(q:C.prog=P){os:Os}{f:db}{fn:Func}{s:dg}{F:Stop.Interp}{h:List PathCond}{apart fresh handsOn again:Bool}{laid:List (String×DataW Unit)}
 (x:ownKnob P.godebug=none)(y:os.Started)(u:P.inits.idxOf? f=none)(r:P.funcs[f]?=some fn)
 (z:∃(w:cx)(tape:Tape)(i:Input),w.os=os/\(w.forCall tape i).Shaped P/\i.vars=[]/\Input.okWide P (w.forCall tape i) .any w.heap.size f i/\
  s.preRow enc P fn h apart laid (w.forCall tape i).memory i.args/\a.holds P (lone (Frame.enter P f i.args .normal) [] (w.forCall tape i)))
 (GN:∀(W:cx)(d:Nat)(args:Array dd)(b c:List (DataW H))(g:List MemPlace),
  (∀(j:Nat) t v,fn.params[j]?=some t->args[j]?=some v->Value.okWide P W .any d t v)->
  DataW.Whole enc P fn.params.toList s.vars apart W args.toList b c g->
  (∀k,s.cond=some k->k H (b++c)=true)->
  laidMetH P laid W->
  cy P f args W fun e l=>∃v,e=.returned v/\(s.at F).post enc P fn apart fresh handsOn again W args v l):
 dq a C os f .any (s.preRow enc P fn h apart laid) ((s.at F).post enc P fn apart fresh handsOn again):=by
 subst q;exact returnsInHanded_of_row x y u r z (fun W d args b c g m n _ o _ p _ _=>GN W d args b c g m n o p)
theorem Zr{C:dp}{P:c6}(b:C.prog=P){os:Os}{f:db}{fn:Func}{s:dg}{a:List PathCond}{apart:Bool}{laid:List (String×DataW Unit)}(w0:cx)(args:Array dd)(d:w0.os=os)
 (h:(w0.forCall (fun _ _=>0) ⟨#[],args,[]⟩).variablesRefB P=true)
 (e:((w0.forCall (fun _ _=>0) ⟨#[],args,[]⟩).heap.toList.drop P.globals.size).take ((begin P (fun _ _=>0) default).world.heap.size-P.globals.size)=
  (begin P (fun _ _=>0) default).world.heap.toList.drop P.globals.size)
 (c:Input.okWideB P (w0.forCall (fun _ _=>0) ⟨#[],args,[]⟩) f ⟨#[],args,[]⟩=true)
 (g:s.preRow enc P fn a apart laid (w0.forCall (fun _ _=>0) ⟨#[],args,[]⟩).memory args):
 ∃(w:cx)(tape:Tape)(i:Input),w.os=os/\(w.forCall tape i).Shaped P/\i.vars=[]/\Input.okWide P (w.forCall tape i) .any w.heap.size f i/\
  s.preRow enc P fn a apart laid (w.forCall tape i).memory i.args/\({modest:=false}:Assume).holds P (lone (Frame.enter P f i.args .normal) [] (w.forCall tape i)):=by
 subst b;exact witness_row_atRef (C:=C) false w0 args d h e c g
theorem aE1{p:Pinned}{C:dp}{P:c6}(m:p.checked=C)(n:C.prog=P)(d:Looks){s:dg}{c:OpenClaim}(kinds:List LaidKind)(e:Bool)(a:Bool×String)(b:Bool){g:db}{i:Func}
 (hc:c.holds p s)(z:c.wfByText s=true)(y:c.laidByTextAt d p kinds e)
 (aO:c.start=.entering)(v:c.noBlocks=false/\c.again=false)(u:P.mainIs=some (a.1,a.2.toList))(hn:(!a.1&&a.2.isEmpty&&!b)=false)
 (o:P.funcNamed c.func=some g)(hf:P.funcs[g]?=some i)(r:b=P.looks [])(w:∀t∈i.params.toList,P.wantsStandIn t=false)
 (q:false=c.goesBy P):
 Claim7.holds p (.plain s) {stood:={row:=c,standIns:=[],harness:=a,looks:=b},kinds:=[],alts:=[],laidByText:=true,laidKinds:=kinds,laidTests:=e,laidLooks:=d}:=by
 subst m;subst n;refine Claim7.holds_tied_plain_at d [] kinds e a b hc (fun _ h=>by cases h) z (fun _ h=>by cases h) y aO v u hn (fun f fn k l=>?_) q;rw[o]at k;cases k;rw[hf]at l;cases l;exact⟨r,fun j t x=>w t (by simpa using Array.mem_of_getElem? x)⟩
end
theorem MU:Go.Proofs.YtdjojlnnobkliaaGreatDoor.Tryz.pinned.checked=checked:=rfl
theorem Cb:checked.prog=prog:=rfl
theorem aPT:true=prog.looks []:=k_
theorem aP0:ownKnob prog.godebug=none:=k_
theorem mix:prog.follows .mixedOrders=true:=k_
abbrev nf:db->Bool:=fun _=>false
def wB:Nat:=18446744073709551616
theorem u5(x y c:Nat)(hc:c<=1):aq prog 317 [.int .u64 x,.int .u64 y,.int .u64 c] (.aC [.int .u64 ((x+y+c)% wB:Nat),.int .u64 ((x+y+c)/wB:Nat)]):=by
 refine .inr fun w ad a h=>?_;simp only[bG,aE]at h;obtain⟨_,_,rfl,rfl,_,_,rfl,rfl,_,_,rfl,rfl,rfl⟩:=h;refine⟨.tuple #[.int .u64 ((x+y+c)% wB:Nat),.int .u64 ((x+y+c)/wB:Nat)],?_,?_⟩
 ·show(callFunc 317 #[.int .u64 x,.int .u64 y,.int .u64 c]).run prog w=_;rw[da func317 k_ k_ k_ (e:=add64Entry) k_,run_add64 x y c o_ o_ o_ o_];simp only[ge,wB];congr 5<;>omega
 ·simp only[aE,bG];exact⟨[.int .u64 ((x+y+c)% wB:Nat),.int .u64 ((x+y+c)/wB:Nat)],⟨_,_,rfl,rfl,_,_,rfl,rfl,rfl⟩,rfl⟩
theorem aEN(x y c:Nat)(hc:c<=1):aq prog 342 [.int .u64 x,.int .u64 y,.int .u64 c] (.aC [.int .u64 ((x+wB-y-c)% wB:Nat),.int .u64 ((if x<y+c then 1 else 0:Nat):Int)]):=by
 refine .inr fun w ad a h=>?_;simp only[bG,aE]at h;obtain⟨_,_,rfl,rfl,_,_,rfl,rfl,_,_,rfl,rfl,rfl⟩:=h;refine⟨.tuple #[.int .u64 ((x+wB-y-c)% wB:Nat),.int .u64 ((if x<y+c then 1 else 0:Nat):Int)],?_,?_⟩
 ·show(callFunc 342 #[.int .u64 x,.int .u64 y,.int .u64 c]).run prog w=_;rw[da func342 k_ k_ k_ (e:=sub64Entry) k_,run_sub64 x y c hc];rfl
 ·simp only[aE,bG];exact⟨[.int .u64 ((x+wB-y-c)% wB:Nat),.int .u64 ((if x<y+c then 1 else 0:Nat):Int)],⟨_,_,rfl,rfl,_,_,rfl,rfl,rfl⟩,rfl⟩
def qm(B:Nat):Nat->Nat->List Nat
 |0,_=>[]
 |f+1,n=>if n=0 then[]else n% B::qm B f (n/B)
def aw(B n:Nat):List Nat:=qm B (n+1) n
def kg(B:Nat):List Nat->Nat
 |[]=>0
 |d::l=>d+B*kg B l
def ae(B n i:Nat):Nat:=n/B^i% B
section
variable{B:Nat}
theorem Np(a:2<=B):∀(f g n:Nat),n<f->n<g->qm B f n=qm B g n
 |0,_,_,h,_=>by omega
 |_,0,_,_,h=>by omega
 |f+1,g+1,n,b,c=>by
  simp only[qm]
  split
  ·rfl
  ·rename_i hn;have:n/B<n:=me o_ o_;rw[Np a f g (n/B) o_ o_]
theorem pW:aw B 0=[]:=by simp[aw,qm]
theorem xO(a:2<=B){n:Nat}(h:n≠0):aw B n=n% B::aw B (n/B):=by
 have:n/B<n:=me o_ o_;rw[aw,qm,if_neg h,aw,Np a n (n/B+1) (n/B) this o_]
theorem Pm(a:2<=B)(n:Nat):kg B (aw B n)=n:=by
 induction n using nb with
 |ind n b=>
  by_cases h:n=0
  ·subst h;simp[pW,kg]
  ·rw[xO a h,kg,b _ (me o_ o_)];exact kF n B
theorem aF0(a:2<=B):∀(i n:Nat),(aw B n)[i]?.getD 0=ae B n i
 |i,n=>by
  induction i generalizing n with
  |zero=>
   by_cases h:n=0
   ·subst h;simp[pW,ae]
   ·rw[xO a h];simp[ae]
  |succ i b=>
   by_cases h:n=0
   ·subst h;simp[pW,ae]
   ·rw[xO a h,List.getElem?_cons_succ,b];simp only[ae,kb,j9];rw[j4 B]
theorem fH(a:2<=B){n i:Nat}(h:i<(aw B n).length):(aw B n)[i]=ae B n i:=by
 have:=aF0 a i n;rw[hK h]at this;exact this
theorem cL(b:2<=B)(n:Nat):n<B^(aw B n).length:=by
 induction n using nb with
 |ind n c=>
  by_cases h:n=0
  ·subst h;simp[pW]
  ·rw[xO b h,hX,j9];have:=c _ (me (n:=n) (k:=B) o_ o_);have d:=kF n B;have e:=kh n (show 0<B by omega);have a:(n/B+1)*B<=B^(aw B (n/B)).length*B:=kf B this;rw[kw,j4 (n/B) B]at a;omega
theorem eZ(b:2<=B):∀(k n:Nat),n<B^k->(aw B n).length<=k
 |0,n,h=>by
  have:n=0:=by simpa using h
  subst this;simp[pW]
 |k+1,n,h=>by
  by_cases a:n=0
  ·subst a;simp[pW]
  ·rw[xO b a,hX];have:=eZ b k (n/B) (by
    rw[j6 o_,<-j9];exact h)
   omega
theorem N8(a:2<=B){k n:Nat}(h:B^k<=n):k<(aw B n).length:=by
 have:=cL a n;exact(nk (by omega:1<B)).1 (kd h this)
def fC:List Nat->List Nat
 |[]=>[]
 |d::l=>match fC l with
  |[]=>if d=0 then[]else[d]
  |t=>d::t
theorem Hp(a:2<=B):∀{l:List Nat},(∀d∈l,d<B)->aw B (kg B l)=fC l
 |[],_=>by simp[kg,pW,fC]
 |d::l,h=>by
  have c:=Hp a (l:=l) fun x hx=>h x (List.mem_cons_of_mem _ hx);have f:=h d List.mem_cons_self;simp only[fC,kg]
  by_cases b:d+B*kg B l=0
  ·have k:d=0:=by omega
   have m:kg B l=0:=by
    rcases Nat.mul_eq_zero.1 (show B*kg B l=0 by omega)with e|e
    ·omega
    ·exact e
   rw[b,pW,<-c,m,pW];simp[k]
  ·rw[xO a b];have e1:(d+B*kg B l)% B=d:=by rw[l3,j5 f]
   have e2:(d+B*kg B l)/B=kg B l:=by
    rw[la _ _ o_,ko f,lu]
   rw[e1,e2,c]
   split
   ·rename_i g;have i:=c;rw[g,j a]at i;rw[if_neg (by rw[i]at b;simpa using b),g]
   ·rfl
where j (a:2<=B) {n:Nat}:(aw B n=[])=(n=0):=by
        apply propext;constructor
        ·intro h;rw[<-Pm a n,h];rfl
        ·rintro rfl;exact pW
def row(B m n:Nat):List Nat:=(hJ m).map (ae B n)
theorem Q6{m n:Nat}:(row B m n).length=m:=by simp[row]
theorem avb(m n:Nat):row B (m+1) n=n% B::row B m (n/B):=by
 rw[row,List.range_succ_eq_map,hM,h8];congr 1
 ·simp[ae]
 ·rw[row];apply hU;intro i _;simp only[Function.comp,ae,kb,j9];rw[j4]
theorem Q5(a:2<=B):∀(m n:Nat),kg B (row B m n)=n% B^m
 |0,n=>by simp[row,kg,l0]
 |m+1,n=>by
  rw[avb,kg,Q5 a m,j9,j4 (B^m),m9]
theorem lF(a:2<=B){m n:Nat}(h:n<B^m):fC (row B m n)=aw B n:=by
 rw[<-Hp a (l:=row B m n),Q5 a,j5 h];intro d b;simp only[row,h3]at b;obtain⟨i,_,rfl⟩:=b;exact kh _ o_
theorem aF1(b:2<=B)(n:Nat):aw B n=row B (aw B n).length n:=by
 apply hQ (by simp[row]);intro i a c;rw[fH b a];simp[row]
end
section
variable{B:Nat}
theorem mod_pow_succ(n i:Nat):n% B^(i+1)=n% B^i+B^i*ae B n i:=by
 rw[j9,m9,ae]
def dN(B a b i:Nat):Nat:=(a% B^i+b% B^i)/B^i
theorem Co(a b:Nat):dN B a b 0=0:=by simp[dN,l0]
theorem n7(f:2<=B)(a b i:Nat):dN B a b i<=1:=by
 have c:0<B^i:=kc o_;have d:=kh a c;have e:=kh b c;rw[dN];have:(a% B^i+b% B^i)/B^i<2:=by rw[j6 c];omega
 omega
theorem uC(e:2<=B)(a b i:Nat):(ae B a i+ae B b i+dN B a b i)% B=ae B (a+b) i/\(ae B a i+ae B b i+dN B a b i)/B=dN B a b (i+1):=by
 have c:0<B^i:=kc o_;constructor
 ·have d:(a+b)/B^i=dN B a b i+(a/B^i+b/B^i):=by
   rw[dN]
   conv=>lhs;rw[<-kF a (B^i),<-kF b (B^i)]
   rw[show a% B^i+B^i*(a/B^i)+(b% B^i+B^i*(b/B^i))=(a% B^i+b% B^i)+B^i*(a/B^i+b/B^i)by rw[ll];omega];rw[la _ _ c]
  rw[ae,ae,ae,d,na,<-na (a/B^i),<-na,lb]
 ·conv=>rhs;rw[dN,mod_pow_succ,mod_pow_succ,j9,<-kb]
  rw[show a% B^i+B^i*ae B a i+(b% B^i+B^i*ae B b i)=(a% B^i+b% B^i)+B^i*(ae B a i+ae B b i)by rw[ll];omega];rw[la _ _ c,dN,lb ((a% B^i+b% B^i)/B^i)]
theorem lE{n i:Nat}(h:n<B^i):ae B n i=0:=by
 rw[ae,ko h,ns]
theorem cQ(a:2<=B)(n i:Nat):ae B n i<B:=kh _ o_
def gl(B a b i:Nat):Nat:=if a% B^i<b% B^i then 1 else 0
theorem FT(a b:Nat):gl B a b 0=0:=by simp[gl,l0]
theorem Pt(d:2<=B){a b:Nat}(k:b<=a)(i:Nat):
 (ae B a i<ae B b i+gl B a b i/\gl B a b (i+1)=1/\ae B a i+B=ae B (a-b) i+(ae B b i+gl B a b i))\/
 (ae B b i+gl B a b i<=ae B a i/\gl B a b (i+1)=0/\ae B a i=ae B (a-b) i+(ae B b i+gl B a b i)):=by
 have g:0<B^i:=kc o_;obtain⟨c,rfl⟩:=Nat.le.dest k;have j:=uC d b c i;rw[show b+c-b=c by omega];have hc:∀i,gl B (b+c) b i=dN B b c i:=by
  intro i;have g:0<B^i:=kc o_;have l:=kh b g;have m:=kh c g;rw[gl,dN,na]
  by_cases h:b% B^i+c% B^i<B^i
  ·rw[j5 h,ko h,if_neg (n2.2 (Nat.le_add_right _ _))]
  ·have e1:(b% B^i+c% B^i)/B^i=1:=by
    rw[show b% B^i+c% B^i=(b% B^i+c% B^i-B^i)+B^i*1 by omega,la _ _ g,ko o_]
   have e2:(b% B^i+c% B^i)% B^i=b% B^i+c% B^i-B^i:=by
    rw[Nat.mod_eq_sub_mod o_,j5 o_]
   rw[e1,e2,if_pos o_]
 rw[hc,hc];have n:=cQ d b i;have o:=cQ d c i;have p:=n7 d b c i;have f:=kF (ae B b i+ae B c i+dN B b c i) B;rw[j.1,j.2]at f;have q:=n7 d b c (i+1);have r:=cQ d (b+c) i;rcases(show dN B b c (i+1)=0\/dN B b c (i+1)=1 by omega)with e|e
 ·right;rw[e]at f⊢;simp at f;exact⟨o_,rfl,o_⟩
 ·left;rw[e]at f⊢;simp at f;exact⟨o_,rfl,o_⟩
def ke(B a b i j:Nat):Nat:=(a% B^i)*b+ae B a i*(b% B^j)*B^i
def dP(B a b i j k:Nat):Nat:=if k<i+j then ae B (ke B a b i j) k else ae B ((a% B^i)*b) k
def mulC(B a b i j:Nat):Nat:=ke B a b i j/B^(i+j)-(a% B^i)*b/B^(i+j)
theorem aPg(a b i j:Nat):(a% B^i)*b<=ke B a b i j:=by rw[ke];omega
theorem Oq(a b i:Nat):ke B a b i 0=(a% B^i)*b:=by simp[ke,l0]
theorem Gc(a b i:Nat):mulC B a b i 0=0:=by simp[mulC,Oq]
theorem Ou(a b i j:Nat):ke B a b i (j+1)=ke B a b i j+ae B a i*ae B b j*B^(i+j):=by
 rw[ke,ke,mod_pow_succ,ll,kw,kx];have:ae B a i*(B^j*ae B b j)*B^i=ae B a i*ae B b j*(B^i*B^j):=by
  rw[j4 (B^j),<-kp,kp,j4 (B^j)]
 omega
theorem Qb(a b i:Nat){n:Nat}(h:b<B^n):ke B a b i n=(a% B^(i+1))*b:=by
 rw[ke,j5 h,mod_pow_succ,kw];congr 1;rw[lq,j4 (ae B a i)]
theorem Ca(n k:Nat):n/B^(k+1)=n/B^k/B:=by rw[j9,kb]
theorem GY(g:2<=B)(a b i j:Nat):
 (ae B a i*ae B b j+dP B a b i j (i+j)+mulC B a b i j)% B=ae B (ke B a b i (j+1)) (i+j)/\
 (ae B a i*ae B b j+dP B a b i j (i+j)+mulC B a b i j)/B=mulC B a b i (j+1):=by
 have f:0<B^(i+j):=kc o_;have d:ke B a b i (j+1)/B^(i+j)=ke B a b i j/B^(i+j)+ae B a i*ae B b j:=by
  rw[Ou,lm _ _ f]
 have h:(a% B^i)*b/B^(i+j)<=ke B a b i j/B^(i+j):=m3 (aPg a b i j);have c:dP B a b i j (i+j)=(a% B^i)*b/B^(i+j)% B:=by rw[dP,if_neg o_,ae]
 have e:ae B a i*ae B b j+dP B a b i j (i+j)+mulC B a b i j+B*((a% B^i)*b/B^(i+j)/B)=ke B a b i (j+1)/B^(i+j):=by
  rw[d,c,mulC];have:=kF ((a% B^i)*b/B^(i+j)) B;omega
 constructor
 ·conv=>rhs;rw[ae,<-e]
  rw[l3]
 ·conv=>rhs;rw[mulC,show i+(j+1)=i+j+1 from rfl,Ca,Ca,<-e,la _ _ o_]
  rw[kO]
theorem Ov(f:2<=B){a b i j k:Nat}(hk:k≠i+j):dP B a b i (j+1) k=dP B a b i j k:=by
 rw[dP,dP]
 by_cases h:k<i+j
 ·rw[if_pos o_,if_pos h,Ou];have e:0<B^k:=kc o_;obtain⟨d,c⟩:∃d,i+j=k+1+d:=⟨i+j-(k+1),by
   have:k+1<=i+j:=h;rw[Nat.add_sub_cancel' this]⟩
  rw[c,kx,j9];generalize ae B a i*ae B b j=x;rw[ae,ae,show x*(B^k*B*B^d)=x*B^d*B*B^k by simp only[kp,j4,m6]];rw[lm _ _ e,kP]
 ·rw[if_neg o_,if_neg h]
theorem Qc(a b i j:Nat):dP B a b i (j+1) (i+j)=ae B (ke B a b i (j+1)) (i+j):=by
 rw[dP,if_pos o_]
theorem zZ(d:2<=B)(a:Nat){b n:Nat}(i:Nat)(h:b<B^n):(a% B^i)*b<B^(i+n):=by
 have c:0<B^i:=kc o_;rw[kx];exact kH (kh _ c) h
theorem M5(c:2<=B){a b i n:Nat}(h:b<B^n):mulC B a b i n=ae B ((a% B^(i+1))*b) (i+n):=by
 have h1:=zZ c a i h;have d:=zZ c a (i+1) h;rw[mulC,Qb a b i h,ko h1,nF];refine(j5 ?_).symm;rw[j6 (kc o_),j4 B,<-j9,show(i+n).succ=i+1+n by omega];exact d
theorem sN(a b i k:Nat):dP B a b i 0 k=ae B ((a% B^i)*b) k:=by
 rw[dP,Oq];split<;>rfl
theorem Qd(c:2<=B){a b i n k:Nat}(h:b<B^n)(hk:k≠i+n):dP B a b i n k=ae B ((a% B^(i+1))*b) k:=by
 rw[dP]
 split
 ·rw[Qb a b i h]
 ·rename_i h1;have e1:(a% B^i)*b<B^k:=j7 (zZ c a i h) (j8 o_ o_);have e2:(a% B^(i+1))*b<B^k:=j7 (zZ c a (i+1) h) (j8 o_ o_);rw[lE e1,lE e2]
theorem xM(d:2<=B)(a b i:Nat):∀j,mulC B a b i j<B
 |0=>by rw[Gc];omega
 |j+1=>by
  have h:=(GY d a b i j).2;have f:=xM d a b i j;have g:dP B a b i j (i+j)<B:=by rw[dP];split<;>exact cQ d _ _
  have e:ae B a i*ae B b j<=(B-1)*(B-1):=m1 (by have:=cQ d a i;omega) (by have:=cQ d b j;omega);rw[<-h,j6 o_];obtain⟨c,rfl⟩:∃c,B=c+1:=⟨B-1,o_⟩
  simp only[kO]at e;rw[kw,ll];omega
end
section
variable{B:Nat}
theorem N4{V W d:Nat}(a:0<V/d):W/V<=W/d/(V/d):=by
 have e:0<d:=by
  rcases kL d with h|h
  ·subst h;simp at a
  ·exact h
 have f:0<V:=by
  rcases kL V with h|h
  ·subst h;simp at a
  ·exact h
 rw[kX a,kX e];have b:W/V*V<=W:=lc W V;have c:V/d*d<=V:=lc V d
 calc W/V*(V/d)*d=W/V*(V/d*d):=kp _ _ _
  _<=W/V*V:=kk _ c
  _<=W:=b
theorem att{V W d q:Nat}(f:0<d)(e:0<V)(h:W/d<q*(V/d)):W/V<q:=by
 rw[j6 e];have b:W<(W/d+1)*d:=by
  have:=m5 (a:=W) f;rw[kw];omega
 have c:V/d*d<=V:=lc V d
 calc W<(W/d+1)*d:=b
  _<=q*(V/d)*d:=kf _ h
  _=q*(V/d*d):=kp _ _ _
  _<=q*V:=kk _ c
theorem Zm{V W d q:Nat}(c:0<d)(i:q*d<=V)(b:0<V)(h:q*(V/d)<=W/d):q<=W/V+1:=by
 rcases kL q with hq|hq
 ·subst hq;exact mp _
 have:q-1<=W/V:=by
  rw[kX b,Nat.sub_mul,lk];have a:V<=V/d*d+d:=oj (m5 c);have e:W/d*d<=W:=lc W d;have f:q*V<=q*(V/d)*d+q*d:=by
   calc q*V<=q*(V/d*d+d):=kk _ a
    _=q*(V/d)*d+q*d:=by rw[ll,kp]
  have g:q*(V/d)*d<=W/d*d:=kf _ h;omega
 omega
theorem GJ{q b c T a r:Nat}(d:q*b+r=T):q*(b*B+c)<=T*B+a↔q*c<=r*B+a:=by
 subst d;rw[ll,kw,kp];omega
theorem wZ(n k:Nat):n/B^k=n/B^(k+1)*B+ae B n k:=by
 rw[Ca,ae,j4];exact(km _ _).symm
theorem uR(n j i:Nat):ae B (n/B^j) i=ae B n (j+i):=by
 rw[ae,ae,kb,kx]
theorem Hr{n m i:Nat}(h:i<m):ae B (n% B^m) i=ae B n i:=by
 obtain⟨d,rfl⟩:∃d,m=i+(d+1):=⟨m-i-1,o_⟩
 rw[ae,ae,kx,l2,j9,j4 (B^d),lx]
theorem Cj{n c m i:Nat}(h:i<m):ae B (n+c*B^m) i=ae B n i:=by
 rw[<-Hr (n:=n+c*B^m) h,kP,Hr h]
def UW(B W V q n:Nat):Nat:=W+B^(n+1)-q*V
theorem aQm{W V q n:Nat}(h:q*V<=W){i:Nat}(hi:i<n+1):ae B (UW B W V q n) i=ae B (W-q*V) i:=by
 rw[UW,show W+B^(n+1)-q*V=(W-q*V)+1*B^(n+1)by omega,Cj hi]
theorem Ox(b:2<=B){R d j:Nat}(k:Nat):ae B (R% B^j+d*B^j) k=if k<j then ae B R k else ae B d (k-j):=by
 have a:0<B^j:=kc o_
 split
 ·rename_i h;rw[Cj h,Hr h]
 ·rename_i h;obtain⟨e,rfl⟩:∃e,k=j+e:=⟨k-j,o_⟩
  rw[<-uR,lm _ _ a,ko (kh _ a),lu,l4]
theorem Cu{R V j:Nat}:R% (V*B^j)=R% B^j+(R/B^j% V)*B^j/\R/(V*B^j)=R/B^j/V:=by
 constructor
 ·rw[j4 V,m9,j4 (B^j)]
 ·rw[j4 V,kb]
end
section
variable{c v1 v0 T u1 q r:Nat}
def hq(c b a T u1:Nat):Nat:=(T*c+u1)/(b*c+a)
theorem T7(a:T<v1*c+v0)(b:u1<c):hq c v1 v0 T u1<c:=by
 rw[hq,j6 o_]
 calc T*c+u1<T*c+c:=by omega
  _=(T+1)*c:=by rw[kw,lk]
  _<=(v1*c+v0)*c:=kf _ a
  _=c*(v1*c+v0):=j4 _ _
theorem Rt(e:0<v1)(g:v0<c)(f:u1<c):hq c v1 v0 T u1<=T/v1:=by
 have hc:0<c:=o_
 have a:(v1*c+v0)/c=v1:=by rw[j4,oe hc,ko g,l1]
 have b:(T*c+u1)/c=T:=by rw[j4,oe hc,ko f,l1]
 have h:=N4 (V:=v1*c+v0) (W:=T*c+u1) (d:=c) (by rw[a];exact e)
 rwa [a,b]at h
theorem Hl(a:0<v1)(hc:0<c)(d:q*v1+r=T)(f:hq c v1 v0 T u1<=q)(e:q*v0<=c*r+u1):q=hq c v1 v0 T u1:=by
 have b:0<v1*c+v0:=by have:=ms a hc;omega
 have h:q*(v1*c+v0)<=T*c+u1:=(GJ d).2 (by rw[j4 r];exact e);have:q<=hq c v1 v0 T u1:=by rw[hq,kX b];exact h
 omega
theorem SS(b:0<v1)(hc:0<c)(f:q*v1+r=T)(i:hq c v1 v0 T u1<=q)(a:c<=q/\hq c v1 v0 T u1<c\/c*r+u1<q*v0):hq c v1 v0 T u1<=q-1:=by
 rcases a with⟨a,g⟩|a
 ·omega
 ·have d:0<v1*c+v0:=by have:=ms b hc;omega
  have h:¬q*(v1*c+v0)<=T*c+u1:=fun e=>by
   have:=(GJ f).1 e;rw[j4 r]at this;omega
  have:hq c v1 v0 T u1<q:=by rw[hq,j6 d];omega
  omega
theorem av0(a:T<v1*c+v0)(e:v0<c)(b:q*v1+r=T)(d:c<=r):q<c:=by
 rcases kA q c with h|h
 ·exact h
 ·have:c*v1<=q*v1:=kf _ h;rw[j4 c]at this;omega
theorem Qs(b:0<v1)(d:T<v1*c+v0)(g:v0<c)(a:q*v1+r=T)(f:c<=r)(e:hq c v1 v0 T u1<=q):q=hq c v1 v0 T u1:=by
 have j:=av0 d g a f;refine Hl b o_ a e ?_;have h:q*v0<=c*v0:=kf _ o_;have i:c*v0<=c*r:=kk _ o_;omega
theorem T6(a:0<v1)(b:T<v1*c+v0)(hn:c<=2*v1)(d:v0<c):T/v1<=c+1:=by
 have:T/v1<c+2:=by
  rw[j6 a,kw,j4 c];omega
 omega
theorem Rs:T*c+u1-hq c v1 v0 T u1*(v1*c+v0)=(T*c+u1)% (v1*c+v0):=by
 rw[hq];generalize T*c+u1=A;generalize v1*c+v0=V;have:=km A V;rw[j4 (A/V)];omega
theorem aGS{Y U c:Nat}(hY:0<Y):U/Y=U/c/Y*c+((U/c% Y)*c+U% c)/Y/\U% Y=((U/c% Y)*c+U% c)% Y:=by
 have e:U=(U/c% Y*c+U% c)+(U/c/Y*c)*Y:=by
  have a:=km U c;have b:=km (U/c) Y;have d:(Y*(U/c/Y)+U/c% Y)*c=U/c*c:=by rw[b]
  rw[kw,j4 Y,lq]at d;rw[j4 c]at a;omega
 constructor
 ·conv=>lhs;rw[e]
  rw[lm _ _ hY,lb]
 ·conv=>lhs;rw[e]
  rw[kP]
end
section
variable{B W V n q r:Nat}
theorem aRe(b:2<=B)(hn:2<=n)(a:V<B^n):V/B^(n-2)=ae B V (n-1)*B+ae B V (n-2):=by
 obtain⟨k,rfl⟩:∃k,n=k+2:=⟨n-2,o_⟩
 have e1:k+2-2=k:=o_
 have e2:k+2-1=k+1:=o_
 rw[e1,e2,wZ];have:V/B^(k+1)=ae B V (k+1):=by
  rw[ae,j5];rw[j6 (kc o_),j4,<-j9];exact a
 rw[this]
theorem aRa(c:2<=B)(hn:2<=n)(a:B^(n-1)<=V)(b:V<B^n):V/B^(n-1)=ae B V (n-1)/\0<ae B V (n-1):=by
 obtain⟨k,rfl⟩:∃k,n=k+1:=⟨n-1,o_⟩
 have e2:k+1-1=k:=o_
 rw[e2]at*;have:V/B^k=ae B V k:=by
  rw[ae,j5];rw[j6 (kc o_),j4,<-j9];exact b
 exact⟨this,by rw[<-this];exact m2 a (kc o_)⟩
theorem GI(b:2<=B)(hn:2<=n)(a:B^(n-1)<=V):0<V:=j7 (kc o_) a
theorem Rw(c:2<=B)(hn:2<=n)(d:B^(n-1)<=V)(e:V<B^n):W/V<=W/B^(n-1)/ae B V (n-1):=by
 obtain⟨a,b⟩:=aRa c hn d e;rw[<-a];exact N4 (by rw[a];exact b)
theorem SU(a:2<=B)(hn:2<=n)(b:V<B^n)(c:q*ae B V (n-1)+r=W/B^(n-1)):
 q*(V/B^(n-2))<=W/B^(n-2)↔q*ae B V (n-2)<=r*B+ae B W (n-2):=by
 rw[aRe a hn b,wZ,show n-2+1=n-1 by omega];exact GJ c
theorem IG(b:2<=B)(hn:2<=n)(a:B^(n-1)<=V)(c:V<B^n)(f:q*ae B V (n-1)+r=W/B^(n-1))(hq:q<B)(g:q*ae B V (n-2)<=r*B+ae B W (n-2)):q<=W/V+1:=by
 have d:0<B^(n-2):=kc o_;refine Zm d ?_ (GI b hn a) ((SU b hn c f).2 g);have e:n-1=n-2+1:=o_
 rw[e,j9,j4]at a;exact lw (kf _ o_) a
theorem SV(a:2<=B)(hn:2<=n)(b:B^(n-1)<=V)(c:V<B^n)(e:q*ae B V (n-1)+r=W/B^(n-1))(f:r*B+ae B W (n-2)<q*ae B V (n-2)):W/V<q:=by
 have d:0<B^(n-2):=kc o_;refine att d (GI a hn b) ?_;rcases kA (W/B^(n-2)) (q*(V/B^(n-2)))with h|h
 ·exact h
 ·have:=(SU a hn c e).1 h;omega
theorem Rv(a:2<=B)(b:B<=r)(hq:q<B):q*ae B V (n-2)<=r*B+ae B W (n-2):=by
 have e:ae B V (n-2)<B:=cQ a _ _;have c:q*ae B V (n-2)<=B*B:=m1 o_ o_;have d:B*B<=r*B:=kf _ b;omega
theorem Hm(e:2<=B)(hn:1<=n)(c:V<B^n)(a:W<V*B):W/B^n<=ae B V (n-1)/\W/V<B:=by
 obtain⟨k,rfl⟩:∃k,n=k+1:=⟨n-1,o_⟩
 have e2:k+1-1=k:=o_
 rw[e2];have hk:0<B^k:=kc o_;have b:V/B^k=ae B V k:=by
  rw[ae,j5];rw[j6 hk,j4,<-j9];exact c
 refine⟨?_,?_⟩
 ·rw[<-b,j9,j4,<-kb];refine m3 ?_;have:W/B<V:=by rw[j6 o_];exact a
  omega
 ·have d:0<V:=by
   rcases kL V with h|h
   ·subst h;simp at a
   ·exact h
  rw[j6 d,j4];exact a
def jW(B V q i:Nat):Nat:=q*(V% B^i)/B^i
theorem ase:jW B V q 0=0:=by simp[jW,l0]
theorem avd(b:2<=B)(i:Nat):(q*ae B V i+jW B V q i)% B=ae B (q*V) i/\(q*ae B V i+jW B V q i)/B=jW B V q (i+1):=by
 have a:0<B^i:=kc o_;have e:q*(V% B^(i+1))/B^i=q*ae B V i+jW B V q i:=by
  rw[mod_pow_succ,ll,m6,la _ _ a,jW,lb]
 rw[<-e];constructor
 ·have e2:q*V=q*(V% B^(i+1))+q*(V/B^(i+1))*B^(i+1):=by
   have:=kF V (B^(i+1))
   conv=>lhs;rw[<-this]
   rw[ll,j4 (B^(i+1)),kp]
  conv=>rhs;rw[e2,Cj o_]
  rfl
 ·rw[jW,Ca]
theorem aQv(b:2<=B)(hq:q<B)(i:Nat):jW B V q i<B:=by
 have a:0<B^i:=kc o_;rw[jW,j6 a];exact kH hq (kh _ a)
theorem avf(c:2<=B)(hq:q<B)(a:V<B^n):jW B V q n=ae B (q*V) n:=by
 have b:0<B^n:=kc o_;rw[jW,j5 a,ae];refine(j5 ?_).symm;rw[j6 b];exact kH hq a
theorem Y5(hq:q<B)(a:V<B^n):q*V<B^(n+1):=by
 rw[j9,j4 (B^n)];exact kH hq a
theorem zU{m i:Nat}(hi:i<m):ae B (W+B^m) i=ae B W i:=by
 have:=Cj (B:=B) (n:=W) (c:=1) hi
 rwa [lk]at this
theorem YI(b:W<B^(n+1))(a:q*V<B^(n+1)):gl B (W+B^(n+1)) (q*V) (n+1)=if W<q*V then 1 else 0:=by
 rw[gl,n5,j5 b,j5 a]
theorem aQn(h:q*V<=W)(b:q<=W/V+1)(a:0<V)(c:W/V<=q):q=W/V/\W-q*V=W% V:=by
 have e:q=W/V:=by
  have:=(kX a).2 h;omega
 refine⟨e,?_⟩;have:=km W V;rw[e,j4];omega
theorem avj(h:W<q*V)(b:q<=W/V+1)(a:0<V)(c:W/V<=q):q=W/V+1/\∀M,q*V<=W+M->W+M-q*V+V=W% V+M:=by
 have e:q=W/V+1:=by
  have:¬q<=W/V:=fun e=>by
   have:=(kX a).1 e;omega
  omega
 refine⟨e,fun M d=>?_⟩;have:=km W V;have e2:q*V=V*(W/V)+V:=by rw[e,kw,lk,j4]
 omega
end
section
variable{S T:Nat}
theorem MM{x0 x1:Nat}(h:x0<S)(c:0<T):(x0+S*x1)% (S*T)=x0+S*(x1% T):=by
 have d:0<S:=o_
 have e:x1=x1% T+T*(x1/T):=(kF x1 T).symm
 conv=>lhs;rw[e,ll,<-kp,<-nm,l3]
 refine j5 ?_;have a:x1% T+1<=T:=kh _ c;have b:S*(x1% T+1)<=S*T:=kk _ a;rw[ll,mx]at b;omega
theorem au6(w:Nat):ae (S*T) (w*S) 0=(ae (S*T) w 0*S)% (S*T):=by
 simp only[ae,kC,lt];rw[Nat.mod_mul_mod]
theorem au7(b:0<S)(a:0<T)(w i:Nat):ae (S*T) (w*S) (i+1)=(ae (S*T) w (i+1)*S)% (S*T)+ae (S*T) w i/T:=by
 have d:0<S*T:=ms b a;have e0:w*S/(S*T)^(i+1)=w/(S*T)^i/T:=by
  rw[j9,j4 S T,<-kp,mm _ _ b,kb]
 have e1:w/(S*T)^(i+1)=w/(S*T)^i/(S*T):=by rw[j9,kb]
 simp only[ae];rw[e0,e1];generalize w/(S*T)^i=x;have e2:x/T=x% (S*T)/T+S*(x/(S*T)):=by
  conv=>lhs;rw[<-kF x (S*T)]
  rw[show S*T*(x/(S*T))=T*(S*(x/(S*T)))by rw[j4 S T,kp],la _ _ a]
 have c:x% (S*T)/T<S:=by rw[j6 a];exact kh _ d
 rw[e2,MM c a];have e3:x/(S*T)% (S*T)*S% (S*T)=S*(x/(S*T)% T):=by
  rw[j4 _ S,lz,j4 S T,lx]
 rw[e3,lb]
theorem aQM(a:0<S)(e:0<T)(R i:Nat):ae (S*T) (R/S) i=ae (S*T) R i/S+(ae (S*T) R (i+1)*T)% (S*T):=by
 have d:0<S*T:=ms a e;have e0:R/S/(S*T)^i=R/(S*T)^i/S:=by rw[kb,j4,kb]
 have e1:R/(S*T)^(i+1)=R/(S*T)^i/(S*T):=by rw[j9,kb]
 simp only[ae];rw[e0,e1];generalize R/(S*T)^i=x;have e2:x/S=x% (S*T)/S+T*(x/(S*T)):=by
  conv=>lhs;rw[<-kF x (S*T)]
  rw[kp,la _ _ a]
 have c:x% (S*T)/S<T:=by rw[j6 a,j4 T];exact kh _ d
 have b:=MM (S:=T) (T:=S) (x0:=x% (S*T)/S) (x1:=x/(S*T)) c a;rw[j4 T S]at b;rw[e2,b];have e3:x/(S*T)% (S*T)*T% (S*T)=T*(x/(S*T)% S):=by
  rw[j4 _ T,j4 S T,lz,j4 T S,lx]
 rw[e3]
end
theorem HT{a b s:Nat}(c:b<2^s):a*2^s|||b=a*2^s+b:=by
 have:=Nat.shiftLeft_add_eq_or_of_lt c a;rw[Nat.shiftLeft_eq]at this;exact this.symm
def eW(l:List Nat):List PV:=l.map fun x:Nat=>.int .u64 x
theorem U4(w:List Nat):fZ prog 1 (w.map (AV.p∘fun x:Nat=>PV.int .u64 x)):=by
 rw[zD];intro v a;obtain⟨x,_,rfl⟩:=h3.1 a;simp[aa,aK,bU]
theorem FV:∀l:List Nat,fC (l++[0])=fC l
 |[]=>by simp[fC]
 |d::l=>by rw[hS,fC,FV l,fC]
theorem zz:∀(l:List Nat)(d:Nat),d≠0->fC (l++[d])=l++[d]
 |[],d,h=>by simp[fC,h]
 |x::l,d,h=>by
  rw[hS,fC,zz l d h]
  split
  ·rename_i e;simp at e
  ·rfl
theorem xQ(w:List Nat)(h:w.length<=1048576):aq prog 318 [.seq (eW w)] (.seq (eW (fC w))):=by
 refine gA_ nf func318 mix ?_;simp only[eW];simp[f318];refine lp (α:=Nat) (fun i=>⟨[(3,.p (.int .i64 i)),(0,.p (.seq (w.map fun x:Nat=>.int .u64 x)))],[]⟩) (fun i=>i<=w.length/\fC w=fC (w.take i)) (fun i=>i) w.length s_ ?_;rintro i ⟨k1,k2⟩
 by_cases hi:0<i
 ·obtain⟨j,rfl⟩:∃j,i=j+1:=⟨i-1,o_⟩
  have c:dy.wrap (j:Int)=j:=aU _ o_ o_;have a:j<w.length:=o_
  have b:(0:Int)<(j:Int)+1:=o_
  have k3:=k2;rw[hZ a]at k2
  by_cases hz:w[j]=0
  ·rw[hz,FV]at k2;have d:((w[j]:Nat):Int)=0:=by omega
   simp[b,c,a,hz];exact rd j ⟨o_,k2⟩
  ·rw[zz _ _ hz,<-hZ a]at k2;simp[b,c,a,hz];refine⟨⟨o_,o_,U4 w⟩,?_⟩;rw[k2,h7];exact bL.refl _
 ·obtain rfl:i=0:=by omega
  simp[fC]at k2;simp[k2];exact U4 w
def eN(n:Nat):PV:=.seq ((aw wB n).map fun x:Nat=>.int .u64 x)
theorem bB:2<=wB:=d_
def gR(a b:Nat):Int:=if a<b then -1 else if b<a then 1 else 0
theorem Nt{a b:Nat}(h:(aw wB a).length<(aw wB b).length):a<b:=by
 have d:=cL bB a;rcases kA a b with c|c
 ·exact c
 ·have:=eZ bB (aw wB a).length b (kd c d);omega
theorem O7{a b i:Nat}(h:a/wB^(i+1)=b/wB^(i+1))(e:ae wB a i<ae wB b i):a<b:=by
 rw[j9,<-kb,<-kb]at h;have e1:=km (a/wB^i) wB;have e2:=km (b/wB^i) wB;rw[ae,ae]at e;rw[h]at e1;rcases kA a b with d|d
 ·exact d
 ·have:=m3 (c:=wB^i) d;omega
theorem awk{a b i:Nat}(h:a/wB^(i+1)=b/wB^(i+1))(c:ae wB a i=ae wB b i):a/wB^i=b/wB^i:=by
 rw[j9,<-kb,<-kb]at h;have e1:=km (a/wB^i) wB;have e2:=km (b/wB^i) wB;rw[ae,ae]at c;rw[h]at e1;omega
theorem My(a b:Nat)(z:(aw wB a).length<=1048576)(A:(aw wB b).length<=1048576):aq prog 309 [eN a,eN b] (.int .i64 (gR a b)):=by
 refine gA_ nf func309 mix ?_
 by_cases g:(aw wB a).length=(aw wB b).length
 case neg=>
  have n:¬((aw wB a).length:Int)=(aw wB b).length:=o_
  by_cases u:(aw wB a).length<(aw wB b).length
  ·have k:((aw wB a).length:Int)<(aw wB b).length:=by omega
   have:=Nt u;have hc:gR a b= -1:=if_pos this;simp[f309,eN,n,k,hc]
  ·have k:¬((aw wB a).length:Int)<(aw wB b).length:=by omega
   have:=Nt (a:=b) (b:=a) o_;have hc:gR a b=1:=by rw[gR,if_neg o_,if_pos this]
   simp[f309,eN,n,k,hc]
 have r:∀i(h:i<(aw wB a).length),(aw wB a)[i]=ae wB a i:=fun i h=>fH bB h;have s:∀i(h:i<(aw wB b).length),(aw wB b)[i]=ae wB b i:=fun i h=>fH bB h;have q:=cL bB a;have m:=cL bB b;rw[<-g]at m;have t:a/wB^(aw wB a).length=b/wB^(aw wB a).length:=by rw[ko q,ko m]
 have B:a=b\/a≠b:=o_
 simp only[eN];generalize aw wB a=x,aw wB b=y at*;have w:dy.wrap ((y.length:Int)-1)=y.length-1:=aU _ o_ o_;simp[f309,g,w];refine lp (α:=Nat) (fun i=>⟨[(5,.p (.int .i64 ((i:Int)-1))),(1,.p (.seq (y.map fun x:Nat=>.int .u64 x))),(0,.p (.seq (x.map fun x:Nat=>.int .u64 x)))],[]⟩) (fun i=>i<=y.length/\a/wB^i=b/wB^i) (fun i=>i) y.length ⟨kv _,by rw[<-g];exact t⟩ ?_;rintro i ⟨k1,k2⟩
 by_cases hi:0<i
 ·obtain⟨j,rfl⟩:∃j,i=j+1:=⟨i-1,o_⟩
  have c:j<x.length:=o_
  have d:j<y.length:=o_
  have v:dy.wrap ((j:Int)-1)=j-1:=aU _ o_ o_;have e:=r j c;have f:=s j d
  by_cases hq:ae wB a j=ae wB b j
  ·simp[c,d,e,f,hq,v];exact rd j ⟨o_,awk k2 hq⟩
  ·have o:¬(ae wB a j:Int)=ae wB b j:=by omega
   by_cases l:ae wB a j<ae wB b j
   ·have:=O7 k2 l;have hc:gR a b= -1:=if_pos this;simp[c,d,e,f,o,l,hc]
   ·have:=O7 k2.symm (show ae wB b j<ae wB a j by omega);have hc:gR a b=1:=by rw[gR,if_neg o_,if_pos this]
    simp[c,d,e,f,o,l,hc]
 ·obtain rfl:i=0:=by omega
  rw[kC,lt,lt]at k2;have hc:gR a b=0:=by rw[gR,if_neg o_,if_neg o_]
  simp[hc]
@[simp] theorem OW{α:Type}{f:α->PV}:∀{l:List α},fq (l.map (AV.p∘f))=some (l.map f)
 |[]=>rfl
 |x::l=>by simp only[hM,Function.comp,fq];rw[show(l.map (AV.p∘f))=l.map (fun x=>AV.p (f x))from rfl]at*;have:=@OW α f l;rw[show(l.map (AV.p∘f))=l.map (fun x=>AV.p (f x))from rfl]at this;simp[this]
def uA(x:Nat):AV:=.p (.int .u64 x)
def iW(n i:Nat)(f:Nat->Nat):List AV:=(hJ n).map fun j=>uA (if j<i then f j else 0)
theorem Hx(n i:Nat)(f:Nat->Nat):(iW n i f).length=n:=by simp[iW]
theorem Qe(n:Nat)(f:Nat->Nat):hP n (AV.p (.int .u64 0))=iW n 0 f:=by
 apply hQ (by simp[iW]);intro i a b;simp[iW,uA]
theorem Hw{n i:Nat}(f:Nat->Nat)(h:i<n):(iW n i f).set i (.p (.int .u64 (f i)))=iW n (i+1) f:=by
 apply hQ (by simp[iW]);intro j h1 c;simp only[iW,iB,ii]at c;rw[ip];simp only[iW,ix,ih,uA]
 by_cases a:i=j
 ·subst a;rw[if_pos rfl,if_pos o_]
 ·rw[if_neg a]
  by_cases b:j<i
  ·rw[if_pos b,if_pos o_]
  ·rw[if_neg b,if_neg o_]
theorem Qf(n:Nat)(f:Nat->Nat):iW n n f=((hJ n).map f).map (AV.p∘fun x:Nat=>PV.int .u64 x):=by
 rw[iW,h8];apply hU;intro j a;rw[if_pos (h6.1 a)];rfl
@[simp] theorem aUH{N:Nat×Nat->Prop}{n i:Nat}{f:Nat->Nat}:ba N (iW n i f)=True:=by
 rw[df,eq_iff_iff,iff_true];intro v a;simp only[iW,h3]at a;obtain⟨x,_,rfl⟩:=a;trivial
theorem zW{n i j:Nat}(f:Nat->Nat)(h:j<n):(iW n i f)[j]?=some (uA (if j<i then f j else 0)):=by
 rw[iW,ik,h9 h];rfl
theorem Y0{A C n:Nat}(a:A<wB^n)(b:C<wB^n):dN wB A C n=ae wB (A+C) n:=by
 have c:0<wB^n:=kc d_;have:=n7 bB A C n;rw[dN,j5 a,j5 b]at*;rw[ae,j5];exact kd this d_
theorem Hq{n i:Nat}(h:(aw wB n).length<=i):ae wB n i=0:=lE (j7 (cL bB n) (j8 d_ h))
theorem Y4(a b:Nat)(D:(aw wB a).length<=1000000)(E:(aw wB b).length<=1000000):aq prog 308 [eN a,eN b] (eN (a+b)):=by
 refine gA_ nf func308 mix ?_;simp[f308,-aX];rw[aX];simp[-aX];refine join (fun s=>∃A C,A+C=a+b/\(aw wB C).length<=(aw wB A).length/\(aw wB A).length<=1000000/\aQ s.env 0=.p (eN A)/\aQ s.env 1=.p (eN C)/\s.heap=[]) ?_ ?_
 ·by_cases R:(aw wB a).length<(aw wB b).length
  ·have g:((aw wB a).length:Int)<(aw wB b).length:=by omega
   simp[eN,g];exact⟨b,a,o_,o_,E,rfl,rfl⟩
  ·have g:¬((aw wB a).length:Int)<(aw wB b).length:=by omega
   simp[eN,g];exact⟨a,b,rfl,o_,D,rfl,rfl⟩
 rintro⟨O,Q⟩ ⟨A,C,hs,J,S,f0,f1,w⟩;dsimp only at f0 f1 w;subst w;rw[<-hs];simp only[eN]at f0 f1⊢;have F:∀i(h:i<(aw wB A).length),(aw wB A)[i]=ae wB A i:=fun i h=>fH bB h;have G:∀i(h:i<(aw wB C).length),(aw wB C)[i]=ae wB C i:=fun i h=>fH bB h;have H:=cL bB A;have I:=j7 (cL bB C) (j8 (show 0<wB by decide) J);have r:=Y0 H I;have K:=@Hq C;have L:fC ((hJ ((aw wB A).length+1)).map (ae wB (A+C)))=aw wB (A+C):=lF bB (by
  have P:2*wB^(aw wB A).length<=wB^((aw wB A).length+1):=by rw[j9,j4];exact kk _ bB
  omega)
 have c:=xQ ((hJ ((aw wB A).length+1)).map (ae wB (A+C))) (by simp;omega);rw[L]at c;generalize aw wB (A+C)=z,aw wB A=x,aw wB C=y at*;obtain⟨n,hn⟩:∃n,x.length=n:=⟨_,rfl⟩
 obtain⟨m,k⟩:∃m,y.length=m:=⟨_,rfl⟩
 rw[hn]at r c;have t:=Qf (n+1) (ae wB (A+C));have j:((hJ (n+1)).map (ae wB (A+C))).length=n+1:=s_
 generalize (hJ (n+1)).map (ae wB (A+C))=l at c t j;have T:n<=1000000:=o_
 have U:m<=n:=o_
 have M:dy.wrap ((n:Int)+1)=n+1:=cE o_;simp[f0,f1,hn,M];refine⟨⟨o_,by simp only[dH];omega⟩,?_⟩;rw[Qe (n+1) (ae wB (A+C))];refine lp (α:=Nat) (fun i=>⟨[(22,.p (.int .i64 i)),(21,.p (.int .i64 n)),(6,.p (.int .u64 (dN wB A C i:Nat))),(5,.sl 0 0 1 0 (n+1)),(1,.p (.seq (y.map fun x:Nat=>.int .u64 x))),(0,.p (.seq (x.map fun x:Nat=>.int .u64 x)))],[.arr .exact 0 1 (iW (n+1) i (ae wB (A+C)))]⟩)
  (fun i=>i<=n) (fun i=>n-i) 0 s_ ?_ (he:=by simp[f0,f1,Co])
 intro i k1;have B:=cE (i:=i) o_
 by_cases hi:i<n
 ·have f:i<x.length:=by rw[hn];exact hi
  have hx:=F i f;have d:=u5 (ae wB A i) (ae wB C i) (dN wB A C i) (n7 bB A C i);obtain⟨g1,g2⟩:=uC bB A C i;rw[g1,g2]at d;have aO:=Hw (n:=n+1) (ae wB (A+C)) (show i<n+1 by omega);have ar:i<(iW (n+1) i (ae wB (A+C))).length:=by rw[Hx];omega
  have v:(iW (n+1) i (ae wB (A+C))).length=n+1:=Hx _ _ _;have V:iW (n+1) i (ae wB (A+C))≠[]:=by intro h;rw[h]at v;simp at v
  have e:i<n+1:=o_
  by_cases o:i<m
  ·have u:i<y.length:=by rw[k];exact o
   have N:=G i u;have q:(i:Int)<m:=o_
   simp[hn,k,hi,o,q,hx,N,f,u];refine c3 d ?_;simp[e,aO,B,zW _ e,aa,aK,bU,uA];exact rd (i+1) (show i+1<=n by omega)
  ·have q:¬(i:Int)<m:=by omega
   have hz:=K (i:=i) o_;rw[hz]at d;simp[hn,k,hi,o,q,hx,f];refine c3 d ?_;simp[e,aO,B,zW _ e,aa,aK,bU,uA];exact rd (i+1) (show i+1<=n by omega)
 have:i=n:=o_
 subst this;simp[hn,r,zW _ (oa i),Hw _ (oa i),t,aa,aK,bU,uA];refine cp c (by simp[j];exact⟨rfl,rfl⟩) ?_ (h1:=by simp[eW,hL,j]);simp;exact bL.refl _
end Go.ag
namespace Go.ag
open Go.Proofs
theorem au0{x y c d:Nat}(h:x+wB=d+(y+c))(a:d<wB):(x+wB-y-c)% wB=d:=by rw[show x+wB-y-c=d by omega];exact j5 a
theorem auZ{x y c d:Nat}(h:x=d+(y+c))(a:d<wB):(x+wB-y-c)% wB=d:=by rw[show x+wB-y-c=d+wB by omega,n5];exact j5 a
theorem SI{A C:Nat}(h:C<=A)(i:Nat):aq prog 342 [.int .u64 (ae wB A i),.int .u64 (ae wB C i),.int .u64 (gl wB A C i)] (.aC [.int .u64 (ae wB (A-C) i),.int .u64 (gl wB A C (i+1))]):=by
 have c:gl wB A C i<=1:=by rw[gl];split<;>omega
 have a:=aEN (ae wB A i) (ae wB C i) (gl wB A C i) c;have b:=cQ bB (A-C) i;have e:=cQ bB A i;have f:=cQ bB C i;have d:wB=18446744073709551616:=rfl;rcases Pt bB h i with⟨e1,e2,e3⟩|⟨e1,e2,e3⟩
 ·rw[if_pos e1,au0 e3 b]at a;rw[e2];exact a
 ·rw[if_neg o_,auZ e3 b]at a;rw[e2];exact a
theorem NG(A C:Nat)(j:C<=A)(w:(aw wB A).length<=1000000):aq prog 310 [eN A,eN C] (eN (A-C)):=by
 refine gA_ nf func310 mix ?_;have D:(aw wB C).length<=(aw wB A).length:=eZ bB _ _ (kd j (cL bB A));have r:∀i(h:i<(aw wB A).length),(aw wB A)[i]=ae wB A i:=fun i h=>fH bB h;have s:∀i(h:i<(aw wB C).length),(aw wB C)[i]=ae wB C i:=fun i h=>fH bB h;have t:=@Hq C;have u:fC ((hJ (aw wB A).length).map (ae wB (A-C)))=aw wB (A-C):=lF bB (kd (Nat.sub_le A C) (cL bB A));have a:=xQ ((hJ (aw wB A).length).map (ae wB (A-C))) (by simp;omega);rw[u]at a;simp only[eN];generalize aw wB (A-C)=z,aw wB A=x,aw wB C=y at*;obtain⟨n,hn⟩:∃n,x.length=n:=⟨_,rfl⟩
 obtain⟨m,e⟩:∃m,y.length=m:=⟨_,rfl⟩
 rw[hn]at a;have k:=Qf n (ae wB (A-C));have d:((hJ n).map (ae wB (A-C))).length=n:=s_
 generalize (hJ n).map (ae wB (A-C))=l at a k d;have B:n<=1000000:=o_
 have F:m<=n:=o_
 simp[f310,hn];refine⟨by simp only[dH];omega,?_⟩;rw[Qe n (ae wB (A-C))];refine lp (α:=Nat) (fun i=>⟨[(14,.p (.int .i64 i)),(13,.p (.int .i64 n)),(6,.p (.int .u64 (gl wB A C i:Nat))),(5,.sl 0 0 1 0 n),(1,.p (.seq (y.map fun x:Nat=>.int .u64 x))),(0,.p (.seq (x.map fun x:Nat=>.int .u64 x)))],[.arr .exact 0 1 (iW n i (ae wB (A-C)))]⟩)
  (fun i=>i<=n) (fun i=>n-i) 0 s_ ?_ (he:=by simp[FT])
 intro i k1;have q:=cE (i:=i) o_
 by_cases hi:i<n
 ·have c:i<x.length:=by rw[hn];exact hi
  have hx:=r i c;have b:=SI j i;have aO:=Hw (n:=n) (ae wB (A-C)) hi;have E:(iW n i (ae wB (A-C))).length=n:=Hx _ _ _
  by_cases f:i<m
  ·have o:i<y.length:=by rw[e];exact f
   have v:=s i o;have g:(i:Int)<m:=o_
   simp[hn,e,hi,f,g,hx,v,c,o];refine c3 b ?_;simp[hi,aO,q,zW _ hi,aa,aK,bU,uA];exact rd (i+1) (show i+1<=n by omega)
  ·have g:¬(i:Int)<m:=by omega
   have hz:=t (i:=i) o_;rw[hz]at b;simp[hn,e,hi,f,g,hx,c];refine c3 b ?_;simp[hi,aO,q,zW _ hi,aa,aK,bU,uA];exact rd (i+1) (show i+1<=n by omega)
 have:i=n:=o_
 subst this;simp[hn,k,aa,aK,bU,uA];refine cp a (by simp[d];exact⟨rfl,rfl⟩) ?_ (h1:=by simp[eW,hL,d]);simp;exact bL.refl _
end Go.ag
namespace Go.Proofs
open Go.Shelf
def Tryz.YE:gg:=⟨fun|134=>334|129=>324|n=>n,fun|53=>329|3=>3|4=>4|46=>371|5=>5|9=>9|n=>n,fun|n=>n⟩
theorem Tryz.aO6:fm prog YE:={
 mixed:=k_
 f129:=func324.trans (congrArg some k_)
 f134:=func334.trans (congrArg some k_)
 t3:=underlying3
 a3:=isAgg3
 z3:=sizeOf3
 v3:=zeroValue3
 t4:=underlying4
 a4:=isAgg4
 z4:=sizeOf4
 v4:=zeroValue4
 t5:=underlying5
 a5:=isAgg5
 z5:=sizeOf5
 v5:=zeroValue5
 t9:=underlying9
 a9:=isAgg9
 z9:=sizeOf9
 v9:=zeroValue9
 t46:=underlying371
 a46:=isAgg371
 z46:=sizeOf371
 v46:=zeroValue371
 t53:=underlying329
 a53:=isAgg329
 z53:=sizeOf329
 v53:=zeroValue329}
theorem Tryz.bits_LeadingZeros64(x:Int)(w:cx)(a:0<=x)(h1:x<=18446744073709551615):
 cy prog 334 #[.int .u64 x] w fun e w'=>e=.returned (.int .i64 (64-(ea x.toNat:Int)))/\w'=w:=Any.bits_LeadingZeros64 aO6 x w a h1
def Tryz.YF:gg:=⟨fun|129=>324|n=>n,fun|53=>329|3=>3|4=>4|46=>371|5=>5|9=>9|n=>n,fun|n=>n⟩
theorem Tryz.aO5:fv prog YF:={
 mixed:=k_
 f129:=func324.trans (congrArg some k_)
 t3:=underlying3
 a3:=isAgg3
 z3:=sizeOf3
 v3:=zeroValue3
 t4:=underlying4
 a4:=isAgg4
 z4:=sizeOf4
 v4:=zeroValue4
 t5:=underlying5
 a5:=isAgg5
 z5:=sizeOf5
 v5:=zeroValue5
 t9:=underlying9
 a9:=isAgg9
 z9:=sizeOf9
 v9:=zeroValue9
 t46:=underlying371
 a46:=isAgg371
 z46:=sizeOf371
 v46:=zeroValue371
 t53:=underlying329
 a53:=isAgg329
 z53:=sizeOf329
 v53:=zeroValue329}
theorem Tryz.bits_Len64(x:Int)(w:cx)(a:0<=x)(h1:x<=18446744073709551615):
 cy prog 324 #[.int .u64 x] w fun e w'=>e=.returned (.int .i64 (ea x.toNat))/\w'=w:=Any.bits_Len64 aO5 x w a h1
def Tryz.YC:gg:=⟨fun|264=>275|n=>n,fun|53=>329|46=>371|n=>n,fun|n=>n⟩
theorem Tryz.aO8:fd prog YC:={
 mixed:=k_
 f264:=func275.trans (congrArg some k_)
 t46:=underlying371
 a46:=isAgg371
 z46:=sizeOf371
 v46:=zeroValue371
 t53:=underlying329
 a53:=isAgg329
 z53:=sizeOf329
 v53:=zeroValue329}
open Go.RowKit Go.Lib in
theorem Tryz.bits_Mul64(x y:Nat)(hx:x<18446744073709551616)(hy:y<18446744073709551616)(w:cx):
 cy prog 275 #[.int .u64 x,.int .u64 y] w fun e w'=>e=.returned (.tuple #[.int .u64 ((x*y/18446744073709551616:Nat):Int),.int .u64 ((x*y% 18446744073709551616:Nat):Int)])/\w'=w:=Any.bits_Mul64 aO8 x y hx hy w
end Go.Proofs
namespace Go.ag
open Go.Proofs
section
variable[Gl]{P:c6}
theorem mA{f:db}{fn:Func}(h:P.funcs[f]?=some fn)(hs:(fn.body.isSome&&(fn.name != "runtime.NumGoroutine"))=true):Enters P f:=by
 intro args w;simp only[b2,bne_iff_ne]at hs;cases a:fn.body with
 |none=>rw[a]at hs;simp at hs
 |some c=>simp[callFunc,h,hs.2,a]
theorem nY{f:db}{args:List PV}{v:PV}(j:Enters P f)
 (h:∀(w:cx)(ad:Nat->Prop)(a:List dd),(∀k,ad k->k<w.heap.size)->p0 P w ad->bG P w ad args a->
  cy P f a.toArray w fun e w'=>∃cv,e=.returned cv/\(w.heap.size<=w'.heap.size/\(∀k,k<w.heap.size->w'.heap[k]?=w.heap[k]?)/\w'.os=w.os/\w'.output=w.output)/\∀(w:cx)(ad:Nat->Prop),aE P w ad v cv):aq P f args v:=by
 refine .inl ⟨j,fun w ad a c l i=>(h w ad a c l i).mono ?_⟩;rintro e w' ⟨cv,rfl,⟨b,d,m⟩,g⟩;exact⟨cv,ad,rfl,fun _ x=>x,fun _ x=>.inl x,fun k hk=>j7 (c k hk) b,b,d,m,g _ _⟩
theorem uE{w:cx}{ad:Nat->Prop}{a b:PV}{cs:List dd}(h:bG P w ad [a,b] cs):∃x y,cs=[x,y]/\aE P w ad a x/\aE P w ad b y:=by
 simp only[bG]at h;obtain⟨x,xs,rfl,c,y,e,rfl,d,rfl⟩:=h;exact⟨x,y,rfl,c,d⟩
theorem CW{w:cx}{ad:Nat->Prop}{a:PV}{cs:List dd}(h:bG P w ad [a] cs):∃x,cs=[x]/\aE P w ad a x:=by
 simp only[bG]at h;obtain⟨x,xs,rfl,b,rfl⟩:=h;exact⟨x,rfl,b⟩
end
theorem C8(x y:Nat)(hx:x<18446744073709551616)(g:y<18446744073709551616):aq prog 275 [.int .u64 x,.int .u64 y] (.aC [.int .u64 ((x*y/18446744073709551616:Nat):Int),.int .u64 ((x*y% 18446744073709551616:Nat):Int)]):=by
 refine nY (mA func275 k_) fun w ad h _ _ f=>?_;obtain⟨a,b,rfl,c,d⟩:=uE f;simp only[aE]at c d;subst c d;refine(bits_Mul64 x y hx g w).mono ?_;rintro e w' ⟨rfl,rfl⟩;refine⟨_,rfl,⟨kv _,fun _ _=>rfl,rfl,rfl⟩,fun w ad=>?_⟩;simp only[aE,bG];exact⟨[_,_],⟨_,_,rfl,rfl,_,_,rfl,rfl,rfl⟩,rfl⟩
theorem SK(x:Nat)(hx:x<18446744073709551616):aq prog 334 [.int .u64 x] (.int .i64 (64-(ea x:Int))):=by
 refine nY (mA func334 k_) fun w ad d _ _ c=>?_;obtain⟨a,rfl,b⟩:=CW c;simp only[aE]at b;subst b;refine(bits_LeadingZeros64 x w o_ o_).mono ?_;rintro e w' ⟨rfl,rfl⟩;refine⟨_,rfl,⟨kv _,fun _ _=>rfl,rfl,rfl⟩,fun w ad=>?_⟩;simp only[aE];rfl
end Go.ag
namespace Go.ag
open Go.Proofs
theorem gB(n:Int)(h:0<=n)(a:n<wB):dx.wrap n=n:=IntWalk.u64_in n ⟨h,by simp only[wB]at a;omega⟩
def cJ(n:Nat)(f:Nat->Nat):List AV:=(hJ n).map fun j=>uA (f j)
theorem QU(n:Nat)(f:Nat->Nat):(cJ n f).length=n:=by simp[cJ]
theorem pV{n j:Nat}(f:Nat->Nat)(h:j<n):(cJ n f)[j]?=some (.p (.int .u64 (f j))):=by
 rw[cJ,ik,h9 h];rfl
theorem GZ{n:Nat}{f:Nat->Nat}(h:∀j,f j=0):hP n (AV.p (.int .u64 0))=cJ n f:=by
 apply hQ (by simp[cJ]);intro i a b;simp[cJ,uA,h]
theorem sU{n i v:Nat}{f g:Nat->Nat}(d:g i=v)(c:∀k,k≠i->g k=f k):(cJ n f).set i (.p (.int .u64 v))=cJ n g:=by
 apply hQ (by simp[cJ]);intro j e b;simp only[cJ,iB,ii]at b;rw[ip];simp only[cJ,ix,ih,uA]
 by_cases a:i=j
 ·subst a;rw[if_pos rfl,d]
 ·rw[if_neg a,c j o_]
theorem G0(n:Nat)(f:Nat->Nat):cJ n f=((hJ n).map f).map (AV.p∘fun x:Nat=>PV.int .u64 x):=by
 rw[cJ,h8];rfl
theorem Gd{n:Nat}{f g:Nat->Nat}(h:∀k,f k=g k):cJ n f=cJ n g:=by rw[show f=g from funext h]
@[simp] theorem aUG{N:Nat×Nat->Prop}{n:Nat}{f:Nat->Nat}:ba N (cJ n f)=True:=by
 rw[df,eq_iff_iff,iff_true];intro v a;simp only[cJ,h3]at a;obtain⟨x,_,rfl⟩:=a;trivial
@[simp] theorem aUJ{σ:Nat->Nat}{n:Nat}{f:Nat->Nat}:dt σ (cJ n f)=cJ n f:=by
 have:∀l:List Nat,dt σ (l.map fun j=>uA (f j))=l.map fun j=>uA (f j):=by
  intro l
  induction l with
  |nil=>rfl
  |cons a r b=>simp only[hM,dt,b];rfl
 exact this _
theorem mul_two(P o k:Nat)(h:(P+o+k)/wB<wB)(a:o<wB)(hk:k<wB):
 ((P% wB+o+0)% wB+k+0)% wB=(P+o+k)% wB/\P/wB+(P% wB+o+0)/wB+((P% wB+o+0)% wB+k+0)/wB=(P+o+k)/wB/\P/wB+(P% wB+o+0)/wB<wB:=by
 simp only[wB]at*;omega
theorem Y2(a b:Nat)(C:(aw wB a).length+(aw wB b).length<=1000000):aq prog 279 [eN a,eN b] (eN (a*b)):=by
 refine gA_ nf func279 mix ?_;have N:∀i(h:i<(aw wB a).length),(aw wB a)[i]=ae wB a i:=fun i h=>fH bB h;have O:∀i(h:i<(aw wB b).length),(aw wB b)[i]=ae wB b i:=fun i h=>fH bB h;have s:=cL bB a;have o:=cL bB b;have S:fC ((hJ ((aw wB a).length+(aw wB b).length)).map (ae wB (a*b)))=aw wB (a*b):=lF bB (by
  rw[kx];exact kH s o)
 have d:=xQ ((hJ ((aw wB a).length+(aw wB b).length)).map (ae wB (a*b))) (by simp;omega);rw[S]at d;simp only[eN];generalize aw wB (a*b)=z,aw wB a=x,aw wB b=y at*;obtain⟨n,hn⟩:∃n,x.length=n:=⟨_,rfl⟩
 obtain⟨m,c⟩:∃m,y.length=m:=⟨_,rfl⟩
 rw[hn]at s d C;rw[c]at o d C;have D:=G0 (n+m) (ae wB (a*b));have t:((hJ (n+m)).map (ae wB (a*b))).length=n+m:=s_
 generalize (hJ (n+m)).map (ae wB (a*b))=l at d D t;have ad:dy.wrap ((n:Int)+m)=((n+m:Nat):Int):=by rw[aU _ o_ o_];omega
 have R:((n:Int)+m).toNat=n+m:=o_
 have Q:0<=(n:Int)+m:=o_
 have V:dy.wrap ((n:Int)+m)=(n:Int)+m:=aU _ o_ o_;simp[f279,hn,c,V,R,Q];refine⟨by simp only[dH];omega,?_⟩;rw[GZ (f:=dP wB a b 0 0) (by intro j;simp[sN,l0,ae])];refine lp (α:=Nat) (fun i=>⟨[(22,.p (.int .i64 i)),(21,.p (.int .i64 n)),(20,.p (.seq (x.map fun x:Nat=>.int .u64 x))),(5,.sl 0 0 1 0 (n+m)),(1,.p (.seq (y.map fun x:Nat=>.int .u64 x)))],[.arr .exact 0 1 (cJ (n+m) (dP wB a b i 0))]⟩)
  (fun i=>i<=n) (fun i=>n-i) 0 s_ ?_ (he:=s_)
 intro i k1;have T:=cE (i:=i) o_
 by_cases hi:i<n
 ·have E:i<x.length:=by rw[hn];exact hi
  have hx:=N i E;simp[hn,c,hi,E,hx];refine lp (α:=Nat) (fun j=>⟨[(29,.p (.int .i64 j)),(28,.p (.int .i64 m)),(27,.p (.seq (y.map fun x:Nat=>.int .u64 x))),(8,.p (.int .u64 (mulC wB a b i j:Nat))),(7,.p (.int .u64 (ae wB a i:Nat))),(6,.p (.int .i64 i)),(22,.p (.int .i64 i)),(21,.p (.int .i64 n)),(20,.p (.seq (x.map fun x:Nat=>.int .u64 x))),(5,.sl 0 0 1 0 (n+m)),(1,.p (.seq (y.map fun x:Nat=>.int .u64 x)))],[.arr .exact 0 1 (cJ (n+m) (dP wB a b i j))]⟩)
   (fun j=>j<=m) (fun j=>m-j) 0 s_ ?_ (he:=by simp[Gc])
  intro j k2;have U:=cE (i:=j) o_;have w:((i:Int)+j).toNat=i+j:=o_
  have u:0<=(i:Int)+j:=o_
  have H:dy.wrap ((i:Int)+j)=(i:Int)+j:=aU _ o_ o_
  by_cases F:j<m
  ·have G:j<y.length:=by rw[c];exact F
   have X:=O j G;have r:i+j<n+m:=o_
   have e:=pV (dP wB a b i j) r;have q:=GY bB a b i j;have K:=xM bB a b i j;have L:=xM bB a b i (j+1);have M:dP wB a b i j (i+j)<wB:=by rw[dP];split<;>exact cQ bB _ _
   obtain⟨e1,e2,e3⟩:=mul_two (ae wB a i*ae wB b j) (dP wB a b i j (i+j)) (mulC wB a b i j) (by rw[q.2];exact L) M K;rw[q.1]at e1;rw[q.2]at e2;have I:=C8 (ae wB a i) (ae wB b j) (cQ bB _ _) (cQ bB _ _);rw[show(18446744073709551616:Nat)=wB from rfl]at I;have Y:=u5 (ae wB a i*ae wB b j% wB) (dP wB a b i j (i+j)) 0 o_;have J:=u5 ((ae wB a i*ae wB b j% wB+dP wB a b i j (i+j)+0)% wB) (mulC wB a b i j) 0 o_;rw[e1]at J;have hs:=sU (n:=n+m) (i:=i+j) (f:=dP wB a b i j) (g:=dP wB a b i (j+1)) (Qc a b i j) (fun k hk=>Ov bB hk);generalize ae wB a i*ae wB b j% wB=r1,ae wB a i*ae wB b j/wB=A at*;generalize (r1+dP wB a b i j (i+j)+0)% wB=Z,(r1+dP wB a b i j (i+j)+0)/wB=B at*;generalize (Z+mulC wB a b i j+0)/wB=ab at*;have w1:dx.wrap ((A:Int)+B)=((A+B:Nat):Int):=by rw[gB _ o_ o_];omega
   have ac:dx.wrap ((A:Int)+B+ab)=(mulC wB a b i (j+1):Nat):=by rw[gB _ o_ o_];omega
   simp[hn,c,F,G,X];refine c2 I ?_;simp[H,w,u,r,e,aa,aK,bU];refine c3 Y ?_;simp[w1];refine c3 J ?_;simp[H,w,u,r,e,hs,w1,ac,U,aa,aK,bU];exact rd (j+1) (show j+1<=m by omega)
  have:j=m:=o_
  subst this;have W:dy.wrap ((i:Int)+j)=(i:Int)+j:=aU _ o_ o_;have ar:i+j<n+j:=o_
  have e:=pV (dP wB a b i j) ar;have hs:=sU (n:=n+j) (i:=i+j) (f:=dP wB a b i j) (g:=dP wB a b (i+1) 0) (v:=mulC wB a b i j) (by rw[sN,M5 bB o]) (fun k hk=>by rw[sN,Qd bB o hk]);simp[c,W,w,u,hi,ar,e,hs,T,aa,aK,bU];exact rd (i+1) (show i+1<=n by omega)
 have:i=n:=o_
 subst this;have P:cJ (i+m) (dP wB a b i 0)=cJ (i+m) (ae wB (a*b)):=Gd fun k=>by rw[sN,j5 s]
 simp[hn,P,D];refine cp d (by simp[t];exact⟨rfl,rfl⟩) ?_ (h1:=by simp[eW,hL,t]);simp;exact bL.refl _
theorem C3(n:Nat):dx.wrap (n:Int)=(n% wB:Nat):=by
 rw[show dx.wrap (n:Int)=(n:Int)% 18446744073709551616 from rfl];rfl
theorem Bf(x s:Nat)(hs:s<64):dx.wrap ((x:Int)*2^(min s dx.bits))=(x*2^s% wB:Nat):=by
 rw[show dx.bits=64 from rfl,nc o_,<-C3];congr 1
theorem yL(x s:Nat)(hs:s<=64):(x:Int).fdiv (2^(min s dx.bits))=(x/2^s:Nat):=by
 rw[show dx.bits=64 from rfl,nc hs,show(2:Int)^s=((2^s:Nat):Int)by push_cast;rfl,hl _ (Int.natCast_nonneg _)];rfl
theorem I7(a b:Nat)(c:a<wB)(d:b<wB):dx.wrap ((a% 2^dx.bits|||b% 2^dx.bits:Nat):Int)=(a|||b:Nat):=by
 rw[show(2^dx.bits:Nat)=wB from rfl,j5 c,j5 d,C3,j5];exact Nat.or_lt_two_pow (n:=64) c d
def cu(a s i:Nat):Nat:=if i=0 then 0 else ae wB a (i-1)/2^(64-s)
def iK(a s i k:Nat):Nat:=if k<i then ae wB (a*2^s) k else if k=i then cu a s i else 0
theorem Dm{s:Nat}(hs:s<64):2^s*2^(64-s)=wB:=by rw[<-kx,show s+(64-s)=64 by omega];rfl
theorem QG(a s i:Nat)(hs:s<64):cu a s i|||(ae wB a i*2^s% wB)=ae wB (a*2^s) i:=by
 have c:0<2^s:=kc d_;have d:0<2^(64-s):=kc d_;have b:=Dm hs;have hc:cu a s i<2^s:=by
  rw[cu];split
  ·exact c
  ·rw[j6 d,b];exact cQ bB _ _
 have e:ae wB a i*2^s% wB=ae wB a i% 2^(64-s)*2^s:=by
  rw[<-b,j4,lz,j4]
 rw[om,e,HT hc,<-e];cases i with
 |zero=>rw[cu,if_pos rfl,l1,<-b];exact(au6 a).symm
 |succ i=>rw[cu,if_neg o_,kO,<-b];exact(au7 c d a i).symm
theorem F2{n:Nat}{f g:Nat->Nat}(h:∀k,k<n->f k=g k):cJ n f=cJ n g:=by
 rw[cJ,cJ];exact hU fun k hk=>by rw[h k (h6.1 hk)]
theorem aFj(a s n:Nat)(hs:s<64)(h:ae wB a n=0):cu a s n=ae wB (a*2^s) n:=by
 rw[<-QG a s n hs,h,l5,ns,Nat.or_zero]
theorem O0(a s:Nat)(hs:s<64)(z:(aw wB a).length<=1000000):dE prog 335 [] [.p (eN a),.p (.int .i64 s)] [.arr .exact 0 1 (cJ ((aw wB a).length+1) (ae wB (a*2^s)))] (.sl 0 0 1 0 ((aw wB a).length+1)):=by
 refine iC nf (i_ func335) mix (by simp[f335]) ?_;have B:∀i(h:i<(aw wB a).length),(aw wB a)[i]=ae wB a i:=fun i h=>fH bB h;have E:=@Hq a;simp only[eN];generalize aw wB a=x at*;obtain⟨n,hn⟩:∃n,x.length=n:=⟨_,rfl⟩
 rw[hn]at z;have I:dy.wrap ((n:Int)+1)=(n:Int)+1:=cE o_;simp[f335,hn,I];refine⟨⟨o_,by simp only[dH];omega⟩,?_⟩;rw[GZ (f:=iK a s 0) (by intro j;simp[iK,cu])];refine lp (α:=Nat) (fun i=>⟨[(14,.p (.int .i64 i)),(13,.p (.int .i64 n)),(12,.p (.seq (x.map fun x:Nat=>.int .u64 x))),(5,.sl 0 0 1 0 (n+1)),(1,.p (.int .i64 s))],[.arr .exact 0 1 (cJ (n+1) (iK a s i))]⟩)
  (fun i=>i<=n) (fun i=>n-i) 0 s_ ?_ (he:=s_)
 intro i k1;have u:=cE (i:=i) o_
 by_cases hi:i<n
 ·have e:i<x.length:=by rw[hn];exact hi
  have hx:=B i e;have d:i<n+1:=o_
  have m:=pV (iK a s i) d;have D:ae wB a i*2^s% wB<wB:=kh _ d_;have A:iK a s i i<wB:=by
   rw[iK,if_neg o_,if_pos rfl,cu];split
   ·decide
   ·exact kd (ls _ _) (cQ bB _ _)
  have e1:=Bf (ae wB a i) s hs;have e2:=I7 (iK a s i i) (ae wB a i*2^s% wB) A D;have e3:iK a s i i|||(ae wB a i*2^s% wB)=ae wB (a*2^s) i:=by rw[<-QG a s i hs,iK,if_neg o_,if_pos rfl]
  rw[e3]at e2;have w:dy.wrap (64-(s:Int))=((64-s:Nat):Int):=by rw[aU _ o_ o_];omega
  have e4:=yL (ae wB a i) (64-s) o_;have q:i+1<n+1:=o_
  have r:=sU (n:=n+1) (i:=i) (f:=iK a s i) (g:=fun k=>if k=i then ae wB (a*2^s) i else iK a s i k) (if_pos rfl) (fun k hk=>if_neg hk);have F:=sU (n:=n+1) (i:=i+1) (v:=ae wB a i/2^(64-s)) (f:=fun k=>if k=i then ae wB (a*2^s) i else iK a s i k) (g:=iK a s (i+1)) (by
   simp[iK,cu]) (fun k hk=>by
   by_cases c:k=i
   ·subst c;simp[iK]
   ·simp only[iK,c,if_false]
    by_cases b:k<i
    ·rw[if_pos o_,if_pos b]
    ·rw[if_neg o_,if_neg hk,if_neg b])
  have C:=pV (n:=n+1) (fun k=>if k=i then ae wB (a*2^s) i else iK a s i k) q;have G:s=0->cJ (n+1) (fun k=>if k=i then ae wB (a*2^s) i else iK a s i k)=cJ (n+1) (iK a s (i+1)):=fun h=>by
   have hz:ae wB a i/2^(64-s)=0:=by rw[h];exact ko (cQ bB _ _)
   refine Gd fun k=>?_
   by_cases c:k=i
   ·subst c;simp[iK]
   ·simp only[iK,c,if_false]
    by_cases b:k<i
    ·rw[if_pos b,if_pos o_]
    ·by_cases o:k=i+1
     ·rw[o,if_neg o_,if_neg o_,if_pos rfl,cu,if_neg o_,kO,hz]
     ·rw[if_neg b,if_neg o_,if_neg o]
  generalize ae wB a i*2^s% wB=r1,ae wB a i/2^(64-s)=J,(fun k=>if k=i then ae wB (a*2^s) i else iK a s i k)=g1 at*;obtain⟨t,H⟩:∃t,t=64-s:=⟨_,rfl⟩
  rw[<-H]at w e4
  by_cases l:0<s
  ·simp[hn,hi,d,e,hx,m,e1,e2,l,w,e4,u,r,q,C,F,aa,aK,bU];refine⟨⟨by rfl,by rfl,by rfl⟩,?_⟩;refine⟨o_,?_⟩;exact rd (i+1) (show i+1<=n by omega)
  ·have y:s=0:=by omega
   simp[hn,hi,d,e,hx,m,e1,e2,l,u,r,G y,aa,aK,bU];refine⟨⟨by rfl,by rfl,by rfl⟩,?_⟩;exact rd (i+1) (show i+1<=n by omega)
 have:i=n:=o_
 subst this;simp[hn];refine .inl (F2 fun k hk=>?_);rw[iK]
 by_cases b:k<i
 ·rw[if_pos b]
 ·obtain rfl:k=i:=by omega
  rw[if_neg b,if_pos rfl,aFj a s k hs (E o_)]
theorem Cw:∀(n x:Nat),x<=n->0<x->x<2^64->1<=ea x/\2^(ea x-1)<=x/\x<2^ea x
 |0,x,h,a,_=>by omega
 |n+1,x,h,a,c=>by
  have d:=Lib.bitLen_half x o_ c
  by_cases b:x=1
  ·subst b;decide
  ·obtain⟨i1,i2,i3⟩:=Cw n (x/2) o_ o_ o_;rw[d];generalize ea (x/2)=L at*;obtain⟨k,rfl⟩:∃k,L=k+1:=⟨L-1,o_⟩
   rw[show 1+(k+1)=k+2 by omega,show k+2-1=k+1 by omega,j9,j9];rw[j9]at i3;simp only[kO]at i2;omega
theorem Tp{x:Nat}(a:0<x)(h:x<2^64):ea x<=64:=by
 obtain⟨_,b,_⟩:=Cw x x (kv _) a h;have:=(nk (show 1<2 by decide)).1 (kd b h);omega
def wH:Nat:=4294967296
theorem wHH:wH*wH=wB:=rfl
theorem Qa{y:Nat}(a:0<y)(h:y<2^64):∃s,s<64/\ea y+s=64/\wB<=2*(y*2^s)/\y*2^s<wB:=by
 obtain⟨d,b,c⟩:=Cw y y (kv _) a h;have e:=Tp a h;refine⟨64-ea y,o_,o_,?_,?_⟩
 ·have:=kf (2^(64-ea y)) b;rw[<-kx,show ea y-1+(64-ea y)=63 by omega]at this;simp only[wB];omega
 ·have:=li c (kc (show 0<2 by decide) (n:=64-ea y));rw[<-kx,show ea y+(64-ea y)=64 by omega]at this;simp only[wB];omega
structure Vn(hi lo y s:Nat) where
 Y:Nat
 v1:Nat
 v0:Nat
 T:Nat
 u:Nat
 u1:Nat
 u0:Nat
 q1:Nat
 R:Nat
 q0:Nat
 hY:Y=y*2^s
 eY:Y=v1*wH+v0
 EF:v1<wH
 nP:v0<wH
 yP:wH<=2*v1
 Bl:T<Y
 En:hi*2^s<wB
 wy:hi*2^s|||lo/2^(64-s)=T
 eu:u=lo*2^s% wB
 ID:u1=u/wH
 IC:u0=u% wH
 ED:u1<wH
 EC:u0<wH
 rL:q1=hq wH v1 v0 T u1
 Ex:q1<wH
 eR:R=T*wH+u1-q1*Y
 Bj:R<Y
 UU:q1*Y<=T*wH+u1
 A4:q0=hq wH v1 v0 R u0
 Ew:q0<wH
 UT:q0*Y<=R*wH+u0
 Hv:q1*wH+q0=(hi*wB+lo)/y
 rem:(R*wH+u0-q0*Y)/2^s=(hi*wB+lo)% y
theorem aF4{hi lo y:Nat}(o:hi<y)(F:y<wB)(z:lo<wB):∃s,s<64/\ea y+s=64/\Nonempty (Vn hi lo y s):=by
 obtain⟨s,hs,t,H,m⟩:=Qa (y:=y) o_ F;have g:=Dm hs;have a:0<2^s:=kc d_;have v:0<2^(64-s):=kc d_;refine⟨s,hs,t,⟨?_⟩⟩;have e0:y*2^s=y*2^s/wH*wH+y*2^s% wH:=by rw[j4 _ wH,km]
 have C:y*2^s% wH<wH:=kh _ d_;have D:y*2^s/wH<wH:=by rw[j6 d_];exact m
 have E:wH<=2*(y*2^s/wH):=by simp only[wH,wB]at*;omega
 have x:lo/2^(64-s)<2^s:=by rw[j6 v,g];exact z
 have r:hi*2^s<wB:=mb (li o a) m;have h:hi*2^s+lo/2^(64-s)<y*2^s:=by
  have:=kf (2^s) (show hi+1<=y from o);rw[kw,lk]at this;omega
 have A:hi*2^s|||lo/2^(64-s)=hi*2^s+lo/2^(64-s):=HT x
 have n:lo*2^s% wB/wH<wH:=by rw[j6 d_];exact kh _ d_
 have b:lo*2^s% wB% wH<wH:=kh _ d_;have i:(hi*wB+lo)*2^s=((hi*2^s+lo/2^(64-s))*wH+lo*2^s% wB/wH)*wH+lo*2^s% wB% wH:=by
  have e1:lo*2^s=lo/2^(64-s)*wB+lo*2^s% wB:=by
   have e2:lo*2^s/wB=lo/2^(64-s):=by
    rw[<-g,j4 lo,Nat.mul_div_mul_left _ _ a]
   rw[<-e2,j4 _ wB,km]
  have e3:lo*2^s% wB=lo*2^s% wB/wH*wH+lo*2^s% wB% wH:=by rw[j4 _ wH,km]
  rw[kw,lq,e1,kw (_*wH),kp (_+_) wH wH,wHH,kw];generalize hi*2^s*wB=G;rw[<-e1];generalize lo*2^s% wB=a2,lo/2^(64-s)*wB=a3 at*;omega
 have l:0<y*2^s:=o_
 obtain⟨e,d⟩:=aGS (Y:=y*2^s) (U:=(hi*wB+lo)*2^s) (c:=wH) l;have j:(hi*wB+lo)*2^s/wH=(hi*2^s+lo/2^(64-s))*wH+lo*2^s% wB/wH:=by
  rw[i,lb,lm _ _ d_,ko b,lu]
 have k:(hi*wB+lo)*2^s% wH=lo*2^s% wB% wH:=by
  rw[i,lb,kP,j5 b]
 rw[j,k,mm _ _ a]at e;rw[j,k,j4 _ (2^s),j4 y,lz]at d;rw[j4 (2^s) y]at d;generalize w:y*2^s=Y,hi*2^s+lo/2^(64-s)=T,B:lo*2^s% wB=u at*;have r1:=Rs (T:=T) (c:=wH) (u1:=u/wH) (v1:=Y/wH) (v0:=Y% wH);rw[<-e0]at r1;have r0:=Rs (T:=(T*wH+u/wH)% Y) (c:=wH) (u1:=u% wH) (v1:=Y/wH) (v0:=Y% wH);rw[<-e0]at r0;have q:hq wH (Y/wH) (Y% wH) T (u/wH)=(T*wH+u/wH)/Y:=by rw[hq,<-e0]
 have p:hq wH (Y/wH) (Y% wH) ((T*wH+u/wH)% Y) (u% wH)=((T*wH+u/wH)% Y*wH+u% wH)/Y:=by rw[hq,<-e0]
 have f:(T*wH+u/wH)% Y<Y:=kh _ l;exact{
  Y:=Y,v1:=Y/wH,v0:=Y% wH,T:=T,u:=u,u1:=u/wH,u0:=u% wH
  q1:=hq wH (Y/wH) (Y% wH) T (u/wH),R:=(T*wH+u/wH)% Y,q0:=hq wH (Y/wH) (Y% wH) ((T*wH+u/wH)% Y) (u% wH)
  hY:=w.symm,eY:=e0,EF:=D,nP:=C,yP:=E,Bl:=h,En:=r,wy:=A,eu:=B.symm,ID:=rfl,IC:=rfl,ED:=n,EC:=b
  rL:=rfl,Ex:=T7 (by rw[<-e0];exact h) n,eR:=r1.symm,Bj:=f
  UU:=by rw[q];exact lc _ _
  A4:=rfl,Ew:=T7 (by rw[<-e0];exact f) b
  UT:=by rw[p];exact lc _ _
  Hv:=by rw[q,p,<-e]
  rem:=by rw[r0,<-d,Nat.mul_div_cancel_left _ a]}
section
variable[Gl]{P:c6}{ah:db->Bool}{q:Nat×Nat}
theorem vW{b:Code}{Q:bF->St->Prop}{s:St}{id:Nat}(R:St->Prop)(f:fT P ah q (.loop b) (vi id (vB R (fun _ _=>False))) s)(c:∀s',R s'->Q .normal s'):fT P ah q (.loop b) (vi id Q) s:=by
 refine qP _ (fun e s a=>?_) f;cases e with
 |normal=>exact c s a
 |exit i=>
  simp only[vi,ry]at a⊢
  by_cases d:i=id
  ·simp[d,vB]at a⊢;exact c s a
  ·simp[d,vB]at a
 |ret=>exact a.elim
end
theorem O8(a:Nat)(b:a<wB):dx.wrap ((a% 2^dx.bits&&&4294967295% 2^dx.bits:Nat):Int)=(a% wH:Nat):=by
 rw[show(2^dx.bits:Nat)=wB from rfl,j5 b,show 4294967295% wB=2^32-1 from rfl,m7,C3];rw[show(2:Nat)^32=wH from rfl,j5 (j7 (kh _ d_) (show wH<=wB by decide))]
theorem Vl{a b c:Int}{R:Nat}(h:a+b-c=R)(hR:R<wB):dx.wrap (dx.wrap (dx.wrap a+b)-dx.wrap c)=R:=by
 show(((a% 18446744073709551616+b)% 18446744073709551616)-c% 18446744073709551616)% 18446744073709551616=R;have:R<18446744073709551616:=hR;omega
theorem RJ(hi lo y:Nat)(aF:hi<y)(aj:y<wB)(ah:lo<wB):aq prog 333 [.int .u64 hi,.int .u64 lo,.int .u64 y] (.aC [.int .u64 ((hi*wB+lo)/y:Nat),.int .u64 ((hi*wB+lo)% y:Nat)]):=by
 refine gA_ nf func333 mix ?_;have H:¬(y:Int)=0:=o_
 have N:¬(y:Int)<=hi:=o_
 have af:¬y<=hi:=o_
 have ae:¬y=0:=o_
 by_cases ad:hi=0
 ·subst ad;have ag:dx.wrap ((lo:Int)/y)=(lo:Int)/y:=gB _ (g5 o_ o_) (g6 (ha _ o_) o_);have aA:(lo:Int).tmod y=(lo:Int)% y:=Int.tmod_eq_emod_of_nonneg o_;simp[f333,H,N,ae,af,ag,aA]
 obtain⟨s,hs,aU,⟨Y,b,v0,T,u,u1,u0,q1,R,q0,ac,eY,EF,nP,yP,Bl,En,wy,eu,ID,IC,ED,EC,rL,Ex,eR,Bj,UU,A4,Ew,UT,Hv,rem⟩⟩:=aF4 aF aj ah;have aD:=SK y aj;obtain⟨t,ai⟩:∃t,t=64-s:=⟨_,rfl⟩
 have O:wH=4294967296:=rfl;have aB:wB=18446744073709551616:=rfl;have X:Y<wB:=by
  rw[O]at EF nP eY;rw[aB];omega
 have aw:dx.wrap (64-((ea y:Nat):Int))=s:=by rw[gB _ o_ o_];omega
 have ax:dx.wrap (64-(s:Int))=t:=by rw[gB _ o_ o_];omega
 have ay:dx.wrap ((y:Int)*2^(min s dx.bits))=Y:=by rw[Bf y s hs,<-ac,j5 X]
 have f4:(Y:Int).fdiv (2^(min 32 dx.bits))=b:=by
  rw[yL Y 32 o_];rw[O]at nP eY;congr 1;omega
 have az:dx.wrap ((hi:Int)*2^(min s dx.bits))=(hi*2^s:Nat):=by rw[Bf hi s hs,j5 En]
 have f6:(lo:Int).fdiv (2^(min t dx.bits))=(lo/2^t:Nat):=yL lo t o_;have f7:=I7 (hi*2^s) (lo/2^t) En (kd (ls _ _) ah);rw[ai,wy,<-ai]at f7;have f8:dx.wrap ((lo:Int)*2^(min s dx.bits))=u:=by rw[Bf lo s hs,<-eu]
 have aR:u<wB:=by rw[eu];exact kh _ d_
 have f9:(u:Int).fdiv (2^(min 32 dx.bits))=u1:=by
  rw[yL u 32 o_];congr 1;rw[ID];rfl
 have d:0<b:=by rw[O]at yP;omega
 have am:¬b=0:=o_
 have an:¬(b:Int)=0:=o_
 have aS:T<wB:=o_
 generalize hi*2^s=aT,lo/2^t=aV at*;have aK:T/b<=wH+1:=T6 d (by rw[<-eY];exact Bl) yP nP;have aO:T/b*b+T% b=T:=by rw[j4,km]
 have aW:T% b<b:=kh _ d;have aM:=Rt (T:=T) (u1:=u1) d nP ED;have g1:dx.wrap ((T:Int)/b)=(T/b:Nat):=by rw[gB _ (g5 o_ o_) (g6 (ha _ o_) o_)];rfl
 generalize T/b=K,T% b=ak at*;have g2:dx.wrap ((T:Int)-dx.wrap ((K:Int)*b))=ak:=by
  have e:((K*b:Nat):Int)=(K:Int)*b:=by push_cast;rfl
  rw[gB ((K:Int)*b) o_ o_,gB _ o_ o_];omega
 have aa:=O8 Y X;have ab:=O8 u aR;rw[show Y% wH=v0 by rw[eY,lb,kP,j5 nP]]at aa;rw[<-IC]at ab;have a2:b<4294967296:=EF;have a0:v0<4294967296:=nP;have aZ:u1<4294967296:=ED;have aY:u0<4294967296:=EC;have a1:4294967296<=2*b:=yP;have aL:R/b<=wH+1:=T6 d (by rw[<-eY];exact Bj) yP nP;have aP:R/b*b+R% b=R:=by rw[j4,km]
 have aX:R% b<b:=kh _ d;have ar:R<wB:=o_
 have aN:=Rt (T:=R) (u1:=u0) d nP EC;have aG:dx.wrap ((R:Int)/b)=(R/b:Nat):=by rw[gB _ (g5 o_ o_) (g6 (ha _ o_) o_)];rfl
 generalize R/b=L,R% b=al at*;have aI:dx.wrap ((R:Int)-dx.wrap ((L:Int)*b))=al:=by
  have e:((L*b:Nat):Int)=(L:Int)*b:=by push_cast;rfl
  rw[gB ((L:Int)*b) o_ o_,gB _ o_ o_];omega
 have ao:dx.wrap (dx.wrap (dx.wrap ((T:Int)*4294967296)+u1)-dx.wrap ((q1:Int)*Y))=R:=by
  refine Vl (h:=?_) (hR:=ar);have e1:((T*wH:Nat):Int)=(T:Int)*4294967296:=by push_cast;rfl
  have e2:((q1*Y:Nat):Int)=(q1:Int)*Y:=by push_cast;rfl
  omega
 have M2:dx.wrap (dx.wrap ((q1:Int)*4294967296)+q0)=((q1*wH+q0:Nat):Int):=by
  have H:q1*4294967296+q0<18446744073709551616:=by
   have N:q1<4294967296:=Ex;have ag:q0<4294967296:=Ew;omega
  rw[gB ((q1:Int)*4294967296) o_ o_,gB _ o_ o_];push_cast;rfl
 obtain⟨Z,P⟩:∃Z,Z=R*wH+u0-q0*Y:=⟨_,rfl⟩
 have au:Z<wB:=by
  have H:Z/2^s<y:=by rw[P,rem];exact kh _ o_
  rw[j6 (kc d_),<-ac]at H;omega
 have ap:dx.wrap (dx.wrap (dx.wrap ((R:Int)*4294967296)+u0)-dx.wrap ((q0:Int)*Y))=Z:=by
  refine Vl (h:=?_) (hR:=au);have e1:((R*wH:Nat):Int)=(R:Int)*4294967296:=by push_cast;rfl
  have e2:((q0*Y:Nat):Int)=(q0:Int)*Y:=by push_cast;rfl
  omega
 have M:=yL Z s o_;rw[P,rem]at M;rw[<-P]at M;rw[Hv]at M2;simp[f333,H,N,ae,af,ad];refine c1 aD ?_;simp[aw,ax,ay,f4,az,f6,f7,f8,f9,am,an,g1,g2,aa,ab];refine vW (fun s'=>aQ s'.env 15=.p (.int .u64 q1)/\aQ s'.env 14=.p (.int .u64 u0)/\aQ s'.env 13=.p (.int .u64 u1)/\aQ s'.env 11=.p (.int .u64 T)/\aQ s'.env 10=.p (.int .u64 v0)/\aQ s'.env 9=.p (.int .u64 b)/\aQ s'.env 8=.p (.int .u64 s)/\aQ s'.env 2=.p (.int .u64 Y)/\s'.heap=[]) ?_ ?_
 ·refine lp (α:=Nat×Nat) (fun a=>⟨[(16,.p (.int .u64 a.2)),(15,.p (.int .u64 a.1)),(14,.p (.int .u64 u0)),(13,.p (.int .u64 u1)),(11,.p (.int .u64 T)),(10,.p (.int .u64 v0)),(9,.p (.int .u64 b)),(8,.p (.int .u64 s)),(2,.p (.int .u64 Y))],[]⟩) (fun a=>a.1*b+a.2=T/\hq wH b v0 T u1<=a.1/\a.2<wH/\a.1<=wH+1) (fun a=>a.1) (K,ak) ⟨aO,aM,o_,aK⟩ ?_;rintro⟨x,r⟩ ⟨k1,k2,k3,k4⟩;dsimp only at k1 k2 k3 k4;have aJ:r<4294967296:=k3;have W:x<=4294967297:=k4;have g:dx.wrap ((x:Int)*v0)=(x*v0:Nat):=by
   have:=m1 W (show v0<=4294967295 by omega);rw[gB _ (by rw[<-gy];omega) (by rw[<-gy];omega)];push_cast;rfl
  have v:dx.wrap (4294967296*(r:Int))=4294967296*r:=gB _ o_ o_;have w:dx.wrap (4294967296*(r:Int)+u1)=4294967296*r+u1:=gB _ o_ o_;have m:dx.wrap ((r:Int)+b)=r+b:=gB _ o_ o_
  by_cases i:4294967296<=x\/4294967296*r+u1<x*v0
  ·have j:=SS d (show 0<wH by decide) k1 k2 (i.imp (fun h=>⟨h,by rw[<-rL];exact Ex⟩) id);obtain⟨k,rfl⟩:∃k,x=k+1:=⟨x-1,by
    rcases i with h|h
    ·omega
    ·rcases kL x with e|e
     ·rw[e]at h;omega
     ·omega⟩
   have l:dx.wrap (k:Int)=k:=gB _ o_ o_;have k5:k*b+(r+b)=T:=by rw[<-k1,kw];omega
   rw[kO]at j;have kB:k<=wH+1:=o_
   by_cases Q:4294967296<=r+b
   ·have hq:=Qs d (by rw[<-eY];exact Bl) nP k5 Q j;have f:(4294967296:Int)<=(r:Int)+b:=by omega
    rw[<-rL]at hq;subst hq;rcases kA (k+1) 4294967296 with hc|hc
    ·have n:((k:Int)+1<4294967296):=by omega
     have c:¬((4294967296:Int)<=(k:Int)+1):=o_
     have o:(4294967296*(r:Int)+u1<((k+1)*v0:Nat)):=o_
     have q:4294967296*r+u1<(k+1)*v0:=o_
     generalize (k+1)*v0=J at*;push_cast at g;simp[g,v,w,l,m,n,c,o,q,f]
    ·have c:((4294967296:Int)<=(k:Int)+1):=by omega
     simp[l,m,c,f]
   ·have f:¬(4294967296:Int)<=(r:Int)+b:=by omega
    rcases kA (k+1) 4294967296 with hc|hc
    ·have n:((k:Int)+1<4294967296):=by omega
     have c:¬((4294967296:Int)<=(k:Int)+1):=o_
     have o:(4294967296*(r:Int)+u1<((k+1)*v0:Nat)):=o_
     have q:4294967296*r+u1<(k+1)*v0:=o_
     generalize (k+1)*v0=J at*;push_cast at g;simp[g,v,w,l,m,n,c,o,q,f];exact rd (k,r+b) ⟨k5,j,show r+b<4294967296 by omega,kB⟩
    ·have c:((4294967296:Int)<=(k:Int)+1):=by omega
     simp[l,m,c,f];exact rd (k,r+b) ⟨k5,j,show r+b<4294967296 by omega,kB⟩
  ·have aE:¬4294967296<=x:=fun h=>i (.inl h);have U:¬4294967296*r+u1<x*v0:=fun h=>i (.inr h);have hq:=Hl d (show 0<wH by decide) k1 k2 (n2.1 U);rw[<-rL]at hq;subst hq;have S:¬(4294967296:Int)<=x:=by omega
   have V:¬(4294967296*(r:Int)+u1<(x*v0:Nat)):=o_
   generalize x*v0=J at*;simp[g,v,w,S,V]
 rintro⟨av,aC⟩ ⟨z,A,B,C,D,E,F,G,I⟩;dsimp only at z A B C D E F G I;subst I;simp[z,A,B,C,D,E,F,G,ao,am,an,aG,aI];refine vW (fun s'=>aQ s'.env 18=.p (.int .u64 q0)/\aQ s'.env 15=.p (.int .u64 q1)/\aQ s'.env 17=.p (.int .u64 R)/\aQ s'.env 14=.p (.int .u64 u0)/\aQ s'.env 10=.p (.int .u64 v0)/\aQ s'.env 9=.p (.int .u64 b)/\aQ s'.env 8=.p (.int .u64 s)/\aQ s'.env 2=.p (.int .u64 Y)/\s'.heap=[]) ?_ ?_
 ·refine lp (α:=Nat×Nat) (fun a=>⟨[(16,.p (.int .u64 a.2)),(18,.p (.int .u64 a.1)),(15,.p (.int .u64 q1)),(17,.p (.int .u64 R)),(14,.p (.int .u64 u0)),(10,.p (.int .u64 v0)),(9,.p (.int .u64 b)),(8,.p (.int .u64 s)),(2,.p (.int .u64 Y))],[]⟩) (fun a=>a.1*b+a.2=R/\hq wH b v0 R u0<=a.1/\a.2<wH/\a.1<=wH+1) (fun a=>a.1) (L,al) ⟨aP,aN,o_,aL⟩ ?_ (he:=by simp[z,A,B,C,D,E,F,G]);rintro⟨x,r⟩ ⟨k1,k2,k3,k4⟩;dsimp only at k1 k2 k3 k4;have aJ:r<4294967296:=k3;have W:x<=4294967297:=k4;have g:dx.wrap ((x:Int)*v0)=(x*v0:Nat):=by
   have:=m1 W (show v0<=4294967295 by omega);rw[gB _ (by rw[<-gy];omega) (by rw[<-gy];omega)];push_cast;rfl
  have v:dx.wrap (4294967296*(r:Int))=4294967296*r:=gB _ o_ o_;have w:dx.wrap (4294967296*(r:Int)+u0)=4294967296*r+u0:=gB _ o_ o_;have m:dx.wrap ((r:Int)+b)=r+b:=gB _ o_ o_
  by_cases i:4294967296<=x\/4294967296*r+u0<x*v0
  ·have j:=SS d (show 0<wH by decide) k1 k2 (i.imp (fun h=>⟨h,by rw[<-A4];exact Ew⟩) id);obtain⟨k,rfl⟩:∃k,x=k+1:=⟨x-1,by
    rcases i with h|h
    ·omega
    ·rcases kL x with e|e
     ·rw[e]at h;omega
     ·omega⟩
   have l:dx.wrap (k:Int)=k:=gB _ o_ o_;have k5:k*b+(r+b)=R:=by rw[<-k1,kw];omega
   rw[kO]at j;have kB:k<=wH+1:=o_
   by_cases Q:4294967296<=r+b
   ·have hq:=Qs d (by rw[<-eY];exact Bj) nP k5 Q j;have f:(4294967296:Int)<=(r:Int)+b:=by omega
    rw[<-A4]at hq;subst hq;rcases kA (k+1) 4294967296 with hc|hc
    ·have n:((k:Int)+1<4294967296):=by omega
     have c:¬((4294967296:Int)<=(k:Int)+1):=o_
     have o:(4294967296*(r:Int)+u0<((k+1)*v0:Nat)):=o_
     have q:4294967296*r+u0<(k+1)*v0:=o_
     generalize (k+1)*v0=J at*;push_cast at g;simp[g,v,w,l,m,n,c,o,q,f]
    ·have c:((4294967296:Int)<=(k:Int)+1):=by omega
     simp[l,m,c,f]
   ·have f:¬(4294967296:Int)<=(r:Int)+b:=by omega
    rcases kA (k+1) 4294967296 with hc|hc
    ·have n:((k:Int)+1<4294967296):=by omega
     have c:¬((4294967296:Int)<=(k:Int)+1):=o_
     have o:(4294967296*(r:Int)+u0<((k+1)*v0:Nat)):=o_
     have q:4294967296*r+u0<(k+1)*v0:=o_
     generalize (k+1)*v0=J at*;push_cast at g;simp[g,v,w,l,m,n,c,o,q,f];exact rd (k,r+b) ⟨k5,j,show r+b<4294967296 by omega,kB⟩
    ·have c:((4294967296:Int)<=(k:Int)+1):=by omega
     simp[l,m,c,f];exact rd (k,r+b) ⟨k5,j,show r+b<4294967296 by omega,kB⟩
  ·have aE:¬4294967296<=x:=fun h=>i (.inl h);have U:¬4294967296*r+u0<x*v0:=fun h=>i (.inr h);have hq:=Hl d (show 0<wH by decide) k1 k2 (n2.1 U);rw[<-A4]at hq;subst hq;have S:¬(4294967296:Int)<=x:=by omega
   have V:¬(4294967296*(r:Int)+u0<(x*v0:Nat)):=o_
   generalize x*v0=J at*;simp[g,v,w,S,V]
 rintro⟨av,aC⟩ ⟨z,A,B,C,D,E,F,G,I⟩;dsimp only at z A B C D E F G I;subst I;simp[z,A,B,C,D,E,F,G,M2,ap,M]
def eD(j n:Nat)(g f:Nat->Nat)(k:Nat):Nat:=if j<=k/\k<j+n then f (k-j)else g k
theorem xm{j:Nat}{g f:Nat->Nat}:eD j 0 g f=g:=by
 funext k;rw[eD,if_neg o_]
theorem CL{m j i:Nat}{g f:Nat->Nat}{v:Nat}(a:f i=v):(cJ m (eD j i g f)).set (j+i) (.p (.int .u64 v))=cJ m (eD j (i+1) g f):=by
 refine sU ?_ fun k hk=>?_
 ·rw[eD,if_pos o_,l4,a]
 ·rw[eD,eD]
  by_cases h:j<=k/\k<j+i
  ·rw[if_pos h,if_pos o_]
  ·rw[if_neg h,if_neg o_]
theorem CM{m j i:Nat}{g f:Nat->Nat}(h:j+i<m):(cJ m (eD j i g f))[j+i]?=some (.p (.int .u64 (g (j+i)))):=by
 rw[pV _ h,eD,if_neg o_]
theorem avJ{j n:Nat}{g f a:Nat->Nat}:eD j n (eD j n g f) a=eD j n g a:=by
 funext k;rw[eD,eD,eD];split<;>rfl
theorem aGI(X V m j n:Nat)(hn:(aw wB V).length=n)(F:2<=n)(bi:j+n+1<=m)(bl:m<=1000002)(aO:X<V*wB^(j+1)):
 dE prog 336 [.arr .exact 0 1 (cJ m (ae wB X))] [.sl 0 0 1 j (n+1),.p (eN V)] [.arr .exact 0 1 (cJ m (ae wB (X% (V*wB^j))))] (.p (.int .u64 (X/(V*wB^j):Nat))):=by
 refine iC nf (i_ func336) mix (by simp[f336]) ?_;have l:=cL bB V;have H:wB^(n-1)<=V:=by
  rcases kA V (wB^(n-1))with h|h
  ·have:=eZ bB (n-1) V h;omega
  ·exact h
 rw[hn]at l;have T:∀i(h:i<(aw wB V).length),(aw wB V)[i]=ae wB V i:=fun i h=>fH bB h;have aB:0<V:=GI bB F H;obtain⟨W,v⟩:∃W,X/wB^j=W:=⟨_,rfl⟩
 have ad:W<V*wB:=by
  rw[<-v,j6 (kc d_),kp,j4 wB,<-j9];exact aO
 have S:W<wB^(n+1):=mb ad (by rw[j9];exact li l d_);have ai:∀i,i<n+1->(cJ m (ae wB X))[j+i]?=some (.p (.int .u64 (ae wB W i))):=fun i hi=>by rw[pV _ o_,<-v,uR]
 have aR:X/(V*wB^j)=W/V:=by rw[Cu.2,v]
 have aE:∀f:Nat->Nat,(∀i,i<n+1->f i=ae wB (W% V) i)->cJ m (eD j (n+1) (ae wB X) f)=cJ m (ae wB (X% (V*wB^j))):=fun f hf=>F2 fun k hk=>by
  rw[Cu.1,v,Ox bB,eD]
  by_cases t:k<j
  ·rw[if_neg o_,if_pos t]
  ·rw[if_neg t]
   by_cases G:k<j+(n+1)
   ·rw[if_pos o_,hf _ o_]
   ·have e1:ae wB X k=0:=by
     obtain⟨e,rfl⟩:∃e,k=j+e:=⟨k-j,o_⟩
     rw[<-uR,v];exact lE (j7 S (j8 d_ o_))
    have e2:ae wB (W% V) (k-j)=0:=lE (j7 (kd (oo _ _) S) (j8 d_ o_));rw[if_neg o_,e1,e2]
 rw[aR];simp only[eN];generalize aw wB V=x at*;have az:∀i,i<n->i<x.length:=fun i h=>by omega
 have e1:dy.wrap ((n:Int)-1)=((n-1:Nat):Int):=by rw[aU _ o_ o_];omega
 have e2:dy.wrap ((n:Int)-2)=((n-2:Nat):Int):=by rw[aU _ o_ o_];omega
 obtain⟨b,C⟩:∃b,b=n-1:=⟨_,rfl⟩
 obtain⟨d,ak⟩:∃d,d=n-2:=⟨_,rfl⟩
 rw[<-C]at e1;rw[<-ak]at e2;have E:=T b o_;have aG:=T d o_;have ba:b<x.length:=o_
 have bb:d<x.length:=o_
 have K:x[b]?=some (ae wB V b):=by rw[hK ba,E]
 have a9:x[d]?=some (ae wB V d):=by rw[hK bb,aG]
 have N:b<n:=o_
 have U:d<n:=o_
 have O:b<n+1:=o_
 have Y:d<n+1:=o_
 have au:=ai n o_;have g1:=ai b o_;have g2:=ai d o_;have aY:n=b+1:=o_
 have ay:W/wB^n=ae wB W n:=by
  rw[ae,j5];rw[j6 (kc d_),j4,<-j9];exact S
 have af:W/wB^b=ae wB W n*wB+ae wB W b:=by rw[wZ,<-aY,ay]
 simp[f336,-aX,hn];rw[aX];simp[-aX,hn];rw[aX];simp[-aX,hn];rw[aX];simp[-aX,hn];rw[aX];simp[-aX,hn];refine join (fun s=>∃q r o:Nat,q*ae wB V b+(r+o*wB)=W/wB^b/\W/V<=q/\q<wB/\r<wB/\o<=1/\aQ s.env 0=.sl 0 0 1 j (n+1)/\aQ s.env 1=.p (.seq (x.map fun x:Nat=>.int .u64 x))/\aQ s.env 5=.p (.int .i64 n)/\aQ s.env 6=.p (.int .u64 q)/\aQ s.env 7=.p (.int .u64 r)/\aQ s.env 8=.p (.int .u64 o)/\s.heap=[.arr .exact 0 1 (cJ m (ae wB X))]) ?_ ?_
 ·by_cases hc:ae wB V b<=ae wB W n
  ·have ag:(ae wB V b:Int)<=ae wB W n:=by omega
   simp[e1,e2,E,K,N,O,au,g1,ag,hn,aa,aK,bU];refine e3 (u5 (ae wB W b) (ae wB V b) 0 o_) ?_;simp;have aI:=cQ bB W b;have ap:=cQ bB V b;have aJ:ae wB W n=ae wB V b:=by
    have:=(Hm bB o_ l ad).1;rw[ay,<-C]at this;omega
   refine⟨18446744073709551615,(ae wB W b+ae wB V b)% wB,(ae wB W b+ae wB V b)/wB,?_,?_,d_,kh _ d_,?_,rfl,rfl,rfl⟩
   ·rw[af,aJ];simp only[wB];omega
   ·have:=(Hm bB o_ l ad).2;simp only[wB]at this;omega
   ·simp only[wB]at*;omega
  ·have ag:¬(ae wB V b:Int)<=ae wB W n:=by omega
   simp[e1,e2,E,K,N,O,au,g1,ag,hn,aa,aK,bU];refine e3 (RJ (ae wB W n) (ae wB W b) (ae wB V b) o_ (cQ bB _ _) (cQ bB _ _)) ?_;simp;have aI:=cQ bB W b;have ap:=cQ bB V b;refine⟨(ae wB W n*wB+ae wB W b)/ae wB V b,(ae wB W n*wB+ae wB W b)% ae wB V b,0,?_,?_,?_,?_,o_,rfl,rfl,rfl⟩
   ·rw[af,l5,l1,j4,km]
   ·rw[<-af,C];exact Rw bB F H l
   ·rw[j6 o_];have:=kf wB (show ae wB W n+1<=ae wB V b by omega);rw[kw,lk]at this;rw[j4 wB];omega
   ·exact mb (kh _ o_) ap
 rintro⟨aL,aT⟩ ⟨q,r,o,k1,k2,k3,k4,k5,w,y,z,A,am,an,J⟩;dsimp only at w y z A am an J;subst J;simp[w,y,z,A,am,an];refine vW (fun s=>∃q:Nat,W/V<=q/\q<=W/V+1/\q<wB/\aQ s.env 0=.sl 0 0 1 j (n+1)/\aQ s.env 1=.p (.seq (x.map fun x:Nat=>.int .u64 x))/\aQ s.env 5=.p (.int .i64 n)/\aQ s.env 6=.p (.int .u64 q)/\s.heap=[.arr .exact 0 1 (cJ m (ae wB X))]) ?_ ?_
 ·have a1:q*ae wB V b+(r+o*wB)=W/wB^b/\W/V<=q/\q<wB/\r<wB/\o<=1:=⟨k1,k2,k3,k4,k5⟩
  clear k1 k2 k3 k4 k5;refine lp (α:=Nat×Nat×Nat) (fun a=>⟨[(8,.p (.int .u64 a.2.2)),(7,.p (.int .u64 a.2.1)),(6,.p (.int .u64 a.1)),(5,.p (.int .i64 n)),(1,.p (.seq (x.map fun x:Nat=>.int .u64 x))),(0,.sl 0 0 1 j (n+1))],[.arr .exact 0 1 (cJ m (ae wB X))]⟩)
   (fun a=>a.1*ae wB V b+(a.2.1+a.2.2*wB)=W/wB^b/\W/V<=a.1/\a.1<wB/\a.2.1<wB/\a.2.2<=1) (fun a=>a.1) (q,r,o) a1 ?_ (he:=by simp[w,y,z,A,am,an])
  rintro⟨q,r,o⟩ ⟨k1,k2,k3,k4,k5⟩;dsimp only at k1 k2 k3 k4 k5
  by_cases aZ:o=0
  ·subst aZ;rw[l5,l1]at k1;have R:=C8 q (ae wB V d) k3 (cQ bB _ _);rw[show(18446744073709551616:Nat)=wB from rfl]at R;have be:=km (q*ae wB V d) wB;have bf:q*ae wB V d% wB<wB:=kh _ d_;have ax:=fun h=>IG bB F H l (by rw[<-C];exact k1) k3 (by rw[<-ak];exact h);have av:=fun h=>SV (q:=q) (r:=r) bB F H l (by rw[<-C];exact k1) (by rw[<-ak];exact h);have bg:=cQ bB W d;generalize q*ae wB V d% wB=lo,q*ae wB V d/wB=hi at*;generalize q*ae wB V d=P at*;have u:=u5 r (ae wB V b) 0 o_;simp[e1,e2,E,K,aG,a9,N,O,U,Y,hn];refine c2 R ?_;rcases Nat.lt_trichotomy hi r with h|h|h
   ·have hI:(hi:Int)<r:=by omega
    simp[hI];refine⟨q,k2,ax (by
     have:=kk wB (show hi+1<=r by omega);rw[ll,mx,j4 wB r]at this;omega),k3,rfl⟩
   ·subst h
    by_cases bj:lo<=ae wB W d
    ·have hI:(lo:Int)<=ae wB W d:=by omega
     simp[hI,e2,g2,U,Y];exact⟨q,k2,ax (by rw[j4 hi];omega),k3,rfl⟩
    ·have hI:¬(lo:Int)<=ae wB W d:=by omega
     have I:=av (by rw[j4 hi];omega);have a2:0<q:=kd (mp _) I;obtain⟨k,rfl⟩:∃k,q=k+1:=⟨q-1,o_⟩
     have w1:dx.wrap (k:Int)=k:=gB _ o_ o_;simp[hI,e1,e2,g2,N,O,U,Y,E,K,w1,aa,aK,bU];refine c3 u ?_;simp;have z1:=kF (hi+ae wB V b) wB;have z2:k*ae wB V b+((hi+ae wB V b)% wB+(hi+ae wB V b)/wB*wB)=W/wB^b:=by
      rw[j4 _ wB,z1,<-k1,kw,lk,nm,lb hi]
     have z3:=cQ bB V b;have z4:(hi+ae wB V b)/wB<=1:=by
      have z5:=k4;simp only[wB]at z3 z5⊢;omega
     exact rd (k,(hi+ae wB V b)% wB,(hi+ae wB V b)/wB) ⟨z2,oi.1 I,n3 k3,kh _ d_,z4⟩
   ·have hI:¬(hi:Int)<r:=by omega
    have aN:¬(hi:Int)=r:=o_
    have aP:=kk wB (show r+1<=hi by omega);rw[ll,mx,j4 wB r]at aP;have I:=av o_;have a2:0<q:=kd (mp _) I;obtain⟨k,rfl⟩:∃k,q=k+1:=⟨q-1,o_⟩
    have w1:dx.wrap (k:Int)=k:=gB _ o_ o_;simp[hI,aN,e1,e2,g2,N,O,U,Y,E,K,w1,aa,aK,bU];refine c3 u ?_;simp;have z1:=kF (r+ae wB V b) wB;have z2:k*ae wB V b+((r+ae wB V b)% wB+(r+ae wB V b)/wB*wB)=W/wB^b:=by
     rw[j4 _ wB,z1,<-k1,kw,lk,nm,lb r]
    have z3:=cQ bB V b;have z4:(r+ae wB V b)/wB<=1:=by
     have z5:=k4;simp only[wB]at z3 z5⊢;omega
    exact rd (k,(r+ae wB V b)% wB,(r+ae wB V b)/wB) ⟨z2,oi.1 I,n3 k3,kh _ d_,z4⟩
  ·have a0:o=1:=by omega
   subst a0;simp;exact⟨q,k2,IG bB F H l (by rw[<-C];exact k1) k3 (Rv bB o_ k3),k3,rfl⟩
 rintro⟨aL,aT⟩ ⟨q,k2,k3,k4,w,y,z,A,J⟩;dsimp only at w y z A J;subst J;have a3:q*V<wB^(n+1):=Y5 k4 l;have aC:q*V<=W+wB^(n+1):=o_
 obtain⟨D,ac⟩:∃D,D=W+wB^(n+1)-q*V:=⟨_,rfl⟩
 have aF:∀i,i<n+1->aq prog 342 [.int .u64 (ae wB W i),.int .u64 (ae wB (q*V) i),.int .u64 (gl wB (W+wB^(n+1)) (q*V) i)] (.aC [.int .u64 (ae wB D i),.int .u64 (gl wB (W+wB^(n+1)) (q*V) (i+1))]):=fun i hi=>by
  have h:=SI aC i;rw[<-ac,zU hi]at h;exact h
 have a5:∀i,(q*ae wB V i% wB+jW wB V q i+0)% wB=ae wB (q*V) i/\dx.wrap (((q*ae wB V i/wB:Nat):Int)+((q*ae wB V i% wB+jW wB V q i+0)/wB:Nat))=(jW wB V q (i+1):Nat):=fun i=>by
  obtain⟨t,G⟩:=avd (q:=q) (V:=V) bB i;have aM:=aQv (V:=V) bB k4 (i+1);rw[<-t,<-G];rw[<-G]at aM;generalize q*ae wB V i=P,jW wB V q i=c at*;have e:P/wB+(P% wB+c+0)/wB=(P+c)/wB:=by simp only[wB];omega
  refine⟨by simp only[wB];omega,?_⟩;rw[gB _ o_ o_];omega
 have aS:=YI (V:=V) (q:=q) S a3;have a4:=avf bB k4 l;have bk:(cJ m (ae wB X)).length=m:=QU _ _;simp[w,y,z,A];refine lp (α:=Nat) (fun i=>⟨[(105,.p (.int .i64 i)),(104,.p (.int .i64 n)),(12,.p (.int .u64 (jW wB V q i:Nat))),(11,.p (.int .u64 (gl wB (W+wB^(n+1)) (q*V) i:Nat))),(6,.p (.int .u64 q)),(5,.p (.int .i64 n)),(1,.p (.seq (x.map fun x:Nat=>.int .u64 x))),(0,.sl 0 0 1 j (n+1))],[.arr .exact 0 1 (cJ m (eD j i (ae wB X) (ae wB D)))]⟩)
  (fun i=>i<=n) (fun i=>n-i) 0 s_ ?_ (hn:=by simp[xm]) (he:=by simp[w,y,z,A,ase,FT]) (hh:=by simp[xm])
 intro i k5;have a7:=cE (i:=i) o_
 by_cases hi:i<n
 ·have M:i<x.length:=az i hi;have L:=T i M;have al:x[i]?=some (ae wB V i):=by rw[hK M,L]
  have R:=C8 q (ae wB V i) k4 (cQ bB _ _);rw[show(18446744073709551616:Nat)=wB from rfl]at R;have u:=u5 (q*ae wB V i% wB) (jW wB V q i) 0 o_;obtain⟨r1,bc⟩:=a5 i;have Z:=aF i o_;rw[r1]at u;generalize q*ae wB V i% wB=lo,q*ae wB V i/wB=bh at*;generalize (lo+jW wB V q i+0)/wB=c' at*;have ar:i<n+1:=o_
  have B:(cJ m (eD j i (ae wB X) (ae wB D)))[j+i]?=some (.p (.int .u64 (ae wB W i))):=by rw[CM o_,<-v,uR]
  have ab:=CL (m:=m) (j:=j) (i:=i) (g:=ae wB X) (f:=ae wB D) rfl;simp[hn,hi,L,al];refine c2 R ?_;simp;refine c3 u ?_;simp[bc,ar,B];refine c3 Z ?_;simp[ar,B,ab,a7,aa,aK,bU];exact rd (i+1) (show i+1<=n by omega)
 have aV:i=n:=o_
 subst aV;have B:(cJ m (eD j i (ae wB X) (ae wB D)))[j+i]?=some (.p (.int .u64 (ae wB W i))):=by rw[CM o_,<-v,uR]
 have ab:=CL (m:=m) (j:=j) (i:=i) (g:=ae wB X) (f:=ae wB D) rfl;have Z:=aF i o_;rw[<-a4]at Z;simp[B];refine c3 Z ?_;rw[aS]
 by_cases aD:q*V<=W
 ·obtain⟨y1,y2⟩:=aQn aD k3 aB k2;have ah:=aE (ae wB D) fun k hk=>by rw[ac,<-y2];exact aQm aD hk
  have ao:(q:Int)=(W:Int)/V:=by rw[y1];rfl
  have aj:(if W<q*V then 1 else 0:Nat)=0:=if_neg o_;rw[aj];simp[B,ab,ah,<-ao,aa,aK,bU]
 ·obtain⟨y1,y2⟩:=avj o_ k3 aB k2;have y3:=y2 (wB^(i+1)) aC;rw[<-ac]at y3;have ah:=aE (ae wB (D+V)) fun k hk=>by rw[y3,zU hk]
  have aj:(if W<q*V then 1 else 0:Nat)=1:=if_pos o_;have ao:dx.wrap ((q:Int)-1)=(W:Int)/V:=by
   have e:((W/V:Nat):Int)=(W:Int)/V:=rfl;rw[<-e];generalize W/V=Q at*;rw[gB _ o_ o_];omega
  rw[aj];simp[B,ab,aa,aK,bU];refine lp (α:=Nat) (fun k=>⟨[(157,.p (.int .i64 k)),(156,.p (.int .i64 i)),(17,.p (.int .u64 (dN wB D V k:Nat))),(6,.p (.int .u64 q)),(5,.p (.int .i64 i)),(1,.p (.seq (x.map fun x:Nat=>.int .u64 x))),(0,.sl 0 0 1 j (i+1))],[.arr .exact 0 1 (cJ m (eD j k (eD j (i+1) (ae wB X) (ae wB D)) (ae wB (D+V))))]⟩)
   (fun k=>k<=i) (fun k=>i-k) 0 s_ ?_ (hn:=by simp[xm]) (he:=by simp[Co]) (hh:=by simp[xm])
  intro k k6;have a8:=cE (i:=k) o_;have gk:(cJ m (eD j k (eD j (i+1) (ae wB X) (ae wB D)) (ae wB (D+V))))[j+k]?=some (.p (.int .u64 (ae wB D k))):=by rw[CM o_,eD,if_pos o_,l4]
  have aH:=CL (m:=m) (j:=j) (i:=k) (g:=eD j (i+1) (ae wB X) (ae wB D)) (f:=ae wB (D+V)) rfl;obtain⟨t,G⟩:=uC bB D V k
  by_cases hk:k<i
  ·have M:k<x.length:=az k hk;have L:=T k M;have al:x[k]?=some (ae wB V k):=by rw[hK M,L]
   have u:=u5 (ae wB D k) (ae wB V k) (dN wB D V k) (n7 bB _ _ _);rw[t,G]at u;have aA:k<i+1:=o_
   simp[hn,hk,aA,L,al,gk,aa,aK,bU];refine e3 u ?_;simp[aA,gk,aH,a8,aa,aK,bU];refine⟨⟨by rfl,by rfl,by rfl⟩,?_⟩;exact rd (k+1) (show k+1<=i by omega)
  have aW:k=i:=o_
  subst aW;have a6:ae wB V k=0:=lE l;rw[a6,l1]at t;have bd:dx.wrap ((ae wB D k:Int)+(dN wB D V k:Nat))=(ae wB (D+V) k:Nat):=by rw[<-hA,C3,t]
  simp[gk,aH,bd,ao,ah,avJ,aa,aK,bU]
theorem avG{a b i:Nat}(c:0<b):(a/wB^(i+1)% b*wB+ae wB a i)/b=ae wB (a/b) i/\(a/wB^(i+1)% b*wB+ae wB a i)% b=a/wB^i% b:=by
 have e:=wZ (B:=wB) a i;have g:=km (a/wB^(i+1)) b;have f:a/wB^i=(a/wB^(i+1)% b*wB+ae wB a i)+a/wB^(i+1)/b*wB*b:=by
  rw[e];generalize ae wB a i=d;generalize a/wB^(i+1)/b=Q,a/wB^(i+1)% b=R at*;rw[<-g,kw,j4 b,lq Q b wB];omega
 have j:(a/wB^(i+1)% b*wB+ae wB a i)/b<wB:=by
  rw[j6 c];have k:=cQ bB a i;have h:=kf wB (show a/wB^(i+1)% b+1<=b from kh _ c);rw[kw,lk]at h;rw[j4 wB];omega
 constructor
 ·conv=>rhs;rw[ae,kb,j4 b,<-kb,f,lm _ _ c,kP,j5 j]
 ·rw[f,kP]
def qF(Q i k:Nat):Nat:=if i<=k then ae wB Q k else 0
theorem RR{m Q i:Nat}:(cJ m (qF Q (i+1))).set i (.p (.int .u64 (ae wB Q i)))=cJ m (qF Q i):=by
 refine sU ?_ fun k hk=>?_
 ·rw[qF,if_pos (kv _)]
 ·rw[qF,qF]
  by_cases h:i<=k
  ·rw[if_pos h,if_pos o_]
  ·rw[if_neg h,if_neg o_]
theorem Rb{m Q:Nat}:cJ m (qF Q 0)=cJ m (ae wB Q):=Gd fun k=>by rw[qF,if_pos (mp _)]
theorem Rc{m Q:Nat}:hP m (AV.p (.int .u64 0))=cJ m (qF Q m):=by
 rw[GZ (f:=fun _=>0) (fun _=>rfl)];exact F2 fun k hk=>by rw[qF,if_neg o_]
theorem Hz{m N:Nat}(h:N<wB^m)(b:m<=1048576):∃l:List Nat,l.length=m/\cJ m (ae wB N)=l.map (AV.p∘fun x:Nat=>PV.int .u64 x)/\aq prog 318 [.seq (eW l)] (eN N):=by
 refine⟨(hJ m).map (ae wB N),s_,G0 m _,?_⟩;have a:=xQ ((hJ m).map (ae wB N)) (by simp;omega);rw[show fC ((hJ m).map (ae wB N))=aw wB N from lF bB h]at a;exact a
theorem sX{a b:Nat}:gR a b<0↔a<b:=by
 rw[gR];split
 ·simp[*]
 ·split<;>simp[*]
theorem Zu(r:Nat):((r:Int)% 2^dx.bits).toNat=r% 2^dx.bits:=by
 rw[show dx.bits=64 from rfl];omega
theorem aF8{b d n a s V:Nat}(g:b/wB^a=d)(h:n=a+1)(hs:s<64)(o:wB<=2*(d*2^s))(i:d*2^s<wB)(f:V=b*2^s):V<wB^n/\wB^n<=2*V:=by
 have m:0<wB^a:=kc d_;have j:0<2^s:=kc d_;have k:b<(d+1)*wB^a:=by
  rw[<-g,kw,lk];exact m5 m
 have l:(d+1)*2^s<=wB:=by
  have c:=Dm hs;have e:d<2^(64-s):=by
   rw[<-c,j4 d]at i;exact Nat.lt_of_mul_lt_mul_left i
  rw[<-c,j4];exact kk _ e
 constructor
 ·rw[f,h,j9,j4 _ wB];refine j7 (li k j) ?_;rw[lq];exact kf _ l
 ·rw[f,h,j9,j4 _ wB];refine lw (kf _ o) ?_;have c:d*wB^a<=b:=by rw[<-g];exact lc _ _
  have e:=kf (2^s) c;rw[kp 2,lq d];exact kk _ e
theorem av8{a n b s V:Nat}(f:a<wB^b)(hs:s<64)(e:wB^n<=2*V)(i:n<=b):a*2^s<V*wB^(b-n+1):=by
 have d:2*2^s<=wB:=by
  have c:2^(s+1)<=2^64:=j8 d_ hs;rw[j9,j4]at c;exact c
 have g:=kf (wB^(b-n+1)) e;rw[<-kx,show n+(b-n+1)=b+1 by omega,j9,kp]at g;have c:=kk a d;have h:=li f (show 0<wB by decide);rw[m6]at c;generalize wB^b*wB=z1,V*wB^(b-n+1)=z2,a*2^s=z3,a*wB=z4 at*;clear d e f;omega
theorem aF9{a b n d c:Nat}(h:a<wB^c)(f:0<b)(i:n=d+1)(g:wB^d<=b)(j:n<=c):a/b<wB^(c-n+1):=by
 rw[j6 f];refine j7 h ?_;have e:=kk (wB^(c-n+1)) g;rw[<-kx,show c-n+1+d=c by omega]at e;exact e
theorem av9{a b s k:Nat}(c:0<2^s):a*2^s% (b*2^s*wB^(k+1))/(b*2^s*wB^k)=ae wB (a/b) k:=by
 rw[j9,<-kp,l2,<-kb,mm _ _ c,ae]
theorem QV{n N:Nat}{f g:Nat->Nat}(hn:n<=N)(h:∀k,k<n->f k=g k):((hJ N).map f).take n=(hJ n).map g:=by
 rw[<-h7,List.take_range,nc hn];exact hU fun k hk=>h k (h6.1 hk)
theorem GQ(a b:Nat)(w:0<b)(bd:(aw wB a).length<=1000000)(bJ:(aw wB b).length<=1000000):aq prog 299 [eN a,eN b] (.aC [eN (a/b),eN (a% b)]):=by
 refine gA_ nf func299 mix ?_;have bg:=My a b o_ o_;simp[f299];refine c2 bg ?_
 by_cases G:a<b
 ·have E:=sX.2 G;simp[E,ko G,j5 G,eN,aw,qm]
 have E:¬gR a b<0:=fun h=>G (sX.1 h);have bj:∀i(h:i<(aw wB a).length),(aw wB a)[i]=ae wB a i:=fun i h=>fH bB h;have S:∀i(h:i<(aw wB b).length),(aw wB b)[i]=ae wB b i:=fun i h=>fH bB h;have z:=cL bB a;have q:=cL bB b
 by_cases I:(aw wB b).length=1
 ·rw[I,lv]at q;have T:((aw wB b).length:Int)=1:=by omega
  obtain⟨l,A,J,u⟩:=Hz (m:=(aw wB a).length) (N:=a/b) (kd (ls _ _) z) o_;have ap:=xQ [a% b] s_;have bi:fC [a% b]=aw wB (a% b):=by
   have K:a% b<wB:=mb (kh _ w) q;have:=lF bB (m:=1) (n:=a% b) (by rw[lv];exact K);rw[<-this,row,jp,hM,j1,ae,kC,lt,j5 K]
  rw[bi]at ap;have be:(aw wB b)[0]?=some b:=by
   rw[hK o_,S 0 o_,ae,kC,lt,j5 q]
  have bf:∀h:0<(aw wB b).length,(aw wB b)[0]'h=b:=fun h=>by rw[S 0 h,ae,kC,lt,j5 q]
  have aC:a/wB^(aw wB a).length% b=0:=by rw[ko z,ns]
  simp only[eN]at u⊢;generalize aw wB (a/b)=bD,aw wB (a% b)=aS,aw wB a=x,aw wB b=y at*;obtain⟨n,hn⟩:∃n,x.length=n:=⟨_,rfl⟩
  rw[hn]at A J aC bd;have e1:dy.wrap ((n:Int)-1)=n-1:=aU _ o_ o_;simp[E,I,T,hn,e1];refine⟨by simp only[dH];omega,?_⟩;rw[Rc (Q:=a/b)];refine lp (α:=Nat) (fun i=>⟨[(8,.p (.int .i64 ((i:Int)-1))),(7,.p (.int .u64 (a/wB^i% b:Nat))),(6,.sl 0 0 1 0 n),(1,.p (.seq (y.map fun x:Nat=>.int .u64 x))),(0,.p (.seq (x.map fun x:Nat=>.int .u64 x)))],[.arr .exact 0 1 (cJ n (qF (a/b) i))]⟩)
   (fun i=>i<=n) (fun i=>i) n (kv _) ?_ (he:=by simp[aC])
  intro i k1
  by_cases hi:0<i
  ·obtain⟨k,rfl⟩:∃k,i=k+1:=⟨i-1,o_⟩
   have e2:dy.wrap ((k:Int)-1)=k-1:=aU _ o_ o_;have aP:k<x.length:=o_
   have hx:=bj k aP;have ab:x[k]?=some (ae wB a k):=by rw[hK aP,hx]
   have ao:=RJ (a/wB^(k+1)% b) (ae wB a k) b (kh _ w) q (cQ bB _ _);obtain⟨r1,ad⟩:=avG (a:=a) (i:=k) w;rw[r1,ad]at ao;have aO:=RR (m:=n) (Q:=a/b) (i:=k);have gk:=pV (n:=n) (qF (a/b) (k+1)) (show k<n by omega);have aE:k<n:=o_
   generalize a/wB^(k+1)% b=bE at*;simp[hn,e2,hx,ab,be,bf,I,aE,aa,aK,bU];refine e3 ao ?_;simp[aO,gk,e2,aE,aa,aK,bU];refine⟨by rfl,?_⟩;exact rd k (show k<=n by omega)
  ·obtain rfl:i=0:=by omega
   simp[Rb,J];refine cp u (by simp[A];exact⟨rfl,rfl⟩) ?_ (h1:=by simp[eW,hL,A]);simp;refine cp ap (by simp;exact⟨rfl,rfl⟩) ?_ (h1:=by simp[eW]);simp;exact bL.refl _
 have bN:2<=(aw wB b).length:=by
  rcases kA (aw wB b).length 1 with h|h
  ·have e:(aw wB b).length=0:=by omega
   rw[e,kC]at q;omega
  ·omega
 have T:¬((aw wB b).length:Int)=1:=o_
 obtain⟨n,hn⟩:∃n,(aw wB b).length=n:=⟨_,rfl⟩
 obtain⟨c,U⟩:∃c,(aw wB a).length=c:=⟨_,rfl⟩
 obtain⟨o,W⟩:∃o,n=o+1:=⟨n-1,o_⟩
 have aA:wB^o<=b:=by
  rcases kA b (wB^o)with h|h
  ·have:=eZ bB o b h;omega
  ·exact h
 obtain⟨d,H⟩:∃d,d=ae wB b o:=⟨_,rfl⟩
 have aB:d<wB:=by rw[H];exact cQ bB _ _
 have az:b/wB^o=d:=by
  rw[H,ae,j5];rw[j6 (kc d_),j4,<-j9,show o.succ=n from W.symm,<-hn];exact q
 have bh:0<d:=by rw[<-az];exact m2 aA (kc d_)
 obtain⟨s,hs,bI,bt,bu⟩:=Qa bh aB;have aI:=SK d aB;obtain⟨V,C⟩:∃V,V=b*2^s:=⟨_,rfl⟩
 have B:0<2^s:=kc d_;have bb:b<=V:=by rw[C];exact np _ B
 have ba:0<V:=j7 w bb;obtain⟨ax,bc⟩:=aF8 az W hs bt bu C;have av:(aw wB V).length=n:=by
  have r:=eZ bB n V ax;rcases kA (aw wB V).length n with h|h
  ·have am:=j7 (cL bB V) (j8 (show 0<wB by decide) (show(aw wB V).length<=o by omega));omega
  ·omega
 have u:=Hz (m:=n+1) (N:=V) (j7 ax (j8 d_ o_)) o_;obtain⟨l,A,J,u⟩:=u;have Z:=O0 b s hs o_;have Y:=O0 a s hs o_;have ac:o<(aw wB b).length:=o_
 have hx:=S o ac;have ab:(aw wB b)[o]?=some d:=by rw[hK ac,hx,H]
 rw[hn,<-C]at Z;rw[U]at Y;have aL:n<=c:=by
  rcases kA c n with h|h
  ·have:=j7 z (j8 (show 0<wB by decide) (show(aw wB a).length<=o by omega));omega
  ·exact h
 rw[U]at z;have a3:=av8 (n:=n) z hs bc aL;have a5:=aF9 (n:=n) z w W aA aL;have a6:a% b<wB^n:=mb (kh _ w) (by rw[hn]at q;exact q);have bw:fC ((hJ n).map (ae wB (a% b)))=aw wB (a% b):=lF bB a6;have jk:∀X j,j+n+1<=c+1->X<V*wB^(j+1)->_:=fun X j r am=>aGI X V (c+1) j n av o_ r o_ am;simp only[eN]at u⊢Y Z jk;generalize aw wB V=bC,bx:aw wB (a/b)=bD,bO:aw wB (a% b)=aS,aw wB a=x,aw wB b=y at*;have e1:dy.wrap ((n:Int)-1)=o:=by rw[aU _ o_ o_];omega
 have bs:(64:Int)-(ea d:Nat)=s:=o_
 rw[bs]at aI;rw[<-H]at hx;have bm:¬(n:Int)=1:=o_
 have bn:¬n=1:=o_
 simp[E,I,T,bm,bn,hn,e1,hx,ab,ac,aa,aK,bU];refine c1 aI ?_;simp;refine TE Z ?_;simp[J];refine cp u (by simp[A];exact⟨rfl,rfl⟩) ?_ (h1:=by simp[eW,hL,A]);simp;refine TE Y ?_;obtain⟨m,aJ⟩:∃m,m=c-n:=⟨_,rfl⟩
 have e2:dy.wrap ((c:Int)-n)=m:=by rw[aU _ o_ o_];omega
 have e3:dy.wrap ((m:Int)+1)=m+1:=cE o_;simp[av,U,e2,e3];refine⟨⟨o_,by simp only[dH];omega⟩,?_⟩;have an:a*2^s% (V*wB^(m+1))=a*2^s:=j5 (by rw[aJ];exact a3);rw[Rc (Q:=a/b)];refine vW (fun s'=>aQ s'.env 9=.p (.int .i64 s)/\aQ s'.env 11=.sl 1 0 1 0 (c+1)/\aQ s'.env 12=.p (.int .i64 n)/\aQ s'.env 13=.sl 2 0 1 0 (m+1)/\s'.heap=[.arr .frozen 0 1 (l.map (AV.p∘fun x:Nat=>PV.int .u64 x)),.arr .exact 0 1 (cJ (c+1) (ae wB (a% b*2^s))),.arr .exact 0 1 (cJ (m+1) (ae wB (a/b)))]) ?_ ?_
 ·refine lp (α:=Nat) (fun j=>⟨[(14,.p (.int .i64 ((j:Int)-1))),(13,.sl 2 0 1 0 (m+1)),(12,.p (.int .i64 n)),(11,.sl 1 0 1 0 (c+1)),(10,.p (.seq (bC.map fun x:Nat=>.int .u64 x))),(9,.p (.int .i64 s))],[.arr .frozen 0 1 (l.map (AV.p∘fun x:Nat=>PV.int .u64 x)),.arr .exact 0 1 (cJ (c+1) (ae wB (a*2^s% (V*wB^j)))),.arr .exact 0 1 (cJ (m+1) (qF (a/b) j))]⟩)
   (fun j=>j<=m+1) (fun j=>j) (m+1) (kv _) ?_ (hn:=by simp[an]) (hh:=by simp[an])
  intro j k1
  by_cases bM:0<j
  ·obtain⟨k,rfl⟩:∃k,j=k+1:=⟨j-1,o_⟩
   have e4:dy.wrap ((k:Int)-1)=k-1:=aU _ o_ o_;have e5:dy.wrap ((k:Int)+n)=k+n:=aU _ o_ o_;have e6:dy.wrap ((k:Int)+n+1)=k+n+1:=aU _ o_ o_;have aO:=jk (a*2^s% (V*wB^(k+1))) k o_ (kh _ (ms ba (kc d_)));have hq:a*2^s% (V*wB^(k+1))/(V*wB^k)=ae wB (a/b) k:=by
    rw[C];exact av9 B
   have K:a*2^s% (V*wB^(k+1))% (V*wB^k)=a*2^s% (V*wB^k):=by
    rw[j9,<-kp,lx]
   rw[hq,K]at aO;generalize a*2^s% (V*wB^(k+1))=X,ay:a*2^s% (V*wB^k)=bF at*;have aY:((k:Int)+n+1).toNat=k+n+1:=o_
   have a0:(0:Int)<=(k:Int)+n+1:=o_
   have a1:(k:Int)+n+1<=(c:Int)+1:=o_
   have f4:k<=k+n+1:=o_
   have a2:¬k=k+n+1:=o_
   have f6:k+n+1-k=n+1:=o_
   have f7:k<m+1:=o_
   have gk:=pV (n:=m+1) (qF (a/b) (k+1)) f7;have bA:=RR (m:=m+1) (Q:=a/b) (i:=k);simp[e4,e5,e6,QU,aY,a0,a1,f4,a2,f6];rw[show(if k=0 then({v:=.sl 1 0 1 0 (k+n+1),ar:=[(1,.arr .exact 0 1 (cJ (c+1) (ae wB X)))]}:aZ)else{v:=.sl 1 0 1 k (n+1),ar:=[(1,.arr .exact 0 1 (cJ (c+1) (ae wB X)))]})={v:=.sl 1 0 1 k (n+1),ar:=[(1,.arr .exact 0 1 (cJ (c+1) (ae wB X)))]}by split<;>simp[*]];simp;refine⟨o_,?_⟩;refine cf aO [1] ?_;simp[gk,bA,e4,f7,aa,aK,bU];exact rd k (show k<=m+1 by omega) (hn:=by simp[ay]) (hh:=by simp[ay])
  ·obtain rfl:j=0:=by omega
   have a4:a*2^s% V=a% b*2^s:=by rw[C,n1]
   simp[Rb,a4]
 rintro⟨bG,bK⟩ ⟨af,ag,ah,ai,aM⟩;dsimp only at af ag ah ai aM;subst aM;obtain⟨R,F⟩:∃R,R=a% b*2^s:=⟨_,rfl⟩
 rw[<-F];simp[af,ag,ah,ai];refine lp (α:=Nat) (fun i=>⟨[(97,.p (.int .i64 i)),(96,.p (.int .i64 n)),(13,.sl 2 0 1 0 (m+1)),(12,.p (.int .i64 n)),(11,.sl 1 0 1 0 (c+1)),(9,.p (.int .i64 s))],[.arr .frozen 0 1 (l.map (AV.p∘fun x:Nat=>PV.int .u64 x)),.arr .exact 0 1 (cJ (c+1) (eD 0 i (ae wB R) (ae wB (a% b)))),.arr .exact 0 1 (cJ (m+1) (ae wB (a/b)))]⟩)
  (fun i=>i<=n) (fun i=>n-i) 0 (mp _) ?_ (hn:=by simp[xm]) (he:=by simp[af,ag,ah,ai]) (hh:=by simp[xm])
 intro i k1;have L:=cE (i:=i) o_
 by_cases hi:i<n
 ·have D:i<c+1:=by omega
  have aD:i+1<c+1:=o_
  have ak:(cJ (c+1) (eD 0 i (ae wB R) (ae wB (a% b))))[i]?=some (.p (.int .u64 (ae wB R i))):=by
   have:=CM (m:=c+1) (j:=0) (i:=i) (g:=ae wB R) (f:=ae wB (a% b)) o_
   rwa [lu]at this
  have aj:=yL (ae wB R i) s o_;have bl:i<c:=o_
  by_cases al:0<s
  ·obtain⟨t,bv⟩:∃t,t=64-s:=⟨_,rfl⟩
   have aW:dy.wrap (64-(s:Int))=(t:Int):=by rw[aU _ o_ o_];omega
   have aX:=Bf (ae wB R (i+1)) t o_;have aO:=Dm hs;rw[<-bv]at aO;have a8:0<2^t:=kc d_;have br:ae wB R i/2^s<2^t:=by rw[j6 B,j4,aO];exact cQ bB _ _
   have aN:ae wB R (i+1)*2^t% wB=ae wB R (i+1)% 2^s*2^t:=by rw[<-aO,n1]
   have bq:ae wB R i/2^s|||(ae wB R (i+1)*2^t% wB)=ae wB (a% b) i:=by
    have r:=aQM B a8 R i;rw[aO,F,Nat.mul_div_cancel _ B,<-F]at r;rw[om,aN,HT br,<-aN,r,lb]
   have P:=I7 (ae wB R i/2^s) (ae wB R (i+1)*2^t% wB) (kd (ls _ _) (cQ bB _ _)) (kh _ d_);rw[bq]at P;generalize ae wB R i/2^s=r1,ae wB R (i+1)*2^t% wB=ad at*;have aT:dx.wrap ((r1% 2^dx.bits|||((ad:Int)% 2^dx.bits).toNat:Nat):Int)=(ae wB (a% b) i:Nat):=by
    rw[Zu];exact P
   have O:=sU (n:=c+1) (i:=i) (v:=r1) (f:=eD 0 i (ae wB R) (ae wB (a% b))) (g:=fun k=>if k=i then r1 else eD 0 i (ae wB R) (ae wB (a% b)) k) (if_pos rfl) (fun k hk=>if_neg hk);have g2:=pV (n:=c+1) (fun k=>if k=i then r1 else eD 0 i (ae wB R) (ae wB (a% b)) k) D;have g3:=pV (n:=c+1) (fun k=>if k=i then r1 else eD 0 i (ae wB R) (ae wB (a% b)) k) aD;rw[if_pos rfl]at g2;rw[if_neg o_,eD,if_neg o_]at g3;have bz:=sU (n:=c+1) (i:=i) (v:=ae wB (a% b) i) (f:=fun k=>if k=i then r1 else eD 0 i (ae wB R) (ae wB (a% b)) k) (g:=eD 0 (i+1) (ae wB R) (ae wB (a% b))) (by rw[eD,if_pos o_,nF]) (fun k hk=>by
    rw[if_neg hk,eD,eD]
    by_cases h:k<i
    ·rw[if_pos o_,if_pos o_]
    ·rw[if_neg o_,if_neg o_])
   generalize (fun k=>if k=i then r1 else eD 0 i (ae wB R) (ae wB (a% b)) k)=bH at*;simp[hi,D,ak,aj,al,L,O,aa,aK,bU];simp[D,aD,bl,aW,L,g2,g3,aa,aK,bU];simp[aX,P,aT,D,L,bz,g2,aa,aK,bU];refine⟨o_,⟨by rfl,by rfl,by rfl,by rfl,by rfl⟩,?_⟩;exact rd (i+1) (show i+1<=n by omega)
  ·have aR:s=0:=by omega
   have a7:ae wB R i=ae wB (a% b) i:=by rw[F,aR,kC,mx]
   have O:=CL (m:=c+1) (j:=0) (i:=i) (g:=ae wB R) (f:=ae wB (a% b)) (v:=ae wB R i) a7.symm;rw[lu]at O;have aV:(ae wB R i:Int).fdiv (2^(min s dx.bits))=(ae wB R i:Nat):=by rw[aj,aR,kC,lt]
   simp[hi,D,ak,al,L,O,aV,aa,aK,bU];exact rd (i+1) (show i+1<=n by omega)
 obtain rfl:i=n:=o_
 obtain⟨bP,aF,bo,au⟩:=Hz (m:=m+1) (N:=a/b) (by rw[aJ];exact a5) o_;obtain⟨M,aG,bp,a9⟩:∃M:List Nat,M.length=c+1/\cJ (c+1) (eD 0 i (ae wB R) (ae wB (a% b)))=M.map (AV.p∘fun x:Nat=>PV.int .u64 x)/\aq prog 318 [.seq (eW (M.take i))] (.seq (aS.map fun x:Nat=>.int .u64 x)):=by
  refine⟨(hJ (c+1)).map (eD 0 i (ae wB R) (ae wB (a% b))),s_,G0 _ _,?_⟩;have e:((hJ (c+1)).map (eD 0 i (ae wB R) (ae wB (a% b)))).take i=(hJ i).map (ae wB (a% b)):=by
   exact QV o_ fun k hk=>by rw[eD,if_pos o_,nF]
  rw[e];have r:=xQ ((hJ i).map (ae wB (a% b))) (by simp;omega);rw[bw]at r;exact r
 simp only[eN,bx]at au;simp[bo,bp];refine ep au (by simp[aF];exact⟨rfl,rfl⟩) (by simp;exact⟨rfl,rfl⟩) ?_ (h1:=by simp[eW,hL,aF]);simp[aG];refine⟨o_,?_⟩;have bk:i<=c+1:=o_
 refine ep a9 (by simp[aG,bk];exact⟨rfl,rfl⟩) (by simp;exact⟨rfl,rfl⟩) ?_ (h1:=by simp[eW,h7]);simp;rfl
def aJ(k:Nat)(q:Rat):Prop:=q.num.natAbs<2^k/\q.den<2^k
theorem aJ.mono{k l:Nat}{q:Rat}(h:aJ k q)(a:k<=l):aJ l q:=
 ⟨j7 h.1 (j8 o_ a),j7 h.2 (j8 o_ a)⟩
theorem nZ{n:Int}{d:Nat}(h:d≠0):(oq n d).num=n/(md n.natAbs d:Nat)/\(oq n d).den=d/md n.natAbs d:=by
 have:oq n d=Rat.normalize n d h:=by
  rw[ot];rfl
 rw[this,Rat.normalize_eq h];exact⟨rfl,rfl⟩
theorem GW{n:Int}{d k:Nat}(h:d≠0)(a:n.natAbs<2^k)(b:d<2^k):aJ k (oq n d):=by
 obtain⟨e1,e2⟩:=nZ (n:=n) h;refine⟨?_,?_⟩
 ·rw[e1];refine kd ?_ a;rw[Int.natAbs_ediv_of_dvd (hr.2 (ob _ _))];exact ls _ _
 ·rw[e2];exact kd (ls _ _) b
theorem ku{a b:Nat}{x y:Rat}(h:aJ a x)(c:aJ b y):aJ (a+b+1) (x+y):=by
 have e:x+y=oq (x.num*y.den+y.num*x.den) ((x.den*y.den:Nat):Int):=by rw[ox];rfl
 rw[e];have e1:2^(a+b+1)=2^a*2^b+2^a*2^b:=by rw[j9,kx];omega
 refine GW (oc x.den_nz y.den_nz) ?_ ?_
 ·rw[e1];refine kd (hv _ _) ?_;rw[gm,gm,gt,gt];have g1:=kH h.1 c.2;have g2:=kH c.1 h.2;rw[j4 (2^b)]at g2;omega
 ·have:=kH h.2 c.2;rw[e1];omega
theorem jQ{a:Nat}{x:Rat}(h:aJ a x):aJ a (-x):=by
 refine⟨by rw[oy,hg];exact h.1,by rw[oz];exact h.2⟩
theorem fK{a b:Nat}{x y:Rat}(h:aJ a x)(c:aJ b y):aJ (a+b+1) (x-y):=by
 rw[ov];exact ku h (jQ c)
theorem bh{a b:Nat}{x y:Rat}(h:aJ a x)(c:aJ b y):aJ (a+b) (x*y):=by
 have e:x*y=oq (x.num*y.num) ((x.den*y.den:Nat):Int):=by
  rw[oA,ot];rfl
 rw[e];refine GW (oc x.den_nz y.den_nz) ?_ ?_
 ·rw[gm,kx];exact kH h.1 c.1
 ·rw[kx];exact kH h.2 c.2
theorem atn{x:Rat}(h:x≠0):(x⁻¹).num=x.num.sign*x.den/\(x⁻¹).den=x.num.natAbs:=by
 have hn:x.num≠0:=fun e=>h (ou.1 e);have e:x⁻¹=oq (x.num.sign*x.den) (x.num.natAbs:Nat):=by
  rw[oB];rcases g0 x.num 0 with h|h|h
  ·have e1:x.num.sign= -1:=Int.sign_eq_neg_one_of_neg h;have e2:((x.num.natAbs:Nat):Int)= -x.num:=by omega
   rw[e1,e2,show(-1*(x.den:Int))= -(x.den:Int)by omega,Rat.divInt_neg',Int.neg_neg]
  ·exact(hn h).elim
  ·have e1:x.num.sign=1:=Int.sign_eq_one_of_pos h;have e2:((x.num.natAbs:Nat):Int)=x.num:=by omega
   rw[e1,e2,Int.one_mul]
 have a:md (x.num.sign*x.den).natAbs x.num.natAbs=1:=by
  rw[gm,hd hn,lk,gt,n0];exact x.reduced
 obtain⟨e1,e2⟩:=nZ (n:=x.num.sign*x.den) (d:=x.num.natAbs) o_;rw[e,e1,e2,a];simp
theorem lH{a:Nat}{x:Rat}(h:aJ a x):aJ a x⁻¹:=by
 by_cases b:x=0
 ·subst b;have:(0:Rat)⁻¹=0:=Rat.inv_zero;rw[this];exact h
 ·obtain⟨e1,e2⟩:=atn b;have hn:x.num≠0:=fun e=>b (ou.1 e);refine⟨?_,by rw[e2];exact h.1⟩;rw[e1,gm,hd hn,lk,gt];exact h.2
theorem gQ{a b:Nat}{x y:Rat}(h:aJ a x)(c:aJ b y):aJ (a+b) (x/y):=by
 rw[oD];exact bh h (lH c)
theorem pg{k:Nat}{n:Int}(h:n.natAbs<2^k)(hk:0<k):aJ k (n:Rat):=by
 refine⟨h,?_⟩;show(1:Nat)<2^k;exact Nat.one_lt_two_pow o_
structure NI where
 v:Int
 m:Bool
def NI.sm(a:NI):Bool:=decide (-9223372036854775808<a.v/\a.v<9223372036854775808)||(decide (a.v= -9223372036854775808)&&a.m)
def NI.of(n:Int):NI:=⟨n,true⟩
def NI.mk'(n:Int):NI:=⟨n,false⟩
def NI.neg(a:NI):NI:=.mk' (-a.v)
def NI.abs(a:NI):NI:=if a.v<0 then .mk' (-a.v)else a
def NI.add(a b:NI):NI:=⟨a.v+b.v,a.sm&&b.sm⟩
def NI.sub(a b:NI):NI:=a.add b.neg
def NI.mul(a b:NI):NI:=.mk' (a.v*b.v)
def NI.div(a b:NI):NI:=⟨a.v/b.v,decide (a.v% b.v≠0)⟩
def NI.mod(a b:NI):NI:=.mk' (a.v% b.v)
structure NF where
 q:Rat
 m:Bool
def NF.num(a:NF):NI:=⟨a.q.num,a.m⟩
def NF.den(a:NF):NI:=.mk' a.q.den
def NF.whole(a:NI):NF:=⟨a.v,a.m⟩
def NF.int(n:Int):NF:=⟨n,true⟩
def NF.gG(a:NF):Bool:=decide (a.q.den=1)
def NF.add(a b:NF):NF:=⟨a.q+b.q,a.gG&&b.gG&&(a.num.sm&&b.num.sm)⟩
def NF.neg(a:NF):NF:=⟨-a.q,false⟩
def NF.sub(a b:NF):NF:=a.add b.neg
def NF.mul(a b:NF):NF:=⟨a.q*b.q,false⟩
def NF.inv(a:NF):NF:=⟨a.q⁻¹,false⟩
def NF.div(a b:NF):NF:=⟨a.q/b.q,false⟩
@[simp] theorem NI.vI(a b:NI):(a.add b).v=a.v+b.v:=rfl
@[simp] theorem NI.oZ(a b:NI):(a.mul b).v=a.v*b.v:=rfl
@[simp] theorem NI.I0(a:NI):a.neg.v= -a.v:=rfl
@[simp] theorem NI.U6(a b:NI):(a.sub b).v=a.v-b.v:=by show a.v+-b.v=_;omega
@[simp] theorem NF.Xc(a b:NF):(a.add b).q=a.q+b.q:=rfl
@[simp] theorem NF.aUI(a:NF):a.neg.q= -a.q:=rfl
@[simp] theorem NF.eH(a b:NF):(a.sub b).q=a.q-b.q:=by show a.q+-b.q=_;rw[ov]
@[simp] theorem NF.IZ(a b:NF):(a.mul b).q=a.q*b.q:=rfl
@[simp] theorem NF.aTS(a:NF):a.inv.q=a.q⁻¹:=rfl
@[simp] theorem NF.aSL(a b:NF):(a.div b).q=a.q/b.q:=rfl
@[simp] theorem NF.aTR(n:Int):(NF.int n).q=n:=rfl
def gf(z:Int):PV:=.st 121 [.int .i64 z,.aI]
def mM(z:Int):PV:=.st 121 [.int .i64 (if z<0 then -1 else 1),eN z.natAbs]
def IM(p:PV)(z:Int):Prop:=(p=gf z/\-9223372036854775808<=z/\z<=9223372036854775807)\/(p=mM z/\9223372036854775808<=z.natAbs)
theorem TR(a:NI):∃p,p=if a.sm=true then gf a.v else mM a.v:=⟨_,rfl⟩
noncomputable def eI(a:NI):PV:=ce (TR a)
theorem kW(a:NI):eI a=if a.sm=true then gf a.v else mM a.v:=cd (TR a)
theorem NI.DI{a:NI}(h:-9223372036854775808<a.v)(b:a.v<9223372036854775808):a.sm=true:=by
 simp[NI.sm,h,b]
theorem NI.s8{a:NI}(h:a.sm=true):-9223372036854775808<=a.v/\a.v<=9223372036854775807:=by
 simp only[NI.sm,b3,decide_eq_true_eq,b2]at h;omega
theorem NI.Dq{a:NI}(h:¬a.sm=true):9223372036854775808<=a.v.natAbs:=by
 simp only[NI.sm,b3,decide_eq_true_eq,b2,not_or,not_and]at h;omega
theorem NI.Uv(z:Int):(NI.mk' z).sm=decide (-9223372036854775808<z/\z<9223372036854775808):=by
 rw[NI.sm,NI.mk',b4,Bool.or_false]
theorem NI.jV(z:Int):(NI.mk' z).v=z:=rfl
theorem pc(a:NI):IM (eI a) a.v:=by
 rw[kW]
 by_cases h:a.sm=true
 ·rw[if_pos h];have:=NI.s8 h;exact .inl ⟨rfl,this⟩
 ·rw[if_neg h];exact .inr ⟨rfl,NI.Dq h⟩
theorem rE{z:Int}(h:-9223372036854775808<z)(a:z<9223372036854775808):eI (.mk' z)=gf z:=by
 rw[kW,NI.Uv,if_pos (by simp[h,a]),NI.jV]
theorem TQ{z:Int}(h:9223372036854775808<=z.natAbs):eI (.mk' z)=mM z:=by
 rw[kW,NI.Uv,if_neg (by simp;omega),NI.jV]
theorem yi{z:Int}(h:-9223372036854775808<=z)(c:z<=9223372036854775807):eI (.of z)=gf z:=by
 rw[kW,if_pos]
 ·rfl
 ·by_cases b:z= -9223372036854775808
  ·subst b;rfl
  ·exact NI.DI (a:=.of z) (by show _<z;omega) (by show z<_;omega)
@[simp] theorem bxN(u:dl)(h:¬u=358):(Gl.bx u:Option dl)=none:=by
 have a:m4 u 358=false:=by
  cases a:m4 u 358
  ·rfl
  ·exact(h (mo a)).elim
 show(bif m4 u 358 then some 359 else none)=none;rw[a];rfl
@[simp] theorem aSw:(Gl.bx 358:Option dl)=some 359:=(rfl)
theorem nD:aw wB 0=[]:=by simp[aw,qm]
theorem xP{n:Nat}(a:0<n)(h:n<wB):aw wB n=[n]:=by
 have h1:=lF bB (m:=1) (n:=n) (by rw[lv];exact h);rw[<-h1,row,jp,hM,j1,ae,kC,lt,j5 h];have:=zz [] n o_
 rwa [iA]at this
theorem vU(n:Int):aq prog 231 [.int .i64 n] (gf n):=by
 refine gA_ nf func231 mix ?_;simp[f231,gf]
theorem Ic(n:Int)(h:-9223372036854775808<=n)(a:n<=9223372036854775807):aq prog 276 [.int .i64 n] (.int .u64 (n.natAbs:Nat)):=by
 refine gA_ nf func276 mix ?_
 by_cases hn:n<0
 ·have e:dx.wrap (dy.wrap (-n))=(n.natAbs:Nat):=by
   by_cases hm:n= -9223372036854775808
   ·subst hm;rfl
   ·rw[aU _ o_ o_,gB _ o_ (by simp only[wB];omega)];omega
  simp[f276,hn,e]
 ·have e:dx.wrap n=(n.natAbs:Nat):=by rw[gB _ o_ (by simp only[wB];omega)];omega
  simp[f276,hn,e]
theorem q9(p:PV)(z:Int)(h:IM p z):aq prog 277 [p] (.aC [.bool (decide (z<0)),eN z.natAbs]):=by
 refine gA_ nf func277 mix ?_;rcases h with⟨rfl,b,d⟩|⟨rfl,b⟩
 ·have hs:=Ic z b d
  by_cases a:z=0
  ·subst a;simp[f277,gf,eN,nD,et,dB]
  ·simp[f277,gf,a,et,dB];refine e1 hs ?_;simp[eN,xP (n:=z.natAbs) o_ (by simp only[wB];omega)]
   done
 ·have e:aw wB z.natAbs≠[]:=fun h=>by
   have:=cL bB z.natAbs;rw[h,hT,kC]at this;omega
  simp only[mM,eN];obtain⟨c,cs,hc⟩:=hN e;rw[hc];have hz:decide ((if z<0 then(-1:Int)else 1)<0)=decide (z<0):=by split<;>simp[*]
  generalize (if z<0 then(-1:Int)else 1)=f at*;simp[f277,et,dB,hz]
theorem Ay(neg:Bool)(n:Nat)(hn:(aw wB n).length<=1048576):aq prog 278 [.bool neg,eN n] (eI (.mk' (if neg then -(n:Int)else n))):=by
 by_cases g:n=0
 ·subst g;rw[show(if neg=true then -((0:Nat):Int)else((0:Nat):Int))=0 by simp,rE d_ d_];refine gA_ nf func278 mix ?_;simp[f278,gf,eN,nD,et,dB]
 by_cases o:n<=9223372036854775807
 ·have d:=xP (n:=n) o_ (by simp only[wB];omega);have hI:(n:Int)<=9223372036854775807:=by omega
  have w1:dy.wrap (n:Int)=n:=aU _ o_ o_;have f:dy.wrap (-(n:Int))= -n:=aU _ o_ o_;cases neg
  ·rw[if_neg d_,rE o_ o_];refine gA_ nf func278 mix ?_;simp[f278,gf,eN,d,hI,w1,f,et,dB]
  ·rw[if_pos rfl,rE o_ o_];refine gA_ nf func278 mix ?_;simp[f278,gf,eN,d,hI,w1,f,et,dB]
 ·have j:aw wB n≠[]:=fun h=>by
   have:=cL bB n;rw[h,hT,kC]at this;omega
  have e:(aw wB n).length=1->(aw wB n)[0]?=some n:=fun h=>by
   have a:=cL bB n;rw[h,lv]at a;rw[xP o_ a];rfl
  have hI:¬(n:Int)<=9223372036854775807:=o_
  have b:(if neg then -(n:Int)else n).natAbs=n:=by cases neg<;>simp
  have k:(if(if neg then -(n:Int)else n)<0 then(-1:Int)else 1)=if neg then -1 else 1:=by
   cases neg
   ·simp only[Bool.false_eq_true,if_false];rw[if_neg o_]
   ·simp only[if_true];rw[if_pos o_]
  rw[TQ (by rw[b];omega)];refine gA_ nf func278 mix ?_;rw[mM,b,k];simp only[eN];obtain⟨c,cs,hc⟩:=hN j;rw[hc]at e⊢;rw[hc]at hn;cases cs with
  |nil=>
   have i:c=n:=by simpa using e rfl
   subst i;cases neg<;>simp[f278,hI,et,dB]
  |cons c2 cs=>
   have l:¬((cs.length:Int)+1+1=1):=o_
   have m:¬((cs.length:Int)+1+1=0):=o_
   cases neg<;>simp[f278,l,m,et,dB]
def okW(z:Int):Prop:=(aw wB z.natAbs).length<=900000
theorem aOD{p:PV}{z:Int}(h:IM p z):∃a b,p=.st 121 [a,b]:=by
 rcases h with⟨rfl,_⟩|⟨rfl,_⟩
 ·exact⟨_,_,rfl⟩
 ·exact⟨_,_,rfl⟩
theorem Ao(a:NI):∃x y,eI a=.st 121 [x,y]:=aOD (pc a)
theorem ye(a:NI)(hz:okW a.v):aq prog 240 [eI a] (eI a.neg):=by
 have h:=pc a;have d:=q9 (eI a) a.v h;have b:=Ay (!decide (a.v<0)) a.v.natAbs (by rw[okW]at hz;omega);have k:(if(!decide (a.v<0))=true then -((a.v.natAbs:Nat):Int)else a.v.natAbs)= -a.v:=by
  by_cases e:a.v<0
  ·simp[e];omega
  ·simp[e];omega
 rw[k]at b;rw[show a.neg=.mk' (-a.v)from rfl];generalize a.v=z,m:eI a=p at*;obtain⟨n,o,g⟩:=Ao (.mk' (-z));rcases h with⟨rfl,i,l⟩|⟨rfl,i⟩
 ·by_cases f:z= -9223372036854775808
  ·rw[g]at b⊢;refine gA_ nf func240 mix ?_;subst f;simp only[gf]at d⊢;simp[f240,et,dB];refine c1 d ?_;simp[eN]at b⊢;simp[aa,aK,bU,c2 b]
  ·rw[rE o_ o_];have w:dy.wrap (-z)= -z:=aU _ o_ o_;refine gA_ nf func240 mix ?_;simp[f240,gf,f,w,et,dB]
 ·rw[g]at b⊢;refine gA_ nf func240 mix ?_;have j:aw wB z.natAbs≠[]:=fun h=>by
   have:=cL bB z.natAbs;rw[h,hT,kC]at this;omega
  simp only[mM,eN]at d b⊢;obtain⟨c,cs,hc⟩:=hN j;rw[hc]at d b⊢;generalize (if z<0 then(-1:Int)else 1)=q at*;simp[f240,et,dB];refine c1 d ?_;simp at b⊢;simp[aa,aK,bU,c2 b]
theorem xU(a:NI):aq prog 259 [eI a] (.int .i64 (if a.v<0 then -1 else if a.v=0 then 0 else 1)):=by
 have h:=pc a;generalize a.v=z,eI a=p at*;refine gA_ nf func259 mix ?_;rcases h with⟨rfl,b,c⟩|⟨rfl,b⟩
 ·simp[f259,gf];rcases g0 z 0 with h|h|h
  ·have e:z<1:=by omega
   simp[h,e];omega
  ·subst h;simp
  ·have e1:¬z<0:=by omega
   have e2:¬z=0:=o_
   have e3:¬z<1:=o_
   simp[e1,e2,e3]
 ·simp[f259,mM,eN]
  by_cases h:z<0
  ·simp[h]
  ·have e2:¬z=0:=by omega
   simp[h,e2]
theorem Z4{z:Int}(h:-18446744073709551616<=z)(a:z<=18446744073709551614):dy.wrap z=if z< -9223372036854775808 then z+18446744073709551616 else if 9223372036854775807<z then z-18446744073709551616 else z:=by
 rw[dz]
 split
 ·omega
 ·split<;>omega
theorem qZ{z:Int}(h:okW z):(aw wB z.natAbs).length<=900000:=h
theorem Yt{a b L:Nat}(c:(aw wB a).length<=L)(d:(aw wB b).length<=L):(aw wB (a+b)).length<=L+1:=by
 refine eZ bB _ _ ?_;have e:=j7 (cL bB a) (j8 (show 0<wB by decide) c);have f:=j7 (cL bB b) (j8 (show 0<wB by decide) d);have g:2*wB^L<=wB^(L+1):=by rw[j9,j4];exact kk _ bB
 omega
theorem Xb{a b:Int}(i:okW a)(j:okW b):
 ((decide (a<0)=decide (b<0)/\aq prog 278 [.bool (decide (a<0)),eN (a.natAbs+b.natAbs)] (eI (.mk' (a+b))))\/
  (decide (a<0)≠decide (b<0)/\b.natAbs<=a.natAbs/\aq prog 278 [.bool (decide (a<0)),eN (a.natAbs-b.natAbs)] (eI (.mk' (a+b))))\/
  (decide (a<0)≠decide (b<0)/\a.natAbs<b.natAbs/\aq prog 278 [.bool (decide (b<0)),eN (b.natAbs-a.natAbs)] (eI (.mk' (a+b))))):=by
 have m:=Yt (a:=a.natAbs) (b:=b.natAbs) i j;have l:∀n,n<=a.natAbs+b.natAbs->(aw wB n).length<=1048576:=fun n h=>by
  have:=eZ bB _ _ (kd h (cL bB (a.natAbs+b.natAbs)));omega
 have f:∀(neg:Bool)(n:Nat),n<=a.natAbs+b.natAbs->(if neg then -(n:Int)else n)=a+b->aq prog 278 [.bool neg,eN n] (eI (.mk' (a+b))):=fun neg n h e=>by
  have g:=Ay neg n (l n h);rw[e]at g;exact g
 by_cases d:decide (a<0)=decide (b<0)
 ·have c:=f (decide (a<0)) (a.natAbs+b.natAbs) (kv _) (by
   by_cases h:a<0
   ·have:b<0:=by simpa[h]using d
    simp[h];omega
   ·have:¬b<0:=by simpa[h]using d
    simp[h];omega)
  exact .inl ⟨d,c⟩
 ·by_cases k:b.natAbs<=a.natAbs
  ·have c:=f (decide (a<0)) (a.natAbs-b.natAbs) o_ (by
    by_cases h:a<0
    ·have:¬b<0:=by simpa[h]using d
     simp[h];omega
    ·have:b<0:=by simpa[h]using d
     simp[h];omega)
   exact .inr (.inl ⟨d,k,c⟩)
  ·have c:=f (decide (b<0)) (b.natAbs-a.natAbs) o_ (by
    by_cases h:b<0
    ·have:¬a<0:=fun c=>d (by simp[h,c]);simp[h];omega
    ·have:a<0:=by
      by_cases c:a<0
      ·exact c
      ·exact(d (by simp[h,c])).elim
     simp[h];omega)
   exact .inr (.inr ⟨d,o_,c⟩)
theorem H5(a:NI):(eI a=gf a.v/\a.sm=true/\-9223372036854775808<=a.v/\a.v<=9223372036854775807)\/(a.sm=false/\∃d c cs,eI a=.st 121 [.int .i64 d,.seq (c::cs)]):=by
 by_cases h:a.sm=true
 ·left;exact⟨by rw[kW,if_pos h],h,NI.s8 h⟩
 ·right;refine⟨by simpa using h,?_⟩;have e:=NI.Dq h;have b:aw wB a.v.natAbs≠[]:=fun h=>by
   have:=cL bB a.v.natAbs;rw[h,hT,kC]at this;omega
  obtain⟨c,cs,hc⟩:=hN b;rw[kW,if_neg h,mM,eN,hc];exact⟨_,_,_,rfl⟩
theorem AR(a b:NI)(B:okW a.v)(D:okW b.v):aq prog 260 [eI a,eI b] (eI (a.add b)):=by
 have o:=q9 (eI a) a.v (pc a);have q:=q9 (eI b) b.v (pc b);have U:=qZ B;have V:=qZ D;have t:=My a.v.natAbs b.v.natAbs o_ o_;have C:=Y4 a.v.natAbs b.v.natAbs o_ o_;have y:=Xb B D;have yN:=H5 a;have G:=H5 b
 by_cases u:(a.sm=true/\b.sm=true)/\-9223372036854775808<=a.v+b.v/\a.v+b.v<=9223372036854775807
 ·obtain⟨⟨g,k⟩,d,i⟩:=u;rw[show eI a=gf a.v by rw[kW,if_pos g],show eI b=gf b.v by rw[kW,if_pos k],show a.add b=.of (a.v+b.v)by rw[NI.add,g,k];rfl,yi d i];generalize a.v=a,b.v=b at*;refine gA_ nf func260 mix ?_;have w:=aU (a+b) d i;have e:(decide (a<a+b)==decide (0<b))=true:=by
   have:a<a+b↔0<b:=o_
   simp[this]
  simp[f260,gf,w,et,dB,e]
 have F:eI (a.add b)=eI (.mk' (a.v+b.v)):=by
  by_cases h:-9223372036854775808<a.v+b.v/\a.v+b.v<9223372036854775808
  ·rw[rE h.1 h.2,kW,if_pos (NI.DI h.1 h.2)];rfl
  ·by_cases i:(a.sm&&b.sm)=true
   ·have H:a.sm=true/\b.sm=true:=by simpa using i
    have I:¬(-9223372036854775808<=a.v+b.v/\a.v+b.v<=9223372036854775807):=fun h=>u ⟨H,h⟩;rw[TQ o_,kW,if_neg,NI.vI];intro g;have:=NI.s8 g;rw[NI.vI]at this;omega
   ·rw[NI.add,NI.mk'];rw[show(a.sm&&b.sm)=false by simpa using i]
 rw[F];clear F;obtain⟨M,N,J⟩:=Ao a;obtain⟨O,P,K⟩:=Ao b;obtain⟨Y,Z,L⟩:=Ao (.mk' (a.v+b.v));rw[L]at y⊢;rw[J]at o yN⊢;rw[K]at q G⊢;generalize a.v=f,b.v=bv at*;refine gA_ nf func260 mix ?_;simp[f260,-aX];rw[aX];simp[-aX];refine join (fun s=>aQ s.env 2=.ptr 0 []/\aQ s.env 3=.ptr 1 []/\aQ s.env 4=.ptr 2 []/\s.heap=[.box false (.p (.st 121 [M,N])),.box false (.p (.st 121 [O,P])),.box false (.p (.st 121 [.int .i64 0,.aI]))]) ?_ ?_
 ·clear y t C o q;rcases yN with⟨d,j,i,g⟩|⟨j,Q,c,cs,d⟩
  ·simp only[gf,PV.st.injEq,j3,and_true,true_and]at d;obtain⟨rfl,rfl⟩:=d;rcases G with⟨k,A,S,T⟩|⟨A,Q,c,cs,k⟩
   ·simp only[gf,PV.st.injEq,j3,and_true,true_and]at k;obtain⟨rfl,rfl⟩:=k;have I:¬(-9223372036854775808<=f+bv/\f+bv<=9223372036854775807):=fun h=>u ⟨⟨j,A⟩,h⟩;have w:=Z4 (z:=f+bv) o_ o_;have e:¬(f<dy.wrap (f+bv)↔0<bv):=by
     rw[w]
     by_cases W:0<bv
     ·rw[if_neg o_,if_pos o_];omega
     ·rw[if_pos o_];omega
    simp[et,dB,e]
   ·simp only[PV.st.injEq,j3,and_true,true_and]at k;obtain⟨rfl,rfl⟩:=k;simp[et,dB]
  ·simp only[PV.st.injEq,j3,and_true,true_and]at d;obtain⟨rfl,rfl⟩:=d;simp[et,dB]
 rintro⟨R,X⟩ ⟨l,m,n,E⟩;dsimp only at l m n E;subst E;simp[l,m,n];refine c1 o ?_;simp[l,m,n,aa,aK,bU];refine c1 q ?_;rcases y with⟨d,g⟩|⟨d,i,g⟩|⟨d,i,g⟩
 ·have j:(f<0↔bv<0):=by simpa using d
  rw[d]at g;simp(maxDischargeDepth:=99) [l,m,n,j,aa,aK,bU,c2 C,c2 g]
 ·have j:¬(f<0↔bv<0):=by simpa using d
  have r:0<=gR f.natAbs bv.natAbs:=by
   have h:=mt sX.1 (show¬f.natAbs<bv.natAbs by omega);omega
  have x:=NG f.natAbs bv.natAbs i o_;simp(maxDischargeDepth:=99) [l,m,n,j,aa,aK,bU,r,c2 t,c2 x,c2 g]
 ·have j:¬(f<0↔bv<0):=by simpa using d
  have r:¬0<=gR f.natAbs bv.natAbs:=by have:=sX.2 i;omega
  have x:=NG bv.natAbs f.natAbs o_ o_;simp(maxDischargeDepth:=99) [l,m,n,j,aa,aK,bU,r,c2 t,c2 x,c2 g]
@[simp] theorem aU2(a:NI):aK (eI a)=.agg 121:=by
 obtain⟨x,y,h⟩:=Ao a;rw[h];rfl
theorem U1(a:NI):∃z:Int,z=if a.sm=true then a.v else if a.v<0 then -1 else 1:=⟨_,rfl⟩
noncomputable def sI(a:NI):Int:=ce (U1 a)
theorem Dr(a:NI):sI a=if a.sm=true then a.v else if a.v<0 then -1 else 1:=cd (U1 a)
theorem Vi(a:NI):∃p:PV,p=if a.sm=true then .aI else eN a.v.natAbs:=⟨_,rfl⟩
noncomputable def wI(a:NI):PV:=ce (Vi a)
theorem HR(a:NI):wI a=if a.sm=true then .aI else eN a.v.natAbs:=cd (Vi a)
@[simp] theorem aGt(a:NI):cm (eI a)=[.int .i64 (sI a),wI a]:=by
 by_cases h:a.sm=true
 ·rw[kW,Dr,HR,if_pos h,if_pos h,if_pos h];rfl
 ·rw[kW,Dr,HR,if_neg h,if_neg h,if_neg h];rfl
theorem U2(a:NI):sI a<0↔a.v<0:=by
 rw[Dr];split
 ·exact Iff.rfl
 ·split<;>omega
theorem o6{a:NI}(h:a.sm=true):wI a=.aI:=by rw[HR,if_pos h]
theorem rA{a:NI}(h:a.sm=false):∃c cs,wI a=.seq (c::cs):=by
 rcases H5 a with⟨_,b,_⟩|⟨_,e,c,cs,d⟩
 ·rw[h]at b;exact absurd b d_
 ·refine⟨c,cs,?_⟩;have:=aGt a;rw[d]at this;simp[cm]at this;exact this.2.symm
theorem qd{a:NI}(h:a.sm=true):sI a=a.v:=by rw[Dr,if_pos h]
theorem Iv(a b:NI)(d:okW a.v)(c:okW b.v):aq prog 280 [eI a,eI b] (eI (a.sub b)):=by
 refine gA_ nf func280 mix ?_;have e:okW b.neg.v:=by simpa[okW]using c
 simp[f280];refine e1 (ye b c) ?_;simp;refine e2 (AR a b.neg d e) ?_;simp[aa];exact Wk.refl _
theorem Tq(a:NI)(c:okW a.v):aq prog 330 [eI a] (eI a.abs):=by
 refine gA_ nf func330 mix ?_
 by_cases h:a.v<0
 ·have b:=(U2 a).2 h;have e:a.abs=a.neg:=by rw[NI.abs,if_pos h];rfl
  simp[f330,aa,b,aa,e,c1 (ye a c)]
 ·have b:=mt (U2 a).1 h;have e:a.abs=a:=by rw[NI.abs,if_neg h]
  simp[f330,aa,b,e]
def mg(x y:Int):Int:=if x<y then -1 else if x=y then 0 else 1
theorem Tt(a b:NI)(l:okW a.v)(m:okW b.v):aq prog 220 [eI a,eI b] (.int .i64 (mg a.v b.v)):=by
 refine gA_ nf func220 mix ?_;have o:(a.sm=true/\b.sm=true)\/¬(a.sm=true/\b.sm=true):=ck _;rcases o with⟨d,k⟩|d
 ·have w1:=o6 d;have f:=o6 k;have i:=qd d;have j:=qd k;rcases g0 a.v b.v with h|h|h
  ·have e:mg a.v b.v= -1:=by rw[mg,if_pos h]
   simp[f220,aa,w1,f,i,j,h,e,et,dB]
  ·have e:mg b.v b.v=0:=by rw[mg,if_neg o_,if_pos rfl]
   have d:¬a.v<b.v:=o_
   simp[f220,aa,w1,f,i,j,h,e,et,dB]
  ·have e:mg a.v b.v=1:=by rw[mg,if_neg o_,if_neg o_]
   have d:¬a.v<b.v:=o_
   simp[f220,aa,w1,f,i,j,h,d,e,et,dB]
 ·have e:(if(a.sub b).v<0 then(-1:Int)else if(a.sub b).v=0 then 0 else 1)=mg a.v b.v:=by
   rw[NI.U6,mg];rcases g0 a.v b.v with h|h|h
   ·rw[if_pos o_,if_pos h]
   ·rw[if_neg o_,if_pos o_,if_neg o_,if_pos h]
   ·rw[if_neg o_,if_neg o_,if_neg o_,if_neg o_]
  have g:=xU (a.sub b);rw[e]at g;rcases hs:a.sm with _|_
  ·obtain⟨c,cs,w1⟩:=rA hs;simp[f220,aa,w1,et,dB,c2 (Iv a b l m),c1 g]
  ·have w1:=o6 hs;obtain⟨c,cs,f⟩:=rA (a:=b) (by cases n:b.sm with|false=>rfl|true=>exact(d ⟨hs,n⟩).elim);simp[f220,aa,w1,f,et,dB,c2 (Iv a b l m),c1 g]
theorem Ys{a b L M:Nat}(e:(aw wB a).length<=L)(f:(aw wB b).length<=M):(aw wB (a*b)).length<=L+M:=by
 refine eZ bB _ _ ?_;have c:=j7 (cL bB a) (j8 (show 0<wB by decide) e);have d:=j7 (cL bB b) (j8 (show 0<wB by decide) f);rw[kx];exact kH c d
theorem DR(a b:NI)(F:(aw wB a.v.natAbs).length+(aw wB b.v.natAbs).length<=900000):aq prog 219 [eI a,eI b] (eI (a.mul b)):=by
 have D:=q9 (eI a) a.v (pc a);have hq:=q9 (eI b) b.v (pc b);have C:=Y2 a.v.natAbs b.v.natAbs o_;have G:=Ys (kv (aw wB a.v.natAbs).length) (kv (aw wB b.v.natAbs).length);have w:=Ay (decide (a.v<0)!=decide (b.v<0)) (a.v.natAbs*b.v.natAbs) o_;have e:(if(decide (a.v<0)!=decide (b.v<0))=true then -((a.v.natAbs*b.v.natAbs:Nat):Int)else(a.v.natAbs*b.v.natAbs:Nat))=a.v*b.v:=by
  rw[<-gm];rcases g8 a.v 0 with f|f
  ·rcases g8 b.v 0 with d|d
   ·have:=Int.mul_nonneg_of_nonpos_of_nonpos (g9 f) (g9 d);simp[f,d];omega
   ·have:=Int.mul_nonpos_of_nonpos_of_nonneg (g9 f) d;have l:¬b.v<0:=by omega
    simp[f,l];omega
  ·have l:¬a.v<0:=by omega
   rcases g8 b.v 0 with d|d
   ·have:=Int.mul_nonpos_of_nonneg_of_nonpos f (g9 d);simp[l,d];omega
   ·have:=Int.mul_nonneg f d;have A:¬b.v<0:=by omega
    simp[l,A];omega
 rw[e]at w;rw[show a.mul b=.mk' (a.v*b.v)from rfl];refine gA_ nf func219 mix ?_;simp[f219,-aX];rw[aX];simp[-aX];refine join (fun s=>aQ s.env 2=.ptr 0 []/\aQ s.env 3=.ptr 1 []/\aQ s.env 4=.ptr 2 []/\s.heap=[.box false (.p (eI a)),.box false (.p (eI b)),.box false (.p (.st 121 [.int .i64 0,.aI]))]) ?_ ?_
 ·rcases hs:a.sm with _|_
  ·obtain⟨c,cs,w1⟩:=rA hs;simp[aa,w1,et,dB]
  ·have w1:=o6 hs;rcases m:b.sm with _|_
   ·obtain⟨c,cs,g⟩:=rA m;simp[aa,w1,g,et,dB]
   ·have g:=o6 m;have n:=qd hs;have o:=qd m;have r1:=NI.s8 hs;have y:=NI.s8 m;have z1:=Ic a.v r1.1 r1.2;have z2:=Ic b.v y.1 y.2;have M:=C8 a.v.natAbs b.v.natAbs o_ o_;obtain⟨H,t⟩:∃H,H=a.v.natAbs*b.v.natAbs/18446744073709551616:=⟨_,rfl⟩
    obtain⟨L,q⟩:∃L,L=a.v.natAbs*b.v.natAbs% 18446744073709551616:=⟨_,rfl⟩
    rw[<-t,<-q]at M;have B:a.v.natAbs*b.v.natAbs=H*18446744073709551616+L:=o_
    clear t q
    by_cases c1:H=0/\L<=9223372036854775807
    ·obtain⟨rfl,q⟩:=c1;have u:(L:Int)<=9223372036854775807:=by omega
     have r:dy.wrap (L:Int)=L:=aU _ o_ o_;have z:dy.wrap (-(L:Int))= -L:=aU _ o_ o_;rw[B]at e;simp only[l5,lu]at e;rw[rE (by rw[<-e];split<;>omega) (by rw[<-e];split<;>omega),gf]
     by_cases c2:a.v<0↔b.v<0
     ·rw[if_neg (by simp[c2])]at e;rw[<-e];simp(maxDischargeDepth:=99) [aa,w1,g,n,o,et,dB,u,c2,r,e1 z1,e1 z2,e2 M]
     ·rw[if_pos (by simp[c2])]at e;rw[<-e];simp(maxDischargeDepth:=99) [aa,w1,g,n,o,et,dB,u,c2,r,z,e1 z1,e1 z2,e2 M]
    ·simp[aa,w1,g,n,o,et,dB];refine e1 z1 ?_;simp[n,o];refine e1 z2 ?_;simp;refine e2 M ?_
     by_cases c2:H=0
     ·have c3:¬(L:Int)<=9223372036854775807:=fun h=>c1 ⟨c2,o_⟩;simp[c2,c3]
     ·have c3:¬(H:Int)=0:=by omega
      simp[c2,c3]
 ·rintro⟨E,I⟩ ⟨i,j,k,x⟩;dsimp only at i j k x;subst x;simp[i,j,k];refine c1 D ?_;simp[i,j,k];refine c1 hq ?_;simp[i,j,k];refine c2 C ?_;simp;refine c2 w ?_;simp[i,j,k,aa]
  done
theorem qg{a b:NI}(h:a.v=b.v)(d:a.v= -9223372036854775808->a.m=b.m):eI a=eI b:=by
 by_cases c:a.v= -9223372036854775808
 ·have:=d c;cases a;cases b;dsimp only at h this;subst h this;rfl
 ·have e:a.sm=b.sm:=by
   simp only[NI.sm,h];rw[h]at c;simp[c]
  rw[kW,kW,e,h]
theorem awa{a b:Int}(c:0<b):(a.tdiv b=a/b/\a.tmod b=a% b/\¬a.tmod b<0)\/(a.tdiv b-1=a/b/\a.tmod b+b=a% b/\a.tmod b<0/\a/b<0):=by
 have f:=Int.tmod_add_mul_tdiv a b;have g:=ht a c;have i:=hp a c
 by_cases h:a.tmod b<0
 ·right;have e:=(gx (a:=a) (r:=a.tmod b+b) (q:=a.tdiv b-1) c).2 ⟨by rw[hE];omega,o_,o_⟩;have j:a<0:=by
   rcases g8 a 0 with d|d
   ·exact d
   ·have:=Int.tmod_nonneg b d;omega
  have d:a/b<0:=ho c o_;omega
 ·left;have e:=(gx (a:=a) (r:=a.tmod b) (q:=a.tdiv b) c).2 ⟨o_,o_,o_⟩;omega
theorem aF5{a b:Int}(c:0<b):((if a<0 then -((a.natAbs% b.natAbs:Nat):Int)else(a.natAbs% b.natAbs:Nat))<0/\a/b=(if a<0 then -((a.natAbs/b.natAbs:Nat):Int)else(a.natAbs/b.natAbs:Nat))-1/\a% b=(if a<0 then -((a.natAbs% b.natAbs:Nat):Int)else(a.natAbs% b.natAbs:Nat))+b)\/
 (¬(if a<0 then -((a.natAbs% b.natAbs:Nat):Int)else(a.natAbs% b.natAbs:Nat))<0/\a/b=(if a<0 then -((a.natAbs/b.natAbs:Nat):Int)else(a.natAbs/b.natAbs:Nat))/\a% b=(if a<0 then -((a.natAbs% b.natAbs:Nat):Int)else(a.natAbs% b.natAbs:Nat))):=by
 have e:((b.natAbs:Nat):Int)=b:=o_
 have f:=kF a.natAbs b.natAbs;have g:=kh a.natAbs (show 0<b.natAbs by omega);have i:((a.natAbs% b.natAbs:Nat):Int)+b*(a.natAbs/b.natAbs:Nat)=(a.natAbs:Nat):=by
  rw[<-e,<-gy,<-hA,e,f]
 generalize a.natAbs% b.natAbs=r,a.natAbs/b.natAbs=q at*
 by_cases h:a<0
 ·simp only[if_pos h]
  by_cases j:r=0
  ·right;have d:=(gx (a:=a) (r:=0) (q:=-(q:Int)) c).2 ⟨by rw[hG];omega,o_,o_⟩;omega
  ·left;have d:=(gx (a:=a) (r:=-(r:Int)+b) (q:=-(q:Int)-1) c).2 ⟨by rw[hE,hG];omega,o_,o_⟩;omega
 ·simp only[if_neg h];right;have d:=(gx (a:=a) (r:=(r:Int)) (q:=(q:Int)) c).2 ⟨o_,o_,o_⟩;omega
theorem PG(a b:NI)(i:0<b.v)(K:okW a.v)(w:okW b.v):aq prog 331 [eI a,eI b] (.aC [eI (a.div b),eI (a.mod b)]):=by
 have T:=q9 (eI a) a.v (pc a);have hq:=q9 (eI b) b.v (pc b);have ad:=qZ K;have ae:=qZ w;have M:=GQ a.v.natAbs b.v.natAbs o_ o_ o_;refine gA_ nf func331 mix ?_;simp[f331,-aX];rw[aX];simp[-aX];refine join (fun s=>aQ s.env 2=.ptr 0 []/\aQ s.env 3=.ptr 1 []/\aQ s.env 4=.ptr 2 []/\aQ s.env 5=.ptr 3 []/\s.heap=[.box false (.p (eI a)),.box false (.p (eI b)),.box false (.p (.st 121 [.int .i64 0,.aI])),.box false (.p (.st 121 [.int .i64 0,.aI]))]) ?_ ?_
 ·rcases hs:a.sm with _|_
  ·obtain⟨c,cs,w1⟩:=rA hs;simp[aa,w1,et,dB]
  ·have w1:=o6 hs;rcases m:b.sm with _|_
   ·obtain⟨c,cs,l⟩:=rA m;simp[aa,w1,l,et,dB]
   ·have l:=o6 m;have q:=qd hs;have r:=qd m;have r1:=NI.s8 hs;have aj:=NI.s8 m
    by_cases o:a.v= -9223372036854775808
    ·simp[aa,w1,l,q,r,o,et,dB]
    ·have n:¬b.v=0:=by omega
     have B:-9223372036854775808<a.v/b.v:=by
      have:=Int.le_ediv_of_mul_le (a:=-9223372036854775807) (b:=a.v) i o_;omega
     have C:a.v/b.v<9223372036854775808:=ho i o_;have D:=g7 a.v i;have E:=hb a.v n;have G:eI (a.div b)=gf (a.v/b.v):=by rw[kW,if_pos (NI.DI B C)];rfl
     have H:eI (a.mod b)=gf (a.v% b.v):=rE o_ o_;rw[G,H];have ah:=ht a.v i;have ag:=hp a.v i;rcases awa (a:=a.v) i with⟨d1,d2,d3⟩|⟨d1,d2,d3,d4⟩
     ·have q1:dy.wrap (a.v.tdiv b.v)=a.v/b.v:=by rw[d1];exact aU _ o_ o_
      simp[aa,w1,l,q,r,o,n,et,dB,gf,d3,q1];exact d2.symm
     ·have q1:dy.wrap (dy.wrap (a.v.tdiv b.v)-1)=a.v/b.v:=by rw[aU (a.v.tdiv b.v) o_ o_,d1];exact aU _ o_ o_
      have X:dy.wrap (a.v.tmod b.v+b.v)=a.v% b.v:=by rw[d2];exact aU _ o_ o_
      simp[aa,w1,l,q,r,o,n,et,dB,gf,d3,q1,X]
 ·rintro⟨Y,af⟩ ⟨d,e,f,g,x⟩;dsimp only at d e f g x;subst x;have O:(aw wB (a.v.natAbs/b.v.natAbs)).length<=900000:=by
   have:=eZ bB _ _ (kd (ls a.v.natAbs b.v.natAbs) (cL bB a.v.natAbs));omega
  have P:(aw wB (a.v.natAbs% b.v.natAbs)).length<=900000:=by
   have:=eZ bB _ _ (kd (oo a.v.natAbs b.v.natAbs) (cL bB a.v.natAbs));omega
  have z:=Ay (decide (a.v<0)) (a.v.natAbs/b.v.natAbs) o_;have A:=Ay (decide (a.v<0)) (a.v.natAbs% b.v.natAbs) o_;have N:=aF5 (a:=a.v) i;simp only[decide_eq_true_eq]at z A;have ai:=kh a.v.natAbs (show 0<b.v.natAbs by omega);generalize a.v.natAbs/b.v.natAbs=k,a.v.natAbs% b.v.natAbs=j at*;have ac:-b.v<(if a.v<0 then -(j:Int)else(j:Int)):=by split<;>omega
  have J:a.v<0->(if a.v<0 then -(j:Int)else(j:Int))<=0:=fun h=>by rw[if_pos h];omega
  have V:okW (if a.v<0 then -(k:Int)else(k:Int)):=by rw[okW];split<;>simpa using O
  have W:okW (if a.v<0 then -(j:Int)else(j:Int)):=by rw[okW];split<;>simpa using P
  have U:(if a.v<0 then -(k:Int)else(k:Int))= -9223372036854775808->a.v<0:=by split<;>omega
  generalize (if a.v<0 then -(k:Int)else(k:Int))=Q,(if a.v<0 then -(j:Int)else(j:Int))=R at*;have u:=xU (.mk' R);simp only[NI.jV]at u;have D:=g7 a.v i;have E:=hb a.v (show b.v≠0 by omega);simp[d,e,f,g];refine c1 T ?_;simp[d,e,f,g];refine c1 hq ?_;simp[d,e,f,g];refine c2 M ?_;simp;refine c2 z ?_;simp;refine c2 A ?_;simp[d,e,f,g,aa];refine c1 u ?_;rcases N with⟨d1,d2,d3⟩|⟨d1,d2,d3⟩
  ·have y:=Iv (.mk' Q) (.of 1) V (by rw[okW];decide);have L:=AR (.mk' R) b W w;rw[yi d_ d_]at y;have g1:eI (a.div b)=eI ((NI.mk' Q).sub (.of 1)):=by
    refine qg (by rw[NI.U6];exact d2) (fun h=>?_);have F:Q= -9223372036854775807:=by have:a.v/b.v= -9223372036854775808:=h;omega
    have S:¬a.v% b.v=0:=o_
    subst F;show decide (a.v% b.v≠0)=_;simp[S];rfl
   have g2:eI (a.mod b)=eI ((NI.mk' R).add b):=qg (by rw[NI.vI];exact d3) (fun h=>by have:a.v% b.v= -9223372036854775808:=h;omega);rw[g1,g2];simp[d,e,f,g,aa,d1];refine e1 (vU 1) ?_;simp[d,e,f,g,aa];refine e2 y ?_;simp[d,e,f,g,aa];refine e2 L ?_;simp[d,e,f,g,aa];exact⟨rfl,rfl⟩
  ·have g1:eI (a.div b)=eI (.mk' Q):=by
    refine qg d2 (fun h=>?_);have Z:a.v/b.v= -9223372036854775808:=h;have ab:=J (U o_);have I:a.v% b.v=0:=o_
    show decide (a.v% b.v≠0)=false;simp[I]
   have g2:eI (a.mod b)=eI (.mk' R):=qg d3 (fun h=>by have:a.v% b.v= -9223372036854775808:=h;omega);rw[g1,g2]
   by_cases t:R=0
   ·simp[d,e,f,g,aa,t]
   ·simp[d,e,f,g,aa,d1,t]
theorem uS{a b:Int}(h:okW b)(c:a.natAbs<=b.natAbs):okW a:=by
 have:=eZ bB _ _ (kd c (cL bB b.natAbs));have:=qZ h;rw[okW];omega
theorem Tx(a b:NI)(e:0<b.v)(d:okW a.v)(f:okW b.v):aq prog 297 [eI a,eI b] (eI (a.div b)):=by
 have c:=xU b;rw[if_neg o_,if_neg o_]at c;refine gA_ nf func297 mix ?_;simp[f297];refine c1 c ?_;simp;refine c2 (PG a b e d f) ?_;simp[aa]
 done
theorem NI.Da(a:NI):a.abs.v.natAbs=a.v.natAbs:=by
 rw[NI.abs];split
 ·rw[NI.jV,hg]
 ·rfl
theorem NI.Tj(a:NI):0<=a.abs.v:=by
 rw[NI.abs];split
 ·rw[NI.jV];omega
 ·omega
def fN(a b:Int):Int:=(md a.natAbs b.natAbs:Nat)
theorem Tu(a b:NI)(j:okW a.v)(k:okW b.v):aq prog 296 [eI a,eI b] (eI (.mk' (fN a.v b.v))):=by
 refine gA_ nf func296 mix ?_;simp[f296];refine e1 (Tq a j) ?_;simp;refine e1 (Tq b k) ?_;simp[aa];refine⟨⟨rfl,rfl⟩,?_⟩;have n:fN a.abs.v b.abs.v=fN a.v b.v:=by rw[fN,fN,NI.Da,NI.Da]
 refine lp (α:=NI×NI) (fun x=>⟨[(4,.ptr 2 []),(3,.ptr 1 []),(2,.ptr 0 [])],[.box false (.p (eI x.1)),.box false (.p (eI x.2)),.box false (.p (.st 121 [.int .i64 0,.aI]))]⟩)
  (fun x=>0<=x.1.v/\0<=x.2.v/\okW x.1.v/\okW x.2.v/\fN x.1.v x.2.v=fN a.v b.v) (fun x=>x.2.v.toNat) (a.abs,b.abs) ⟨NI.Tj a,NI.Tj b,uS j (nI (NI.Da a)),uS k (nI (NI.Da b)),n⟩ ?_
 rintro⟨x,y⟩ ⟨l,g,i,c,f⟩;dsimp only at l g i c f;have d:=xU y
 by_cases e:y.v=0
 ·rw[if_neg o_,if_pos e]at d;have hx:eI (.mk' (fN a.v b.v))=eI x:=by
   refine qg ?_ (fun h=>?_)
   ·rw[NI.jV,<-f,e,fN];simp;omega
   ·rw[NI.jV,fN]at h;omega
  rw[hx];simp[aa,c1 d]
 ·rw[if_neg o_,if_neg e]at d;have q:=g7 x.v (show 0<y.v by omega);have o:=hb x.v e;have m:(x.v% y.v).natAbs=x.v.natAbs% y.v.natAbs:=by
   have e1:(x.v.natAbs:Int)=x.v:=o_
   have e2:(y.v.natAbs:Int)=y.v:=o_
   have e3:((x.v.natAbs% y.v.natAbs:Nat):Int)=x.v% y.v:=by rw[Int.natCast_emod,e1,e2]
   omega
  simp;refine c1 d ?_;simp[aa];refine c2 (PG x y o_ i c) ?_;simp[aa];refine⟨rfl,?_⟩;refine rd (y,x.mod y) ⟨g,o,c,uS c (by show(x.v% y.v).natAbs<=_;omega),?_⟩ (by show(x.v% y.v).toNat<y.v.toNat;omega);show fN y.v (x.v% y.v)=_;rw[<-f,fN,fN,m,n0 y.v.natAbs,<-Nat.gcd_rec,n0]
theorem aQb{o x k A:Nat}(hx:1<=x)(d:1<=o)(h:o*x^k=A)(hk:1<=k):o*x<=A/\(2<=k->x*x<=A):=by
 have a:x<=x^k:=by
  calc x=x^1:=(lv x).symm
   _<=x^k:=j8 hx hk
 refine⟨by rw[<-h];exact kk _ a,fun b=>?_⟩;have c:x*x<=x^k:=by
  calc x*x=x^2:=by rw[ol]
   _<=x^k:=j8 hx b
 rw[<-h];exact lw c (nJ _ d)
theorem aD7(a:NI)(n A:Nat)(E:1<=a.v)(q:A=a.v.natAbs^n)(J:(aw wB A).length<=400000)(F:(aw wB a.v.natAbs).length<=400000)(hn:n<=1000000):aq prog 294 [eI a,.int .i64 n] (eI (.mk' A)):=by
 refine gA_ nf func294 mix ?_;simp[f294];refine c1 (vU 1) ?_;rw[show gf 1=eI (.of 1)from(yi d_ d_).symm];simp[aa];refine lp (α:=Nat×NI×NI) (fun s=>⟨[(1,.p (.int .i64 s.1)),(5,.ptr 2 []),(4,.ptr 1 []),(2,.ptr 0 [])],[.box false (.p (eI s.2.1)),.box false (.p (.st 121 [.int .i64 0,.aI])),.box false (.p (eI s.2.2))]⟩)
  (fun s=>s.1<=n/\1<=s.2.1.v/\1<=s.2.2.v/\(0<s.1->s.2.2.v.natAbs*s.2.1.v.natAbs^s.1=A)/\(s.1=0->s.2.2.v.natAbs=A)/\(aw wB s.2.1.v.natAbs).length<=400000) (fun s=>s.1) (n,a,.of 1) ⟨kv _,E,(by decide:(1:Int)<=1),fun _=>by rw[q];show(1:Int).natAbs*_=_;simp,fun h=>by have h:n=0:=h;rw[q,h,kC];rfl,F⟩ ?_
 rintro⟨k,x,o⟩ ⟨C,c,i,b,l,m⟩;dsimp only at C c i b l m
 by_cases k0:k=0
 ·subst k0;have e:eI (.mk' A)=eI o:=by
   refine qg ?_ (fun h=>?_)
   ·rw[NI.jV,<-l rfl];omega
   ·rw[NI.jV]at h;omega
  rw[e];simp[aa]
 have b:=b o_;have r:=aQb (o:=o.v.natAbs) (x:=x.v.natAbs) o_ o_ b o_;have d:dy.wrap (k% 2^dy.bits&&&1% 2^dy.bits:Nat)=(k% 2:Nat):=by
  rw[show(2^dy.bits:Nat)=18446744073709551616 from rfl,j5 (show k<18446744073709551616 by omega),show 1% 18446744073709551616=2^1-1 from rfl,m7];exact aU _ o_ o_
 have hs:(k:Int).fdiv (2^min 1 dy.bits)=(k/2:Nat):=by
  rw[show((2:Int)^min 1 dy.bits)=2 from rfl,hl _ d_];omega
 have j:0<k:=o_
 have K:(aw wB o.v.natAbs).length<=400000:=by
  have D:o.v.natAbs<=A:=lw (np _ (show 0<x.v.natAbs by omega)) r.1;have:=eZ bB _ _ (kd D (cL bB A));omega
 have z:2<=k->(aw wB (x.v*x.v).natAbs).length<=400000:=fun h=>by
  have:=eZ bB _ _ (kd (r.2 h) (cL bB A));rw[gm];omega
 have y:(1:Int)<=o.v*x.v:=by
  have:=hC i c d_ o_;omega
 have B:(1:Int)<=x.v*x.v:=by
  have:=hC c c d_ o_;omega
 have u:=DR o x o_;have w:=DR x x o_;have g:x.v.natAbs^k=(x.v*x.v).natAbs^(k/2)*x.v.natAbs^(k% 2):=by
  rw[gm,<-ol,<-m8,<-kx,km]
 by_cases H:k% 2=1
 ·rw[H,lv]at g;have t:((k% 2:Nat):Int)=1:=by omega
  rw[t]at d
  by_cases k1:1<k
  ·have f:(1:Int)<k:=by omega
   simp[j,d];refine c2 u ?_;simp[aa,f];refine c2 w ?_;simp[aa,hs];refine rd (k/2,x.mul x,o.mul x) ⟨o_,B,y,fun _=>?_,fun h=>by dsimp only at h;omega,z k1⟩ (by dsimp only;omega);rw[g]at b;show(o.v*x.v).natAbs*(x.v*x.v).natAbs^(k/2)=A;rw[<-b,gm o.v,j4 ((x.v*x.v).natAbs^(k/2)),kp]
  ·have f:¬(1:Int)<k:=by omega
   have G:k=1:=o_
   simp[j,d];refine c2 u ?_;simp[aa,f,hs];refine rd (k/2,x,o.mul x) ⟨o_,c,y,fun h=>by dsimp only at h;omega,fun _=>?_,m⟩ (by dsimp only;omega);subst G;rw[lv]at b;show(o.v*x.v).natAbs=A;rw[<-b,gm]
 ·have I:k% 2=0:=by omega
  rw[I,kC,mx]at g;have t:¬((k% 2:Nat):Int)=1:=o_
  rw[show((k% 2:Nat):Int)=0 by omega]at d;have f:(1:Int)<k:=o_
  simp[j,d,f];refine c2 w ?_;simp[aa,hs];refine rd (k/2,x.mul x,o) ⟨o_,B,i,fun _=>?_,fun h=>by dsimp only at h;omega,z o_⟩ (by dsimp only;omega);show o.v.natAbs*(x.v*x.v).natAbs^(k/2)=A;rw[<-g,b]
theorem aEt(x:Nat)(hx:x<18446744073709551616):aq prog 324 [.int .u64 x] (.int .i64 (ea x:Nat)):=by
 refine nY (mA func324 k_) fun w ad d _ _ c=>?_;obtain⟨a,rfl,b⟩:=CW c;simp only[aE]at b;subst b;refine(bits_Len64 x w o_ o_).mono ?_;rintro e w' ⟨rfl,rfl⟩;refine⟨_,rfl,⟨kv _,fun _ _=>rfl,rfl,rfl⟩,fun w ad=>?_⟩;simp only[aE];rfl
def rF(n:Nat):Nat:=if n=0 then 0 else 64*((aw wB n).length-1)+ea (ae wB n ((aw wB n).length-1))
theorem xe{n:Nat}:aw wB n=[]↔n=0:=by
 constructor
 ·intro h;have:=cL bB n;rw[h,hT,kC]at this;omega
 ·rintro rfl;exact nD
theorem PL(n:Nat):n<2^rF n:=by
 by_cases b:n=0
 ·subst b;exact kc d_
 ·rw[rF,if_neg b];have e:=cL bB n;have j:0<(aw wB n).length:=by
   rcases kL (aw wB n).length with h|h
   ·exact(b (xe.1 (hW.1 h))).elim
   ·exact h
  obtain⟨m,i⟩:∃m,(aw wB n).length=m+1:=⟨(aw wB n).length-1,o_⟩
  rw[i]at e⊢;rw[kO];have d:n/wB^m<wB:=by
   rw[j6 (kc d_),j4,<-j9];exact e
  have f:ae wB n m=n/wB^m:=by rw[ae,j5 d]
  have g:0<n/wB^m:=by
   rcases kL (n/wB^m)with h|h
   ·have c:n<wB^m:=by
     rcases kA n (wB^m)with a|a
     ·exact a
     ·have:=m2 a (kc (show 0<wB by decide));omega
    have:=eZ bB m n c;omega
   ·exact h
  have c:=Cw (n/wB^m) (n/wB^m) (kv _) g d;rw[f,kx,m8];show n<wB^m*_;have a:n<(n/wB^m+1)*wB^m:=by
   rw[<-j6 (kc d_)];omega
  rw[j4]at a;exact j7 a (kk _ c.2.2)
theorem aDL(a:NI)(l:okW a.v):aq prog 289 [eI a] (.int .i64 (rF a.v.natAbs:Nat)):=by
 have b:=q9 (eI a) a.v (pc a);refine gA_ nf func289 mix ?_;have o:=qZ l;have q:∀i(h:i<(aw wB a.v.natAbs).length),(aw wB a.v.natAbs)[i]=ae wB a.v.natAbs i:=fun i h=>fH bB h;have f:=cQ (B:=wB) bB a.v.natAbs ((aw wB a.v.natAbs).length-1);have j:=aEt _ f;have z:=PL a.v.natAbs;have s:=xe (n:=a.v.natAbs)
 by_cases e:a.v.natAbs=0
 ·rw[e]at b⊢;simp only[eN,nD]at b;simp[f289,rF,c1 b]
 ·have k:=mt s.1 e;rw[rF,if_neg e];have p:ea (ae wB a.v.natAbs ((aw wB a.v.natAbs).length-1))<=64:=by
   rcases kL (ae wB a.v.natAbs ((aw wB a.v.natAbs).length-1))with h|h
   ·rw[h];decide
   ·exact Tp h f
  simp only[eN]at b;generalize aw wB a.v.natAbs=x at*;obtain⟨m,d⟩:∃m,x.length=m+1:=⟨x.length-1,by cases x with|nil=>exact(k rfl).elim|cons c cs=>simp⟩
  rw[d,kO]at j p f;rw[d,kO];rw[d]at o;have hx:=q m o_;have t:x[m]?=some (ae wB a.v.natAbs m):=by rw[hK o_,hx]
  have w1:dy.wrap (m:Int)=m:=aU _ o_ o_;have u:dy.wrap (64*(m:Int))=64*m:=aU _ o_ o_;have w:dy.wrap (64*(m:Int)+(ea (ae wB a.v.natAbs m):Nat))=(64*m+ea (ae wB a.v.natAbs m):Nat):=by rw[aU _ o_ o_];push_cast;rfl
  generalize ea (ae wB a.v.natAbs m)=g at*;have y:dy.wrap (64*(m:Int)+g)=64*m+g:=by rw[w];push_cast;rfl
  simp[f289];refine c1 b ?_;have r:¬((m:Int)+1=0):=o_
  simp[k,d,w1,u,t,hx,r,y,c1 j]
noncomputable def eF(a:NF):PV:=.st 123 [eI a.num,eI a.den]
@[simp] theorem aU0(a:NF):aK (eF a)=.agg 123:=rfl
@[simp] theorem aTq(a:NF):cm (eF a)=[eI a.num,eI a.den]:=rfl
@[simp] theorem aVr(n:Int):aK (gf n)=.agg 121:=rfl
@[simp] theorem aSz:prog.cellsOf 121=2:=k_
@[simp] theorem aSA:prog.cellsOf 123=4:=k_
theorem QL:gf 1=eI (.mk' 1):=(rE d_ d_).symm
def kB:Nat:=100000
theorem tN:kB<=3*kB:=nJ _ d_
theorem CN{n k:Nat}(h:n<2^k):(aw wB n).length<=k/64+1:=by
 refine eZ bB _ _ (j7 h ?_);rw[show wB=2^64 from rfl,<-m8];exact j8 d_ o_
theorem jB{z:Int}{k:Nat}(h:z.natAbs<2^k)(hk:k<=3*kB):okW z:=by
 have:=CN h;have a:kB=100000:=rfl;rw[okW];omega
def NF.make(n d:NI):NF:=⟨oq n.v d.v,n.m&&decide (d.v=1)⟩
theorem Gu(a:NF):aq prog 242 [eF a] (.bool a.gG):=by
 refine gA_ nf func242 mix ?_;have e:a.den.v=a.q.den:=rfl;have g:=a.q.den_pos;rcases hs:a.den.sm with _|_
 ·obtain⟨c,cs,w1⟩:=rA hs;have f:=NI.Dq (a:=a.den) (by rw[hs];decide);have b:a.gG=false:=by rw[NF.gG,decide_eq_false_iff_not];omega
  simp[f242,aa,w1,et,dB,b]
 ·have w1:=o6 hs;have d:=qd hs;rw[e]at d;have b:a.gG=decide ((a.q.den:Int)=1):=by rw[NF.gG,decide_eq_decide];omega
  simp[f242,aa,w1,d,et,dB,b];rfl
theorem HC(a:NI):aq prog 230 [eI a] (eF (.whole a)):=by
 refine gA_ nf func230 mix ?_;simp[f230];refine e1 (vU 1) ?_;have b:(NF.whole a).num=a:=by cases a;rfl
 have c:(NF.whole a).den=.mk' 1:=rfl;simp[aa,eF,b,c,QL]
theorem lL(n:Int)(h:-9223372036854775808<=n)(b:n<=9223372036854775807):aq prog 130 [.int .i64 n] (eF (.int n)):=by
 have a:=HC (.of n);rw[yi h b]at a;refine gA_ nf func130 mix ?_;simp[f130];refine c1 (vU n) ?_;simp;refine c1 a ?_;simp[aa];exact Wk.refl _
theorem HW(q:Rat):(if q<0 then(-1:Int)else if q=0 then 0 else 1)=if q.num<0 then -1 else if q.num=0 then 0 else 1:=by
 have a:q<0↔q.num<0:=by rw[<-Rat.not_le,<-Rat.num_nonneg];omega
 have b:q=0↔q.num=0:=ou.symm;simp only[a,b]
theorem nH(a:NF):aq prog 188 [eF a] (.int .i64 (if a.q<0 then -1 else if a.q=0 then 0 else 1)):=by
 have b:=xU a.num;refine gA_ nf func188 mix ?_;simp[f188,aa];refine c1 b ?_;simp;exact HW a.q
theorem ph(a:NF)(h:aJ kB a.q):aq prog 150 [eF a] (eF a.neg):=by
 have d:=ye a.num (jB h.1 tN);refine gA_ nf func150 mix ?_;simp[f150,aa];refine e1 d ?_;have b:a.neg.num=a.num.neg:=by show(⟨(-a.q).num,false⟩:NI)=⟨-a.q.num,false⟩;rw[oy]
 have c:a.neg.den=a.den:=by show(⟨((-a.q).den:Int),false⟩:NI)=⟨a.q.den,false⟩;rw[oz]
 simp[aa,eF,b,c]
theorem Zf{n d:NI}(j:0<d.v):(NI.mk' (fN n.v d.v)).v≠0/\0<fN n.v d.v/\(¬d.v=1->eI (n.div (.mk' (fN n.v d.v)))=eI (NF.make n d).num)/\eI (d.div (.mk' (fN n.v d.v)))=eI (NF.make n d).den:=by
 obtain⟨dn,e⟩:∃dn:Nat,d.v=dn:=⟨d.v.toNat,o_⟩
 have f:dn≠0:=o_
 obtain⟨e1,e2⟩:=nZ (n:=n.v) f;have c:fN n.v d.v=(md n.v.natAbs dn:Nat):=by rw[fN,e];rfl
 have k:0<md n.v.natAbs dn:=Nat.gcd_pos_of_pos_right _ o_;have i:(md n.v.natAbs dn:Int)∣n.v:=hr.2 (ob _ _);refine⟨by rw[NI.jV,c];omega,by rw[c];omega,fun g=>?_,?_⟩
 ·refine qg ?_ (fun _=>?_)
  ·show n.v/fN n.v d.v=(oq n.v d.v).num;rw[c,e,e1]
  ·show decide (n.v% fN n.v d.v≠0)=(n.m&&decide (d.v=1))
   rw[c,Int.emod_eq_zero_of_dvd i];simp[g]
 ·refine qg ?_ (fun h=>?_)
  ·show d.v/fN n.v d.v=((oq n.v d.v).den:Int)
   rw[c,e,e2];exact(Int.natCast_ediv _ _).symm
  ·have:d.v/fN n.v d.v= -9223372036854775808:=h;have:=g5 (a:=d.v) (b:=fN n.v d.v) o_ (by rw[c];omega);omega
theorem avL{n d:NI}(a:d.v<0):NF.make n.neg d.neg=NF.make n d:=by
 rw[NF.make,NF.make];have e1:oq n.neg.v d.neg.v=oq n.v d.v:=Rat.neg_divInt_neg _ _;have e2:(n.neg.m&&decide (d.neg.v=1))=(n.m&&decide (d.v=1)):=by
  rw[show n.neg.m=false from rfl,cc,decide_eq_false o_,b4]
 rw[e1,e2]
theorem Nn(n:Int):(oq n 1).num=n/\(oq n 1).den=1:=by
 obtain⟨e1,e2⟩:=nZ (n:=n) (show 1≠0 by decide);rw[n4]at e1 e2;refine⟨?_,?_⟩
 ·exact e1.trans (hD n)
 ·exact e2
theorem Ij(n d:NI)(u:d.v≠0)(hn:okW n.v)(l:okW d.v):aq prog 239 [eI n,eI d] (eF (.make n d)):=by
 have i:=xU d;refine gA_ nf func239 mix ?_;simp[f239,-aX];rw[aX];simp[-aX];refine join (fun s=>∃a d':NI,0<d'.v/\okW a.v/\okW d'.v/\NF.make a d'=NF.make n d/\aQ s.env 2=.ptr 0 []/\aQ s.env 3=.ptr 1 []/\aQ s.env 4=.ptr 2 []/\s.heap=[.box false (.p (eI a)),.box false (.p (eI d')),.box false (.p (.st 123 [.st 121 [.int .i64 0,.aI],.st 121 [.int .i64 0,.aI]]))]) ?_ ?_
 ·by_cases k:d.v<0
  ·rw[if_pos k]at i;simp;refine c1 i ?_;simp;refine e1 (ye n hn) ?_;simp;refine e1 (ye d l) ?_;simp[aa];exact⟨⟨rfl,rfl⟩,n.neg,d.neg,by rw[NI.I0];omega,uS hn (by rw[NI.I0];omega),uS l (by rw[NI.I0];omega),avL k,rfl,rfl⟩
  ·rw[if_neg k,if_neg u]at i;simp;refine c1 i ?_;simp;exact⟨n,d,o_,hn,l,rfl,rfl,rfl⟩
 ·rintro⟨z,A⟩ ⟨a,d',y1,y2,y3,y4,b,e,f,q⟩;dsimp only at b e f q;subst q;rw[<-y4];clear y4 i;have o:=Tu a d' y2 y3;obtain⟨g1,g2,g3,g4⟩:=Zf (n:=a) y1;have og:okW (fN a.v d'.v):=by
   refine uS y3 ?_;rw[fN];exact lw (nI (gt _)) (Nat.gcd_le_right _ o_)
  have r:=Tx a (.mk' (fN a.v d'.v)) g2 y2 og;have t:=Tx d' (.mk' (fN a.v d'.v)) g2 y3 og
  by_cases hs:d'.v=1
  ·have g:d'.sm=true:=NI.DI o_ o_;have w1:=o6 g;have j:=qd g;rw[hs]at j;have x:eF (.make a d')=.st 123 [eI a,eI d']:=by
    rw[eF];have r1:(NF.make a d').num=a:=by
     show(⟨(oq a.v d'.v).num,a.m&&decide (d'.v=1)⟩:NI)=a;rw[hs,(Nn _).1];simp
    have y:eI (NF.make a d').den=eI d':=by
     refine qg ?_ (fun h=>?_)
     ·show((oq a.v d'.v).den:Int)=d'.v;rw[hs,(Nn _).2];rfl
     ·have:((oq a.v d'.v).den:Int)= -9223372036854775808:=h;omega
    rw[r1,y]
   rw[x];simp[b,e,f,aa,w1,j,et,dB]
   done
  ·rw[eF,<-g3 hs,<-g4];have w:(wI d'=.aI/\¬sI d'=1)\/∃c cs,wI d'=.seq (c::cs):=by
    rcases g:d'.sm with _|_
    ·exact .inr (rA g)
    ·exact .inl ⟨o6 g,by rw[qd g];exact hs⟩
   rcases w with⟨w1,j⟩|⟨c,cs,w1⟩
   ·simp[b,e,f,aa,w1,j,et,dB];refine c2 o ?_;simp[b,e,f,aa];refine e2 r ?_;simp[b,e,f,aa];refine e2 t ?_;simp[b,e,f,aa]
    done
   ·simp[b,e,f,aa,w1,et,dB];refine c2 o ?_;simp[b,e,f,aa];refine e2 r ?_;simp[b,e,f,aa];refine e2 t ?_;simp[b,e,f,aa]
    done
theorem nC(a:NF):a.num.v=a.q.num:=rfl
theorem lI(a:NF):a.den.v=a.q.den:=rfl
theorem my(a:NF):a.den.v.natAbs=a.q.den:=by rw[lI,gt]
theorem vE{x y:NI}{k l:Nat}(hx:x.v.natAbs<2^k)(a:y.v.natAbs<2^l)(h:k+l<=4*kB):aq prog 219 [eI x,eI y] (eI (x.mul y)):=by
 have b:=CN hx;have c:=CN a;have d:kB=100000:=rfl;exact DR x y o_
theorem sF{x y:Int}{k l:Nat}(hx:x.natAbs<2^k)(a:y.natAbs<2^l):(x*y).natAbs<2^(k+l):=by
 rw[gm,kx];exact kH hx a
theorem Hh{n d:NI}{q:Rat}(m:Bool)(hq:oq n.v d.v=q)(a:(n.m&&decide (d.v=1))=m):NF.make n d=⟨q,m⟩:=by rw[NF.make,hq,a]
theorem avI(a b:NF):NF.make (a.num.mul b.num) (a.den.mul b.den)=a.mul b:=by
 refine Hh _ ?_ rfl;rw[NI.oZ,NI.oZ,nC,nC,lI,lI,oA,ot];rfl
theorem fU(a b:NF)(c:aJ kB a.q)(d:aJ kB b.q):aq prog 195 [eF a,eF b] (eF (a.mul b)):=by
 have f:=vE (x:=a.num) (y:=b.num) c.1 d.1 o_;have g:=vE (x:=a.den) (y:=b.den) (by rw[my];exact c.2) (by rw[my];exact d.2) o_;have e:=Ij (a.num.mul b.num) (a.den.mul b.den) (by rw[NI.oZ,lI,lI];have:=a.q.den_nz;have:=b.q.den_nz;exact hB o_ o_) (jB (sF c.1 d.1) o_) (jB (sF (x:=a.den.v) (y:=b.den.v) (by rw[my];exact c.2) (by rw[my];exact d.2)) o_);rw[avI]at e;refine gA_ nf func195 mix ?_;simp(maxDischargeDepth:=99) [f195,aa,aa,e2 f,e2 g,e2 e]
theorem avZ(a:NF)(h:a.q≠0):NF.make a.den a.num=a.inv:=by
 refine Hh _ ?_ rfl;rw[nC,lI];show oq a.q.den a.q.num=a.q⁻¹;rw[oB]
theorem yc(a:NF)(c:aJ kB a.q)(b:a.q≠0):aq prog 149 [eF a] (eF a.inv):=by
 have d:=Ij a.den a.num (by rw[nC];exact mt ou.1 b) (jB (by rw[my];exact c.2) tN) (jB c.1 tN);rw[avZ a b]at d;refine gA_ nf func149 mix ?_;simp[f149,aa,aa,c2 d]
theorem vT(a b:NF)(g:aJ kB a.q)(c:aJ kB b.q)(f:b.q≠0):aq prog 131 [eF a,eF b] (eF (a.div b)):=by
 have h:=yc b c f;have d:=fU a b.inv g (lH c);have e:a.mul b.inv=a.div b:=by
  rw[NF.mul,NF.div,NF.inv,oD]
 rw[e]at d;refine gA_ nf func131 mix ?_;simp(maxDischargeDepth:=99) [f131,aa,aa,e1 h,e2 d]
theorem awN(a b:NF)(h:¬(a.gG=true/\b.gG=true)):NF.make ((a.num.mul b.den).add (b.num.mul a.den)) (a.den.mul b.den)=a.add b:=by
 have g:(a.gG&&b.gG)=false:=by simpa using h
 refine Hh _ ?_ ?_
 ·rw[NI.vI,NI.oZ,NI.oZ,NI.oZ,nC,nC,lI,lI,ox];rfl
 ·rw[g,cc];have:¬(a.den.mul b.den).v=1:=by
   intro c;rw[NI.oZ,lI,lI]at c;have d:a.q.den*b.q.den=1:=by exact_mod_cast c
   have e:=Nat.eq_one_of_mul_eq_one_right d;have f:=Nat.eq_one_of_mul_eq_one_left d;exact h ⟨by rw[NF.gG];simp[e,f],by rw[NF.gG];simp[e,f]⟩
  rw[decide_eq_false this,b4]
theorem QN{q:Rat}(h:q.den=1):(q.num:Rat)=q:=by
 apply Rat.ext
 ·rw[Rat.num_intCast]
 ·rw[Rat.den_intCast,h]
theorem rJ(a b:NF)(i:aJ kB a.q)(j:aJ kB b.q):aq prog 193 [eF a,eF b] (eF (a.add b)):=by
 have w1:=Gu a;have l:=Gu b;refine gA_ nf func193 mix ?_
 by_cases hw:a.gG=true/\b.gG=true
 ·rw[hw.1]at w1;rw[hw.2]at l;have k:=AR a.num b.num (jB i.1 tN) (jB j.1 tN);have f:=HC (a.num.add b.num);have c:a.q.den=1:=by simpa[NF.gG]using hw.1
  have d:b.q.den=1:=by simpa[NF.gG]using hw.2
  have e:NF.whole (a.num.add b.num)=a.add b:=by
   rw[NF.whole,NF.add];have e1:(((a.num.add b.num).v:Int):Rat)=a.q+b.q:=by
    rw[NI.vI,nC,nC,Rat.intCast_add,QN c,QN d]
   have e2:(a.num.add b.num).m=(a.gG&&b.gG&&(a.num.sm&&b.num.sm)):=by rw[hw.1,hw.2];rfl
   rw[e1,e2]
  rw[e]at f;simp(maxDischargeDepth:=99) [f193,aa,aa,c1 w1,c1 l,c2 k,c1 f]
 ·have g:a.den.v.natAbs<2^kB:=by rw[my];exact i.2
  have h:b.den.v.natAbs<2^kB:=by rw[my];exact j.2
  have k:=vE (x:=a.num) (y:=b.den) i.1 h o_;have f:=vE (x:=b.num) (y:=a.den) j.1 g o_;have r:(a.num.mul b.den).v.natAbs<2^(kB+kB):=sF i.1 h;have s:(b.num.mul a.den).v.natAbs<2^(kB+kB):=sF j.1 g;have o:=AR _ _ (jB r o_) (jB s o_);have p:=vE (x:=a.den) (y:=b.den) g h o_;have t:((a.num.mul b.den).add (b.num.mul a.den)).v.natAbs<2^(kB+kB+1):=by
   rw[NI.vI,j9];exact kd (hv _ _) o_
  have u:kB=100000:=rfl;have n:=Ij ((a.num.mul b.den).add (b.num.mul a.den)) (a.den.mul b.den) (by rw[NI.oZ,lI,lI];have:=a.q.den_nz;have:=b.q.den_nz;exact hB o_ o_) (jB t o_) (jB (sF (x:=a.den.v) (y:=b.den.v) g h) o_);rw[awN a b hw]at n;have hc:a.gG=false\/(a.gG=true/\b.gG=false):=by
   rcases c:a.gG with _|_
   ·exact .inl rfl
   ·exact .inr ⟨rfl,by rcases d:b.gG with _|_;rfl;exact(hw ⟨c,d⟩).elim⟩
  rcases hc with c|⟨c,d⟩
  ·rw[c]at w1;simp(maxDischargeDepth:=99) [f193,aa,aa,c1 w1,e2 k,e2 f,e2 o,e2 p,e2 n]
  ·rw[c]at w1;rw[d]at l;simp(maxDischargeDepth:=99) [f193,aa,aa,c1 w1,c1 l,e2 k,e2 f,e2 o,e2 p,e2 n]
theorem nG(a b:NF)(d:aJ kB a.q)(c:aJ kB b.q):aq prog 194 [eF a,eF b] (eF (a.sub b)):=by
 have e:=ph b c;have f:=rJ a b.neg d (jQ c);refine gA_ nf func194 mix ?_;simp[f194,aa];refine e1 e ?_;simp[aa];refine e2 f ?_;simp[aa];exact Wk.refl _
def c8(x y:Rat):Int:=if x<y then -1 else if x=y then 0 else 1
theorem aPE(a b:Rat):mg (a.num*b.den) (b.num*a.den)=c8 a b:=by
 have c:a<b↔a.num*b.den<b.num*a.den:=oG _ _;have f:a=b↔a.num*b.den=b.num*a.den:=by
  constructor
  ·rintro rfl;rfl
  ·intro h
   by_cases d:a<b
   ·rw[c]at d;omega
   ·by_cases e:b<a
    ·have g:=(oG b a).1 e;omega
    ·exact Rat.le_antisymm (oF.1 e) (oF.1 d)
 simp only[mg,c8,c,f]
theorem tC(a b:NF)(c:aJ kB a.q)(d:aJ kB b.q):aq prog 120 [eF a,eF b] (.int .i64 (c8 a.q b.q)):=by
 have e:a.den.v.natAbs<2^kB:=by rw[my];exact c.2
 have f:b.den.v.natAbs<2^kB:=by rw[my];exact d.2
 have j:=vE (x:=a.num) (y:=b.den) c.1 f o_;have k:=vE (x:=b.num) (y:=a.den) d.1 e o_;have h:(a.num.mul b.den).v.natAbs<2^(kB+kB):=sF c.1 f;have i:(b.num.mul a.den).v.natAbs<2^(kB+kB):=sF d.1 e;have g:=Tt _ _ (jB h o_) (jB i o_);rw[NI.oZ,NI.oZ,nC,nC,lI,lI,aPE]at g;refine gA_ nf func120 mix ?_;simp(maxDischargeDepth:=99) [f120,aa,aa,e2 j,e2 k,e2 g]
def low:Nat->Nat->List Nat
 |0,_=>[]
 |i+1,n=>(48+n/10^i% 10)::low i n
def nd(n:Nat):Nat:=if h:n=0 then 0 else nd (n/10)+1
 decreasing_by omega
theorem rG:∀(i n:Nat),i<nd n↔10^i<=n
 |0,n=>by
  rw[nd];split
  ·subst n;simp
  ·simp;omega
 |i+1,n=>by
  rw[nd];split
  ·rename_i h;subst h;have:=kc (n:=i+1) (show 0<10 by omega);constructor
   ·intro h;omega
   ·intro h;omega
  ·have:=rG i (n/10);rw[kX o_,<-j9]at this;rw[<-this];omega
theorem uY(b n:Nat):∀a,low (a+b) n=low a (n/10^b)++low b n
 |0=>by simp[low]
 |a+1=>by
  rw[show a+1+b=(a+b)+1 by omega,low,low,uY b n a,kb,<-kx,lb b a];rfl
theorem Hi(n k:Nat):∀b,b<=k->low b (n% 10^k)=low b n
 |0,_=>rfl
 |b+1,h=>by
  have e:k=b+(k-b-1+1):=o_
  have a:n% 10^k/10^b=n/10^b% 10^(k-b-1+1):=by
   conv=>lhs;rw[e,kx]
   rw[l2]
  rw[low,low,Hi n k b o_,a,Nat.mod_mod_of_dvd _ (Nat.pow_dvd_pow 10 (show 1<=k-b-1+1 by omega)|>fun h=>by simpa using h)]
theorem aPi{n m:Nat}(h:∀i,i<nd n↔i<m):nd n=m:=by
 have a:=h m;have b:=h (nd n);omega
theorem HY{n k:Nat}(h:10^k<=n):nd n=nd (n/10^k)+k:=by
 refine aPi fun i=>?_;rw[rG]
 by_cases hi:i<k
 ·have:=j8 (show 0<10 by omega) (oj hi);constructor
  ·intro _;omega
  ·intro _;omega
 ·obtain⟨j,rfl⟩:∃j,i=j+k:=⟨i-k,o_⟩
  rw[kx,<-kX (kc o_),<-rG];omega
theorem vG{n k:Nat}(h:n<10^k):nd n<=k:=by
 rcases kA k (nd n)with a|a
 ·rw[rG]at a;omega
 ·exact a
theorem DB{n:Nat}(h:0<n):0<nd n:=by rw[rG,kC];exact h
theorem avM{M:Nat}(h:10^9<=M):low (nd M) M=low (nd (M/10^9)) (M/10^9)++low 9 (M% 10^9):=by
 rw[HY h,uY,Hi _ _ _ (kv 9)]
theorem uX(n:Nat):∀i,(low i n).length=i
 |0=>rfl
 |i+1=>by simp[low,uX n i]
def br(n:Nat):List Nat:=low (max 1 (nd n)) n
def bZ(z:Int):List Nat:=if z<0 then 45::br z.natAbs else br z.natAbs
def aR(q:Rat):List Nat:=if q.den=1 then bZ q.num else bZ q.num++47::br q.den
def bm(s:List Nat):Nat:=s.foldl (fun n c=>n*10+(c-48)) 0
def cN(c:Nat):Bool:=decide (48<=c)&&decide (c<=57)
theorem Cz(s:List Nat)(c:Nat):bm (s++[c])=bm s*10+(c-48):=by simp[bm]
theorem xu(i n:Nat):low (i+1) n=low i (n/10)++[48+n% 10]:=by
 have:=uY 1 n i;rw[this];simp[low]
theorem Uu:∀(i n:Nat),(low i n).all cN=true
 |0,n=>rfl
 |i+1,n=>by
  rw[low,hV,Uu i n];have:=kh (n/10^i) (show 0<10 by omega);simp[cN];omega
theorem Pj:∀(i n:Nat),bm (low i n)=n% 10^i
 |0,n=>by simp[low,bm,l0]
 |i+1,n=>by
  rw[xu,Cz,Pj i,j9,j4 (10^i),m9];omega
theorem GX(n:Nat):n<10^nd n:=by
 rcases kA n (10^nd n)with h|h
 ·exact h
 ·have:=(rG (nd n) n).2 h;omega
theorem CQ(n:Nat):bm (br n)=n:=by
 rw[br,Pj];refine j5 (j7 (GX n) (j8 o_ o_))
theorem uT(n:Nat):(br n).length=max 1 (nd n):=uX _ _
theorem vq(n:Nat):(br n).all cN=true:=Uu _ _
theorem uG:br 0=[48]:=by
 have:nd 0=0:=by rw[nd,dif_pos rfl]
 rw[br,this];rfl
def eE(s:List Nat):Bool:=!s.isEmpty&&s.all cN&&(decide (s.head?≠some 48)||decide (s=[48]))
theorem lC:∀(k:Nat)(s:List Nat),s.length=k->s.all cN=true->bm s<10^k
 |0,s,h,_=>by
            have:s=[]:=hW.1 h
            subst this;simp[bm]
 |n+1,s,h,a=>by
  have b:s≠[]:=by intro e;subst e;simp at h
  obtain⟨t,c,rfl⟩:∃t c,s=t++[c]:=⟨s.dropLast,s.getLast b,(h5 b).symm⟩
  simp only[i8,hV,j2,b5,b2]at a;have d:=lC n t (by simpa using h) a.1;have hc:=a.2;simp only[cN,b2,decide_eq_true_eq]at hc;rw[Cz,j9];omega
theorem Qh:∀(k:Nat)(s:List Nat),s.length=k->s.all cN=true->low k (bm s)=s
 |0,s,h,_=>by
            have:s=[]:=hW.1 h
            subst this;rfl
 |n+1,s,h,a=>by
  have b:s≠[]:=by intro e;subst e;simp at h
  obtain⟨t,c,rfl⟩:∃t c,s=t++[c]:=⟨s.dropLast,s.getLast b,(h5 b).symm⟩
  simp only[i8,hV,j2,b5,b2]at a;have d:=Qh n t (by simpa using h) a.1;have hc:=a.2;simp only[cN,b2,decide_eq_true_eq]at hc;rw[xu,Cz];have e1:(bm t*10+(c-48))/10=bm t:=o_
  have e2:(bm t*10+(c-48))% 10=c-48:=o_
  rw[e1,e2,d];congr 2;omega
theorem Xt(c:Nat)(s:List Nat)(h:49<=c):10^s.length<=bm (c::s):=by
 have key:∀(s:List Nat)(a:Nat),a*10^s.length<=s.foldl (fun n c=>n*10+(c-48)) a:=by
  intro s
  induction s with
  |nil=>intro a;simp
  |cons x r b=>
   intro a;rw[i7,hX];refine lw ?_ (b _);rw[j9,j4 (10^r.length),<-kp];exact kf _ o_
 have:=key s (c-48);rw[bm,i7,l5,lu];refine lw ?_ this;have:1*10^s.length<=(c-48)*10^s.length:=kf _ o_;omega
theorem Aq{s:List Nat}(h:eE s=true):br (bm s)=s:=by
 simp only[eE,b2,b3,decide_eq_true_eq,cb]at h;obtain⟨⟨f,a⟩,b⟩:=h;rcases b with b|rfl
 ·cases s with
  |nil=>simp at f
  |cons c r=>
   have hc:cN c=true:=by simpa using(hV.symm.trans a|>fun h=>by simpa using h:cN c=true/\r.all cN=true).1
   simp only[cN,b2,decide_eq_true_eq]at hc;have i:49<=c:=by
    have:c≠48:=fun e=>b (by rw[e];rfl);omega
   have g:=lC _ _ rfl a;have j:=Xt c r i;have hn:nd (bm (c::r))=r.length+1:=by
    have k:=(rG r.length _).2 j;have d:=vG g;rw[hX]at d;omega
   rw[br,hn,show max 1 (r.length+1)=r.length+1 by omega];exact Qh _ _ rfl a
 ·have:bm [48]=0:=rfl;rw[this,uG]
def cC(c:Nat):List Nat->List Nat×List Nat×Bool
 |[]=>([],[],false)
 |x::r=>if x=c then([],r,true)else(x::(cC c r).1,(cC c r).2.1,(cC c r).2.2)
theorem GM(c:Nat):∀(a b:List Nat),c∉a->cC c (a++c::b)=(a,b,true)
 |[],b,_=>by simp[cC]
 |x::a,b,h=>by
  simp only[js,not_or]at h;rw[hS,cC,if_neg (fun e=>h.1 e.symm),GM c a b h.2]
theorem Gt(c:Nat):∀(a:List Nat),c∉a->cC c a=(a,[],false)
 |[],_=>rfl
 |x::a,h=>by
  simp only[js,not_or]at h;rw[cC,if_neg (fun e=>h.1 e.symm),Gt c a h.2]
theorem sW(c:Nat):∀(s:List Nat),((cC c s).2.2=true/\s=(cC c s).1++c::(cC c s).2.1)\/((cC c s).2.2=false/\(cC c s).1=s/\(cC c s).2.1=[])
 |[]=>by simp[cC]
 |x::s=>by
  rw[cC]
  by_cases h:x=c
  ·subst h;simp
  ·rw[if_neg h];rcases sW c s with⟨a,b⟩|⟨a,b,d⟩
   ·left;exact⟨a,by dsimp only;rw[hS,<-b]⟩
   ·right;exact⟨a,by dsimp only;rw[b],d⟩
def cr(s:List Nat):Bool:=decide (s.head?=some 45)
def dK(s:List Nat):List Nat:=if cr s=true then s.tail else s
def bQ(s:List Nat):List Nat:=(cC 47 (dK s)).1
def b6(s:List Nat):List Nat:=(cC 47 (dK s)).2.1
def fE(s:List Nat):Bool:=(cC 47 (dK s)).2.2
def qf(s:List Nat):Bool:=eE (bQ s)&&!(cr s&&decide (bQ s=[48]))&&(!fE s||(eE (b6 s)&&decide (b6 s≠[48])&&decide (b6 s≠[49])))
def cz(s:List Nat):Int:=
 if qf s=false then 1
 else if 600<(bQ s).length\/600<(b6 s).length then 4
 else if fE s=true/\md (bm (bQ s)) (bm (b6 s))≠1 then 1 else 0
def aS(s:List Nat):Rat:=oq (if cr s=true then -(bm (bQ s):Int)else bm (bQ s)) (if fE s=true then bm (b6 s)else 1:Nat)
theorem EI{s:List Nat}(h:s.all cN=true){c:Nat}(hc:cN c=false):c∉s:=by
 intro a;rw[iz]at h;rw[h c a]at hc;cases hc
theorem lX{s:List Nat}(h:eE s=true):s.all cN=true:=by
 simp only[eE,b2]at h;exact h.1.2
theorem zy(n:Nat):bZ (n:Int)=br n:=by
 rw[bZ,if_neg o_];rfl
theorem aRf{n:Nat}(h:0<n):bZ (-(n:Int))=45::br n:=by
 rw[bZ,if_pos o_];congr 1;rw[hg];rfl
theorem CR{s:List Nat}(h:eE s=true)(a:s≠[48]):0<bm s:=by
 rcases kL (bm s)with e|e
 ·have:=Aq h;rw[e,uG]at this;exact(a this.symm).elim
 ·exact e
theorem iQ{s:List Nat}(h:cz s=0):aR (aS s)=s/\(aS s).num=(if cr s=true then -(bm (bQ s):Int)else bm (bQ s))/\(aS s).den=(if fE s=true then bm (b6 s)else 1:Nat):=by
 unfold cz at h
 split at h
 ·cases h
 rename_i a
 split at h
 ·cases h
 split at h
 ·cases h
 rename_i f;have a:qf s=true:=by simpa using a
 simp only[qf,b2,cb,Bool.and_eq_false_iff,decide_eq_false_iff_not,b3,decide_eq_true_eq]at a;obtain⟨⟨b,a2⟩,a3⟩:=a;have hs:s=(if cr s=true then[45]else[])++dK s:=by
  rw[dK]
  by_cases hn:cr s=true
  ·rw[if_pos hn,if_pos hn];simp only[cr,decide_eq_true_eq]at hn;cases s with
   |nil=>simp at hn
   |cons c r=>simp at hn;subst hn;rfl
  ·rw[if_neg hn,if_neg hn];rfl
 have g:(if fE s=true then bm (b6 s)else 1:Nat)≠0:=by
  split
  ·rename_i hf;rcases a3 with a3|a3
   ·rw[hf]at a3;cases a3
   ·have:=CR a3.1.1 a3.1.2;omega
  ·omega
 have i:md (if cr s=true then -(bm (bQ s):Int)else bm (bQ s)).natAbs (if fE s=true then bm (b6 s)else 1:Nat)=1:=by
  have e:(if cr s=true then -(bm (bQ s):Int)else bm (bQ s)).natAbs=bm (bQ s):=by split<;>omega
  rw[e]
  by_cases hf:fE s=true
  ·rw[if_pos hf];exact Decidable.not_not.1 fun e=>f ⟨hf,e⟩
  ·rw[if_neg hf,n4]
 obtain⟨e1,e2⟩:=nZ (n:=if cr s=true then -(bm (bQ s):Int)else bm (bQ s)) g;rw[i]at e1 e2;simp only[lt]at e2;have e1:(aS s).num=(if cr s=true then -(bm (bQ s):Int)else bm (bQ s)):=by rw[aS,e1];exact hD _
 have e2:(aS s).den=(if fE s=true then bm (b6 s)else 1:Nat):=e2;refine⟨?_,e1,e2⟩;have hI:bZ (aS s).num=(if cr s=true then[45]else[])++bQ s:=by
  rw[e1]
  by_cases hn:cr s=true
  ·rw[if_pos hn,if_pos hn,aRf,Aq b];·rfl
   refine CR b ?_;rcases a2 with a2|a2
   ·rw[hn]at a2;cases a2
   ·exact a2
  ·rw[if_neg hn,if_neg hn,zy,Aq b];rfl
 rw[aR,hI,e2]
 by_cases hf:fE s=true
 ·have d:eE (b6 s)=true/\b6 s≠[48]/\b6 s≠[49]:=by
   rcases a3 with a3|a3
   ·rw[hf]at a3;cases a3
   ·exact⟨a3.1.1,a3.1.2,a3.2⟩
  have j:bm (b6 s)≠1:=by
   intro e;have:=Aq d.1;rw[e]at this;have a:nd 1=1:=by rw[nd,dif_neg o_,nd,dif_pos o_]
   have:br 1=[49]:=by rw[br,a];rfl
   exact d.2.2 (by rw[<-this];assumption|>Eq.symm)
  rw[if_pos hf,if_neg j,Aq d.1]
  conv=>rhs;rw[hs]
  rw[List.append_assoc];congr 1;rcases sW 47 (dK s)with⟨g1,g2⟩|⟨g1,_⟩
  ·exact g2.symm
  ·rw[fE,g1]at hf;cases hf
 ·rw[if_neg hf,if_pos rfl]
  conv=>rhs;rw[hs]
  congr 1;rcases sW 47 (dK s)with⟨g1,g2⟩|⟨g1,g2,_⟩
  ·exact(hf g1).elim
  ·exact g2
theorem CA(z:Int)(r:List Nat):cr (bZ z++r)=decide (z<0)/\dK (bZ z++r)=br z.natAbs++r:=by
 by_cases h:z<0
 ·have:bZ z=45::br z.natAbs:=by rw[bZ,if_pos h]
  rw[this];simp[cr,dK,h]
 ·have e:bZ z=br z.natAbs:=by rw[bZ,if_neg h]
  have a:=vq z.natAbs;have b:=uT z.natAbs;rw[e];have hn:cr (br z.natAbs++r)=false:=by
   cases d:br z.natAbs with
   |nil=>rw[d]at b;simp at b;omega
   |cons c t=>
    rw[d]at a;simp only[hV,b2]at a;have hc:=a.1;simp only[cN,b2,decide_eq_true_eq]at hc;have:¬(some c=some 45):=by intro e;injection e with e;omega
    simp only[cr,hS,i6,this,decide_false]
  exact⟨by rw[hn];simp[h],by rw[dK,hn];simp⟩
theorem zQ(q:Rat):cr (aR q)=decide (q.num<0)/\bQ (aR q)=br q.num.natAbs/\fE (aR q)=decide (q.den≠1)/\b6 (aR q)=if q.den=1 then[]else br q.den:=by
 have d:47∉br q.num.natAbs:=EI (vq _) rfl
 by_cases h:q.den=1
 ·have e:aR q=bZ q.num++[]:=by rw[aR,if_pos h,hO]
  obtain⟨c,b⟩:=CA q.num [];rw[hO,hO]at b;have a:=Gt 47 _ d;rw[<-b]at a;rw[e];refine⟨c,?_,?_,?_⟩
  ·rw[hO,bQ,a,b]
  ·rw[hO,fE,a,h];rfl
  ·rw[hO,b6,a,if_pos h]
 ·have e:aR q=bZ q.num++47::br q.den:=by rw[aR,if_neg h]
  obtain⟨c,b⟩:=CA q.num (47::br q.den);have a:=GM 47 _ (br q.den) d;rw[<-b]at a;rw[e];refine⟨c,?_,?_,?_⟩
  ·rw[bQ,a]
  ·rw[fE,a];simp[h]
  ·rw[b6,a,if_neg h]
theorem Dl(q:Rat):aS (aR q)=q:=by
 obtain⟨a,b,c,d⟩:=zQ q;have e1:(if cr (aR q)=true then -(bm (bQ (aR q)):Int)else bm (bQ (aR q)))=q.num:=by
  rw[a,b,CQ]
  by_cases h:q.num<0
  ·simp[h];omega
  ·simp[h];omega
 have e2:(if fE (aR q)=true then bm (b6 (aR q))else 1:Nat)=q.den:=by
  rw[c,d]
  by_cases h:q.den=1
  ·simp[h]
  ·simp[h,CQ]
 rw[aS,e1,e2,Rat.num_divInt_den]
theorem aRh{a b:Rat}(h:aR a=aR b):a=b:=by rw[<-Dl a,h,Dl]
theorem aRg:br 1=[49]:=by
 have a:nd 1=1:=by rw[nd,dif_neg o_,nd,dif_pos o_]
 rw[br,a];rfl
theorem zx{n k:Nat}(h:n<10^k)(hk:1<=k):(br n).length<=k:=by
 rw[uT];have:=vG h;omega
theorem RN{n k:Nat}(h:(br n).length<=k):n<10^k:=by
 rw[uT]at h;exact j7 (GX n) (j8 o_ o_)
theorem He(z:Int):(bZ z).length<=(br z.natAbs).length+1:=by
 rw[bZ];split<;>simp
theorem aRi(q:Rat):(aR q).length<=(br q.num.natAbs).length+(br q.den).length+2:=by
 have:=He q.num;rw[aR];split<;>simp<;>omega
theorem YL(k:Nat):2^(3*k)<=10^k:=by
 rw[m8];exact Nat.pow_le_pow_left o_ k
theorem NQ{n k:Nat}(h:n<2^(3*k))(hk:1<=k):(br n).length<=k:=zx (j7 h (YL k)) hk
theorem AX{n k K:Nat}(h:n<2^K)(a:K<=3*k)(hk:1<=k):(br n).length<=k:=NQ (j7 h (j8 d_ a)) hk
def mD:Nat:=600
theorem Ke{s:List Nat}(h:cz s=0):(aS s).num.natAbs<10^mD/\(aS s).den<10^mD:=by
 obtain⟨k,f,g⟩:=iQ h;unfold cz at h
 split at h
 ·cases h
 rename_i a
 split at h
 ·cases h
 rename_i l;have a:qf s=true:=by simpa using a
 simp only[qf,b2,b3,decide_eq_true_eq]at a;obtain⟨⟨b,_⟩,a3⟩:=a;have c:=lC _ _ rfl (lX b);have i:10^(bQ s).length<=10^mD:=j8 o_ (by rw[mD];omega);refine⟨?_,?_⟩
 ·rw[f];have e:(if cr s=true then -(bm (bQ s):Int)else bm (bQ s)).natAbs=bm (bQ s):=by split<;>omega
  rw[e];exact j7 c i
 ·rw[g]
  by_cases hf:fE s=true
  ·rw[if_pos hf];rcases a3 with a3|a3
   ·rw[hf]at a3;cases a3
   ·have d:=lC _ _ rfl (lX a3.1.1);have j:10^(b6 s).length<=10^mD:=j8 o_ (by rw[mD];omega);exact j7 d j
  ·rw[if_neg hf];exact Nat.one_lt_pow d_ o_
open Go
def fA(l:List UInt8):List Nat:=l.map (·.toNat)
theorem YT(l:List UInt8):(fA l).map oM=l:=by
 induction l with
 |nil=>rfl
 |cons a r b=>simp only[fA,hM]at b⊢;rw[b];simp
def rO(c:Nat):List Nat->Nat->Int
 |[],_=>-1
 |x::r,i=>bif m4 x c then(i:Int)else rO c r (i+1)
theorem Qq(c:UInt8):∀(l:List UInt8)(i:Nat),rO c.toNat (fA l) i=if ed l c= -1 then -1 else ed l c+i
 |[],i=>by simp[rO,fA,ed]
 |x::r,i=>by
  have b:=Qq c r (i+1);simp only[fA]at b;simp only[fA,hM,rO,ed]
  by_cases hx:x=c
  ·subst hx;simp
  ·have hn:m4 x.toNat c.toNat=false:=by
    cases d:m4 x.toNat c.toNat
    ·rfl
    ·exact(hx (oH.1 (mo d))).elim
   have e:=Lib.indexByte_ge r c;simp only[hn,cond_false,b,beq_iff_eq,hx,if_false]
   by_cases a:ed r c= -1
   ·simp[a]
   ·rw[if_neg a,if_neg a];rw[if_neg o_];omega
theorem Qr(c:Nat):∀(s:List Nat)(k:Nat),((cC c s).2.2=false/\rO c s k= -1/\cC c s=(s,[],false))\/
 ∃i,i<s.length/\rO c s k=((k+i:Nat):Int)/\cC c s=(s.take i,s.drop (i+1),true)
 |[],k=>by simp[cC,rO]
 |x::r,k=>by
  rw[cC,rO]
  by_cases h:x=c
  ·subst h;right;refine⟨0,s_,?_,?_⟩
   ·simp
   ·simp
  ·have d:m4 x c=false:=by
    cases d:m4 x c
    ·rfl
    ·exact(h (mo d)).elim
   rw[d,if_neg h,cond_false];rcases Qr c r (k+1)with⟨e,a,b⟩|⟨i,e,a,b⟩
   ·left;exact⟨e,a,by rw[b]⟩
   ·right;refine⟨i+1,by simp;omega,?_,?_⟩
    ·rw[a];congr 1;omega
    ·rw[b];simp
theorem H6(n:Nat):fA (eb n)=br n:=by
 induction n using nb with
 |ind n a=>
  rw[eb]
  by_cases h:n<10
  ·rw[dif_pos h,br];have c:nd n<=1:=vG o_;rw[show max 1 (nd n)=1 by omega];rw[show(1:Nat)=0+1 from rfl,xu,low,iA,j5 h];simp[fA,oN];omega
  ·rw[dif_neg h];have b:=a (n/10) o_;have e:nd n=nd (n/10)+1:=by
    have:=HY (n:=n) (k:=1) o_;rw[lv]at this;exact this
   have d:0<nd (n/10):=DB o_;rw[br,e,show max 1 (nd (n/10)+1)=max 1 (nd (n/10))+1 by omega,xu];have:fA (eb (n/10)++[oM (48+n% 10)])=fA (eb (n/10))++[48+n% 10]:=by
    simp[fA,oN];omega
   rw[this,b,br]
theorem aOG(z:Int):fA (eM z)=bZ z:=by
 rw[eM,bZ]
 by_cases h:z<0
 ·rw[if_pos h,if_pos h];show 45::fA _=_;rw[H6]
 ·rw[if_neg h,if_neg h,H6];congr 1;omega
def wA(s:List Nat):Nat->List Nat
 |0=>[]
 |n+1=>s++wA s n
theorem PA(s:List UInt8):∀n,wA (fA s) n=fA (ew s n)
 |0=>by simp[wA,ew,fA]
 |n+1=>by
  have a:=PA s n;simp only[fA]at a;simp[wA,ew,fA,a]
theorem GD(c:Nat):∀n,wA [c] n=hP n c
 |0=>rfl
 |n+1=>by rw[wA,GD c n];rfl
theorem F7(l:List UInt8):ej l [45]=cr (fA l):=by
 cases l with
 |nil=>rfl
 |cons c r=>
  rw[ej,cr];simp only[fA,hM,List.isPrefixOf,i6,b5,Option.some.injEq]
  by_cases h:c=45
  ·subst h;rfl
  ·have a:¬c.toNat=45:=fun e=>h (oH.1 e);have b:((45:UInt8)==c)=false:=by simpa using fun e=>h e.symm
   rw[b];simp[a]
theorem M8(l:List UInt8):fA (ei l [45])=dK (fA l):=by
 rw[ei,F7,dK];cases h:cr (fA l)
 ·simp
 ·cases l with
  |nil=>simp[fA,cr]at h
  |cons c r=>simp[fA]
def nB(s:List Nat):List Nat:=s.dropWhile cN
def kq(s:List Nat):List Nat:=(s.reverse.dropWhile cN).reverse
theorem B7{p:Nat->Bool}:∀{s:List Nat},s.dropWhile p=[]↔s.all p=true
 |[]=>by simp
 |x::r=>by
  rw[List.dropWhile_cons];cases h:p x
  ·simp[h]
  ·simp[h,B7]
theorem Zs(s:List Nat):nB (kq s)=[]↔s.all cN=true:=by
 rw[nB,B7,kq];constructor
 ·intro h
  by_cases a:s.reverse.dropWhile cN=[]
  ·rw[B7,h4]at a;exact a
  ·have b:=List.head_dropWhile_not cN a;rw[h4,iz]at h;rw[h _ (List.head_mem a)]at b;cases b
 ·intro h;have:s.reverse.dropWhile cN=[]:=by rw[B7,h4];exact h
  rw[this];rfl
end Go.ag
namespace Go.Proofs
open Go.Shelf
def Tryz.YG:gg:=⟨fun|103=>319|210=>345|206=>327|n=>n,fun|9=>9|4=>4|24=>374|3=>3|n=>n,fun|n=>n⟩
theorem Tryz.aO3:gb prog YG:={
 mixed:=k_
 f103:=func319.trans (congrArg some k_)
 f206:=func327.trans (congrArg some k_)
 f210:=func345.trans (congrArg some k_)
 t3:=underlying3
 a3:=isAgg3
 z3:=sizeOf3
 v3:=zeroValue3
 t4:=underlying4
 a4:=isAgg4
 z4:=sizeOf4
 v4:=zeroValue4
 t9:=underlying9
 a9:=isAgg9
 z9:=sizeOf9
 v9:=zeroValue9
 t24:=underlying374
 a24:=isAgg374
 z24:=sizeOf374
 v24:=zeroValue374}
open Go.RowKit in
theorem Tryz.strings_CutPrefix(s p:ByteArray)(w:cx):
 cy prog 319 #[.string s,.string p] w fun e w'=>e=.returned (.tuple #[.string ⟨(ei s.data.toList p.data.toList).toArray⟩,.bool (ej s.data.toList p.data.toList)])/\w'=w:=Any.strings_CutPrefix aO3 s p w
def Tryz.YA:gg:=⟨fun|283=>357|n=>n,fun|3=>3|9=>9|4=>4|n=>n,fun|n=>n⟩
theorem Tryz.aO9:fb prog YA:={
 mixed:=k_
 f283:=func357.trans (congrArg some k_)
 t3:=underlying3
 a3:=isAgg3
 z3:=sizeOf3
 v3:=zeroValue3
 t4:=underlying4
 a4:=isAgg4
 z4:=sizeOf4
 v4:=zeroValue4
 t9:=underlying9
 a9:=isAgg9
 z9:=sizeOf9
 v9:=zeroValue9}
open Go.Lib in
theorem Tryz.internal_strconv_small(i:Nat)(h:i<100)(w:cx):
 cy prog 357 #[.int .i64 i] w fun e w'=>e=.returned (.string ⟨(eb i).toArray⟩)/\w'=w:=Any.internal_strconv_small aO9 i h w
def Tryz.XX:gg:=⟨fun|284=>358|129=>324|317=>376|318=>377|n=>n,fun|53=>329|3=>3|212=>422|0=>0|4=>4|46=>371|5=>5|9=>9|n=>n,fun|17=>5|n=>n⟩
theorem Tryz.avR:Go.Proofs.LaysM.n284 prog XX:={
 mixed:=k_
 f129:=func324.trans (congrArg some k_)
 f284:=func358.trans (congrArg some k_)
 f317:=func376.trans (congrArg some k_)
 f318:=func377.trans (congrArg some k_)
 t0:=underlying0
 a0:=isAgg0
 z0:=sizeOf0
 v0:=zeroValue0
 t3:=underlying3
 a3:=isAgg3
 z3:=sizeOf3
 v3:=zeroValue3
 t4:=underlying4
 a4:=isAgg4
 z4:=sizeOf4
 v4:=zeroValue4
 t5:=underlying5
 a5:=isAgg5
 z5:=sizeOf5
 v5:=zeroValue5
 t9:=underlying9
 a9:=isAgg9
 z9:=sizeOf9
 v9:=zeroValue9
 t46:=underlying371
 a46:=isAgg371
 z46:=sizeOf371
 v46:=zeroValue371
 t53:=underlying329
 a53:=isAgg329
 z53:=sizeOf329
 v53:=zeroValue329
 t212:=underlying422
 a212:=isAgg422
 z212:=sizeOf422
 v212:=zeroValue422
 g17:=k_
 i0:=k_
 i3:=k_
 i4:=k_
 i5:=k_
 i9:=k_
 i46:=k_
 i53:=k_
 i212:=k_
 m17:=k_}
open Go.Lib in
theorem Tryz.internal_strconv_numDigits(u:Nat)(h1:1<=u)(h2:u<18446744073709551616)(w:cx)(htab:er prog w "internal/strconv.uint64pow10" .u64 eq):
 cy prog 358 #[.int .u64 u] w fun e w'=>e=.returned (.int .i64 (ec u))/\w'=w:=Any.internal_strconv_numDigits avR u h1 h2 w htab
def Tryz.Yz:gg:=⟨fun|285=>359|n=>n,fun|37=>357|53=>329|3=>3|4=>4|51=>402|9=>9|5=>5|0=>0|n=>n,fun|n=>n⟩
theorem Tryz.aPa:e9 prog Yz:={
 mixed:=k_
 f285:=func359.trans (congrArg some k_)
 t0:=underlying0
 a0:=isAgg0
 z0:=sizeOf0
 v0:=zeroValue0
 t3:=underlying3
 a3:=isAgg3
 z3:=sizeOf3
 v3:=zeroValue3
 t4:=underlying4
 a4:=isAgg4
 z4:=sizeOf4
 v4:=zeroValue4
 t5:=underlying5
 a5:=isAgg5
 z5:=sizeOf5
 v5:=zeroValue5
 t9:=underlying9
 a9:=isAgg9
 z9:=sizeOf9
 v9:=zeroValue9
 t37:=underlying357
 a37:=isAgg357
 z37:=sizeOf357
 v37:=zeroValue357
 t51:=underlying402
 a51:=isAgg402
 z51:=sizeOf402
 v51:=zeroValue402
 t53:=underlying329
 a53:=isAgg329
 z53:=sizeOf329
 v53:=zeroValue329}
open Go.RowKit Go.Sort Go.Lib in
theorem Tryz.internal_strconv_formatBase10(au off cap:Nat)(u:Nat)(d:Array UInt8)(w:cx)(hH:Holds (fun(b:UInt8)=>gj .u8 (b.toNat:Int)) w au off d)(hu:u<10^d.size)(hu64:u<18446744073709551616)(hsz:d.size<4611686018427387904):
 cy prog 359 #[.slice (some ⟨au,off,none⟩) d.size cap,.int .u64 u] w fun e w'=>
  e=.returned (.tuple #[])/\∃(n v':Nat)(dk:Array UInt8),w'=(putRow (fun(b:UInt8)=>gj .u8 (b.toNat:Int)) w au off dk).drewN n/\FmtInv d.size u 0 v' dk:=Any.internal_strconv_formatBase10 aPa au off cap u d w hH hu hu64 hsz
def Tryz.XJ:gg:=⟨fun|171=>298|243=>332|246=>356|283=>357|284=>358|285=>359|286=>360|129=>324|317=>376|318=>377|319=>378|320=>379|337=>387|338=>388|n=>n,fun|3=>3|9=>9|2=>2|4=>4|171=>398|0=>0|53=>329|37=>357|5=>5|173=>400|212=>422|51=>402|20=>20|213=>423|46=>371|232=>436|233=>437|n=>n,fun|17=>5|18=>6|19=>7|n=>n⟩
theorem Tryz.avS:Go.Proofs.LaysM.n171 prog XJ:={
 mixed:=k_
 f129:=func324.trans (congrArg some k_)
 f171:=func298.trans (congrArg some k_)
 f243:=func332.trans (congrArg some k_)
 f246:=func356.trans (congrArg some k_)
 f283:=func357.trans (congrArg some k_)
 f284:=func358.trans (congrArg some k_)
 f285:=func359.trans (congrArg some k_)
 f286:=func360.trans (congrArg some k_)
 f317:=func376.trans (congrArg some k_)
 f318:=func377.trans (congrArg some k_)
 f319:=func378.trans (congrArg some k_)
 f320:=func379.trans (congrArg some k_)
 f337:=func387.trans (congrArg some k_)
 f338:=func388.trans (congrArg some k_)
 t0:=underlying0
 a0:=isAgg0
 z0:=sizeOf0
 v0:=zeroValue0
 t2:=underlying2
 a2:=isAgg2
 z2:=sizeOf2
 v2:=zeroValue2
 t3:=underlying3
 a3:=isAgg3
 z3:=sizeOf3
 v3:=zeroValue3
 t4:=underlying4
 a4:=isAgg4
 z4:=sizeOf4
 v4:=zeroValue4
 t5:=underlying5
 a5:=isAgg5
 z5:=sizeOf5
 v5:=zeroValue5
 t9:=underlying9
 a9:=isAgg9
 z9:=sizeOf9
 v9:=zeroValue9
 t20:=underlying20
 a20:=isAgg20
 z20:=sizeOf20
 v20:=zeroValue20
 t37:=underlying357
 a37:=isAgg357
 z37:=sizeOf357
 v37:=zeroValue357
 t46:=underlying371
 a46:=isAgg371
 z46:=sizeOf371
 v46:=zeroValue371
 t51:=underlying402
 a51:=isAgg402
 z51:=sizeOf402
 v51:=zeroValue402
 t53:=underlying329
 a53:=isAgg329
 z53:=sizeOf329
 v53:=zeroValue329
 t171:=underlying398
 a171:=isAgg398
 z171:=sizeOf398
 v171:=zeroValue398
 t173:=underlying400
 a173:=isAgg400
 z173:=sizeOf400
 v173:=zeroValue400
 t212:=underlying422
 a212:=isAgg422
 z212:=sizeOf422
 v212:=zeroValue422
 t213:=underlying423
 a213:=isAgg423
 z213:=sizeOf423
 t232:=underlying436
 a232:=isAgg436
 z232:=sizeOf436
 v232:=zeroValue436
 t233:=underlying437
 a233:=isAgg437
 z233:=sizeOf437
 v233:=zeroValue437
 g17:=k_
 g18:=k_
 g19:=k_
 i0:=k_
 i2:=k_
 i3:=k_
 i4:=k_
 i5:=k_
 i9:=k_
 i20:=k_
 i37:=k_
 i46:=k_
 i51:=k_
 i53:=k_
 i171:=k_
 i173:=k_
 i212:=k_
 i232:=k_
 i233:=k_
 m17:=k_
 m18:=k_
 m19:=k_}
open Go.RowKit Go.Sort Go.Lib in
theorem Tryz.strconv_Itoa(n:Int)(h0: -9223372036854775808<=n)(h1:n<=9223372036854775807)(w:cx)(htab:er prog w "internal/strconv.uint64pow10" .u64 eq):
 cy prog 298 #[.int .i64 n] w fun e w'=>e=.returned (.string ⟨(eM n).toArray⟩)/\∃k os,w'=grow (w.drewN k) os:=Any.strconv_Itoa avS n h0 h1 w htab
def Tryz.XK:gg:=⟨fun|172=>293|244=>328|245=>329|247=>351|279=>352|280=>353|281=>354|282=>355|287=>373|316=>374|171=>298|205=>375|321=>385|322=>386|243=>332|246=>356|283=>357|284=>358|285=>359|286=>360|129=>324|317=>376|318=>377|319=>378|320=>379|337=>387|338=>388|n=>n,fun|9=>9|3=>3|75=>346|76=>347|4=>4|5=>5|167=>391|37=>357|0=>0|85=>392|2=>2|168=>394|53=>329|175=>415|46=>371|210=>419|127=>387|145=>433|143=>431|21=>21|171=>398|173=>400|212=>422|51=>402|20=>20|213=>423|232=>436|233=>437|80=>304|n=>n,fun|15=>3|16=>4|17=>5|18=>6|19=>7|n=>n⟩
theorem Tryz.avT:Go.Proofs.LaysC.n172 prog XK:={
 mixed:=k_
 f129:=func324.trans (congrArg some k_)
 f171:=func298.trans (congrArg some k_)
 f172:=func293.trans (congrArg some k_)
 f205:=func375.trans (congrArg some k_)
 f243:=func332.trans (congrArg some k_)
 f244:=func328.trans (congrArg some k_)
 f245:=func329.trans (congrArg some k_)
 f246:=func356.trans (congrArg some k_)
 f247:=func351.trans (congrArg some k_)
 f279:=func352.trans (congrArg some k_)
 f280:=func353.trans (congrArg some k_)
 f281:=func354.trans (congrArg some k_)
 f282:=func355.trans (congrArg some k_)
 f283:=func357.trans (congrArg some k_)
 f284:=func358.trans (congrArg some k_)
 f285:=func359.trans (congrArg some k_)
 f286:=func360.trans (congrArg some k_)
 f287:=func373.trans (congrArg some k_)
 f316:=func374.trans (congrArg some k_)
 f317:=func376.trans (congrArg some k_)
 f318:=func377.trans (congrArg some k_)
 f319:=func378.trans (congrArg some k_)
 f320:=func379.trans (congrArg some k_)
 f321:=func385.trans (congrArg some k_)
 f322:=func386.trans (congrArg some k_)
 f337:=func387.trans (congrArg some k_)
 f338:=func388.trans (congrArg some k_)
 t0:=underlying0
 a0:=isAgg0
 z0:=sizeOf0
 v0:=zeroValue0
 t2:=underlying2
 a2:=isAgg2
 z2:=sizeOf2
 v2:=zeroValue2
 t3:=underlying3
 a3:=isAgg3
 z3:=sizeOf3
 v3:=zeroValue3
 t4:=underlying4
 a4:=isAgg4
 z4:=sizeOf4
 v4:=zeroValue4
 t5:=underlying5
 a5:=isAgg5
 z5:=sizeOf5
 v5:=zeroValue5
 t9:=underlying9
 a9:=isAgg9
 z9:=sizeOf9
 v9:=zeroValue9
 t20:=underlying20
 a20:=isAgg20
 z20:=sizeOf20
 v20:=zeroValue20
 t21:=underlying21
 a21:=isAgg21
 z21:=sizeOf21
 v21:=zeroValue21
 t37:=underlying357
 a37:=isAgg357
 z37:=sizeOf357
 v37:=zeroValue357
 t46:=underlying371
 a46:=isAgg371
 z46:=sizeOf371
 v46:=zeroValue371
 t51:=underlying402
 a51:=isAgg402
 z51:=sizeOf402
 v51:=zeroValue402
 t53:=underlying329
 a53:=isAgg329
 z53:=sizeOf329
 v53:=zeroValue329
 t75:=underlying346
 a75:=isAgg346
 z75:=sizeOf346
 v75:=zeroValue346
 t76:=underlying347
 a76:=isAgg347
 z76:=sizeOf347
 v76:=zeroValue347
 t85:=underlying392
 a85:=isAgg392
 z85:=sizeOf392
 v85:=zeroValue392
 t127:=underlying387
 a127:=isAgg387
 z127:=sizeOf387
 v127:=zeroValue387
 t143:=underlying431
 a143:=isAgg431
 z143:=sizeOf431
 v143:=zeroValue431
 t145:=underlying433
 a145:=isAgg433
 z145:=sizeOf433
 v145:=zeroValue433
 t167:=underlying391
 a167:=isAgg391
 z167:=sizeOf391
 v167:=zeroValue391
 t168:=underlying394
 a168:=isAgg394
 z168:=sizeOf394
 v168:=zeroValue394
 t171:=underlying398
 a171:=isAgg398
 z171:=sizeOf398
 v171:=zeroValue398
 t173:=underlying400
 a173:=isAgg400
 z173:=sizeOf400
 v173:=zeroValue400
 t175:=underlying415
 a175:=isAgg415
 z175:=sizeOf415
 v175:=zeroValue415
 t210:=underlying419
 a210:=isAgg419
 z210:=sizeOf419
 v210:=zeroValue419
 t212:=underlying422
 a212:=isAgg422
 z212:=sizeOf422
 v212:=zeroValue422
 t213:=underlying423
 a213:=isAgg423
 z213:=sizeOf423
 t232:=underlying436
 a232:=isAgg436
 z232:=sizeOf436
 v232:=zeroValue436
 t233:=underlying437
 a233:=isAgg437
 z233:=sizeOf437
 v233:=zeroValue437
 g15:=k_
 g16:=k_
 g17:=k_
 g18:=k_
 g19:=k_
 t80:=underlying304
 a80:=isAgg304
 z80:=sizeOf304
 v80:=zeroValue304
 i0:=k_
 i2:=k_
 i3:=k_
 i4:=k_
 i5:=k_
 i9:=k_
 i20:=k_
 i21:=k_
 i37:=k_
 i46:=k_
 i51:=k_
 i53:=k_
 i75:=k_
 i76:=k_
 i80:=k_
 i85:=k_
 i127:=k_
 i143:=k_
 i145:=k_
 i167:=k_
 i168:=k_
 i171:=k_
 i173:=k_
 i175:=k_
 i210:=k_
 i212:=k_
 i232:=k_
 i233:=k_
 m15:=k_
 m16:=k_
 m17:=k_
 m18:=k_
 m19:=k_
 c0:=k_
 c2:=k_
 c3:=k_
 c4:=k_
 c5:=k_
 c9:=k_
 c20:=k_
 c21:=k_
 c37:=k_
 c46:=k_
 c51:=k_
 c53:=k_
 c75:=k_
 c76:=k_
 c80:=k_
 c85:=k_
 c127:=k_
 c143:=k_
 c145:=k_
 c167:=k_
 c168:=k_
 c171:=k_
 c173:=k_
 c175:=k_
 c210:=k_
 c212:=k_
 c213:=k_
 c232:=k_
 c233:=k_}
open Go.RowKit in
theorem Tryz.strconv_Atoi_ok(s:ByteArray)(hmax:s.size<=9223372036854775806)(v:Int)(h:eP s.data.toList= .ok v)(w:cx):
 cy prog 293 #[.string s] w fun e w'=>e=.returned (.tuple #[.int .i64 v,.nilIface])/\(w'=w\/∃t,w'=Lib.bytesWorld w 5 t):=Any.strconv_Atoi_ok avT s hmax v h w
def Tryz.YD:gg:=⟨fun|219=>326|217=>347|225=>348|224=>349|267=>350|266=>371|314=>372|n=>n,fun|9=>9|3=>3|4=>4|5=>5|46=>371|146=>403|51=>402|n=>n,fun|1=>0|n=>n⟩
theorem Tryz.aO7:fl prog YD:={
 mixed:=k_
 f217:=func347.trans (congrArg some k_)
 f219:=func326.trans (congrArg some k_)
 f224:=func349.trans (congrArg some k_)
 f225:=func348.trans (congrArg some k_)
 f266:=func371.trans (congrArg some k_)
 f267:=func350.trans (congrArg some k_)
 f314:=func372.trans (congrArg some k_)
 t3:=underlying3
 a3:=isAgg3
 z3:=sizeOf3
 v3:=zeroValue3
 t4:=underlying4
 a4:=isAgg4
 z4:=sizeOf4
 v4:=zeroValue4
 t5:=underlying5
 a5:=isAgg5
 z5:=sizeOf5
 v5:=zeroValue5
 t9:=underlying9
 a9:=isAgg9
 z9:=sizeOf9
 v9:=zeroValue9
 t46:=underlying371
 a46:=isAgg371
 z46:=sizeOf371
 v46:=zeroValue371
 t51:=underlying402
 a51:=isAgg402
 z51:=sizeOf402
 v51:=zeroValue402
 t146:=underlying403
 a146:=isAgg403
 z146:=sizeOf403
 v146:=zeroValue403
 g1:=k_}
open Go.RowKit Go.Lib in
theorem Tryz.stringslite_Index_one(s:ByteArray)(c:UInt8)(w:cx):
 cy prog 326 #[.string s,.string ⟨#[c]⟩] w fun e w'=>e=.returned (.int .i64 (ed s.data.toList c))/\w'=w:=Any.stringslite_Index_one aO7 s c w
def Tryz.Zk:gg:=⟨fun|99=>292|206=>327|n=>n,fun|9=>9|4=>4|3=>3|n=>n,fun|n=>n⟩
theorem Tryz.aPb:e8 prog Zk:={
 mixed:=k_
 f99:=func292.trans (congrArg some k_)
 f206:=func327.trans (congrArg some k_)
 t3:=underlying3
 a3:=isAgg3
 z3:=sizeOf3
 v3:=zeroValue3
 t4:=underlying4
 a4:=isAgg4
 z4:=sizeOf4
 v4:=zeroValue4
 t9:=underlying9
 a9:=isAgg9
 z9:=sizeOf9
 v9:=zeroValue9}
open Go.RowKit Go.Lib in
theorem Tryz.strings_HasPrefix(s p:ByteArray)(w:cx):
 cy prog 292 #[.string s,.string p] w fun e w'=>e=.returned (.bool (ej s.data.toList p.data.toList))/\w'=w:=Any.strings_HasPrefix aPb s p w
def Tryz.YH:gg:=⟨fun|101=>290|208=>325|206=>327|n=>n,fun|9=>9|4=>4|3=>3|n=>n,fun|n=>n⟩
theorem Tryz.aO2:gc prog YH:={
 mixed:=k_
 f101:=func290.trans (congrArg some k_)
 f206:=func327.trans (congrArg some k_)
 f208:=func325.trans (congrArg some k_)
 t3:=underlying3
 a3:=isAgg3
 z3:=sizeOf3
 v3:=zeroValue3
 t4:=underlying4
 a4:=isAgg4
 z4:=sizeOf4
 v4:=zeroValue4
 t9:=underlying9
 a9:=isAgg9
 z9:=sizeOf9
 v9:=zeroValue9}
open Go.RowKit Go.Lib in
theorem Tryz.strings_TrimPrefix(s p:ByteArray)(w:cx):
 cy prog 290 #[.string s,.string p] w fun e w'=>e=.returned (.string ⟨(ei s.data.toList p.data.toList).toArray⟩)/\w'=w:=Any.strings_TrimPrefix aO2 s p w
def Tryz.MQ:gg:=⟨fun|105=>301|212=>338|99=>292|165=>339|166=>302|170=>340|169=>303|263=>361|264=>275|206=>327|240=>341|241=>362|276=>363|277=>380|n=>n,fun|9=>9|3=>3|4=>4|20=>20|0=>0|46=>371|109=>384|5=>5|72=>359|76=>347|51=>402|146=>403|53=>329|148=>330|70=>356|37=>357|75=>346|127=>387|164=>405|80=>304|n=>n,fun|n=>n⟩
theorem Tryz.aO4:fw prog MQ:={
 mixed:=k_
 f99:=func292.trans (congrArg some k_)
 f105:=func301.trans (congrArg some k_)
 f165:=func339.trans (congrArg some k_)
 f166:=func302.trans (congrArg some k_)
 f169:=func303.trans (congrArg some k_)
 f170:=func340.trans (congrArg some k_)
 f206:=func327.trans (congrArg some k_)
 f212:=func338.trans (congrArg some k_)
 f240:=func341.trans (congrArg some k_)
 f241:=func362.trans (congrArg some k_)
 f263:=func361.trans (congrArg some k_)
 f264:=func275.trans (congrArg some k_)
 f276:=func363.trans (congrArg some k_)
 f277:=func380.trans (congrArg some k_)
 t0:=underlying0
 a0:=isAgg0
 z0:=sizeOf0
 v0:=zeroValue0
 t3:=underlying3
 a3:=isAgg3
 z3:=sizeOf3
 v3:=zeroValue3
 t4:=underlying4
 a4:=isAgg4
 z4:=sizeOf4
 v4:=zeroValue4
 t5:=underlying5
 a5:=isAgg5
 z5:=sizeOf5
 v5:=zeroValue5
 t9:=underlying9
 a9:=isAgg9
 z9:=sizeOf9
 v9:=zeroValue9
 t20:=underlying20
 a20:=isAgg20
 z20:=sizeOf20
 v20:=zeroValue20
 t37:=underlying357
 a37:=isAgg357
 z37:=sizeOf357
 v37:=zeroValue357
 t46:=underlying371
 a46:=isAgg371
 z46:=sizeOf371
 v46:=zeroValue371
 t51:=underlying402
 a51:=isAgg402
 z51:=sizeOf402
 v51:=zeroValue402
 t53:=underlying329
 a53:=isAgg329
 z53:=sizeOf329
 v53:=zeroValue329
 t70:=underlying356
 a70:=isAgg356
 z70:=sizeOf356
 v70:=zeroValue356
 t72:=underlying359
 a72:=isAgg359
 z72:=sizeOf359
 v72:=zeroValue359
 t75:=underlying346
 a75:=isAgg346
 z75:=sizeOf346
 v75:=zeroValue346
 t76:=underlying347
 a76:=isAgg347
 z76:=sizeOf347
 v76:=zeroValue347
 t109:=underlying384
 a109:=isAgg384
 z109:=sizeOf384
 v109:=zeroValue384
 t127:=underlying387
 a127:=isAgg387
 z127:=sizeOf387
 v127:=zeroValue387
 t146:=underlying403
 a146:=isAgg403
 z146:=sizeOf403
 v146:=zeroValue403
 t148:=underlying330
 a148:=isAgg330
 z148:=sizeOf330
 v148:=zeroValue330
 t164:=underlying405
 a164:=isAgg405
 z164:=sizeOf405
 v164:=zeroValue405}
theorem Tryz.Xf:Builder.Extra prog MQ:={
 sizeBuilder:=k_
 liesBuilder:=k_
 t5:=underlying5
 a5:=isAgg5
 z5:=sizeOf5
 v5:=zeroValue5
 infoByte:=k_
 cellsByte:=k_
 sizeByte:=k_
 neB5:=d_}
open Go.RowKit Go.Lib in
theorem Tryz.strings_Repeat(s:ByteArray)(c:Nat)(w:cx)(hc:c<=9223372036854775807)(hlen:s.size*c<=140737488355328):
 cy prog 301 #[.string s,.int .i64 c] w fun e w'=>e=.returned (.string ⟨(ew s.data.toList c).toArray⟩)/\Below w.heap.size w w':=Any.strings_Repeat aO4 Xf s c w hc hlen
end Go.Proofs
namespace Go.Proofs
open Go.Shelf Go.RowKit Go.Sort Go.Lib
set_option maxHeartbeats 6400000 in
set_option maxRecDepth 100000 in
theorem Tryz.Xe(u:Nat)(hu64:u<18446744073709551616)(w:cx)
 (htab:er prog w "internal/strconv.uint64pow10" .u64 eq):
 cy prog 337 #[.int .u64 u,.int .i64 10] w fun e w'=>e=.returned (.string ⟨(eb u).toArray⟩)/\∃k os,w'=grow (w.drewN k) os:=by
 have e357:∀args w,(callFunc 357 args).run prog w=.ok (.enter 357 args) w:=enters_of func357 k_ rfl;have e358:∀args w,(callFunc 358 args).run prog w=.ok (.enter 358 args) w:=enters_of func358 k_ rfl;have e359:∀args w,(callFunc 359 args).run prog w=.ok (.enter 359 args) w:=enters_of func359 k_ rfl
 by_cases hs:u<100
 ·go_enter func337,ntmps337
  go_wp2_with (go_at_fn 357;refine(internal_strconv_small u hs _).mono ?_;rintro e w' ⟨rfl,rfl⟩)
  go_ret
  exact⟨rfl,0,#[],by simp[World.drewN_zero]⟩
 ·have hu1:1<=u:=by omega
  have hnd20:ec u<=20:=by have:=Lib.numDigits_eq u hu1 hu64;split at this<;>omega
  have hb3:ec u<=24:=o_
  have hal:prog.arrayLen 398=24:=k_
  have hsl1:∀W,(Instr.sliceAt 398 (.pointer (some ⟨w.heap.size,0,none⟩)) none (some (.int .i64 (ec u:Int))) none).run prog W=.ok (.slice (some ⟨w.heap.size,0,none⟩) (ec u) 24) W:=fun W=>by
   rw[run_sliceAt_array_h W 398 ⟨w.heap.size,0,none⟩ k_ .i64 (ec u:Int) o_ (by rw[hal];omega)]
   go_simp
  have hH0:=Lib.holds_zero0 w 398 (ec u) hb3;have hfmt:=internal_strconv_formatBase10 w.heap.size 0 24 u (Array.replicate (ec u) 0) (w.alloc (.cells ee 398)) hH0 (by rw[b0];exact Lib.lt_pow_nDigits u) hu64 (by rw[b0];omega);rw[b0]at hfmt;have HH0:=Lib.hid hH0;clear hH0 hal
  go_enter func337,ntmps337
  go_wp2_with (first
   |(go_at_fn 358;refine(internal_strconv_numDigits u hu1 hu64 _ (Lib.tabIs_alloc htab _)).mono ?_;rintro e w' ⟨rfl,rfl⟩))
  go_at_fn 359
  refine hfmt.mono ?_;rintro e w' ⟨rfl,k,v',dk,rfl,hF⟩;have hcv:(convert 357 9 (.slice (some ⟨w.heap.size,0,none⟩) (ec u) 24)).run prog ((putRow (fun(b:UInt8)=>gj .u8 (b.toNat:Int)) (w.alloc (.cells ee 398)) w.heap.size 0 dk).drewN k)=.ok (.string ⟨(eb u).toArray⟩) ((putRow (fun(b:UInt8)=>gj .u8 (b.toNat:Int)) (w.alloc (.cells ee 398)) w.heap.size 0 dk).drewN k):=by
   have h:=run_convert_bytes_back (P:=prog) ((putRow (fun(b:UInt8)=>gj .u8 (b.toNat:Int)) (w.alloc (.cells ee 398)) w.heap.size 0 dk).drewN k) 357 9 5 ⟨w.heap.size,0,none⟩ 24 (eb u) k_ k_ k_ (fun j hj=>by
    rw[Lib.row_is_numeral hF j hj,Lib.add_plain,World.cell?_drewN];exact cell?_putRow (fun(b:UInt8)=>gj .u8 (b.toNat:Int)) _ w.heap.size 0 _ dk HH0.out (by rw[hF.size,b0]) j (by rw[hF.size];rw[ey]at hj;exact hj))
   rw[ey]at h;exact h
  go_wp2
  go_ret
  obtain⟨os,eo⟩:=Lib.fin_at w (.cells ee 398) dk k 0;exact⟨rfl,k,os,eo⟩
end Go.Proofs
namespace Go.ag
open Go.Proofs
theorem CX{P:c6}{w:cx}{ad:Nat->Prop}(l:List UInt8):aE P w ad (.str (fA l)) (.string ⟨l.toArray⟩):=by
 simp only[aE];exact⟨_,rfl,by simp[fA]⟩
theorem vf{P:c6}{w:cx}{ad:Nat->Prop}{s:List Nat}{v:dd}(h:aE P w ad (.str s) v):∃bs:ByteArray,v=.string bs/\s=fA bs.data.toList:=by
 simp only[aE]at h;obtain⟨bs,rfl,rfl⟩:=h;exact⟨bs,rfl,rfl⟩
theorem P9{w:cx}{ad:Nat->Prop}{c:Nat}{v:dd}(h:aE prog w ad (.str [c]) v):∃b:UInt8,v=.string ⟨#[b]⟩/\c=b.toNat:=by
 obtain⟨bs,rfl,f⟩:=vf h;clear h;have h:=f;clear f
 match e:bs.data.toList with
 |[]=>rw[e]at h;simp[fA]at h
 |[b]=>
  rw[e]at h;simp[fA]at h;refine⟨b,?_,h⟩;congr 1;cases bs with
  |mk d=>simp at e⊢;exact Array.ext' (by simpa using e)
 |a::b::r=>rw[e]at h;simp[fA]at h
theorem H7{w:cx}{ad:Nat->Prop}{v:dd}(h:aE prog w ad (.str [45]) v):v=.string ⟨#[45]⟩:=by
 obtain⟨b,rfl,a⟩:=P9 h;have:b=45:=oH.1 a.symm;rw[this]
theorem aEq(s:List Nat)(c:Nat):aq prog 326 [.str s,.str [c]] (.int .i64 (rO c s 0)):=by
 refine nY (mA func326 k_) fun w ad g _ _ f=>?_;obtain⟨x,y,rfl,a,d⟩:=uE f;obtain⟨b,rfl,rfl⟩:=P9 d;obtain⟨bs,rfl,rfl⟩:=vf a;refine(stringslite_Index_one bs b w).mono ?_;rintro e w' ⟨rfl,rfl⟩;refine⟨_,rfl,⟨kv _,fun _ _=>rfl,rfl,rfl⟩,fun w ad=>?_⟩;have e1:=Qq b bs.data.toList 0;simp only[aE]at e1⊢;rw[e1]
 by_cases h:ed bs.data.toList b= -1<;>simp[h]
theorem aEk(s:List Nat)(c:Nat)(h:s.length<=1048576):aq prog 291 [.str s,.str [c]] (.aC [.str (cC c s).1,.str (cC c s).2.1,.bool (cC c s).2.2]):=by
 refine gA_ nf func291 mix ?_;simp[f291];refine c2 (aEq s c) ?_;rcases Qr c s 0 with⟨_,a,b⟩|⟨i,d,a,b⟩
 ·simp[a,b]
 ·rw[lu]at a;have w:=cE (i:=i) o_;have e1:((i:Int)+1).toNat=i+1:=by omega
  simp[a,b,w,e1];omega
theorem Ty(s:List Nat)(c:Nat)(h:s.length<=1048576):aq prog 233 [.str s,.str [c]] (.aC [.str (cC c s).1,.str (cC c s).2.1,.bool (cC c s).2.2]):=by
 refine gA_ nf func233 mix ?_;simp[f233,c2 (aEk s c h)]
theorem awz(s:List Nat):aq prog 292 [.str s,.str [45]] (.bool (cr s)):=by
 refine nY (mA func292 k_) fun w ad d _ _ c=>?_;obtain⟨x,y,rfl,a,b⟩:=uE c;obtain rfl:=H7 b;obtain⟨bs,rfl,rfl⟩:=vf a;refine(strings_HasPrefix bs _ w).mono ?_;rintro e w' ⟨rfl,rfl⟩;exact⟨_,rfl,⟨kv _,fun _ _=>rfl,rfl,rfl⟩,fun w ad=>by rw[<-F7];simp only[aE]⟩
theorem OR(s:List Nat):aq prog 290 [.str s,.str [45]] (.str (dK s)):=by
 refine nY (mA func290 k_) fun w ad d _ _ c=>?_;obtain⟨x,y,rfl,a,b⟩:=uE c;obtain rfl:=H7 b;obtain⟨bs,rfl,rfl⟩:=vf a;refine(strings_TrimPrefix bs _ w).mono ?_;rintro e w' ⟨rfl,rfl⟩;exact⟨_,rfl,⟨kv _,fun _ _=>rfl,rfl,rfl⟩,fun w ad=>by rw[<-M8];exact CX _⟩
theorem awB(s:List Nat):aq prog 319 [.str s,.str [45]] (.aC [.str (dK s),.bool (cr s)]):=by
 refine nY (mA func319 k_) fun w ad d _ _ c=>?_;obtain⟨x,y,rfl,a,b⟩:=uE c;obtain rfl:=H7 b;obtain⟨bs,rfl,rfl⟩:=vf a;refine(strings_CutPrefix bs _ w).mono ?_;rintro e w' ⟨rfl,rfl⟩;refine⟨_,rfl,⟨kv _,fun _ _=>rfl,rfl,rfl⟩,fun w ad=>?_⟩;rw[<-M8,<-F7];simp only[aE,bG];refine⟨[_,_],⟨_,_,rfl,?_,_,_,rfl,rfl,rfl⟩,rfl⟩;exact⟨_,rfl,by simp[fA]⟩
theorem RO{w:cx}{ad:Nat->Prop}(b:p0 prog w ad):er prog w "internal/strconv.uint64pow10" .u64 eq:=by
 obtain⟨_,T,a⟩:=b.raw 5 _ rfl;have hn:prog.globalNamed "internal/strconv.uint64pow10" =some 5:=k_
 simp only[er,World.var?,hn,Option.bind_some,a];rfl
theorem aEs(n:Int)(b:-9223372036854775808<=n)(c:n<=9223372036854775807):aq prog 298 [.int .i64 n] (.str (bZ n)):=by
 refine nY (mA func298 k_) fun w ad g _ f d=>?_;obtain⟨x,rfl,a⟩:=CW d;simp only[aE]at a;subst a;refine(strconv_Itoa n b c w (RO f)).mono ?_;rintro e w' ⟨rfl,k,os,rfl⟩;refine⟨_,rfl,⟨?_,fun k hk=>?_,rfl,rfl⟩,fun w ad=>?_⟩
 ·simp[gi,World.drewN]
 ·simp only[gi];exact b1 hk
 ·rw[<-aOG];exact CX _
theorem aEo(u:Nat)(f:u<18446744073709551616):aq prog 337 [.int .u64 u,.int .i64 10] (.str (br u)):=by
 refine nY (mA func337 k_) fun w ad g _ d c=>?_;obtain⟨x,y,rfl,a,b⟩:=uE c;simp only[aE]at a b;subst a b;refine(Xe u f w (RO d)).mono ?_;rintro e w' ⟨rfl,k,os,rfl⟩;refine⟨_,rfl,⟨?_,fun k hk=>?_,rfl,rfl⟩,fun w ad=>?_⟩
 ·simp[gi,World.drewN]
 ·simp only[gi];exact b1 hk
 ·rw[<-H6];exact CX _
theorem TA(u:Nat)(a:u<18446744073709551616):aq prog 300 [.int .u64 u,.int .i64 10] (.str (br u)):=by
 refine gA_ nf func300 mix ?_;simp[f300,c2 (aEo u a)]
theorem TC(s:List Nat)(c:Nat)(hc:c<=9223372036854775807)(g:s.length*c<=140737488355328):aq prog 301 [.str s,.int .i64 c] (.str (wA s c)):=by
 refine nY (mA func301 k_) fun w ad h _ i f=>?_;obtain⟨x,y,rfl,d,b⟩:=uE f;obtain⟨bs,rfl,rfl⟩:=vf d;simp only[aE]at b;subst b;refine(strings_Repeat bs c w hc (by simpa[fA]using g)).mono ?_;rintro e w' ⟨rfl,a⟩;exact⟨_,rfl,⟨a.size,a.block,a.os,a.output⟩,fun w ad=>by
  rw[PA];exact CX _⟩
theorem aEj(s:List Nat)(v:Int)(h:eP (s.map oM)=.ok v)(d:s.length<=9223372036854775806):aq prog 293 [.str s] (.aC [.int .i64 v,.iG]):=by
 refine nY (mA func293 k_) fun w ad g _ i c=>?_;obtain⟨x,rfl,b⟩:=CW c;obtain⟨bs,rfl,rfl⟩:=vf b;rw[YT]at h;refine(strconv_Atoi_ok bs (by simpa[fA]using d) v h w).mono ?_;rintro e w' ⟨rfl,f⟩;refine⟨_,rfl,?_,fun w ad=>by simp[aE,bG]⟩;rcases f with rfl|⟨t,rfl⟩
 ·exact⟨kv _,fun _ _=>rfl,rfl,rfl⟩
 ·have a:=Lib.bytesWorld_below w 5 t;exact⟨a.size,a.block,a.os,a.output⟩
def tB:Nat:=1000000000000000000
theorem HM:tB=10^18:=d_
theorem Qg:∀i,low i 0=hP i 48
 |0=>rfl
 |i+1=>by rw[xu,Nat.zero_div,Qg i,List.replicate_succ']
theorem UO{r:Nat}(h:r<tB):hP (18-(br r).length) 48++br r=low 18 r:=by
 rw[uT,br];have c:nd r<=18:=vG (by rw[<-HM];exact h);obtain⟨k,hk⟩:∃k,k=max 1 (nd r):=⟨_,rfl⟩
 have d:k<=18:=o_
 have b:r<10^k:=j7 (GX r) (j8 d_ o_);rw[<-hk];have:=uY (18-k) r (a:=k);have e:low 18 r=low (18-k) (r/10^k)++low k r:=by
  have:=uY k r (18-k);rw[show 18-k+k=18 by omega]at this;exact this
 rw[e,ko b,Qg]
theorem Ht{r:Nat}(h:r<tB):(br r).length<=18:=by
 rw[uT];have a:nd r<=18:=vG (by rw[<-HM];exact h);omega
theorem auT{m:Nat}(h:tB<=m):br m=br (m/tB)++low 18 (m% tB):=by
 rw[HM]at h⊢;have e:=HY (n:=m) (k:=18) h;have a:0<nd (m/10^18):=DB (m2 h (kc d_));rw[br,br,show max 1 (nd m)=max 1 (nd (m/10^18))+18 by omega,uY,Hi m 18 18 (kv _)]
def lS(m:Nat)(a:List (List Nat)):List Nat:=(if m=0 then[]else br m)++a.reverse.flatten
def fJ(m:Nat):List Nat:=if m/tB=0 then br m else low 18 (m% tB)
theorem Po{m:Nat}(h:m≠0)(c:List (List Nat)):lS (m/tB) (c++[fJ m])=lS m c:=by
 rw[lS,lS,if_neg h,fJ,List.reverse_append]
 by_cases a:m/tB=0
 ·rw[if_pos a,if_pos a];simp
 ·rw[if_neg a,if_neg a];have:tB<=m:=by
   rcases kA m tB with b|b
   ·exact(a (ko b)).elim
   ·exact b
  rw[auT this];simp
theorem auV(a:List (List Nat)):lS 0 a=a.reverse.flatten:=by rw[lS,if_pos rfl];rfl
theorem C4(n:Nat):0<(br n).length:=by rw[uT];omega
theorem Om(m:Nat):fJ m≠[]:=by
 intro h;have:(fJ m).length=0:=by rw[h];rfl
 rw[fJ]at this
 split at this
 ·have:=C4 m;omega
 ·rw[uX]at this;omega
theorem On(m:Nat):(fJ m).length<=18:=by
 rw[fJ]
 split
 ·rename_i h;have b:m<tB:=by
   rcases kA m tB with a|a
   ·exact a
   ·have:=m2 a (show 0<tB by decide);omega
  exact Ht b
 ·rw[uX];exact kv _
theorem Qo{c:Nat}(h:cN c=true):c<256:=by
 simp only[cN,b2,decide_eq_true_eq]at h;omega
end Go.ag
namespace Go.Proofs
open Go.ag
theorem Tryz.Fh:prog.underlying 356=some (.pointer 359):=k_
theorem Tryz.Lg:prog.underlying 405=some .unsafePointer:=k_
theorem Tryz.Ll:(prog.info? 359).map (·.size)=some 2:=k_
theorem Tryz.aPc:liesAt prog prog.depth 359 (2/prog.cellsOf 359) 0 359 1=true:=k_
set_option maxHeartbeats 1000000 in
set_option maxRecDepth 100000 in
theorem Tryz.Xl(b:Nat)(w:cx)(h0:w.cell? ⟨b,0,none⟩=some (.pointer (some ⟨b,0,none⟩))):
 cy prog 341 #[.pointer (some ⟨b,0,none⟩)] w fun e w'=>e=.returned (.tuple #[])/\w'=w:=by
 obtain⟨j,hj,_⟩:=Option.map_eq_some_iff.1 Ll
 go_enter func341,ntmps341
 go_wp2
 rw[Lib.run_neq_ptr_same w _ Fh hj]
 go_wp2
 go_end0
 exact⟨rfl,rfl⟩
set_option maxHeartbeats 1000000 in
set_option maxRecDepth 100000 in
theorem Tryz.Xm(b:Nat)(w:cx)(h0:w.cell? ⟨b,0,none⟩=some (.pointer none))(hsh:w.shape? b=some (359,2))(hfz:w.frozen? ⟨b,0,none⟩=false):
 cy prog 341 #[.pointer (some ⟨b,0,none⟩)] w fun e w'=>e=.returned (.tuple #[])/\w'=w.setCell ⟨b,0,none⟩ (.pointer (some ⟨b,0,none⟩)):=by
 obtain⟨j,hj,hjs⟩:=Option.map_eq_some_iff.1 Ll
 go_enter func341,ntmps341
 go_wp2
 rw[Lib.run_to_unsafe w ⟨b,0,none⟩ Fh Lg hj (by rw[hjs];decide) hsh (Nat.zero_lt_succ 1)];simp only[ge];rw[e7]
 go_wp2
 rw[da func363 k_ k_ k_ (e:=Extern.AbiNoEscape.same) k_];rw[Lib.run_noEscape];simp only[ge];rw[e7]
 go_wp2
 rw[Lib.run_from_unsafe w ⟨b,0,none⟩ Lg Fh hj hsh aPc];simp only[ge];rw[e7]
 go_wp2
 go_end0
 exact⟨rfl,rfl⟩
end Go.Proofs
