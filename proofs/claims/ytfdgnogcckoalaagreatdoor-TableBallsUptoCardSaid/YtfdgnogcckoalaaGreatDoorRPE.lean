import Derived.Test.YtfdgnogcckoalaaGreatDoorRPD
import Derived.Deep.DeepHandedRow
import Derived.Deep.DeepWitnessRowRef
import Derived.Seven
import Derived.SevenTiedAt
import Derived.Test.YtfdgnogcckoalaaGreatDoorRPC
import Derived.Test.YtfdgnogcckoalaaGreatDoorRPA
import Derived.KernelRfl
import Derived.Shelf.Spec.BitsCarry
import Derived.Shelf.Strings.Builder1
import Derived.Shelf.Strings.Builder2
import Derived.Shelf.Strings.OnBuilder
import Derived.Shelf.Strings.Trim
import Derived.Shelf.Small.Utf8
import Derived.Shelf.Small.Bits
import Derived.Shelf.Small.Strs
import Derived.Shelf.Small.Wraps
import Derived.Shelf.Strings.BuilderF
import Derived.Shelf.Strings.Builder2Cap
import Derived.Shelf.Strconv.Atoi
import Derived.Shelf.Strconv.Itoa0
import Derived.Shelf.Strconv.Itoa1
import Derived.Shelf.LaysM
import Derived.Shelf.Strconv.Itoa2
import Derived.Shelf.Strconv.Itoa3
import Derived.Shelf.Strconv.AtoiErrFast
import Derived.Shelf.Strconv.ParseIntEmpty
import Derived.Shelf.Strconv.AtoiFail
import Derived.Shelf.Strconv.Clone
import Derived.Shelf.Strconv.SyntaxError
import Derived.Shelf.LaysC
import Derived.Shelf.Strconv.ToError
import Derived.Shelf.Strconv.Lower
import Derived.Shelf.Strconv.ParseUint10
import Derived.Shelf.Strconv.ParseUint10Empty
import Derived.Shelf.Strconv.ParseUint10Any
import Derived.Shelf.Strconv.ParseInt10
import Derived.Shelf.Strconv.AtoiLong
import Derived.Shelf.Strconv.AtoiInnerAll
import Derived.Shelf.Strconv.RangeError
import Derived.Shelf.Strconv.ToErrorRange
import Derived.Shelf.Strconv.AtoiAll
import Derived.Shelf.Strconv.ParseUintEmpty
import Derived.Shelf.Strings.Search1
import Derived.Shelf.Strings.Search2
import Derived.Shelf.Strings.Search3
import Derived.Shelf.Strings.Cut
import Derived.Shelf.Strings.Count
import Derived.Shelf.Strings.Shaped
import Derived.Shelf.Strings.Prefix
import Derived.Shelf.Strings.Split
import Derived.Shelf.Unicode.Decode
import Derived.Shelf.Strings.Runes
import Derived.Shelf.Strings.AsciiSet
import Derived.Shelf.Bits.Mul64
import Derived.Shelf.Strings.Repeat
import Derived.Shelf.Unicode.DecodeSlow
import Derived.Shelf.Unicode.DecodeAny
import Derived.Shelf.Unicode.DecodeLast
import Derived.Shelf.Slices.Turned
import Derived.Test.YtfdgnogcckoalaaGreatDoorProg
import Derived.Lib.ItoaNum
import Derived.Lib.Strings
import Derived.Lib.Repeat
import Derived.Lib.Bytealg
import Derived.Test.YtfdgnogcckoalaaGreatDoorRThA
import Derived.Lib.Walk
import Derived.Lib.ItoaMem
import Derived.WalkKit
import Derived.BigCall
import Derived.BigGuard
import Derived.Lib.AppendIntMem
/- Parts of a proof. -/
set_option maxRecDepth 100000
set_option maxHeartbeats 4000000
set_option linter.unusedSimpArgs false
set_option linter.unusedVariables false
set_option linter.unusedSectionVars false
open Go.Proofs.Tryz
open Array renaming size_replicate->b0, getElem?_append_left->b1
open Bool renaming and_eq_true->b2, or_eq_true->b3, and_false->b4, and_true->b5, not_eq_true'->cb, false_and->cc
open Classical renaming choose_spec->ce, choose->ck, em->cv
open Go renaming World->cx, Calls->cy, Program->cE, Value->cN, FuncId->cR, OpenSpec->c6, run_callFunc_extern->c7, TypeId->c8, Checked->da, ReturnsInHanded->db, DataW->dg
open Go.IntKind renaming u64->dl, i64->dp, wrap_i64->dq
open Go.Lib renaming bitLen->dz, decDigits->ea, nDigits->eb, indexByte->ec, zeros24->ed, trimPrefix->ee, hasPrefix->ei, pow10Tab->ej, TabIs->en, repeatL->eq, atoiAll->er, decDigits_length->et, itoa->ew
open Go.Proofs.Lays renaming n99->ez, n285->eL, n283->e6, n264->e7, n219->e8, n134->e9, n129->fb, n105->fd, n103->fl, n101->fm
open Go.Shelf renaming Ren->fv
open Go.Sort renaming grow->gb
open Go.Value renaming int->gc
open Int renaming natAbs_mul->ge, natAbs_natCast->gg, ediv_emod_unique->gi, natCast_mul->gj, lt_trichotomy->gm, ediv_nonneg->gt, lt_of_le_of_lt->gx, emod_lt_of_pos->gy, lt_or_le->gD, le_of_lt->g0, ediv_le_self->g5, emod_nonneg->g6, natAbs_sign_of_ne_zero->g7, natAbs_neg->g8, fdiv_eq_ediv_of_nonneg->g9, ediv_lt_of_lt_mul->ha, tmod_lt_of_pos->hb, ofNat_dvd_left->hd, lt_tmod_of_pos->hg, natAbs_add_le->ho, natCast_add->hp, mul_ne_zero->hr, mul_le_mul->ht, ediv_one->hz, mul_sub->hA, mul_neg->hB
open List renaming range->hC, getElem?_eq_getElem->hD, take_of_length_le->hE, map_cons->hG, exists_cons_of_ne_nil->hK, append_nil->hL, ext_getElem->hM, cons_append->hN, length_nil->hO, map_congr_left->hP, all_cons->hQ, length_eq_zero_iff->hS, length_cons->hT, mem_map->hU, replicate->hV, take_succ_eq_append_getElem->hW, all_reverse->hX, length_map->hZ, head?_cons->h3, dropLast_concat_getLast->h4, mem_range->h5, map_take->h6, map_map->h7, getElem?_range->h8, getElem_range->h9, length_range->ih, getElem?_map->ii, getElem_set->ik, getElem_map->ip, all_eq_true->ix, nil_append->iz, foldl_cons->i6, all_append->i7, range_one->i8, mem_cons->jp, map_nil->js, all_nil->j1
open List.cons renaming injEq->j2
open Nat renaming mul_comm->j3, div_lt_iff_lt_mul->j4, mod_eq_of_lt->j5, pow_succ->j6, lt_of_lt_of_le->j7, pow_le_pow_right->j8, div_div_eq_div_mul->j9, pow_pos->kc, lt_of_le_of_lt->kd, mul_le_mul_right->kh, mod_lt->kk, mul_le_mul_left->km, div_add_mod->ko, mul_assoc->kp, add_mul->kt, div_eq_of_lt->kv, pow_add->kw, le_refl->la, pow_zero->lb, eq_zero_or_pos->lc, add_sub_cancel->li, mod_add_div->lk, mul_lt_mul''->ll, lt_or_ge->lm, add_mul_mod_self_right->ln, le_div_iff_mul_le->lq, add_mul_div_left->ls, add_comm->lt, div_mul_le_self->lu, mul_lt_mul_of_pos_right->lv, one_mul->lw, mul_add->lz, add_mul_div_right->l0, mul_right_comm->l1, div_le_self->l2, div_one->l3, zero_add->l4, pow_one->l5, le_trans->md, mod_mul_right_mod->mm, mul_mod_mul_left->mo, mod_one->mp, add_zero->ms, mod_mul_right_div_self->mx, add_mul_mod_self_left->m0, add_sub_cancel_left->m1, zero_mul->m2, lt_trans->m3, gcd->m4, div_lt_self->m5, mul_div_mul_right->m6, eq_of_beq_eq_true->m7, zero_le->m8, mul_pos->m9, mul_one->na, mul_le_mul->nb, div_le_div_right->nc, beq->nk, lt_div_mul_add->nl, mul_left_comm->nn, and_two_pow_sub_one_eq_mod->np, pow_mul->ns, mod_mul->nz, div_pos->n0, add_mod->n1, strongRecOn->n2, min_eq_left->n3, pow_lt_pow_iff_right->n4, add_assoc->n5, le_mul_of_pos_right->oa, zero_mod->ob, sub_zero->oe, le_of_eq->oj, le_mul_of_pos_left->ol, gcd_comm->oo, mul_mod_mul_right->op, not_lt->oq, lt_of_succ_lt->ox, gcd_one_right->oy, add_mod_right->oz, lt_succ_self->o0, gcd_dvd_left->o1, mul_ne_zero->o2, mul_add_div->o3, lt_succ_iff->o4, le_of_lt->pa, pow_two->pb, or_comm->pd, mod_le->pi
open Rat renaming divInt->pm, normalize_eq_mkRat->pp, num_eq_zero->pr, sub_eq_add_neg->ps, add_def'->pu, neg_num->pw, neg_den->p0, mul_def->p1, inv_def->p2, not_lt->p3, lt_iff->p4
open UInt8 renaming toNat_inj->p5, ofNat->p6, toNat_ofNat'->p7
namespace Go.au
open Go.Proofs
section
variable{H:Type}{enc:c8×cN->H}
theorem F8{p:Pinned}{C:da}{P:cE}(b:p.checked=C)(d:C.prog=P){s:c6}{c:OpenClaim}(f:cR)(fn:Func)
 (l:c.program=p.name)(hs:c.sum=p.sum)(q:c.spec=s.name)
 (r:c.start=.entering)(o:c.outside=[])(ak:c.inits=[])(u:c.under=none)(i:c.initsInPlace=[]/\c.initsUnfollowed=false/\c.initsRecurse=false/\c.initsNamed=[]/\c.initsPassed=[])(n:c.noBlocks=false)(k:c.leaving=false)(g:c.followed=none)(m:c.narrowed=s.cond.isSome)(t:c.still=false)
 (e:P.funcNamed c.func=some f)(hf:P.funcs[f]?=some fn)
 (closed:joinedFacts P f fn s.bare c=true)
 (j:fn.isInstance P c.origin c.targs)(v:fn.isWrapper P c.wrapper c.mainSum)
 (h:∀os:Os,os.Started->∀(H:Type)(a:c8×cN->H)(F:Stop.Interp),
  db c.assume C os f .any (s.preRow a P fn c.domain c.apart c.laid) ((s.at F).post a P fn c.apart c.fresh c.handsOn c.again)):c.holds p s:=by
 subst b;subst d;exact OpenClaim.holds_of_cond f fn l hs q r o ak u i n k g m t e hf closed j v (fun os st H a _ F=>by rw[OpenClaim.pre_eq_preRow];exact h os st H a F)
theorem Oy{a:Assume}{C:da}{P:cE}(q:C.prog=P){os:Os}{f:cR}{fn:Func}{s:c6}{F:Stop.Interp}{h:List PathCond}{apart fresh handsOn again:Bool}{laid:List (String×dg Unit)}
 (x:ownKnob P.godebug=none)(y:os.Started)(u:P.inits.idxOf? f=none)(r:P.funcs[f]?=some fn)
 (z:∃(w:cx)(tape:Tape)(i:Input),w.os=os/\(w.forCall tape i).Shaped P/\i.vars=[]/\Input.okWide P (w.forCall tape i) .any w.heap.size f i/\
  s.preRow enc P fn h apart laid (w.forCall tape i).memory i.args/\a.holds P (lone (Frame.enter P f i.args .normal) [] (w.forCall tape i)))
 (wJ:∀(W:cx)(d:Nat)(args:Array cN)(b c:List (dg H))(g:List MemPlace),
  (∀(j:Nat) t v,fn.params[j]?=some t->args[j]?=some v->Value.okWide P W .any d t v)->
  DataW.Whole enc P fn.params.toList s.vars apart W args.toList b c g->
  (∀k,s.cond=some k->k H (b++c)=true)->
  laidMetH P laid W->
  cy P f args W fun e l=>∃v,e=.returned v/\(s.at F).post enc P fn apart fresh handsOn again W args v l):
 db a C os f .any (s.preRow enc P fn h apart laid) ((s.at F).post enc P fn apart fresh handsOn again):=by
 subst q;exact returnsInHanded_of_row x y u r z (fun W d args b c g m n _ o _ p _ _=>wJ W d args b c g m n o p)
theorem Nv{C:da}{P:cE}(c:C.prog=P){os:Os}{f:cR}{fn:Func}{s:c6}{b:List PathCond}{apart:Bool}{laid:List (String×dg Unit)}(a:cx)(args:Array cN)(e:a.os=os)
 (j:(a.forCall (fun _ _=>0) ⟨#[],args,[]⟩).variablesRefB P=true)
 (g:((a.forCall (fun _ _=>0) ⟨#[],args,[]⟩).heap.toList.drop P.globals.size).take ((begin P (fun _ _=>0) default).world.heap.size-P.globals.size)=
  (begin P (fun _ _=>0) default).world.heap.toList.drop P.globals.size)
 (d:Input.okWideB P (a.forCall (fun _ _=>0) ⟨#[],args,[]⟩) f ⟨#[],args,[]⟩=true)
 (h:s.preRow enc P fn b apart laid (a.forCall (fun _ _=>0) ⟨#[],args,[]⟩).memory args):
 ∃(w:cx)(tape:Tape)(i:Input),w.os=os/\(w.forCall tape i).Shaped P/\i.vars=[]/\Input.okWide P (w.forCall tape i) .any w.heap.size f i/\
  s.preRow enc P fn b apart laid (w.forCall tape i).memory i.args/\({modest:=false}:Assume).holds P (lone (Frame.enter P f i.args .normal) [] (w.forCall tape i)):=by
 subst c;exact witness_row_atRef (C:=C) false a args e j g d h
theorem Gd{p:Pinned}{C:da}{P:cE}(m:p.checked=C)(n:C.prog=P)(d:Looks){s:c6}{c:OpenClaim}(kinds:List LaidKind)(e:Bool)(a:Bool×String)(b:Bool){g:cR}{i:Func}
 (hc:c.holds p s)(A:c.wfByText s=true)(z:c.laidByTextAt d p kinds e)
 (aI:c.start=.entering)(w:c.noBlocks=false/\c.again=false)(u:P.mainIs=some (a.1,a.2.toList))(v:(!a.1&&a.2.isEmpty&&!b)=false)
 (o:P.funcNamed c.func=some g)(hf:P.funcs[g]?=some i)(r:b=P.looks [])(x:∀t∈i.params.toList,P.wantsStandIn t=false)
 (q:false=c.goesBy P):
 Claim7.holds p (.plain s) {stood:={row:=c,standIns:=[],harness:=a,looks:=b},kinds:=[],alts:=[],laidByText:=true,laidKinds:=kinds,laidTests:=e,laidLooks:=d}:=by
 subst m;subst n;refine Claim7.holds_tied_plain_at d [] kinds e a b hc (fun _ h=>by cases h) A (fun _ h=>by cases h) z aI w u v (fun f fn k l=>?_) q;rw[o]at k;cases k;rw[hf]at l;cases l;exact⟨r,fun j t y=>x t (by simpa using Array.mem_of_getElem? y)⟩
end
theorem y9:Go.Proofs.YtfdgnogcckoalaaGreatDoor.Tryz.pinned.checked=checked:=rfl
theorem pq:checked.prog=prog:=rfl
theorem Ga:true=prog.looks []:=k_
theorem Sz:ownKnob prog.godebug=none:=k_
open Go.Proofs Go.Proofs.YtfdgnogcckoalaaGreatDoor
section
variable{H:Type}{W:cx}{aa:Nat->Prop}
theorem Ui{n:Nat}{d:dg H}(h:∃cs,aV prog W aa (bH prog (n+1) 9 d) cs)(a:Rows.uptoBulk d<=1048576):∃s:List Nat,bH prog (n+1) 9 d=.str s/\s.length<=1048576/\∀c∈s,c<256:=by
 obtain⟨cs,h⟩:=h;cases d with
 |lit l=>
  cases l with
  |string bytes=>
   refine⟨bytes.map (·.toNat),by simp only[bH,uR],?_,?_⟩
   ·rw[Rows.uptoBulk]at a;rw[hZ];omega
   ·intro c hc;obtain⟨u,_,rfl⟩:=hU.1 hc;exact u.toNat_lt
  |_=>simp only[bH,uR,aV]at h
 |_=>simp only[bH,uR,aV]at h
theorem Ij{d:dg H}(h:∃cs,aV prog W aa (bH prog 8 9 d) cs)(a:Rows.uptoBulk d<=1048576):∃s:List Nat,bH prog 8 9 d=.str s/\s.length<=1048576/\∀c∈s,c<256:=
 Ui (n:=7) h a
end
theorem mix:prog.follows .mixedOrders=true:=k_
abbrev nf:cR->Bool:=fun _=>false
def wB:Nat:=18446744073709551616
theorem rr(x y c:Nat)(hc:c<=1):aA prog 289 [.int .u64 x,.int .u64 y,.int .u64 c] (.aE [.int .u64 ((x+y+c)% wB:Nat),.int .u64 ((x+y+c)/wB:Nat)]):=by
 refine .inr fun w aa a h=>?_;simp only[bm,aB]at h;obtain⟨_,_,rfl,rfl,_,_,rfl,rfl,_,_,rfl,rfl,rfl⟩:=h;refine⟨.tuple #[.int .u64 ((x+y+c)% wB:Nat),.int .u64 ((x+y+c)/wB:Nat)],?_,?_⟩
 ·show(callFunc 289 #[.int .u64 x,.int .u64 y,.int .u64 c]).run prog w=_;rw[c7 func289 k_ k_ k_ (e:=add64Entry) k_,run_add64 x y c o_ o_ o_ o_];simp only[Result.andThen,wB];congr 5<;>omega
 ·simp only[aB,bm];exact⟨[.int .u64 ((x+y+c)% wB:Nat),.int .u64 ((x+y+c)/wB:Nat)],⟨_,_,rfl,rfl,_,_,rfl,rfl,rfl⟩,rfl⟩
theorem akq(x y c:Nat)(hc:c<=1):aA prog 291 [.int .u64 x,.int .u64 y,.int .u64 c] (.aE [.int .u64 ((x+wB-y-c)% wB:Nat),.int .u64 ((if x<y+c then 1 else 0:Nat):Int)]):=by
 refine .inr fun w aa a h=>?_;simp only[bm,aB]at h;obtain⟨_,_,rfl,rfl,_,_,rfl,rfl,_,_,rfl,rfl,rfl⟩:=h;refine⟨.tuple #[.int .u64 ((x+wB-y-c)% wB:Nat),.int .u64 ((if x<y+c then 1 else 0:Nat):Int)],?_,?_⟩
 ·show(callFunc 291 #[.int .u64 x,.int .u64 y,.int .u64 c]).run prog w=_;rw[c7 func291 k_ k_ k_ (e:=sub64Entry) k_,run_sub64 x y c hc];rfl
 ·simp only[aB,bm];exact⟨[.int .u64 ((x+wB-y-c)% wB:Nat),.int .u64 ((if x<y+c then 1 else 0:Nat):Int)],⟨_,_,rfl,rfl,_,_,rfl,rfl,rfl⟩,rfl⟩
def nD(B:Nat):Nat->Nat->List Nat
 |0,_=>[]
 |f+1,n=>if n=0 then[]else n% B::nD B f (n/B)
def ar(B n:Nat):List Nat:=nD B (n+1) n
def jq(B:Nat):List Nat->Nat
 |[]=>0
 |d::l=>d+B*jq B l
def ae(B n i:Nat):Nat:=n/B^i% B
section
variable{B:Nat}
theorem Kh(a:2<=B):∀(f g n:Nat),n<f->n<g->nD B f n=nD B g n
 |0,_,_,h,_=>by omega
 |_,0,_,_,h=>by omega
 |f+1,g+1,n,b,c=>by
  simp only[nD]
  split
  ·rfl
  ·rename_i d;have:n/B<n:=m5 o_ o_;rw[Kh a f g (n/B) o_ o_]
theorem mX:ar B 0=[]:=by simp[ar,nD]
theorem tT(a:2<=B){n:Nat}(h:n≠0):ar B n=n% B::ar B (n/B):=by
 have:n/B<n:=m5 o_ o_;rw[ar,nD,if_neg h,ar,Kh a n (n/B+1) (n/B) this o_]
theorem Md(a:2<=B)(n:Nat):jq B (ar B n)=n:=by
 induction n using n2 with
 |ind n b=>
  by_cases h:n=0
  ·subst h;simp[mX,jq]
  ·rw[tT a h,jq,b _ (m5 o_ o_)];exact lk n B
theorem axx(a:2<=B):∀(i n:Nat),(ar B n)[i]?.getD 0=ae B n i
 |i,n=>by
  induction i generalizing n with
  |zero=>
   by_cases h:n=0
   ·subst h;simp[mX,ae]
   ·rw[tT a h];simp[ae]
  |succ i b=>
   by_cases h:n=0
   ·subst h;simp[mX,ae]
   ·rw[tT a h,List.getElem?_cons_succ,b];simp only[ae,j9,j6];rw[j3 B]
theorem eH(a:2<=B){n i:Nat}(h:i<(ar B n).length):(ar B n)[i]=ae B n i:=by
 have:=axx a i n;rw[hD h]at this;exact this
theorem cq(b:2<=B)(n:Nat):n<B^(ar B n).length:=by
 induction n using n2 with
 |ind n c=>
  by_cases h:n=0
  ·subst h;simp[mX]
  ·rw[tT b h,hT,j6];have:=c _ (m5 (n:=n) (k:=B) o_ o_);have d:=lk n B;have e:=kk n (show 0<B by omega);have a:(n/B+1)*B<=B^(ar B (n/B)).length*B:=kh B this;rw[kt,j3 (n/B) B]at a;omega
theorem dO(b:2<=B):∀(k n:Nat),n<B^k->(ar B n).length<=k
 |0,n,h=>by
  have:n=0:=by simpa using h
  subst this;simp[mX]
 |k+1,n,h=>by
  by_cases a:n=0
  ·subst a;simp[mX]
  ·rw[tT b a,hT];have:=dO b k (n/B) (by
    rw[j4 o_,<-j6];exact h)
   omega
theorem KU(a:2<=B){k n:Nat}(h:B^k<=n):k<(ar B n).length:=by
 have:=cq a n;exact(n4 (by omega:1<B)).1 (kd h this)
def eB:List Nat->List Nat
 |[]=>[]
 |d::l=>match eB l with
  |[]=>if d=0 then[]else[d]
  |t=>d::t
theorem DE(a:2<=B):∀{l:List Nat},(∀d∈l,d<B)->ar B (jq B l)=eB l
 |[],_=>by simp[jq,mX,eB]
 |d::l,h=>by
  have c:=DE a (l:=l) fun x hx=>h x (List.mem_cons_of_mem _ hx);have f:=h d List.mem_cons_self;simp only[eB,jq]
  by_cases b:d+B*jq B l=0
  ·have k:d=0:=by omega
   have m:jq B l=0:=by
    rcases Nat.mul_eq_zero.1 (show B*jq B l=0 by omega)with e|e
    ·omega
    ·exact e
   rw[b,mX,<-c,m,mX];simp[k]
  ·rw[tT a b];have e1:(d+B*jq B l)% B=d:=by rw[m0,j5 f]
   have e2:(d+B*jq B l)/B=jq B l:=by
    rw[ls _ _ o_,kv f,l4]
   rw[e1,e2,c]
   split
   ·rename_i g;have i:=c;rw[g,j a]at i;rw[if_neg (by rw[i]at b;simpa using b),g]
   ·rfl
where j (a:2<=B) {n:Nat}:(ar B n=[])=(n=0):=by
        apply propext;constructor
        ·intro h;rw[<-Md a n,h];rfl
        ·rintro rfl;exact mX
def row(B m n:Nat):List Nat:=(hC m).map (ae B n)
theorem N9{m n:Nat}:(row B m n).length=m:=by simp[row]
theorem Zk(m n:Nat):row B (m+1) n=n% B::row B m (n/B):=by
 rw[row,List.range_succ_eq_map,hG,h7];congr 1
 ·simp[ae]
 ·rw[row];apply hP;intro i _;simp only[Function.comp,ae,j9,j6];rw[j3]
theorem N8(a:2<=B):∀(m n:Nat),jq B (row B m n)=n% B^m
 |0,n=>by simp[row,jq,mp]
 |m+1,n=>by
  rw[Zk,jq,N8 a m,j6,j3 (B^m),nz]
theorem jZ(a:2<=B){m n:Nat}(h:n<B^m):eB (row B m n)=ar B n:=by
 rw[<-DE a (l:=row B m n),N8 a,j5 h];intro d b;simp only[row,hU]at b;obtain⟨i,_,rfl⟩:=b;exact kk _ o_
theorem axy(b:2<=B)(n:Nat):ar B n=row B (ar B n).length n:=by
 apply hM (by simp[row]);intro i a c;rw[eH b a];simp[row]
end
section
variable{B:Nat}
theorem mod_pow_succ(n i:Nat):n% B^(i+1)=n% B^i+B^i*ae B n i:=by
 rw[j6,nz,ae]
def dt(B a b i:Nat):Nat:=(a% B^i+b% B^i)/B^i
theorem yA(a b:Nat):dt B a b 0=0:=by simp[dt,mp]
theorem me(f:2<=B)(a b i:Nat):dt B a b i<=1:=by
 have c:0<B^i:=kc o_;have d:=kk a c;have e:=kk b c;rw[dt];have:(a% B^i+b% B^i)/B^i<2:=by rw[j4 c];omega
 omega
theorem qL(e:2<=B)(a b i:Nat):(ae B a i+ae B b i+dt B a b i)% B=ae B (a+b) i/\(ae B a i+ae B b i+dt B a b i)/B=dt B a b (i+1):=by
 have c:0<B^i:=kc o_;constructor
 ·have d:(a+b)/B^i=dt B a b i+(a/B^i+b/B^i):=by
   rw[dt]
   conv=>lhs;rw[<-lk a (B^i),<-lk b (B^i)]
   rw[show a% B^i+B^i*(a/B^i)+(b% B^i+B^i*(b/B^i))=(a% B^i+b% B^i)+B^i*(a/B^i+b/B^i)by rw[lz];omega];rw[ls _ _ c]
  rw[ae,ae,ae,d,n1,<-n1 (a/B^i),<-n1,lt]
 ·conv=>rhs;rw[dt,mod_pow_succ,mod_pow_succ,j6,<-j9]
  rw[show a% B^i+B^i*ae B a i+(b% B^i+B^i*ae B b i)=(a% B^i+b% B^i)+B^i*(ae B a i+ae B b i)by rw[lz];omega];rw[ls _ _ c,dt,lt ((a% B^i+b% B^i)/B^i)]
theorem jY{n i:Nat}(h:n<B^i):ae B n i=0:=by
 rw[ae,kv h,ob]
theorem ct(a:2<=B)(n i:Nat):ae B n i<B:=kk _ o_
def fu(B a b i:Nat):Nat:=if a% B^i<b% B^i then 1 else 0
theorem Ci(a b:Nat):fu B a b 0=0:=by simp[fu,mp]
theorem Mk(d:2<=B){a b:Nat}(k:b<=a)(i:Nat):
 (ae B a i<ae B b i+fu B a b i/\fu B a b (i+1)=1/\ae B a i+B=ae B (a-b) i+(ae B b i+fu B a b i))\/
 (ae B b i+fu B a b i<=ae B a i/\fu B a b (i+1)=0/\ae B a i=ae B (a-b) i+(ae B b i+fu B a b i)):=by
 have g:0<B^i:=kc o_;obtain⟨c,rfl⟩:=Nat.le.dest k;have j:=qL d b c i;rw[show b+c-b=c by omega];have hc:∀i,fu B (b+c) b i=dt B b c i:=by
  intro i;have g:0<B^i:=kc o_;have l:=kk b g;have m:=kk c g;rw[fu,dt,n1]
  by_cases h:b% B^i+c% B^i<B^i
  ·rw[j5 h,kv h,if_neg (oq.2 (Nat.le_add_right _ _))]
  ·have e1:(b% B^i+c% B^i)/B^i=1:=by
    rw[show b% B^i+c% B^i=(b% B^i+c% B^i-B^i)+B^i*1 by omega,ls _ _ g,kv o_]
   have e2:(b% B^i+c% B^i)% B^i=b% B^i+c% B^i-B^i:=by
    rw[Nat.mod_eq_sub_mod o_,j5 o_]
   rw[e1,e2,if_pos o_]
 rw[hc,hc];have n:=ct d b i;have o:=ct d c i;have p:=me d b c i;have f:=lk (ae B b i+ae B c i+dt B b c i) B;rw[j.1,j.2]at f;have q:=me d b c (i+1);have r:=ct d (b+c) i;rcases(show dt B b c (i+1)=0\/dt B b c (i+1)=1 by omega)with e|e
 ·right;rw[e]at f⊢;simp at f;exact⟨o_,rfl,o_⟩
 ·left;rw[e]at f⊢;simp at f;exact⟨o_,rfl,o_⟩
def jo(B a b i j:Nat):Nat:=(a% B^i)*b+ae B a i*(b% B^j)*B^i
def du(B a b i j k:Nat):Nat:=if k<i+j then ae B (jo B a b i j) k else ae B ((a% B^i)*b) k
def mulC(B a b i j:Nat):Nat:=jo B a b i j/B^(i+j)-(a% B^i)*b/B^(i+j)
theorem aKo(a b i j:Nat):(a% B^i)*b<=jo B a b i j:=by rw[jo];omega
theorem Lg(a b i:Nat):jo B a b i 0=(a% B^i)*b:=by simp[jo,mp]
theorem CA(a b i:Nat):mulC B a b i 0=0:=by simp[mulC,Lg]
theorem Li(a b i j:Nat):jo B a b i (j+1)=jo B a b i j+ae B a i*ae B b j*B^(i+j):=by
 rw[jo,jo,mod_pow_succ,lz,kt,kw];have:ae B a i*(B^j*ae B b j)*B^i=ae B a i*ae B b j*(B^i*B^j):=by
  rw[j3 (B^j),<-kp,kp,j3 (B^j)]
 omega
theorem MX(a b i:Nat){n:Nat}(h:b<B^n):jo B a b i n=(a% B^(i+1))*b:=by
 rw[jo,j5 h,mod_pow_succ,kt];congr 1;rw[l1,j3 (ae B a i)]
theorem ym(n k:Nat):n/B^(k+1)=n/B^k/B:=by rw[j6,j9]
theorem Dd(g:2<=B)(a b i j:Nat):
 (ae B a i*ae B b j+du B a b i j (i+j)+mulC B a b i j)% B=ae B (jo B a b i (j+1)) (i+j)/\
 (ae B a i*ae B b j+du B a b i j (i+j)+mulC B a b i j)/B=mulC B a b i (j+1):=by
 have f:0<B^(i+j):=kc o_;have d:jo B a b i (j+1)/B^(i+j)=jo B a b i j/B^(i+j)+ae B a i*ae B b j:=by
  rw[Li,l0 _ _ f]
 have h:(a% B^i)*b/B^(i+j)<=jo B a b i j/B^(i+j):=nc (aKo a b i j);have c:du B a b i j (i+j)=(a% B^i)*b/B^(i+j)% B:=by rw[du,if_neg o_,ae]
 have e:ae B a i*ae B b j+du B a b i j (i+j)+mulC B a b i j+B*((a% B^i)*b/B^(i+j)/B)=jo B a b i (j+1)/B^(i+j):=by
  rw[d,c,mulC];have:=lk ((a% B^i)*b/B^(i+j)) B;omega
 constructor
 ·conv=>rhs;rw[ae,<-e]
  rw[m0]
 ·conv=>rhs;rw[mulC,show i+(j+1)=i+j+1 from rfl,ym,ym,<-e,ls _ _ o_]
  rw[li]
theorem Lj(f:2<=B){a b i j k:Nat}(hk:k≠i+j):du B a b i (j+1) k=du B a b i j k:=by
 rw[du,du]
 by_cases h:k<i+j
 ·rw[if_pos o_,if_pos h,Li];have e:0<B^k:=kc o_;obtain⟨d,c⟩:∃d,i+j=k+1+d:=⟨i+j-(k+1),by
   have:k+1<=i+j:=h;rw[Nat.add_sub_cancel' this]⟩
  rw[c,kw,j6];generalize ae B a i*ae B b j=x;rw[ae,ae,show x*(B^k*B*B^d)=x*B^d*B*B^k by simp only[kp,j3,nn]];rw[l0 _ _ e,ln]
 ·rw[if_neg o_,if_neg h]
theorem MY(a b i j:Nat):du B a b i (j+1) (i+j)=ae B (jo B a b i (j+1)) (i+j):=by
 rw[du,if_pos o_]
theorem vX(d:2<=B)(a:Nat){b n:Nat}(i:Nat)(h:b<B^n):(a% B^i)*b<B^(i+n):=by
 have c:0<B^i:=kc o_;rw[kw];exact ll (kk _ c) h
theorem JZ(c:2<=B){a b i n:Nat}(h:b<B^n):mulC B a b i n=ae B ((a% B^(i+1))*b) (i+n):=by
 have h1:=vX c a i h;have d:=vX c a (i+1) h;rw[mulC,MX a b i h,kv h1,oe];refine(j5 ?_).symm;rw[j4 (kc o_),j3 B,<-j6,show(i+n).succ=i+1+n by omega];exact d
theorem pD(a b i k:Nat):du B a b i 0 k=ae B ((a% B^i)*b) k:=by
 rw[du,Lg];split<;>rfl
theorem MZ(c:2<=B){a b i n k:Nat}(h:b<B^n)(hk:k≠i+n):du B a b i n k=ae B ((a% B^(i+1))*b) k:=by
 rw[du]
 split
 ·rw[MX a b i h]
 ·rename_i h1;have e1:(a% B^i)*b<B^k:=j7 (vX c a i h) (j8 o_ o_);have e2:(a% B^(i+1))*b<B^k:=j7 (vX c a (i+1) h) (j8 o_ o_);rw[jY e1,jY e2]
theorem tR(d:2<=B)(a b i:Nat):∀j,mulC B a b i j<B
 |0=>by rw[CA];omega
 |j+1=>by
  have h:=(Dd d a b i j).2;have f:=tR d a b i j;have g:du B a b i j (i+j)<B:=by rw[du];split<;>exact ct d _ _
  have e:ae B a i*ae B b j<=(B-1)*(B-1):=nb (by have:=ct d a i;omega) (by have:=ct d b j;omega);rw[<-h,j4 o_];obtain⟨c,rfl⟩:∃c,B=c+1:=⟨B-1,o_⟩
  simp only[li]at e;rw[kt,lz];omega
end
section
variable{B:Nat}
theorem KP{V W d:Nat}(a:0<V/d):W/V<=W/d/(V/d):=by
 have e:0<d:=by
  rcases lc d with h|h
  ·subst h;simp at a
  ·exact h
 have f:0<V:=by
  rcases lc V with h|h
  ·subst h;simp at a
  ·exact h
 rw[lq a,lq e];have b:W/V*V<=W:=lu W V;have c:V/d*d<=V:=lu V d
 calc W/V*(V/d)*d=W/V*(V/d*d):=kp _ _ _
  _<=W/V*V:=km _ c
  _<=W:=b
theorem Yl{V W d q:Nat}(f:0<d)(e:0<V)(h:W/d<q*(V/d)):W/V<q:=by
 rw[j4 e];have b:W<(W/d+1)*d:=by
  have:=nl (a:=W) f;rw[kt];omega
 have c:V/d*d<=V:=lu V d
 calc W<(W/d+1)*d:=b
  _<=q*(V/d)*d:=kh _ h
  _=q*(V/d*d):=kp _ _ _
  _<=q*V:=km _ c
theorem W0{V W d q:Nat}(c:0<d)(i:q*d<=V)(b:0<V)(h:q*(V/d)<=W/d):q<=W/V+1:=by
 rcases lc q with hq|hq
 ·subst hq;exact m8 _
 have:q-1<=W/V:=by
  rw[lq b,Nat.sub_mul,lw];have a:V<=V/d*d+d:=pa (nl c);have e:W/d*d<=W:=lu W d;have f:q*V<=q*(V/d)*d+q*d:=by
   calc q*V<=q*(V/d*d+d):=km _ a
    _=q*(V/d)*d+q*d:=by rw[lz,kp]
  have g:q*(V/d)*d<=W/d*d:=kh _ h;omega
 omega
theorem C1{q b c T a r:Nat}(d:q*b+r=T):q*(b*B+c)<=T*B+a↔q*c<=r*B+a:=by
 subst d;rw[lz,kt,kp];omega
theorem s8(n k:Nat):n/B^k=n/B^(k+1)*B+ae B n k:=by
 rw[ym,ae,j3];exact(ko _ _).symm
theorem qZ(n j i:Nat):ae B (n/B^j) i=ae B n (j+i):=by
 rw[ae,ae,j9,kw]
theorem DG{n m i:Nat}(h:i<m):ae B (n% B^m) i=ae B n i:=by
 obtain⟨d,rfl⟩:∃d,m=i+(d+1):=⟨m-i-1,o_⟩
 rw[ae,ae,kw,mx,j6,j3 (B^d),mm]
theorem yu{n c m i:Nat}(h:i<m):ae B (n+c*B^m) i=ae B n i:=by
 rw[<-DG (n:=n+c*B^m) h,ln,DG h]
def SK(B W V q n:Nat):Nat:=W+B^(n+1)-q*V
theorem aLz{W V q n:Nat}(h:q*V<=W){i:Nat}(hi:i<n+1):ae B (SK B W V q n) i=ae B (W-q*V) i:=by
 rw[SK,show W+B^(n+1)-q*V=(W-q*V)+1*B^(n+1)by omega,yu hi]
theorem Lm(b:2<=B){R d j:Nat}(k:Nat):ae B (R% B^j+d*B^j) k=if k<j then ae B R k else ae B d (k-j):=by
 have a:0<B^j:=kc o_
 split
 ·rename_i h;rw[yu h,DG h]
 ·rename_i h;obtain⟨e,rfl⟩:∃e,k=j+e:=⟨k-j,o_⟩
  rw[<-qZ,l0 _ _ a,kv (kk _ a),l4,m1]
theorem yH{R V j:Nat}:R% (V*B^j)=R% B^j+(R/B^j% V)*B^j/\R/(V*B^j)=R/B^j/V:=by
 constructor
 ·rw[j3 V,nz,j3 (B^j)]
 ·rw[j3 V,j9]
end
section
variable{c v1 v0 T u1 q r:Nat}
def hq(c b a T u1:Nat):Nat:=(T*c+u1)/(b*c+a)
theorem Rr(a:T<v1*c+v0)(b:u1<c):hq c v1 v0 T u1<c:=by
 rw[hq,j4 o_]
 calc T*c+u1<T*c+c:=by omega
  _=(T+1)*c:=by rw[kt,lw]
  _<=(v1*c+v0)*c:=kh _ a
  _=c*(v1*c+v0):=j3 _ _
theorem OG(e:0<v1)(g:v0<c)(f:u1<c):hq c v1 v0 T u1<=T/v1:=by
 have hc:0<c:=o_
 have a:(v1*c+v0)/c=v1:=by rw[j3,o3 hc,kv g,ms]
 have b:(T*c+u1)/c=T:=by rw[j3,o3 hc,kv f,ms]
 have h:=KP (V:=v1*c+v0) (W:=T*c+u1) (d:=c) (by rw[a];exact e)
 rwa [a,b]at h
theorem DA(a:0<v1)(hc:0<c)(d:q*v1+r=T)(f:hq c v1 v0 T u1<=q)(e:q*v0<=c*r+u1):q=hq c v1 v0 T u1:=by
 have b:0<v1*c+v0:=by have:=m9 a hc;omega
 have h:q*(v1*c+v0)<=T*c+u1:=(C1 d).2 (by rw[j3 r];exact e);have:q<=hq c v1 v0 T u1:=by rw[hq,lq b];exact h
 omega
theorem P8(b:0<v1)(hc:0<c)(f:q*v1+r=T)(i:hq c v1 v0 T u1<=q)(a:c<=q/\hq c v1 v0 T u1<c\/c*r+u1<q*v0):hq c v1 v0 T u1<=q-1:=by
 rcases a with⟨a,g⟩|a
 ·omega
 ·have d:0<v1*c+v0:=by have:=m9 b hc;omega
  have h:¬q*(v1*c+v0)<=T*c+u1:=fun e=>by
   have:=(C1 f).1 e;rw[j3 r]at this;omega
  have:hq c v1 v0 T u1<q:=by rw[hq,j4 d];omega
  omega
theorem YR(a:T<v1*c+v0)(e:v0<c)(b:q*v1+r=T)(d:c<=r):q<c:=by
 rcases lm q c with h|h
 ·exact h
 ·have:c*v1<=q*v1:=kh _ h;rw[j3 c]at this;omega
theorem Ni(b:0<v1)(d:T<v1*c+v0)(g:v0<c)(a:q*v1+r=T)(f:c<=r)(e:hq c v1 v0 T u1<=q):q=hq c v1 v0 T u1:=by
 have j:=YR d g a f;refine DA b o_ a e ?_;have h:q*v0<=c*v0:=kh _ o_;have i:c*v0<=c*r:=km _ o_;omega
theorem Rq(a:0<v1)(b:T<v1*c+v0)(d:c<=2*v1)(e:v0<c):T/v1<=c+1:=by
 have:T/v1<c+2:=by
  rw[j4 a,kt,j3 c];omega
 omega
theorem OE:T*c+u1-hq c v1 v0 T u1*(v1*c+v0)=(T*c+u1)% (v1*c+v0):=by
 rw[hq];generalize T*c+u1=A;generalize v1*c+v0=V;have:=ko A V;rw[j3 (A/V)];omega
theorem azv{Y U c:Nat}(hY:0<Y):U/Y=U/c/Y*c+((U/c% Y)*c+U% c)/Y/\U% Y=((U/c% Y)*c+U% c)% Y:=by
 have e:U=(U/c% Y*c+U% c)+(U/c/Y*c)*Y:=by
  have a:=ko U c;have b:=ko (U/c) Y;have d:(Y*(U/c/Y)+U/c% Y)*c=U/c*c:=by rw[b]
  rw[kt,j3 Y,l1]at d;rw[j3 c]at a;omega
 constructor
 ·conv=>lhs;rw[e]
  rw[l0 _ _ hY,lt]
 ·conv=>lhs;rw[e]
  rw[ln]
end
section
variable{B W V n q r:Nat}
theorem aMj(b:2<=B)(c:2<=n)(a:V<B^n):V/B^(n-2)=ae B V (n-1)*B+ae B V (n-2):=by
 obtain⟨k,rfl⟩:∃k,n=k+2:=⟨n-2,o_⟩
 have e1:k+2-2=k:=o_
 have e2:k+2-1=k+1:=o_
 rw[e1,e2,s8];have:V/B^(k+1)=ae B V (k+1):=by
  rw[ae,j5];rw[j4 (kc o_),j3,<-j6];exact a
 rw[this]
theorem aMh(c:2<=B)(d:2<=n)(a:B^(n-1)<=V)(b:V<B^n):V/B^(n-1)=ae B V (n-1)/\0<ae B V (n-1):=by
 obtain⟨k,rfl⟩:∃k,n=k+1:=⟨n-1,o_⟩
 have e2:k+1-1=k:=o_
 rw[e2]at*;have:V/B^k=ae B V k:=by
  rw[ae,j5];rw[j4 (kc o_),j3,<-j6];exact b
 exact⟨this,by rw[<-this];exact n0 a (kc o_)⟩
theorem C0(b:2<=B)(c:2<=n)(a:B^(n-1)<=V):0<V:=j7 (kc o_) a
theorem OJ(c:2<=B)(f:2<=n)(d:B^(n-1)<=V)(e:V<B^n):W/V<=W/B^(n-1)/ae B V (n-1):=by
 obtain⟨a,b⟩:=aMh c f d e;rw[<-a];exact KP (by rw[a];exact b)
theorem P9(a:2<=B)(c:2<=n)(b:V<B^n)(d:q*ae B V (n-1)+r=W/B^(n-1)):
 q*(V/B^(n-2))<=W/B^(n-2)↔q*ae B V (n-2)<=r*B+ae B W (n-2):=by
 rw[aMj a c b,s8,show n-2+1=n-1 by omega];exact C1 d
theorem EU(b:2<=B)(c:2<=n)(a:B^(n-1)<=V)(d:V<B^n)(g:q*ae B V (n-1)+r=W/B^(n-1))(hq:q<B)(h:q*ae B V (n-2)<=r*B+ae B W (n-2)):q<=W/V+1:=by
 have f:0<B^(n-2):=kc o_;refine W0 f ?_ (C0 b c a) ((P9 b c d g).2 h);have e:n-1=n-2+1:=o_
 rw[e,j6,j3]at a;exact md (kh _ o_) a
theorem Qa(a:2<=B)(b:2<=n)(c:B^(n-1)<=V)(d:V<B^n)(f:q*ae B V (n-1)+r=W/B^(n-1))(g:r*B+ae B W (n-2)<q*ae B V (n-2)):W/V<q:=by
 have e:0<B^(n-2):=kc o_;refine Yl e (C0 a b c) ?_;rcases lm (W/B^(n-2)) (q*(V/B^(n-2)))with h|h
 ·exact h
 ·have:=(P9 a b d f).1 h;omega
theorem OI(a:2<=B)(b:B<=r)(hq:q<B):q*ae B V (n-2)<=r*B+ae B W (n-2):=by
 have e:ae B V (n-2)<B:=ct a _ _;have c:q*ae B V (n-2)<=B*B:=nb o_ o_;have d:B*B<=r*B:=kh _ b;omega
theorem DB(e:2<=B)(f:1<=n)(c:V<B^n)(a:W<V*B):W/B^n<=ae B V (n-1)/\W/V<B:=by
 obtain⟨k,rfl⟩:∃k,n=k+1:=⟨n-1,o_⟩
 have e2:k+1-1=k:=o_
 rw[e2];have hk:0<B^k:=kc o_;have b:V/B^k=ae B V k:=by
  rw[ae,j5];rw[j4 hk,j3,<-j6];exact c
 refine⟨?_,?_⟩
 ·rw[<-b,j6,j3,<-j9];refine nc ?_;have:W/B<V:=by rw[j4 o_];exact a
  omega
 ·have d:0<V:=by
   rcases lc V with h|h
   ·subst h;simp at a
   ·exact h
  rw[j4 d,j3];exact a
def jd(B V q i:Nat):Nat:=q*(V% B^i)/B^i
theorem XY:jd B V q 0=0:=by simp[jd,mp]
theorem Zl(b:2<=B)(i:Nat):(q*ae B V i+jd B V q i)% B=ae B (q*V) i/\(q*ae B V i+jd B V q i)/B=jd B V q (i+1):=by
 have a:0<B^i:=kc o_;have e:q*(V% B^(i+1))/B^i=q*ae B V i+jd B V q i:=by
  rw[mod_pow_succ,lz,nn,ls _ _ a,jd,lt]
 rw[<-e];constructor
 ·have e2:q*V=q*(V% B^(i+1))+q*(V/B^(i+1))*B^(i+1):=by
   have:=lk V (B^(i+1))
   conv=>lhs;rw[<-this]
   rw[lz,j3 (B^(i+1)),kp]
  conv=>rhs;rw[e2,yu o_]
  rfl
 ·rw[jd,ym]
theorem aLJ(b:2<=B)(hq:q<B)(i:Nat):jd B V q i<B:=by
 have a:0<B^i:=kc o_;rw[jd,j4 a];exact ll hq (kk _ a)
theorem Zn(c:2<=B)(hq:q<B)(a:V<B^n):jd B V q n=ae B (q*V) n:=by
 have b:0<B^n:=kc o_;rw[jd,j5 a,ae];refine(j5 ?_).symm;rw[j4 b];exact ll hq a
theorem WK(hq:q<B)(a:V<B^n):q*V<B^(n+1):=by
 rw[j6,j3 (B^n)];exact ll hq a
theorem vS{m i:Nat}(hi:i<m):ae B (W+B^m) i=ae B W i:=by
 have:=yu (B:=B) (n:=W) (c:=1) hi
 rwa [lw]at this
theorem Wp(b:W<B^(n+1))(a:q*V<B^(n+1)):fu B (W+B^(n+1)) (q*V) (n+1)=if W<q*V then 1 else 0:=by
 rw[fu,oz,j5 b,j5 a]
theorem aLA(h:q*V<=W)(b:q<=W/V+1)(a:0<V)(c:W/V<=q):q=W/V/\W-q*V=W% V:=by
 have e:q=W/V:=by
  have:=(lq a).2 h;omega
 refine⟨e,?_⟩;have:=ko W V;rw[e,j3];omega
theorem Zr(h:W<q*V)(b:q<=W/V+1)(a:0<V)(c:W/V<=q):q=W/V+1/\∀M,q*V<=W+M->W+M-q*V+V=W% V+M:=by
 have e:q=W/V+1:=by
  have:¬q<=W/V:=fun e=>by
   have:=(lq a).1 e;omega
  omega
 refine⟨e,fun M d=>?_⟩;have:=ko W V;have e2:q*V=V*(W/V)+V:=by rw[e,kt,lw,j3]
 omega
end
section
variable{S T:Nat}
theorem JL{x0 x1:Nat}(h:x0<S)(c:0<T):(x0+S*x1)% (S*T)=x0+S*(x1% T):=by
 have d:0<S:=o_
 have e:x1=x1% T+T*(x1/T):=(lk x1 T).symm
 conv=>lhs;rw[e,lz,<-kp,<-n5,m0]
 refine j5 ?_;have a:x1% T+1<=T:=kk _ c;have b:S*(x1% T+1)<=S*T:=km _ a;rw[lz,na]at b;omega
theorem Yt(w:Nat):ae (S*T) (w*S) 0=(ae (S*T) w 0*S)% (S*T):=by
 simp only[ae,lb,l3];rw[Nat.mod_mul_mod]
theorem Yu(b:0<S)(a:0<T)(w i:Nat):ae (S*T) (w*S) (i+1)=(ae (S*T) w (i+1)*S)% (S*T)+ae (S*T) w i/T:=by
 have d:0<S*T:=m9 b a;have e0:w*S/(S*T)^(i+1)=w/(S*T)^i/T:=by
  rw[j6,j3 S T,<-kp,m6 _ _ b,j9]
 have e1:w/(S*T)^(i+1)=w/(S*T)^i/(S*T):=by rw[j6,j9]
 simp only[ae];rw[e0,e1];generalize w/(S*T)^i=x;have e2:x/T=x% (S*T)/T+S*(x/(S*T)):=by
  conv=>lhs;rw[<-lk x (S*T)]
  rw[show S*T*(x/(S*T))=T*(S*(x/(S*T)))by rw[j3 S T,kp],ls _ _ a]
 have c:x% (S*T)/T<S:=by rw[j4 a];exact kk _ d
 rw[e2,JL c a];have e3:x/(S*T)% (S*T)*S% (S*T)=S*(x/(S*T)% T):=by
  rw[j3 _ S,mo,j3 S T,mm]
 rw[e3,lt]
theorem aLR(a:0<S)(e:0<T)(R i:Nat):ae (S*T) (R/S) i=ae (S*T) R i/S+(ae (S*T) R (i+1)*T)% (S*T):=by
 have d:0<S*T:=m9 a e;have e0:R/S/(S*T)^i=R/(S*T)^i/S:=by rw[j9,j3,j9]
 have e1:R/(S*T)^(i+1)=R/(S*T)^i/(S*T):=by rw[j6,j9]
 simp only[ae];rw[e0,e1];generalize R/(S*T)^i=x;have e2:x/S=x% (S*T)/S+T*(x/(S*T)):=by
  conv=>lhs;rw[<-lk x (S*T)]
  rw[kp,ls _ _ a]
 have c:x% (S*T)/S<T:=by rw[j4 a,j3 T];exact kk _ d
 have b:=JL (S:=T) (T:=S) (x0:=x% (S*T)/S) (x1:=x/(S*T)) c a;rw[j3 T S]at b;rw[e2,b];have e3:x/(S*T)% (S*T)*T% (S*T)=T*(x/(S*T)% S):=by
  rw[j3 _ T,j3 S T,mo,j3 T S,mm]
 rw[e3]
end
theorem D7{a b s:Nat}(c:b<2^s):a*2^s|||b=a*2^s+b:=by
 have:=Nat.shiftLeft_add_eq_or_of_lt c a;rw[Nat.shiftLeft_eq]at this;exact this.symm
def eW(l:List Nat):List PV:=l.map fun x:Nat=>.int .u64 x
theorem SR(w:List Nat):fk prog 1 (w.map (AV.p∘fun x:Nat=>PV.int .u64 x)):=by
 rw[vC];intro v a;obtain⟨x,_,rfl⟩:=hU.1 a;simp[ad,aL,bG]
theorem Cj:∀l:List Nat,eB (l++[0])=eB l
 |[]=>by simp[eB]
 |d::l=>by rw[hN,eB,Cj l,eB]
theorem vz:∀(l:List Nat)(d:Nat),d≠0->eB (l++[d])=l++[d]
 |[],d,h=>by simp[eB,h]
 |x::l,d,h=>by
  rw[hN,eB,vz l d h]
  split
  ·rename_i e;simp at e
  ·rfl
theorem tV(w:List Nat)(h:w.length<=1048576):aA prog 290 [.seq (eW w)] (.seq (eW (eB w))):=by
 refine aM nf (i_ func290) mix (by simp[f290]) ?_;simp only[eW];simp[f290];refine lp (α:=Nat) (fun i=>⟨[(3,.p (.int .i64 i)),(0,.p (.seq (w.map fun x:Nat=>.int .u64 x)))],[]⟩) (fun i=>i<=w.length/\eB w=eB (w.take i)) (fun i=>i) w.length s_ ?_;rintro i ⟨k1,k2⟩
 by_cases hi:0<i
 ·obtain⟨j,rfl⟩:∃j,i=j+1:=⟨i-1,o_⟩
  have d:dp.wrap (j:Int)=j:=aO _ o_ o_;have a:j<w.length:=o_
  have c:(0:Int)<(j:Int)+1:=o_
  have k3:=k2;rw[hW a]at k2
  by_cases b:w[j]=0
  ·rw[b,Cj]at k2;have e:((w[j]:Nat):Int)=0:=by omega
   simp[c,d,a,b];exact rd j ⟨o_,k2⟩
  ·rw[vz _ _ b,<-hW a]at k2;simp[c,d,a,b];refine⟨⟨o_,o_,SR w⟩,?_⟩;rw[k2,h6];exact bB.refl _
 ·obtain rfl:i=0:=by omega
  simp[eB]at k2;simp[k2];exact SR w
def eN(n:Nat):PV:=.seq ((ar wB n).map fun x:Nat=>.int .u64 x)
theorem bh:2<=wB:=by decide
def fY(a b:Nat):Int:=if a<b then -1 else if b<a then 1 else 0
theorem Kl{a b:Nat}(h:(ar wB a).length<(ar wB b).length):a<b:=by
 have d:=cq bh a;rcases lm a b with c|c
 ·exact c
 ·have:=dO bh (ar wB a).length b (kd c d);omega
theorem LW{a b i:Nat}(h:a/wB^(i+1)=b/wB^(i+1))(e:ae wB a i<ae wB b i):a<b:=by
 rw[j6,<-j9,<-j9]at h;have e1:=ko (a/wB^i) wB;have e2:=ko (b/wB^i) wB;rw[ae,ae]at e;rw[h]at e1;rcases lm a b with d|d
 ·exact d
 ·have:=nc (c:=wB^i) d;omega
theorem ZY{a b i:Nat}(h:a/wB^(i+1)=b/wB^(i+1))(c:ae wB a i=ae wB b i):a/wB^i=b/wB^i:=by
 rw[j6,<-j9,<-j9]at h;have e1:=ko (a/wB^i) wB;have e2:=ko (b/wB^i) wB;rw[ae,ae]at c;rw[h]at e1;omega
theorem Jy(a b:Nat)(w:(ar wB a).length<=1048576)(z:(ar wB b).length<=1048576):aA prog 243 [eN a,eN b] (.int .i64 (fY a b)):=by
 refine aM nf (i_ func243) mix (by simp[f243]) ?_
 by_cases hl:(ar wB a).length=(ar wB b).length
 case neg=>
  have m:¬((ar wB a).length:Int)=(ar wB b).length:=o_
  by_cases t:(ar wB a).length<(ar wB b).length
  ·have g:((ar wB a).length:Int)<(ar wB b).length:=by omega
   have:=Kl t;have hc:fY a b= -1:=if_pos this;simp[f243,eN,m,g,hc]
  ·have g:¬((ar wB a).length:Int)<(ar wB b).length:=by omega
   have:=Kl (a:=b) (b:=a) o_;have hc:fY a b=1:=by rw[fY,if_neg o_,if_pos this]
   simp[f243,eN,m,g,hc]
 have q:∀i(h:i<(ar wB a).length),(ar wB a)[i]=ae wB a i:=fun i h=>eH bh h;have r:∀i(h:i<(ar wB b).length),(ar wB b)[i]=ae wB b i:=fun i h=>eH bh h;have o:=cq bh a;have l:=cq bh b;rw[<-hl]at l;have s:a/wB^(ar wB a).length=b/wB^(ar wB a).length:=by rw[kv o,kv l]
 have A:a=b\/a≠b:=o_
 simp only[eN];generalize ar wB a=x at*;generalize ar wB b=y at*;have v:dp.wrap ((y.length:Int)-1)=y.length-1:=aO _ o_ o_;simp[f243,hl,v];refine lp (α:=Nat) (fun i=>⟨[(5,.p (.int .i64 ((i:Int)-1))),(1,.p (.seq (y.map fun x:Nat=>.int .u64 x))),(0,.p (.seq (x.map fun x:Nat=>.int .u64 x)))],[]⟩) (fun i=>i<=y.length/\a/wB^i=b/wB^i) (fun i=>i) y.length ⟨la _,by rw[<-hl];exact s⟩ ?_;rintro i ⟨k1,k2⟩
 by_cases hi:0<i
 ·obtain⟨j,rfl⟩:∃j,i=j+1:=⟨i-1,o_⟩
  have c:j<x.length:=o_
  have d:j<y.length:=o_
  have u:dp.wrap ((j:Int)-1)=j-1:=aO _ o_ o_;have e:=q j c;have f:=r j d
  by_cases hq:ae wB a j=ae wB b j
  ·simp[c,d,e,f,hq,u];exact rd j ⟨o_,ZY k2 hq⟩
  ·have n:¬(ae wB a j:Int)=ae wB b j:=by omega
   by_cases k:ae wB a j<ae wB b j
   ·have:=LW k2 k;have hc:fY a b= -1:=if_pos this;simp[c,d,e,f,n,k,hc]
   ·have:=LW k2.symm (show ae wB b j<ae wB a j by omega);have hc:fY a b=1:=by rw[fY,if_neg o_,if_pos this]
    simp[c,d,e,f,n,k,hc]
 ·obtain rfl:i=0:=by omega
  rw[lb,l3,l3]at k2;have hc:fY a b=0:=by rw[fY,if_neg o_,if_neg o_]
  simp[hc]
@[simp] theorem LK{α:Type}{f:α->PV}:∀{l:List α},eZ (l.map (AV.p∘f))=some (l.map f)
 |[]=>rfl
 |x::l=>by simp only[hG,Function.comp,eZ];rw[show(l.map (AV.p∘f))=l.map (fun x=>AV.p (f x))from rfl]at*;have:=@LK α f l;rw[show(l.map (AV.p∘f))=l.map (fun x=>AV.p (f x))from rfl]at this;simp[this]
def uA(x:Nat):AV:=.p (.int .u64 x)
def gX(n i:Nat)(f:Nat->Nat):List AV:=(hC n).map fun j=>uA (if j<i then f j else 0)
theorem DL(n i:Nat)(f:Nat->Nat):(gX n i f).length=n:=by simp[gX]
theorem M0(n:Nat)(f:Nat->Nat):hV n (AV.p (.int .u64 0))=gX n 0 f:=by
 apply hM (by simp[gX]);intro i a b;simp[gX,uA]
theorem DK{n i:Nat}(f:Nat->Nat)(h:i<n):(gX n i f).set i (.p (.int .u64 (f i)))=gX n (i+1) f:=by
 apply hM (by simp[gX]);intro j h1 c;simp only[gX,hZ,ih]at c;rw[ik];simp only[gX,ip,h9,uA]
 by_cases a:i=j
 ·subst a;rw[if_pos rfl,if_pos o_]
 ·rw[if_neg a]
  by_cases b:j<i
  ·rw[if_pos b,if_pos o_]
  ·rw[if_neg b,if_neg o_]
theorem M5(n:Nat)(f:Nat->Nat):gX n n f=((hC n).map f).map (AV.p∘fun x:Nat=>PV.int .u64 x):=by
 rw[gX,h7];apply hP;intro j a;rw[if_pos (h5.1 a)];rfl
@[simp] theorem aOX{N:Nat×Nat->Prop}{n i:Nat}{f:Nat->Nat}:aR N (gX n i f)=True:=by
 rw[cO,eq_iff_iff,iff_true];intro v a;simp only[gX,hU]at a;obtain⟨x,_,rfl⟩:=a;trivial
theorem vU{n i j:Nat}(f:Nat->Nat)(h:j<n):(gX n i f)[j]?=some (uA (if j<i then f j else 0)):=by
 rw[gX,ii,h8 h];rfl
theorem WE{A C n:Nat}(a:A<wB^n)(b:C<wB^n):dt wB A C n=ae wB (A+C) n:=by
 have c:0<wB^n:=kc (by decide);have:=me bh A C n;rw[dt,j5 a,j5 b]at*;rw[ae,j5];exact kd this (by decide)
theorem DF{n i:Nat}(h:(ar wB n).length<=i):ae wB n i=0:=jY (j7 (cq bh n) (j8 (by decide) h))
theorem WJ(a b:Nat)(E:(ar wB a).length<=1000000)(F:(ar wB b).length<=1000000):aA prog 242 [eN a,eN b] (eN (a+b)):=by
 refine aM nf (i_ func242) mix (by simp[f242]) ?_;simp[f242,-bu];rw[bu];simp[-bu];refine join (fun s=>∃A C,A+C=a+b/\(ar wB C).length<=(ar wB A).length/\(ar wB A).length<=1000000/\aN s.env 0=.p (eN A)/\aN s.env 1=.p (eN C)/\s.heap=[]) ?_ ?_
 ·by_cases hl:(ar wB a).length<(ar wB b).length
  ·have j:((ar wB a).length:Int)<(ar wB b).length:=by omega
   simp[eN,j];exact⟨b,a,o_,o_,F,rfl,rfl⟩
  ·have j:¬((ar wB a).length:Int)<(ar wB b).length:=by omega
   simp[eN,j];exact⟨a,b,rfl,o_,E,rfl,rfl⟩
 rintro⟨Q,S⟩ ⟨A,C,hs,K,T,f0,f1,B⟩;dsimp only at f0 f1 B;subst B;rw[<-hs];simp only[eN]at f0 f1⊢;have G:∀i(h:i<(ar wB A).length),(ar wB A)[i]=ae wB A i:=fun i h=>eH bh h;have H:∀i(h:i<(ar wB C).length),(ar wB C)[i]=ae wB C i:=fun i h=>eH bh h;have I:=cq bh A;have J:=j7 (cq bh C) (j8 (show 0<wB by decide) K);have t:=WE I J;have L:=@DF C;have M:eB ((hC ((ar wB A).length+1)).map (ae wB (A+C)))=ar wB (A+C):=jZ bh (by
  have R:2*wB^(ar wB A).length<=wB^((ar wB A).length+1):=by rw[j6,j3];exact km _ bh
  omega)
 have d:=tV ((hC ((ar wB A).length+1)).map (ae wB (A+C))) (by simp;omega);rw[M]at d;generalize ar wB (A+C)=z at*;generalize ar wB A=x at*;generalize ar wB C=y at*;obtain⟨n,c⟩:∃n,x.length=n:=⟨_,rfl⟩
 obtain⟨m,o⟩:∃m,y.length=m:=⟨_,rfl⟩
 rw[c]at t d;have u:=M5 (n+1) (ae wB (A+C));have k:((hC (n+1)).map (ae wB (A+C))).length=n+1:=s_
 generalize (hC (n+1)).map (ae wB (A+C))=l at d u k;have U:n<=1000000:=o_
 have V:m<=n:=o_
 have N:dp.wrap ((n:Int)+1)=n+1:=bY o_;simp[f0,f1,c,N];refine⟨⟨o_,by simp only[cM];omega⟩,?_⟩;rw[M0 (n+1) (ae wB (A+C))];refine lp (α:=Nat) (fun i=>⟨[(22,.p (.int .i64 i)),(21,.p (.int .i64 n)),(6,.p (.int .u64 (dt wB A C i:Nat))),(5,.sl 0 0 1 0 (n+1)),(1,.p (.seq (y.map fun x:Nat=>.int .u64 x))),(0,.p (.seq (x.map fun x:Nat=>.int .u64 x)))],[.arr .exact 0 1 (gX (n+1) i (ae wB (A+C)))]⟩)
  (fun i=>i<=n) (fun i=>n-i) 0 s_ ?_ (he:=by simp[f0,f1,yA])
 intro i k1;have D:=bY (i:=i) o_
 by_cases hi:i<n
 ·have g:i<x.length:=by rw[c];exact hi
  have hx:=G i g;have e:=rr (ae wB A i) (ae wB C i) (dt wB A C i) (me bh A C i);obtain⟨g1,g2⟩:=qL bh A C i;rw[g1,g2]at e;have aI:=DK (n:=n+1) (ae wB (A+C)) (show i<n+1 by omega);have ak:i<(gX (n+1) i (ae wB (A+C))).length:=by rw[DL];omega
  have w:(gX (n+1) i (ae wB (A+C))).length=n+1:=DL _ _ _;have W:gX (n+1) i (ae wB (A+C))≠[]:=by intro h;rw[h]at w;simp at w
  have f:i<n+1:=o_
  by_cases q:i<m
  ·have v:i<y.length:=by rw[o];exact q
   have O:=H i v;have r:(i:Int)<m:=o_
   simp[c,o,hi,q,r,hx,O,g,v];refine c3 e ?_;simp[f,aI,D,vU _ f,ad,aL,bG,uA];exact rd (i+1) (show i+1<=n by omega)
  ·have r:¬(i:Int)<m:=by omega
   have P:=L (i:=i) o_;rw[P]at e;simp[c,o,hi,q,r,hx,g];refine c3 e ?_;simp[f,aI,D,vU _ f,ad,aL,bG,uA];exact rd (i+1) (show i+1<=n by omega)
 have:i=n:=o_
 subst this;simp[c,t,vU _ (o0 i),DK _ (o0 i),u,ad,aL,bG,uA];refine cp d (by simp[k];exact⟨rfl,rfl⟩) ?_ (h1:=by simp[eW,hE,k]);simp;exact bB.refl _
end Go.au
namespace Go.au
open Go.Proofs
theorem Yo{x y c d:Nat}(h:x+wB=d+(y+c))(a:d<wB):(x+wB-y-c)% wB=d:=by rw[show x+wB-y-c=d by omega];exact j5 a
theorem YJ{x y c d:Nat}(h:x=d+(y+c))(a:d<wB):(x+wB-y-c)% wB=d:=by rw[show x+wB-y-c=d+wB by omega,oz];exact j5 a
theorem PU{A C:Nat}(h:C<=A)(i:Nat):aA prog 291 [.int .u64 (ae wB A i),.int .u64 (ae wB C i),.int .u64 (fu wB A C i)] (.aE [.int .u64 (ae wB (A-C) i),.int .u64 (fu wB A C (i+1))]):=by
 have c:fu wB A C i<=1:=by rw[fu];split<;>omega
 have a:=akq (ae wB A i) (ae wB C i) (fu wB A C i) c;have b:=ct bh (A-C) i;have e:=ct bh A i;have f:=ct bh C i;have d:wB=18446744073709551616:=rfl;rcases Mk bh h i with⟨e1,e2,e3⟩|⟨e1,e2,e3⟩
 ·rw[if_pos e1,Yo e3 b]at a;rw[e2];exact a
 ·rw[if_neg o_,YJ e3 b]at a;rw[e2];exact a
theorem Kv(A C:Nat)(k:C<=A)(D:(ar wB A).length<=1000000):aA prog 244 [eN A,eN C] (eN (A-C)):=by
 refine aM nf (i_ func244) mix (by simp[f244]) ?_;have F:(ar wB C).length<=(ar wB A).length:=dO bh _ _ (kd k (cq bh A));have s:∀i(h:i<(ar wB A).length),(ar wB A)[i]=ae wB A i:=fun i h=>eH bh h;have t:∀i(h:i<(ar wB C).length),(ar wB C)[i]=ae wB C i:=fun i h=>eH bh h;have u:=@DF C;have v:eB ((hC (ar wB A).length).map (ae wB (A-C)))=ar wB (A-C):=jZ bh (kd (Nat.sub_le A C) (cq bh A));have b:=tV ((hC (ar wB A).length).map (ae wB (A-C))) (by simp;omega);rw[v]at b;simp only[eN];generalize ar wB (A-C)=z at*;generalize ar wB A=x at*;generalize ar wB C=y at*;obtain⟨n,a⟩:∃n,x.length=n:=⟨_,rfl⟩
 obtain⟨m,f⟩:∃m,y.length=m:=⟨_,rfl⟩
 rw[a]at b;have o:=M5 n (ae wB (A-C));have e:((hC n).map (ae wB (A-C))).length=n:=s_
 generalize (hC n).map (ae wB (A-C))=l at b o e;have E:n<=1000000:=o_
 have H:m<=n:=o_
 simp[f244,a];refine⟨by simp only[cM];omega,?_⟩;rw[M0 n (ae wB (A-C))];refine lp (α:=Nat) (fun i=>⟨[(14,.p (.int .i64 i)),(13,.p (.int .i64 n)),(6,.p (.int .u64 (fu wB A C i:Nat))),(5,.sl 0 0 1 0 n),(1,.p (.seq (y.map fun x:Nat=>.int .u64 x))),(0,.p (.seq (x.map fun x:Nat=>.int .u64 x)))],[.arr .exact 0 1 (gX n i (ae wB (A-C)))]⟩)
  (fun i=>i<=n) (fun i=>n-i) 0 s_ ?_ (he:=by simp[Ci])
 intro i k1;have r:=bY (i:=i) o_
 by_cases hi:i<n
 ·have d:i<x.length:=by rw[a];exact hi
  have hx:=s i d;have c:=PU k i;have aI:=DK (n:=n) (ae wB (A-C)) hi;have G:(gX n i (ae wB (A-C))).length=n:=DL _ _ _
  by_cases g:i<m
  ·have q:i<y.length:=by rw[f];exact g
   have w:=t i q;have j:(i:Int)<m:=o_
   simp[a,f,hi,g,j,hx,w,d,q];refine c3 c ?_;simp[hi,aI,r,vU _ hi,ad,aL,bG,uA];exact rd (i+1) (show i+1<=n by omega)
  ·have j:¬(i:Int)<m:=by omega
   have B:=u (i:=i) o_;rw[B]at c;simp[a,f,hi,g,j,hx,d];refine c3 c ?_;simp[hi,aI,r,vU _ hi,ad,aL,bG,uA];exact rd (i+1) (show i+1<=n by omega)
 have:i=n:=o_
 subst this;simp[a,o,ad,aL,bG,uA];refine cp b (by simp[e];exact⟨rfl,rfl⟩) ?_ (h1:=by simp[eW,hE,e]);simp;exact bB.refl _
end Go.au
namespace Go.Proofs
open Go.Shelf
def Tryz.Wl:fv:=⟨fun|134=>340|129=>317|n=>n,fun|53=>307|3=>3|4=>4|46=>322|5=>5|9=>9|n=>n,fun|n=>n⟩
theorem Tryz.aKc:e9 prog Wl:={
 mixed:=k_
 f129:=func317.trans (congrArg some k_)
 f134:=func340.trans (congrArg some k_)
 t3:=underlying3
 a3:=isAgg3
 z3:=sizeOf3
 v3:=zeroValue3
 t4:=underlying4
 a4:=isAgg4
 z4:=sizeOf4
 v4:=zeroValue4
 t5:=underlying5
 a5:=isAgg5
 z5:=sizeOf5
 v5:=zeroValue5
 t9:=underlying9
 a9:=isAgg9
 z9:=sizeOf9
 v9:=zeroValue9
 t46:=underlying322
 a46:=isAgg322
 z46:=sizeOf322
 v46:=zeroValue322
 t53:=underlying307
 a53:=isAgg307
 z53:=sizeOf307
 v53:=zeroValue307}
theorem Tryz.bits_LeadingZeros64(x:Int)(w:cx)(a:0<=x)(h1:x<=18446744073709551615):
 cy prog 340 #[.int .u64 x] w fun e w'=>e=.returned (.int .i64 (64-(dz x.toNat:Int)))/\w'=w:=Any.bits_LeadingZeros64 aKc x w a h1
def Tryz.Wm:fv:=⟨fun|129=>317|n=>n,fun|53=>307|3=>3|4=>4|46=>322|5=>5|9=>9|n=>n,fun|n=>n⟩
theorem Tryz.aKb:fb prog Wm:={
 mixed:=k_
 f129:=func317.trans (congrArg some k_)
 t3:=underlying3
 a3:=isAgg3
 z3:=sizeOf3
 v3:=zeroValue3
 t4:=underlying4
 a4:=isAgg4
 z4:=sizeOf4
 v4:=zeroValue4
 t5:=underlying5
 a5:=isAgg5
 z5:=sizeOf5
 v5:=zeroValue5
 t9:=underlying9
 a9:=isAgg9
 z9:=sizeOf9
 v9:=zeroValue9
 t46:=underlying322
 a46:=isAgg322
 z46:=sizeOf322
 v46:=zeroValue322
 t53:=underlying307
 a53:=isAgg307
 z53:=sizeOf307
 v53:=zeroValue307}
theorem Tryz.bits_Len64(x:Int)(w:cx)(a:0<=x)(h1:x<=18446744073709551615):
 cy prog 317 #[.int .u64 x] w fun e w'=>e=.returned (.int .i64 (dz x.toNat))/\w'=w:=Any.bits_Len64 aKb x w a h1
def Tryz.Wi:fv:=⟨fun|264=>247|n=>n,fun|53=>307|46=>322|n=>n,fun|n=>n⟩
theorem Tryz.aKf:e7 prog Wi:={
 mixed:=k_
 f264:=func247.trans (congrArg some k_)
 t46:=underlying322
 a46:=isAgg322
 z46:=sizeOf322
 v46:=zeroValue322
 t53:=underlying307
 a53:=isAgg307
 z53:=sizeOf307
 v53:=zeroValue307}
open Go.RowKit Go.Lib in
theorem Tryz.bits_Mul64(x y:Nat)(hx:x<18446744073709551616)(hy:y<18446744073709551616)(w:cx):
 cy prog 247 #[.int .u64 x,.int .u64 y] w fun e w'=>e=.returned (.tuple #[.int .u64 ((x*y/18446744073709551616:Nat):Int),.int .u64 ((x*y% 18446744073709551616:Nat):Int)])/\w'=w:=Any.bits_Mul64 aKf x y hx hy w
end Go.Proofs
namespace Go.au
open Go.Proofs
section
variable[Gl]{P:cE}
theorem il{f:cR}{fn:Func}(h:P.funcs[f]?=some fn)(hs:(fn.body.isSome&&(fn.name != "runtime.NumGoroutine"))=true):Enters P f:=by
 intro args w;simp only[b2,bne_iff_ne]at hs;cases a:fn.body with
 |none=>rw[a]at hs;simp at hs
 |some c=>simp[callFunc,h,hs.2,a]
theorem jh{f:cR}{args:List PV}{v:PV}(l:Enters P f)
 (h:∀(w:cx)(aa:Nat->Prop)(a:List cN),(∀k,aa k->k<w.heap.size)->mr P w aa->bm P w aa args a->
  cy P f a.toArray w fun e w'=>∃b,e=.returned b/\(w.heap.size<=w'.heap.size/\(∀k,k<w.heap.size->w'.heap[k]?=w.heap[k]?)/\w'.os=w.os/\w'.output=w.output)/\∀(w:cx)(aa:Nat->Prop),aB P w aa v b):aA P f args v:=by
 refine .inl ⟨l,fun w aa a d m j=>(h w aa a d m j).mono ?_⟩;rintro e w' ⟨b,rfl,⟨c,g,n⟩,i⟩;exact⟨b,aa,rfl,fun _ x=>x,fun _ x=>.inl x,fun k hk=>j7 (d k hk) c,c,g,n,i _ _⟩
theorem lR{w:cx}{aa:Nat->Prop}{a b:PV}{cs:List cN}(h:bm P w aa [a,b] cs):∃x y,cs=[x,y]/\aB P w aa a x/\aB P w aa b y:=by
 simp only[bm]at h;obtain⟨x,xs,rfl,c,y,e,rfl,d,rfl⟩:=h;exact⟨x,y,rfl,c,d⟩
theorem tY{w:cx}{aa:Nat->Prop}{a:PV}{cs:List cN}(h:bm P w aa [a] cs):∃x,cs=[x]/\aB P w aa a x:=by
 simp only[bm]at h;obtain⟨x,xs,rfl,b,rfl⟩:=h;exact⟨x,rfl,b⟩
end
theorem zo(x y:Nat)(hx:x<18446744073709551616)(g:y<18446744073709551616):aA prog 247 [.int .u64 x,.int .u64 y] (.aE [.int .u64 ((x*y/18446744073709551616:Nat):Int),.int .u64 ((x*y% 18446744073709551616:Nat):Int)]):=by
 refine jh (il func247 k_) fun w aa h _ _ f=>?_;obtain⟨a,b,rfl,c,d⟩:=lR f;simp only[aB]at c d;subst c d;refine(bits_Mul64 x y hx g w).mono ?_;rintro e w' ⟨rfl,rfl⟩;refine⟨_,rfl,⟨la _,fun _ _=>rfl,rfl,rfl⟩,fun w aa=>?_⟩;simp only[aB,bm];exact⟨[_,_],⟨_,_,rfl,rfl,_,_,rfl,rfl,rfl⟩,rfl⟩
theorem PX(x:Nat)(hx:x<18446744073709551616):aA prog 340 [.int .u64 x] (.int .i64 (64-(dz x:Int))):=by
 refine jh (il func340 k_) fun w aa d _ _ c=>?_;obtain⟨a,rfl,b⟩:=tY c;simp only[aB]at b;subst b;refine(bits_LeadingZeros64 x w o_ o_).mono ?_;rintro e w' ⟨rfl,rfl⟩;refine⟨_,rfl,⟨la _,fun _ _=>rfl,rfl,rfl⟩,fun w aa=>?_⟩;simp only[aB];rfl
end Go.au
namespace Go.au
open Go.Proofs
theorem fI(n:Int)(h:0<=n)(a:n<wB):dl.wrap n=n:=IntWalk.u64_in n ⟨h,by simp only[wB]at a;omega⟩
def ch(n:Nat)(f:Nat->Nat):List AV:=(hC n).map fun j=>uA (f j)
theorem NW(n:Nat)(f:Nat->Nat):(ch n f).length=n:=by simp[ch]
theorem mW{n j:Nat}(f:Nat->Nat)(h:j<n):(ch n f)[j]?=some (.p (.int .u64 (f j))):=by
 rw[ch,ii,h8 h];rfl
theorem De{n:Nat}{f:Nat->Nat}(h:∀j,f j=0):hV n (AV.p (.int .u64 0))=ch n f:=by
 apply hM (by simp[ch]);intro i a b;simp[ch,uA,h]
theorem pJ{n i v:Nat}{f g:Nat->Nat}(d:g i=v)(c:∀k,k≠i->g k=f k):(ch n f).set i (.p (.int .u64 v))=ch n g:=by
 apply hM (by simp[ch]);intro j e b;simp only[ch,hZ,ih]at b;rw[ik];simp only[ch,ip,h9,uA]
 by_cases a:i=j
 ·subst a;rw[if_pos rfl,d]
 ·rw[if_neg a,c j o_]
theorem Df(n:Nat)(f:Nat->Nat):ch n f=((hC n).map f).map (AV.p∘fun x:Nat=>PV.int .u64 x):=by
 rw[ch,h7];rfl
theorem CB{n:Nat}{f g:Nat->Nat}(h:∀k,f k=g k):ch n f=ch n g:=by rw[show f=g from funext h]
@[simp] theorem aOW{N:Nat×Nat->Prop}{n:Nat}{f:Nat->Nat}:aR N (ch n f)=True:=by
 rw[cO,eq_iff_iff,iff_true];intro v a;simp only[ch,hU]at a;obtain⟨x,_,rfl⟩:=a;trivial
@[simp] theorem aO0{σ:Nat->Nat}{n:Nat}{f:Nat->Nat}:cW σ (ch n f)=ch n f:=by
 have:∀l:List Nat,cW σ (l.map fun j=>uA (f j))=l.map fun j=>uA (f j):=by
  intro l
  induction l with
  |nil=>rfl
  |cons a r b=>simp only[hG,cW,b];rfl
 exact this _
theorem mul_two(P o k:Nat)(h:(P+o+k)/wB<wB)(a:o<wB)(hk:k<wB):
 ((P% wB+o+0)% wB+k+0)% wB=(P+o+k)% wB/\P/wB+(P% wB+o+0)/wB+((P% wB+o+0)% wB+k+0)/wB=(P+o+k)/wB/\P/wB+(P% wB+o+0)/wB<wB:=by
 simp only[wB]at*;omega
theorem WH(a b:Nat)(C:(ar wB a).length+(ar wB b).length<=1000000):aA prog 249 [eN a,eN b] (eN (a*b)):=by
 refine aM nf (i_ func249) mix (by simp[f249]) ?_;have O:∀i(h:i<(ar wB a).length),(ar wB a)[i]=ae wB a i:=fun i h=>eH bh h;have P:∀i(h:i<(ar wB b).length),(ar wB b)[i]=ae wB b i:=fun i h=>eH bh h;have t:=cq bh a;have q:=cq bh b;have T:eB ((hC ((ar wB a).length+(ar wB b).length)).map (ae wB (a*b)))=ar wB (a*b):=jZ bh (by
  rw[kw];exact ll t q)
 have e:=tV ((hC ((ar wB a).length+(ar wB b).length)).map (ae wB (a*b))) (by simp;omega);rw[T]at e;simp only[eN];generalize ar wB (a*b)=z at*;generalize ar wB a=x at*;generalize ar wB b=y at*;obtain⟨n,d⟩:∃n,x.length=n:=⟨_,rfl⟩
 obtain⟨m,c⟩:∃m,y.length=m:=⟨_,rfl⟩
 rw[d]at t e C;rw[c]at q e C;have D:=Df (n+m) (ae wB (a*b));have u:((hC (n+m)).map (ae wB (a*b))).length=n+m:=s_
 generalize (hC (n+m)).map (ae wB (a*b))=l at e D u;have af:dp.wrap ((n:Int)+m)=((n+m:Nat):Int):=by rw[aO _ o_ o_];omega
 have S:((n:Int)+m).toNat=n+m:=o_
 have R:0<=(n:Int)+m:=o_
 have W:dp.wrap ((n:Int)+m)=(n:Int)+m:=aO _ o_ o_;simp[f249,d,c,W,S,R];refine⟨by simp only[cM];omega,?_⟩;rw[De (f:=du wB a b 0 0) (by intro j;simp[pD,mp,ae])];refine lp (α:=Nat) (fun i=>⟨[(22,.p (.int .i64 i)),(21,.p (.int .i64 n)),(20,.p (.seq (x.map fun x:Nat=>.int .u64 x))),(5,.sl 0 0 1 0 (n+m)),(1,.p (.seq (y.map fun x:Nat=>.int .u64 x)))],[.arr .exact 0 1 (ch (n+m) (du wB a b i 0))]⟩)
  (fun i=>i<=n) (fun i=>n-i) 0 s_ ?_ (he:=s_)
 intro i k1;have U:=bY (i:=i) o_
 by_cases hi:i<n
 ·have E:i<x.length:=by rw[d];exact hi
  have hx:=O i E;simp[d,c,hi,E,hx];refine lp (α:=Nat) (fun j=>⟨[(29,.p (.int .i64 j)),(28,.p (.int .i64 m)),(27,.p (.seq (y.map fun x:Nat=>.int .u64 x))),(8,.p (.int .u64 (mulC wB a b i j:Nat))),(7,.p (.int .u64 (ae wB a i:Nat))),(6,.p (.int .i64 i)),(22,.p (.int .i64 i)),(21,.p (.int .i64 n)),(20,.p (.seq (x.map fun x:Nat=>.int .u64 x))),(5,.sl 0 0 1 0 (n+m)),(1,.p (.seq (y.map fun x:Nat=>.int .u64 x)))],[.arr .exact 0 1 (ch (n+m) (du wB a b i j))]⟩)
   (fun j=>j<=m) (fun j=>m-j) 0 s_ ?_ (he:=by simp[CA])
  intro j k2;have V:=bY (i:=j) o_;have A:((i:Int)+j).toNat=i+j:=o_
  have w:0<=(i:Int)+j:=o_
  have H:dp.wrap ((i:Int)+j)=(i:Int)+j:=aO _ o_ o_
  by_cases F:j<m
  ·have G:j<y.length:=by rw[c];exact F
   have Y:=P j G;have s:i+j<n+m:=o_
   have o:=mW (du wB a b i j) s;have r:=Dd bh a b i j;have L:=tR bh a b i j;have M:=tR bh a b i (j+1);have N:du wB a b i j (i+j)<wB:=by rw[du];split<;>exact ct bh _ _
   obtain⟨e1,e2,e3⟩:=mul_two (ae wB a i*ae wB b j) (du wB a b i j (i+j)) (mulC wB a b i j) (by rw[r.2];exact M) N L;rw[r.1]at e1;rw[r.2]at e2;have I:=zo (ae wB a i) (ae wB b j) (ct bh _ _) (ct bh _ _);rw[show(18446744073709551616:Nat)=wB from rfl]at I;have Z:=rr (ae wB a i*ae wB b j% wB) (du wB a b i j (i+j)) 0 o_;have J:=rr ((ae wB a i*ae wB b j% wB+du wB a b i j (i+j)+0)% wB) (mulC wB a b i j) 0 o_;rw[e1]at J;have hs:=pJ (n:=n+m) (i:=i+j) (f:=du wB a b i j) (g:=du wB a b i (j+1)) (MY a b i j) (fun k hk=>Lj bh hk);generalize ae wB a i*ae wB b j% wB=r1 at*;generalize ae wB a i*ae wB b j/wB=r2 at*;generalize (r1+du wB a b i j (i+j)+0)% wB=aa at*;generalize (r1+du wB a b i j (i+j)+0)/wB=B at*;generalize (aa+mulC wB a b i j+0)/wB=ab at*;have K:dl.wrap ((r2:Int)+B)=((r2+B:Nat):Int):=by rw[fI _ o_ o_];omega
   have ac:dl.wrap ((r2:Int)+B+ab)=(mulC wB a b i (j+1):Nat):=by rw[fI _ o_ o_];omega
   simp[d,c,F,G,Y];refine c2 I ?_;simp[H,A,w,s,o,ad,aL,bG];refine c3 Z ?_;simp[K];refine c3 J ?_;simp[H,A,w,s,o,hs,K,ac,V,ad,aL,bG];exact rd (j+1) (show j+1<=m by omega)
  have:j=m:=o_
  subst this;have X:dp.wrap ((i:Int)+j)=(i:Int)+j:=aO _ o_ o_;have ak:i+j<n+j:=o_
  have o:=mW (du wB a b i j) ak;have hs:=pJ (n:=n+j) (i:=i+j) (f:=du wB a b i j) (g:=du wB a b (i+1) 0) (v:=mulC wB a b i j) (by rw[pD,JZ bh q]) (fun k hk=>by rw[pD,MZ bh q hk]);simp[c,X,A,w,hi,ak,o,hs,U,ad,aL,bG];exact rd (i+1) (show i+1<=n by omega)
 have:i=n:=o_
 subst this;have Q:ch (i+m) (du wB a b i 0)=ch (i+m) (ae wB (a*b)):=CB fun k=>by rw[pD,j5 t]
 simp[d,Q,D];refine cp e (by simp[u];exact⟨rfl,rfl⟩) ?_ (h1:=by simp[eW,hE,u]);simp;exact bB.refl _
theorem zi(n:Nat):dl.wrap (n:Int)=(n% wB:Nat):=by
 rw[show dl.wrap (n:Int)=(n:Int)% 18446744073709551616 from rfl];rfl
theorem xB(x s:Nat)(hs:s<64):dl.wrap ((x:Int)*2^(min s dl.bits))=(x*2^s% wB:Nat):=by
 rw[show dl.bits=64 from rfl,n3 o_,<-zi];congr 1
theorem uM(x s:Nat)(hs:s<=64):(x:Int).fdiv (2^(min s dl.bits))=(x/2^s:Nat):=by
 rw[show dl.bits=64 from rfl,n3 hs,show(2:Int)^s=((2^s:Nat):Int)by push_cast;rfl,g9 _ (Int.natCast_nonneg _)];rfl
theorem FL(a b:Nat)(c:a<wB)(d:b<wB):dl.wrap ((a% 2^dl.bits|||b% 2^dl.bits:Nat):Int)=(a|||b:Nat):=by
 rw[show(2^dl.bits:Nat)=wB from rfl,j5 c,j5 d,zi,j5];exact Nat.or_lt_two_pow (n:=64) c d
def cu(a s i:Nat):Nat:=if i=0 then 0 else ae wB a (i-1)/2^(64-s)
def gO(a s i k:Nat):Nat:=if k<i then ae wB (a*2^s) k else if k=i then cu a s i else 0
theorem zK{s:Nat}(hs:s<64):2^s*2^(64-s)=wB:=by rw[<-kw,show s+(64-s)=64 by omega];rfl
theorem NA(a s i:Nat)(hs:s<64):cu a s i|||(ae wB a i*2^s% wB)=ae wB (a*2^s) i:=by
 have c:0<2^s:=kc (by decide);have d:0<2^(64-s):=kc (by decide);have b:=zK hs;have hc:cu a s i<2^s:=by
  rw[cu];split
  ·exact c
  ·rw[j4 d,b];exact ct bh _ _
 have e:ae wB a i*2^s% wB=ae wB a i% 2^(64-s)*2^s:=by
  rw[<-b,j3,mo,j3]
 rw[pd,e,D7 hc,<-e];cases i with
 |zero=>rw[cu,if_pos rfl,ms,<-b];exact(Yt a).symm
 |succ i=>rw[cu,if_neg o_,li,<-b];exact(Yu c d a i).symm
theorem Cq{n:Nat}{f g:Nat->Nat}(h:∀k,k<n->f k=g k):ch n f=ch n g:=by
 rw[ch,ch];exact hP fun k hk=>by rw[h k (h5.1 hk)]
theorem arX(a s n:Nat)(hs:s<64)(h:ae wB a n=0):cu a s n=ae wB (a*2^s) n:=by
 rw[<-NA a s n hs,h,m2,ob,Nat.or_zero]
theorem LO(a s:Nat)(hs:s<64)(A:(ar wB a).length<=1000000):bW prog 341 [] [.p (eN a),.p (.int .i64 s)] [.arr .exact 0 1 (ch ((ar wB a).length+1) (ae wB (a*2^s)))] (.sl 0 0 1 0 ((ar wB a).length+1)):=by
 refine dU nf (i_ func341) mix (by simp[f341]) ?_;have C:∀i(h:i<(ar wB a).length),(ar wB a)[i]=ae wB a i:=fun i h=>eH bh h;have F:=@DF a;simp only[eN];generalize ar wB a=x at*;obtain⟨n,c⟩:∃n,x.length=n:=⟨_,rfl⟩
 rw[c]at A;have J:dp.wrap ((n:Int)+1)=(n:Int)+1:=bY o_;simp[f341,c,J];refine⟨⟨o_,by simp only[cM];omega⟩,?_⟩;rw[De (f:=gO a s 0) (by intro j;simp[gO,cu])];refine lp (α:=Nat) (fun i=>⟨[(14,.p (.int .i64 i)),(13,.p (.int .i64 n)),(12,.p (.seq (x.map fun x:Nat=>.int .u64 x))),(5,.sl 0 0 1 0 (n+1)),(1,.p (.int .i64 s))],[.arr .exact 0 1 (ch (n+1) (gO a s i))]⟩)
  (fun i=>i<=n) (fun i=>n-i) 0 s_ ?_ (he:=s_)
 intro i k1;have w:=bY (i:=i) o_
 by_cases hi:i<n
 ·have l:i<x.length:=by rw[c];exact hi
  have hx:=C i l;have e:i<n+1:=o_
  have o:=mW (gO a s i) e;have E:ae wB a i*2^s% wB<wB:=kk _ (by decide);have B:gO a s i i<wB:=by
   rw[gO,if_neg o_,if_pos rfl,cu];split
   ·decide
   ·exact kd (l2 _ _) (ct bh _ _)
  have e1:=xB (ae wB a i) s hs;have e2:=FL (gO a s i i) (ae wB a i*2^s% wB) B E;have e3:gO a s i i|||(ae wB a i*2^s% wB)=ae wB (a*2^s) i:=by rw[<-NA a s i hs,gO,if_neg o_,if_pos rfl]
  rw[e3]at e2;have y:dp.wrap (64-(s:Int))=((64-s:Nat):Int):=by rw[aO _ o_ o_];omega
  have e4:=uM (ae wB a i) (64-s) o_;have r:i+1<n+1:=o_
  have u:=pJ (n:=n+1) (i:=i) (f:=gO a s i) (g:=fun k=>if k=i then ae wB (a*2^s) i else gO a s i k) (if_pos rfl) (fun k hk=>if_neg hk);have G:=pJ (n:=n+1) (i:=i+1) (v:=ae wB a i/2^(64-s)) (f:=fun k=>if k=i then ae wB (a*2^s) i else gO a s i k) (g:=gO a s (i+1)) (by
   simp[gO,cu]) (fun k hk=>by
   by_cases d:k=i
   ·subst d;simp[gO]
   ·simp only[gO,d,if_false]
    by_cases b:k<i
    ·rw[if_pos o_,if_pos b]
    ·rw[if_neg o_,if_neg hk,if_neg b])
  have D:=mW (n:=n+1) (fun k=>if k=i then ae wB (a*2^s) i else gO a s i k) r;have H:s=0->ch (n+1) (fun k=>if k=i then ae wB (a*2^s) i else gO a s i k)=ch (n+1) (gO a s (i+1)):=fun h=>by
   have K:ae wB a i/2^(64-s)=0:=by rw[h];exact kv (ct bh _ _)
   refine CB fun k=>?_
   by_cases d:k=i
   ·subst d;simp[gO]
   ·simp only[gO,d,if_false]
    by_cases b:k<i
    ·rw[if_pos b,if_pos o_]
    ·by_cases q:k=i+1
     ·rw[q,if_neg o_,if_neg o_,if_pos rfl,cu,if_neg o_,li,K]
     ·rw[if_neg b,if_neg o_,if_neg q]
  generalize ae wB a i*2^s% wB=r1 at*;generalize ae wB a i/2^(64-s)=r2 at*;generalize (fun k=>if k=i then ae wB (a*2^s) i else gO a s i k)=g1 at*;obtain⟨t,I⟩:∃t,t=64-s:=⟨_,rfl⟩
  rw[<-I]at y e4
  by_cases m:0<s
  ·simp[c,hi,e,l,hx,o,e1,e2,m,y,e4,w,u,r,D,G,ad,aL,bG];refine⟨⟨by rfl,by rfl,by rfl⟩,?_⟩;refine⟨o_,?_⟩;exact rd (i+1) (show i+1<=n by omega)
  ·have z:s=0:=by omega
   simp[c,hi,e,l,hx,o,e1,e2,m,w,u,H z,ad,aL,bG];refine⟨⟨by rfl,by rfl,by rfl⟩,?_⟩;exact rd (i+1) (show i+1<=n by omega)
 have:i=n:=o_
 subst this;simp[c];refine .inl (Cq fun k hk=>?_);rw[gO]
 by_cases b:k<i
 ·rw[if_pos b]
 ·obtain rfl:k=i:=by omega
  rw[if_neg b,if_pos rfl,arX a s k hs (F o_)]
theorem yK:∀(n x:Nat),x<=n->0<x->x<2^64->1<=dz x/\2^(dz x-1)<=x/\x<2^dz x
 |0,x,h,a,_=>by omega
 |n+1,x,h,a,c=>by
  have d:=Lib.bitLen_half x o_ c
  by_cases b:x=1
  ·subst b;decide
  ·obtain⟨i1,i2,i3⟩:=yK n (x/2) o_ o_ o_;rw[d];generalize dz (x/2)=L at*;obtain⟨k,rfl⟩:∃k,L=k+1:=⟨L-1,o_⟩
   rw[show 1+(k+1)=k+2 by omega,show k+2-1=k+1 by omega,j6,j6];rw[j6]at i3;simp only[li]at i2;omega
theorem QK{x:Nat}(a:0<x)(h:x<2^64):dz x<=64:=by
 obtain⟨_,b,_⟩:=yK x x (la _) a h;have:=(n4 (show 1<2 by decide)).1 (kd b h);omega
def wH:Nat:=4294967296
theorem wHH:wH*wH=wB:=rfl
theorem MW{y:Nat}(a:0<y)(h:y<2^64):∃s,s<64/\dz y+s=64/\wB<=2*(y*2^s)/\y*2^s<wB:=by
 obtain⟨d,b,c⟩:=yK y y (la _) a h;have e:=QK a h;refine⟨64-dz y,o_,o_,?_,?_⟩
 ·have:=kh (2^(64-dz y)) b;rw[<-kw,show dz y-1+(64-dz y)=63 by omega]at this;simp only[wB];omega
 ·have:=lv c (kc (show 0<2 by decide) (n:=64-dz y));rw[<-kw,show dz y+(64-dz y)=64 by omega]at this;simp only[wB];omega
structure S8(hi lo y s:Nat) where
 Y:Nat
 v1:Nat
 v0:Nat
 T:Nat
 u:Nat
 u1:Nat
 u0:Nat
 q1:Nat
 R:Nat
 q0:Nat
 hY:Y=y*2^s
 eY:Y=v1*wH+v0
 A8:v1<wH
 lZ:v0<wH
 uS:wH<=2*v1
 xF:T<Y
 AP:hi*2^s<wB
 FM:hi*2^s|||lo/2^(64-s)=T
 eu:u=lo*2^s% wB
 ER:u1=u/wH
 EP:u0=u% wH
 A7:u1<wH
 A6:u0<wH
 oQ:q1=hq wH v1 v0 T u1
 AZ:q1<wH
 eR:R=T*wH+u1-q1*Y
 xE:R<Y
 SF:q1*Y<=T*wH+u1
 xi:q0=hq wH v1 v0 R u0
 AY:q0<wH
 SE:q0*Y<=R*wH+u0
 DJ:q1*wH+q0=(hi*wB+lo)/y
 rem:(R*wH+u0-q0*Y)/2^s=(hi*wB+lo)% y
theorem axz{hi lo y:Nat}(o:hi<y)(G:y<wB)(A:lo<wB):∃s,s<64/\dz y+s=64/\Nonempty (S8 hi lo y s):=by
 obtain⟨s,hs,v,I,m⟩:=MW (y:=y) o_ G;have g:=zK hs;have a:0<2^s:=kc (by decide);have w:0<2^(64-s):=kc (by decide);refine⟨s,hs,v,⟨?_⟩⟩;have e0:y*2^s=y*2^s/wH*wH+y*2^s% wH:=by rw[j3 _ wH,ko]
 have D:y*2^s% wH<wH:=kk _ (by decide);have E:y*2^s/wH<wH:=by rw[j4 (by decide)];exact m
 have F:wH<=2*(y*2^s/wH):=by simp only[wH,wB]at*;omega
 have z:lo/2^(64-s)<2^s:=by rw[j4 w,g];exact A
 have t:hi*2^s<wB:=m3 (lv o a) m;have h:hi*2^s+lo/2^(64-s)<y*2^s:=by
  have:=kh (2^s) (show hi+1<=y from o);rw[kt,lw]at this;omega
 have B:hi*2^s|||lo/2^(64-s)=hi*2^s+lo/2^(64-s):=D7 z
 have n:lo*2^s% wB/wH<wH:=by rw[j4 (by decide)];exact kk _ (by decide)
 have b:lo*2^s% wB% wH<wH:=kk _ (by decide);have i:(hi*wB+lo)*2^s=((hi*2^s+lo/2^(64-s))*wH+lo*2^s% wB/wH)*wH+lo*2^s% wB% wH:=by
  have e1:lo*2^s=lo/2^(64-s)*wB+lo*2^s% wB:=by
   have e2:lo*2^s/wB=lo/2^(64-s):=by
    rw[<-g,j3 lo,Nat.mul_div_mul_left _ _ a]
   rw[<-e2,j3 _ wB,ko]
  have e3:lo*2^s% wB=lo*2^s% wB/wH*wH+lo*2^s% wB% wH:=by rw[j3 _ wH,ko]
  rw[kt,l1,e1,kt (_*wH),kp (_+_) wH wH,wHH,kt];generalize hi*2^s*wB=H;rw[<-e1];generalize lo*2^s% wB=a2 at*;generalize lo/2^(64-s)*wB=a3 at*;omega
 have l:0<y*2^s:=o_
 obtain⟨e,d⟩:=azv (Y:=y*2^s) (U:=(hi*wB+lo)*2^s) (c:=wH) l;have j:(hi*wB+lo)*2^s/wH=(hi*2^s+lo/2^(64-s))*wH+lo*2^s% wB/wH:=by
  rw[i,lt,l0 _ _ (by decide),kv b,l4]
 have k:(hi*wB+lo)*2^s% wH=lo*2^s% wB% wH:=by
  rw[i,lt,ln,j5 b]
 rw[j,k,m6 _ _ a]at e;rw[j,k,j3 _ (2^s),j3 y,mo]at d;rw[j3 (2^s) y]at d;generalize x:y*2^s=Y at*;generalize hi*2^s+lo/2^(64-s)=T at*;generalize C:lo*2^s% wB=u at*;have r1:=OE (T:=T) (c:=wH) (u1:=u/wH) (v1:=Y/wH) (v0:=Y% wH);rw[<-e0]at r1;have r:=OE (T:=(T*wH+u/wH)% Y) (c:=wH) (u1:=u% wH) (v1:=Y/wH) (v0:=Y% wH);rw[<-e0]at r;have q:hq wH (Y/wH) (Y% wH) T (u/wH)=(T*wH+u/wH)/Y:=by rw[hq,<-e0]
 have p:hq wH (Y/wH) (Y% wH) ((T*wH+u/wH)% Y) (u% wH)=((T*wH+u/wH)% Y*wH+u% wH)/Y:=by rw[hq,<-e0]
 have f:(T*wH+u/wH)% Y<Y:=kk _ l;exact{
  Y:=Y,v1:=Y/wH,v0:=Y% wH,T:=T,u:=u,u1:=u/wH,u0:=u% wH
  q1:=hq wH (Y/wH) (Y% wH) T (u/wH),R:=(T*wH+u/wH)% Y,q0:=hq wH (Y/wH) (Y% wH) ((T*wH+u/wH)% Y) (u% wH)
  hY:=x.symm,eY:=e0,A8:=E,lZ:=D,uS:=F,xF:=h,AP:=t,FM:=B,eu:=C.symm,ER:=rfl,EP:=rfl,A7:=n,A6:=b
  oQ:=rfl,AZ:=Rr (by rw[<-e0];exact h) n,eR:=r1.symm,xE:=f
  SF:=by rw[q];exact lu _ _
  xi:=rfl,AY:=Rr (by rw[<-e0];exact f) b
  SE:=by rw[p];exact lu _ _
  DJ:=by rw[q,p,<-e]
  rem:=by rw[r,<-d,Nat.mul_div_cancel_left _ a]}
section
variable[Gl]{P:cE}{ag:cR->Bool}{q:Nat×Nat}
theorem so{b:Code}{Q:bw->St->Prop}{s:St}{id:Nat}(R:St->Prop)(f:fh P ag q (.loop b) (rD id (rP R (fun _ _=>False))) s)(c:∀s',R s'->Q .normal s'):fh P ag q (.loop b) (rD id Q) s:=by
 refine nX _ (fun e s a=>?_) f;cases e with
 |normal=>exact c s a
 |exit i=>
  simp only[rD,oI]at a⊢
  by_cases d:i=id
  ·simp[d,rP]at a⊢;exact c s a
  ·simp[d,rP]at a
 |ret=>exact a.elim
end
theorem LX(a:Nat)(b:a<wB):dl.wrap ((a% 2^dl.bits&&&4294967295% 2^dl.bits:Nat):Int)=(a% wH:Nat):=by
 rw[show(2^dl.bits:Nat)=wB from rfl,j5 b,show 4294967295% wB=2^32-1 from rfl,np,zi];rw[show(2:Nat)^32=wH from rfl,j5 (j7 (kk _ (by decide)) (show wH<=wB by decide))]
theorem S7{a b c:Int}{R:Nat}(h:a+b-c=R)(hR:R<wB):dl.wrap (dl.wrap (dl.wrap a+b)-dl.wrap c)=R:=by
 show(((a% 18446744073709551616+b)% 18446744073709551616)-c% 18446744073709551616)% 18446744073709551616=R;have:R<18446744073709551616:=hR;omega
theorem OV(hi lo y:Nat)(aE:hi<y)(aj:y<wB)(ah:lo<wB):aA prog 339 [.int .u64 hi,.int .u64 lo,.int .u64 y] (.aE [.int .u64 ((hi*wB+lo)/y:Nat),.int .u64 ((hi*wB+lo)% y:Nat)]):=by
 refine aM nf (i_ func339) mix (by simp[f339]) ?_;have H:¬(y:Int)=0:=o_
 have N:¬(y:Int)<=hi:=o_
 have af:¬y<=hi:=o_
 have ae:¬y=0:=o_
 by_cases ad:hi=0
 ·subst ad;have ag:dl.wrap ((lo:Int)/y)=(lo:Int)/y:=fI _ (gt o_ o_) (gx (g5 _ o_) o_);have ay:(lo:Int).tmod y=(lo:Int)% y:=Int.tmod_eq_emod_of_nonneg o_;simp[f339,H,N,ae,af,ag,ay]
 obtain⟨s,hs,aT,⟨Y,b,v0,T,u,u1,u0,q1,R,q0,ac,eY,A8,lZ,uS,xF,AP,FM,eu,ER,EP,A7,A6,oQ,AZ,eR,xE,SF,xi,AY,SE,DJ,rem⟩⟩:=axz aE aj ah;have aC:=PX y aj;obtain⟨t,ai⟩:∃t,t=64-s:=⟨_,rfl⟩
 have O:wH=4294967296:=rfl;have az:wB=18446744073709551616:=rfl;have X:Y<wB:=by
  rw[O]at A8 lZ eY;rw[az];omega
 have av:dl.wrap (64-((dz y:Nat):Int))=s:=by rw[fI _ o_ o_];omega
 have f2:dl.wrap (64-(s:Int))=t:=by rw[fI _ o_ o_];omega
 have f3:dl.wrap ((y:Int)*2^(min s dl.bits))=Y:=by rw[xB y s hs,<-ac,j5 X]
 have f4:(Y:Int).fdiv (2^(min 32 dl.bits))=b:=by
  rw[uM Y 32 o_];rw[O]at lZ eY;congr 1;omega
 have f5:dl.wrap ((hi:Int)*2^(min s dl.bits))=(hi*2^s:Nat):=by rw[xB hi s hs,j5 AP]
 have f6:(lo:Int).fdiv (2^(min t dl.bits))=(lo/2^t:Nat):=uM lo t o_;have f7:=FL (hi*2^s) (lo/2^t) AP (kd (l2 _ _) ah);rw[ai,FM,<-ai]at f7;have f8:dl.wrap ((lo:Int)*2^(min s dl.bits))=u:=by rw[xB lo s hs,<-eu]
 have aQ:u<wB:=by rw[eu];exact kk _ (by decide)
 have f9:(u:Int).fdiv (2^(min 32 dl.bits))=u1:=by
  rw[uM u 32 o_];congr 1;rw[ER];rfl
 have d:0<b:=by rw[O]at uS;omega
 have am:¬b=0:=o_
 have an:¬(b:Int)=0:=o_
 have aR:T<wB:=o_
 generalize hi*2^s=aS at*;generalize lo/2^t=aU at*;have aI:T/b<=wH+1:=Rq d (by rw[<-eY];exact xF) uS lZ;have aO:T/b*b+T% b=T:=by rw[j3,ko]
 have aV:T% b<b:=kk _ d;have aK:=OG (T:=T) (u1:=u1) d lZ A7;have aw:dl.wrap ((T:Int)/b)=(T/b:Nat):=by rw[fI _ (gt o_ o_) (gx (g5 _ o_) o_)];rfl
 generalize T/b=K at*;generalize T% b=ak at*;have ax:dl.wrap ((T:Int)-dl.wrap ((K:Int)*b))=ak:=by
  have e:((K*b:Nat):Int)=(K:Int)*b:=by push_cast;rfl
  rw[fI ((K:Int)*b) o_ o_,fI _ o_ o_];omega
 have aa:=LX Y X;have ab:=LX u aQ;rw[show Y% wH=v0 by rw[eY,lt,ln,j5 lZ]]at aa;rw[<-EP]at ab;have a1:b<4294967296:=A8;have aZ:v0<4294967296:=lZ;have aY:u1<4294967296:=A7;have aX:u0<4294967296:=A6;have a0:4294967296<=2*b:=uS;have aJ:R/b<=wH+1:=Rq d (by rw[<-eY];exact xE) uS lZ;have aP:R/b*b+R% b=R:=by rw[j3,ko]
 have aW:R% b<b:=kk _ d;have aq:R<wB:=o_
 have aL:=OG (T:=R) (u1:=u0) d lZ A6;have aF:dl.wrap ((R:Int)/b)=(R/b:Nat):=by rw[fI _ (gt o_ o_) (gx (g5 _ o_) o_)];rfl
 generalize R/b=L at*;generalize R% b=al at*;have aG:dl.wrap ((R:Int)-dl.wrap ((L:Int)*b))=al:=by
  have e:((L*b:Nat):Int)=(L:Int)*b:=by push_cast;rfl
  rw[fI ((L:Int)*b) o_ o_,fI _ o_ o_];omega
 have ao:dl.wrap (dl.wrap (dl.wrap ((T:Int)*4294967296)+u1)-dl.wrap ((q1:Int)*Y))=R:=by
  refine S7 (h:=?_) (hR:=aq);have e1:((T*wH:Nat):Int)=(T:Int)*4294967296:=by push_cast;rfl
  have e2:((q1*Y:Nat):Int)=(q1:Int)*Y:=by push_cast;rfl
  omega
 have M2:dl.wrap (dl.wrap ((q1:Int)*4294967296)+q0)=((q1*wH+q0:Nat):Int):=by
  have H:q1*4294967296+q0<18446744073709551616:=by
   have N:q1<4294967296:=AZ;have ag:q0<4294967296:=AY;omega
  rw[fI ((q1:Int)*4294967296) o_ o_,fI _ o_ o_];push_cast;rfl
 obtain⟨Z,P⟩:∃Z,Z=R*wH+u0-q0*Y:=⟨_,rfl⟩
 have ar:Z<wB:=by
  have H:Z/2^s<y:=by rw[P,rem];exact kk _ o_
  rw[j4 (kc (by decide)),<-ac]at H;omega
 have ap:dl.wrap (dl.wrap (dl.wrap ((R:Int)*4294967296)+u0)-dl.wrap ((q0:Int)*Y))=Z:=by
  refine S7 (h:=?_) (hR:=ar);have e1:((R*wH:Nat):Int)=(R:Int)*4294967296:=by push_cast;rfl
  have e2:((q0*Y:Nat):Int)=(q0:Int)*Y:=by push_cast;rfl
  omega
 have M:=uM Z s o_;rw[P,rem]at M;rw[<-P]at M;rw[DJ]at M2;simp[f339,H,N,ae,af,ad];refine c1 aC ?_;simp[av,f2,f3,f4,f5,f6,f7,f8,f9,am,an,aw,ax,aa,ab];refine so (fun s'=>aN s'.env 15=.p (.int .u64 q1)/\aN s'.env 14=.p (.int .u64 u0)/\aN s'.env 13=.p (.int .u64 u1)/\aN s'.env 11=.p (.int .u64 T)/\aN s'.env 10=.p (.int .u64 v0)/\aN s'.env 9=.p (.int .u64 b)/\aN s'.env 8=.p (.int .u64 s)/\aN s'.env 2=.p (.int .u64 Y)/\s'.heap=[]) ?_ ?_
 ·refine lp (α:=Nat×Nat) (fun a=>⟨[(16,.p (.int .u64 a.2)),(15,.p (.int .u64 a.1)),(14,.p (.int .u64 u0)),(13,.p (.int .u64 u1)),(11,.p (.int .u64 T)),(10,.p (.int .u64 v0)),(9,.p (.int .u64 b)),(8,.p (.int .u64 s)),(2,.p (.int .u64 Y))],[]⟩) (fun a=>a.1*b+a.2=T/\hq wH b v0 T u1<=a.1/\a.2<wH/\a.1<=wH+1) (fun a=>a.1) (K,ak) ⟨aO,aK,o_,aI⟩ ?_;rintro⟨x,r⟩ ⟨k1,k2,k3,k4⟩;dsimp only at k1 k2 k3 k4;have aH:r<4294967296:=k3;have W:x<=4294967297:=k4;have g:dl.wrap ((x:Int)*v0)=(x*v0:Nat):=by
   have:=nb W (show v0<=4294967295 by omega);rw[fI _ (by rw[<-gj];omega) (by rw[<-gj];omega)];push_cast;rfl
  have v:dl.wrap (4294967296*(r:Int))=4294967296*r:=fI _ o_ o_;have w:dl.wrap (4294967296*(r:Int)+u1)=4294967296*r+u1:=fI _ o_ o_;have m:dl.wrap ((r:Int)+b)=r+b:=fI _ o_ o_
  by_cases i:4294967296<=x\/4294967296*r+u1<x*v0
  ·have j:=P8 d (show 0<wH by decide) k1 k2 (i.imp (fun h=>⟨h,by rw[<-oQ];exact AZ⟩) id);obtain⟨k,rfl⟩:∃k,x=k+1:=⟨x-1,by
    rcases i with h|h
    ·omega
    ·rcases lc x with e|e
     ·rw[e]at h;omega
     ·omega⟩
   have l:dl.wrap (k:Int)=k:=fI _ o_ o_;have k5:k*b+(r+b)=T:=by rw[<-k1,kt];omega
   rw[li]at j;have kB:k<=wH+1:=o_
   by_cases Q:4294967296<=r+b
   ·have hq:=Ni d (by rw[<-eY];exact xF) lZ k5 Q j;have f:(4294967296:Int)<=(r:Int)+b:=by omega
    rw[<-oQ]at hq;subst hq;rcases lm (k+1) 4294967296 with hc|hc
    ·have n:((k:Int)+1<4294967296):=by omega
     have c:¬((4294967296:Int)<=(k:Int)+1):=o_
     have o:(4294967296*(r:Int)+u1<((k+1)*v0:Nat)):=o_
     have q:4294967296*r+u1<(k+1)*v0:=o_
     generalize (k+1)*v0=J at*;push_cast at g;simp[g,v,w,l,m,n,c,o,q,f]
    ·have c:((4294967296:Int)<=(k:Int)+1):=by omega
     simp[l,m,c,f]
   ·have f:¬(4294967296:Int)<=(r:Int)+b:=by omega
    rcases lm (k+1) 4294967296 with hc|hc
    ·have n:((k:Int)+1<4294967296):=by omega
     have c:¬((4294967296:Int)<=(k:Int)+1):=o_
     have o:(4294967296*(r:Int)+u1<((k+1)*v0:Nat)):=o_
     have q:4294967296*r+u1<(k+1)*v0:=o_
     generalize (k+1)*v0=J at*;push_cast at g;simp[g,v,w,l,m,n,c,o,q,f];exact rd (k,r+b) ⟨k5,j,show r+b<4294967296 by omega,kB⟩
    ·have c:((4294967296:Int)<=(k:Int)+1):=by omega
     simp[l,m,c,f];exact rd (k,r+b) ⟨k5,j,show r+b<4294967296 by omega,kB⟩
  ·have aD:¬4294967296<=x:=fun h=>i (.inl h);have U:¬4294967296*r+u1<x*v0:=fun h=>i (.inr h);have hq:=DA d (show 0<wH by decide) k1 k2 (oq.1 U);rw[<-oQ]at hq;subst hq;have S:¬(4294967296:Int)<=x:=by omega
   have V:¬(4294967296*(r:Int)+u1<(x*v0:Nat)):=o_
   generalize x*v0=J at*;simp[g,v,w,S,V]
 rintro⟨au,aB⟩ ⟨z,A,B,C,D,E,F,G,I⟩;dsimp only at z A B C D E F G I;subst I;simp[z,A,B,C,D,E,F,G,ao,am,an,aF,aG];refine so (fun s'=>aN s'.env 18=.p (.int .u64 q0)/\aN s'.env 15=.p (.int .u64 q1)/\aN s'.env 17=.p (.int .u64 R)/\aN s'.env 14=.p (.int .u64 u0)/\aN s'.env 10=.p (.int .u64 v0)/\aN s'.env 9=.p (.int .u64 b)/\aN s'.env 8=.p (.int .u64 s)/\aN s'.env 2=.p (.int .u64 Y)/\s'.heap=[]) ?_ ?_
 ·refine lp (α:=Nat×Nat) (fun a=>⟨[(16,.p (.int .u64 a.2)),(18,.p (.int .u64 a.1)),(15,.p (.int .u64 q1)),(17,.p (.int .u64 R)),(14,.p (.int .u64 u0)),(10,.p (.int .u64 v0)),(9,.p (.int .u64 b)),(8,.p (.int .u64 s)),(2,.p (.int .u64 Y))],[]⟩) (fun a=>a.1*b+a.2=R/\hq wH b v0 R u0<=a.1/\a.2<wH/\a.1<=wH+1) (fun a=>a.1) (L,al) ⟨aP,aL,o_,aJ⟩ ?_ (he:=by simp[z,A,B,C,D,E,F,G]);rintro⟨x,r⟩ ⟨k1,k2,k3,k4⟩;dsimp only at k1 k2 k3 k4;have aH:r<4294967296:=k3;have W:x<=4294967297:=k4;have g:dl.wrap ((x:Int)*v0)=(x*v0:Nat):=by
   have:=nb W (show v0<=4294967295 by omega);rw[fI _ (by rw[<-gj];omega) (by rw[<-gj];omega)];push_cast;rfl
  have v:dl.wrap (4294967296*(r:Int))=4294967296*r:=fI _ o_ o_;have w:dl.wrap (4294967296*(r:Int)+u0)=4294967296*r+u0:=fI _ o_ o_;have m:dl.wrap ((r:Int)+b)=r+b:=fI _ o_ o_
  by_cases i:4294967296<=x\/4294967296*r+u0<x*v0
  ·have j:=P8 d (show 0<wH by decide) k1 k2 (i.imp (fun h=>⟨h,by rw[<-xi];exact AY⟩) id);obtain⟨k,rfl⟩:∃k,x=k+1:=⟨x-1,by
    rcases i with h|h
    ·omega
    ·rcases lc x with e|e
     ·rw[e]at h;omega
     ·omega⟩
   have l:dl.wrap (k:Int)=k:=fI _ o_ o_;have k5:k*b+(r+b)=R:=by rw[<-k1,kt];omega
   rw[li]at j;have kB:k<=wH+1:=o_
   by_cases Q:4294967296<=r+b
   ·have hq:=Ni d (by rw[<-eY];exact xE) lZ k5 Q j;have f:(4294967296:Int)<=(r:Int)+b:=by omega
    rw[<-xi]at hq;subst hq;rcases lm (k+1) 4294967296 with hc|hc
    ·have n:((k:Int)+1<4294967296):=by omega
     have c:¬((4294967296:Int)<=(k:Int)+1):=o_
     have o:(4294967296*(r:Int)+u0<((k+1)*v0:Nat)):=o_
     have q:4294967296*r+u0<(k+1)*v0:=o_
     generalize (k+1)*v0=J at*;push_cast at g;simp[g,v,w,l,m,n,c,o,q,f]
    ·have c:((4294967296:Int)<=(k:Int)+1):=by omega
     simp[l,m,c,f]
   ·have f:¬(4294967296:Int)<=(r:Int)+b:=by omega
    rcases lm (k+1) 4294967296 with hc|hc
    ·have n:((k:Int)+1<4294967296):=by omega
     have c:¬((4294967296:Int)<=(k:Int)+1):=o_
     have o:(4294967296*(r:Int)+u0<((k+1)*v0:Nat)):=o_
     have q:4294967296*r+u0<(k+1)*v0:=o_
     generalize (k+1)*v0=J at*;push_cast at g;simp[g,v,w,l,m,n,c,o,q,f];exact rd (k,r+b) ⟨k5,j,show r+b<4294967296 by omega,kB⟩
    ·have c:((4294967296:Int)<=(k:Int)+1):=by omega
     simp[l,m,c,f];exact rd (k,r+b) ⟨k5,j,show r+b<4294967296 by omega,kB⟩
  ·have aD:¬4294967296<=x:=fun h=>i (.inl h);have U:¬4294967296*r+u0<x*v0:=fun h=>i (.inr h);have hq:=DA d (show 0<wH by decide) k1 k2 (oq.1 U);rw[<-xi]at hq;subst hq;have S:¬(4294967296:Int)<=x:=by omega
   have V:¬(4294967296*(r:Int)+u0<(x*v0:Nat)):=o_
   generalize x*v0=J at*;simp[g,v,w,S,V]
 rintro⟨au,aB⟩ ⟨z,A,B,C,D,E,F,G,I⟩;dsimp only at z A B C D E F G I;subst I;simp[z,A,B,C,D,E,F,G,M2,ap,M]
def dJ(j n:Nat)(g f:Nat->Nat)(k:Nat):Nat:=if j<=k/\k<j+n then f (k-j)else g k
theorem tv{j:Nat}{g f:Nat->Nat}:dJ j 0 g f=g:=by
 funext k;rw[dJ,if_neg o_]
theorem yX{m j i:Nat}{g f:Nat->Nat}{v:Nat}(a:f i=v):(ch m (dJ j i g f)).set (j+i) (.p (.int .u64 v))=ch m (dJ j (i+1) g f):=by
 refine pJ ?_ fun k hk=>?_
 ·rw[dJ,if_pos o_,m1,a]
 ·rw[dJ,dJ]
  by_cases h:j<=k/\k<j+i
  ·rw[if_pos h,if_pos o_]
  ·rw[if_neg h,if_neg o_]
theorem yY{m j i:Nat}{g f:Nat->Nat}(h:j+i<m):(ch m (dJ j i g f))[j+i]?=some (.p (.int .u64 (g (j+i)))):=by
 rw[mW _ h,dJ,if_neg o_]
theorem Y9{j n:Nat}{g f a:Nat->Nat}:dJ j n (dJ j n g f) a=dJ j n g a:=by
 funext k;rw[dJ,dJ,dJ];split<;>rfl
theorem azl(X V m j n:Nat)(t:(ar wB V).length=n)(G:2<=n)(bt:j+n+1<=m)(bw:m<=1000002)(a2:X<V*wB^(j+1)):
 bW prog 342 [.arr .exact 0 1 (ch m (ae wB X))] [.sl 0 0 1 j (n+1),.p (eN V)] [.arr .exact 0 1 (ch m (ae wB (X% (V*wB^j))))] (.p (.int .u64 (X/(V*wB^j):Nat))):=by
 refine dU nf (i_ func342) mix (by simp[f342]) ?_;have l:=cq bh V;have I:wB^(n-1)<=V:=by
  rcases lm V (wB^(n-1))with h|h
  ·have:=dO bh (n-1) V h;omega
  ·exact h
 rw[t]at l;have U:∀i(h:i<(ar wB V).length),(ar wB V)[i]=ae wB V i:=fun i h=>eH bh h;have aM:0<V:=C0 bh G I;obtain⟨W,w⟩:∃W,X/wB^j=W:=⟨_,rfl⟩
 have ag:W<V*wB:=by
  rw[<-w,j4 (kc (by decide)),kp,j3 wB,<-j6];exact a2
 have T:W<wB^(n+1):=m3 ag (by rw[j6];exact lv l (by decide));have al:∀i,i<n+1->(ch m (ae wB X))[j+i]?=some (.p (.int .u64 (ae wB W i))):=fun i hi=>by rw[mW _ o_,<-w,qZ]
 have a4:X/(V*wB^j)=W/V:=by rw[yH.2,w]
 have aR:∀f:Nat->Nat,(∀i,i<n+1->f i=ae wB (W% V) i)->ch m (dJ j (n+1) (ae wB X) f)=ch m (ae wB (X% (V*wB^j))):=fun f hf=>Cq fun k hk=>by
  rw[yH.1,w,Lm bh,dJ]
  by_cases u:k<j
  ·rw[if_neg o_,if_pos u]
  ·rw[if_neg u]
   by_cases H:k<j+(n+1)
   ·rw[if_pos o_,hf _ o_]
   ·have e1:ae wB X k=0:=by
     obtain⟨e,rfl⟩:∃e,k=j+e:=⟨k-j,o_⟩
     rw[<-qZ,w];exact jY (j7 T (j8 (by decide) o_))
    have e2:ae wB (W% V) (k-j)=0:=jY (j7 (kd (pi _ _) T) (j8 (by decide) o_));rw[if_neg o_,e1,e2]
 rw[a4];simp only[eN];generalize ar wB V=x at*;have aJ:∀i,i<n->i<x.length:=fun i h=>by omega
 have e1:dp.wrap ((n:Int)-1)=((n-1:Nat):Int):=by rw[aO _ o_ o_];omega
 have e2:dp.wrap ((n:Int)-2)=((n-2:Nat):Int):=by rw[aO _ o_ o_];omega
 obtain⟨b,E⟩:∃b,b=n-1:=⟨_,rfl⟩
 obtain⟨d,an⟩:∃d,d=n-2:=⟨_,rfl⟩
 rw[<-E]at e1;rw[<-an]at e2;have F:=U b o_;have aT:=U d o_;have bm:b<x.length:=o_
 have bn:d<x.length:=o_
 have L:x[b]?=some (ae wB V b):=by rw[hD bm,F]
 have bl:x[d]?=some (ae wB V d):=by rw[hD bn,aT]
 have O:b<n:=o_
 have Y:d<n:=o_
 have R:b<n+1:=o_
 have Z:d<n+1:=o_
 have aE:=al n o_;have aF:=al b o_;have ac:=al d o_;have a9:n=b+1:=o_
 have aI:W/wB^n=ae wB W n:=by
  rw[ae,j5];rw[j4 (kc (by decide)),j3,<-j6];exact T
 have ah:W/wB^b=ae wB W n*wB+ae wB W b:=by rw[s8,<-a9,aI]
 simp[f342,-bu,t];rw[bu];simp[-bu,t];rw[bu];simp[-bu,t];rw[bu];simp[-bu,t];rw[bu];simp[-bu,t];refine join (fun s=>∃q r o:Nat,q*ae wB V b+(r+o*wB)=W/wB^b/\W/V<=q/\q<wB/\r<wB/\o<=1/\aN s.env 0=.sl 0 0 1 j (n+1)/\aN s.env 1=.p (.seq (x.map fun x:Nat=>.int .u64 x))/\aN s.env 5=.p (.int .i64 n)/\aN s.env 6=.p (.int .u64 q)/\aN s.env 7=.p (.int .u64 r)/\aN s.env 8=.p (.int .u64 o)/\s.heap=[.arr .exact 0 1 (ch m (ae wB X))]) ?_ ?_
 ·by_cases hc:ae wB V b<=ae wB W n
  ·have ai:(ae wB V b:Int)<=ae wB W n:=by omega
   simp[e1,e2,F,L,O,R,aE,aF,ai,t,ad,aL,bG];refine e3 (rr (ae wB W b) (ae wB V b) 0 o_) ?_;simp;have aX:=ct bh W b;have aD:=ct bh V b;have aY:ae wB W n=ae wB V b:=by
    have:=(DB bh o_ l ag).1;rw[aI,<-E]at this;omega
   refine⟨18446744073709551615,(ae wB W b+ae wB V b)% wB,(ae wB W b+ae wB V b)/wB,?_,?_,by decide,kk _ (by decide),?_,rfl,rfl,rfl⟩
   ·rw[ah,aY];simp only[wB];omega
   ·have:=(DB bh o_ l ag).2;simp only[wB]at this;omega
   ·simp only[wB]at*;omega
  ·have ai:¬(ae wB V b:Int)<=ae wB W n:=by omega
   simp[e1,e2,F,L,O,R,aE,aF,ai,t,ad,aL,bG];refine e3 (OV (ae wB W n) (ae wB W b) (ae wB V b) o_ (ct bh _ _) (ct bh _ _)) ?_;simp;have aX:=ct bh W b;have aD:=ct bh V b;refine⟨(ae wB W n*wB+ae wB W b)/ae wB V b,(ae wB W n*wB+ae wB W b)% ae wB V b,0,?_,?_,?_,?_,o_,rfl,rfl,rfl⟩
   ·rw[ah,m2,ms,j3,ko]
   ·rw[<-ah,E];exact OJ bh G I l
   ·rw[j4 o_];have:=kh wB (show ae wB W n+1<=ae wB V b by omega);rw[kt,lw]at this;rw[j3 wB];omega
   ·exact m3 (kk _ o_) aD
 rintro⟨aZ,a6⟩ ⟨q,r,o,k1,k2,k3,k4,k5,y,z,A,B,aq,au,K⟩;dsimp only at y z A B aq au K;subst K;simp[y,z,A,B,aq,au];refine so (fun s=>∃q:Nat,W/V<=q/\q<=W/V+1/\q<wB/\aN s.env 0=.sl 0 0 1 j (n+1)/\aN s.env 1=.p (.seq (x.map fun x:Nat=>.int .u64 x))/\aN s.env 5=.p (.int .i64 n)/\aN s.env 6=.p (.int .u64 q)/\s.heap=[.arr .exact 0 1 (ch m (ae wB X))]) ?_ ?_
 ·have bc:q*ae wB V b+(r+o*wB)=W/wB^b/\W/V<=q/\q<wB/\r<wB/\o<=1:=⟨k1,k2,k3,k4,k5⟩
  clear k1 k2 k3 k4 k5;refine lp (α:=Nat×Nat×Nat) (fun a=>⟨[(8,.p (.int .u64 a.2.2)),(7,.p (.int .u64 a.2.1)),(6,.p (.int .u64 a.1)),(5,.p (.int .i64 n)),(1,.p (.seq (x.map fun x:Nat=>.int .u64 x))),(0,.sl 0 0 1 j (n+1))],[.arr .exact 0 1 (ch m (ae wB X))]⟩)
   (fun a=>a.1*ae wB V b+(a.2.1+a.2.2*wB)=W/wB^b/\W/V<=a.1/\a.1<wB/\a.2.1<wB/\a.2.2<=1) (fun a=>a.1) (q,r,o) bc ?_ (he:=by simp[y,z,A,B,aq,au])
  rintro⟨q,r,o⟩ ⟨k1,k2,k3,k4,k5⟩;dsimp only at k1 k2 k3 k4 k5
  by_cases ba:o=0
  ·subst ba;rw[m2,ms]at k1;have S:=zo q (ae wB V d) k3 (ct bh _ _);rw[show(18446744073709551616:Nat)=wB from rfl]at S;have bp:=ko (q*ae wB V d) wB;have bq:q*ae wB V d% wB<wB:=kk _ (by decide);have aH:=fun h=>EU bh G I l (by rw[<-E];exact k1) k3 (by rw[<-an];exact h);have aG:=fun h=>Qa (q:=q) (r:=r) bh G I l (by rw[<-E];exact k1) (by rw[<-an];exact h);have br:=ct bh W d;generalize q*ae wB V d% wB=lo at*;generalize q*ae wB V d/wB=hi at*;generalize q*ae wB V d=P at*;have v:=rr r (ae wB V b) 0 o_;simp[e1,e2,F,L,aT,bl,O,R,Y,Z,t];refine c2 S ?_;rcases Nat.lt_trichotomy hi r with h|h|h
   ·have hI:(hi:Int)<r:=by omega
    simp[hI];refine⟨q,k2,aH (by
     have:=km wB (show hi+1<=r by omega);rw[lz,na,j3 wB r]at this;omega),k3,rfl⟩
   ·subst h
    by_cases hl:lo<=ae wB W d
    ·have hI:(lo:Int)<=ae wB W d:=by omega
     simp[hI,e2,ac,Y,Z];exact⟨q,k2,aH (by rw[j3 hi];omega),k3,rfl⟩
    ·have hI:¬(lo:Int)<=ae wB W d:=by omega
     have J:=aG (by rw[j3 hi];omega);have bd:0<q:=kd (m8 _) J;obtain⟨k,rfl⟩:∃k,q=k+1:=⟨q-1,o_⟩
     have ap:dl.wrap (k:Int)=k:=fI _ o_ o_;simp[hI,e1,e2,ac,O,R,Y,Z,F,L,ap,ad,aL,bG];refine c3 v ?_;simp;have ax:=lk (hi+ae wB V b) wB;have ay:k*ae wB V b+((hi+ae wB V b)% wB+(hi+ae wB V b)/wB*wB)=W/wB^b:=by
      rw[j3 _ wB,ax,<-k1,kt,lw,n5,lt hi]
     have az:=ct bh V b;have aB:(hi+ae wB V b)/wB<=1:=by
      have aC:=k4;simp only[wB]at az aC⊢;omega
     exact rd (k,(hi+ae wB V b)% wB,(hi+ae wB V b)/wB) ⟨ay,o4.1 J,ox k3,kk _ (by decide),aB⟩
   ·have hI:¬(hi:Int)<r:=by omega
    have a1:¬(hi:Int)=r:=o_
    have a3:=km wB (show r+1<=hi by omega);rw[lz,na,j3 wB r]at a3;have J:=aG o_;have bd:0<q:=kd (m8 _) J;obtain⟨k,rfl⟩:∃k,q=k+1:=⟨q-1,o_⟩
    have ap:dl.wrap (k:Int)=k:=fI _ o_ o_;simp[hI,a1,e1,e2,ac,O,R,Y,Z,F,L,ap,ad,aL,bG];refine c3 v ?_;simp;have ax:=lk (r+ae wB V b) wB;have ay:k*ae wB V b+((r+ae wB V b)% wB+(r+ae wB V b)/wB*wB)=W/wB^b:=by
     rw[j3 _ wB,ax,<-k1,kt,lw,n5,lt r]
    have az:=ct bh V b;have aB:(r+ae wB V b)/wB<=1:=by
     have aC:=k4;simp only[wB]at az aC⊢;omega
    exact rd (k,(r+ae wB V b)% wB,(r+ae wB V b)/wB) ⟨ay,o4.1 J,ox k3,kk _ (by decide),aB⟩
  ·have bb:o=1:=by omega
   subst bb;simp;exact⟨q,k2,EU bh G I l (by rw[<-E];exact k1) k3 (OI bh o_ k3),k3,rfl⟩
 rintro⟨aZ,a6⟩ ⟨q,k2,k3,k4,y,z,A,B,K⟩;dsimp only at y z A B K;subst K;have be:q*V<wB^(n+1):=WK k4 l;have aP:q*V<=W+wB^(n+1):=o_
 obtain⟨D,af⟩:∃D,D=W+wB^(n+1)-q*V:=⟨_,rfl⟩
 have aS:∀i,i<n+1->aA prog 291 [.int .u64 (ae wB W i),.int .u64 (ae wB (q*V) i),.int .u64 (fu wB (W+wB^(n+1)) (q*V) i)] (.aE [.int .u64 (ae wB D i),.int .u64 (fu wB (W+wB^(n+1)) (q*V) (i+1))]):=fun i hi=>by
  have h:=PU aP i;rw[<-af,vS hi]at h;exact h
 have bg:∀i,(q*ae wB V i% wB+jd wB V q i+0)% wB=ae wB (q*V) i/\dl.wrap (((q*ae wB V i/wB:Nat):Int)+((q*ae wB V i% wB+jd wB V q i+0)/wB:Nat))=(jd wB V q (i+1):Nat):=fun i=>by
  obtain⟨u,H⟩:=Zl (q:=q) (V:=V) bh i;have a0:=aLJ (V:=V) bh k4 (i+1);rw[<-u,<-H];rw[<-H]at a0;generalize q*ae wB V i=P at*;generalize jd wB V q i=c at*;have e:P/wB+(P% wB+c+0)/wB=(P+c)/wB:=by simp only[wB];omega
  refine⟨by simp only[wB];omega,?_⟩;rw[fI _ o_ o_];omega
 have a5:=Wp (V:=V) (q:=q) T be;have bf:=Zn bh k4 l;have bv:(ch m (ae wB X)).length=m:=NW _ _;simp[y,z,A,B];refine lp (α:=Nat) (fun i=>⟨[(105,.p (.int .i64 i)),(104,.p (.int .i64 n)),(12,.p (.int .u64 (jd wB V q i:Nat))),(11,.p (.int .u64 (fu wB (W+wB^(n+1)) (q*V) i:Nat))),(6,.p (.int .u64 q)),(5,.p (.int .i64 n)),(1,.p (.seq (x.map fun x:Nat=>.int .u64 x))),(0,.sl 0 0 1 j (n+1))],[.arr .exact 0 1 (ch m (dJ j i (ae wB X) (ae wB D)))]⟩)
  (fun i=>i<=n) (fun i=>n-i) 0 s_ ?_ (hn:=by simp[tv]) (he:=by simp[y,z,A,B,XY,Ci]) (hh:=by simp[tv])
 intro i k5;have bj:=bY (i:=i) o_
 by_cases hi:i<n
 ·have N:i<x.length:=aJ i hi;have M:=U i N;have ao:x[i]?=some (ae wB V i):=by rw[hD N,M]
  have S:=zo q (ae wB V i) k4 (ct bh _ _);rw[show(18446744073709551616:Nat)=wB from rfl]at S;have v:=rr (q*ae wB V i% wB) (jd wB V q i) 0 o_;obtain⟨r1,r2⟩:=bg i;have aa:=aS i o_;rw[r1]at v;generalize q*ae wB V i% wB=lo at*;generalize q*ae wB V i/wB=bs at*;generalize (lo+jd wB V q i+0)/wB=c' at*;have ak:i<n+1:=o_
  have C:(ch m (dJ j i (ae wB X) (ae wB D)))[j+i]?=some (.p (.int .u64 (ae wB W i))):=by rw[yY o_,<-w,qZ]
  have ab:=yX (m:=m) (j:=j) (i:=i) (g:=ae wB X) (f:=ae wB D) rfl;simp[t,hi,M,ao];refine c2 S ?_;simp;refine c3 v ?_;simp[r2,ak,C];refine c3 aa ?_;simp[ak,C,ab,bj,ad,aL,bG];exact rd (i+1) (show i+1<=n by omega)
 have a7:i=n:=o_
 subst a7;have C:(ch m (dJ j i (ae wB X) (ae wB D)))[j+i]?=some (.p (.int .u64 (ae wB W i))):=by rw[yY o_,<-w,qZ]
 have ab:=yX (m:=m) (j:=j) (i:=i) (g:=ae wB X) (f:=ae wB D) rfl;have aa:=aS i o_;rw[<-bf]at aa;simp[C];refine c3 aa ?_;rw[a5]
 by_cases aQ:q*V<=W
 ·obtain⟨aV,av⟩:=aLA aQ k3 aM k2;have aj:=aR (ae wB D) fun k hk=>by rw[af,<-av];exact aLz aQ hk
  have aw:(q:Int)=(W:Int)/V:=by rw[aV];rfl
  have am:(if W<q*V then 1 else 0:Nat)=0:=if_neg o_;rw[am];simp[C,ab,aj,<-aw,ad,aL,bG]
 ·obtain⟨aV,av⟩:=Zr o_ k3 aM k2;have aW:=av (wB^(i+1)) aP;rw[<-af]at aW;have aj:=aR (ae wB (D+V)) fun k hk=>by rw[aW,vS hk]
  have am:(if W<q*V then 1 else 0:Nat)=1:=if_pos o_;have aw:dl.wrap ((q:Int)-1)=(W:Int)/V:=by
   have e:((W/V:Nat):Int)=(W:Int)/V:=rfl;rw[<-e];generalize W/V=Q at*;rw[fI _ o_ o_];omega
  rw[am];simp[C,ab,ad,aL,bG];refine lp (α:=Nat) (fun k=>⟨[(157,.p (.int .i64 k)),(156,.p (.int .i64 i)),(17,.p (.int .u64 (dt wB D V k:Nat))),(6,.p (.int .u64 q)),(5,.p (.int .i64 i)),(1,.p (.seq (x.map fun x:Nat=>.int .u64 x))),(0,.sl 0 0 1 j (i+1))],[.arr .exact 0 1 (ch m (dJ j k (dJ j (i+1) (ae wB X) (ae wB D)) (ae wB (D+V))))]⟩)
   (fun k=>k<=i) (fun k=>i-k) 0 s_ ?_ (hn:=by simp[tv]) (he:=by simp[yA]) (hh:=by simp[tv])
  intro k k6;have bk:=bY (i:=k) o_;have gk:(ch m (dJ j k (dJ j (i+1) (ae wB X) (ae wB D)) (ae wB (D+V))))[j+k]?=some (.p (.int .u64 (ae wB D k))):=by rw[yY o_,dJ,if_pos o_,m1]
  have aU:=yX (m:=m) (j:=j) (i:=k) (g:=dJ j (i+1) (ae wB X) (ae wB D)) (f:=ae wB (D+V)) rfl;obtain⟨u,H⟩:=qL bh D V k
  by_cases hk:k<i
  ·have N:k<x.length:=aJ k hk;have M:=U k N;have ao:x[k]?=some (ae wB V k):=by rw[hD N,M]
   have v:=rr (ae wB D k) (ae wB V k) (dt wB D V k) (me bh _ _ _);rw[u,H]at v;have aK:k<i+1:=o_
   simp[t,hk,aK,M,ao,gk,ad,aL,bG];refine e3 v ?_;simp[aK,gk,aU,bk,ad,aL,bG];refine⟨⟨by rfl,by rfl,by rfl⟩,?_⟩;exact rd (k+1) (show k+1<=i by omega)
  have a8:k=i:=o_
  subst a8;have bi:ae wB V k=0:=jY l;rw[bi,ms]at u;have bo:dl.wrap ((ae wB D k:Int)+(dt wB D V k:Nat))=(ae wB (D+V) k:Nat):=by rw[<-hp,zi,u]
  simp[gk,aU,bo,aw,aj,Y9,ad,aL,bG]
theorem Y7{a b i:Nat}(c:0<b):(a/wB^(i+1)% b*wB+ae wB a i)/b=ae wB (a/b) i/\(a/wB^(i+1)% b*wB+ae wB a i)% b=a/wB^i% b:=by
 have e:=s8 (B:=wB) a i;have g:=ko (a/wB^(i+1)) b;have f:a/wB^i=(a/wB^(i+1)% b*wB+ae wB a i)+a/wB^(i+1)/b*wB*b:=by
  rw[e];generalize ae wB a i=d;generalize a/wB^(i+1)/b=Q at*;generalize a/wB^(i+1)% b=R at*;rw[<-g,kt,j3 b,l1 Q b wB];omega
 have j:(a/wB^(i+1)% b*wB+ae wB a i)/b<wB:=by
  rw[j4 c];have k:=ct bh a i;have h:=kh wB (show a/wB^(i+1)% b+1<=b from kk _ c);rw[kt,lw]at h;rw[j3 wB];omega
 constructor
 ·conv=>rhs;rw[ae,j9,j3 b,<-j9,f,l0 _ _ c,ln,j5 j]
 ·rw[f,ln]
def qF(Q i k:Nat):Nat:=if i<=k then ae wB Q k else 0
theorem O4{m Q i:Nat}:(ch m (qF Q (i+1))).set i (.p (.int .u64 (ae wB Q i)))=ch m (qF Q i):=by
 refine pJ ?_ fun k hk=>?_
 ·rw[qF,if_pos (la _)]
 ·rw[qF,qF]
  by_cases h:i<=k
  ·rw[if_pos h,if_pos o_]
  ·rw[if_neg h,if_neg o_]
theorem Oe{m Q:Nat}:ch m (qF Q 0)=ch m (ae wB Q):=CB fun k=>by rw[qF,if_pos (m8 _)]
theorem Of{m Q:Nat}:hV m (AV.p (.int .u64 0))=ch m (qF Q m):=by
 rw[De (f:=fun _=>0) (fun _=>rfl)];exact Cq fun k hk=>by rw[qF,if_neg o_]
theorem DO{m N:Nat}(h:N<wB^m)(b:m<=1048576):∃l:List Nat,l.length=m/\ch m (ae wB N)=l.map (AV.p∘fun x:Nat=>PV.int .u64 x)/\aA prog 290 [.seq (eW l)] (eN N):=by
 refine⟨(hC m).map (ae wB N),s_,Df m _,?_⟩;have a:=tV ((hC m).map (ae wB N)) (by simp;omega);rw[show eB ((hC m).map (ae wB N))=ar wB N from jZ bh h]at a;exact a
theorem pL{a b:Nat}:fY a b<0↔a<b:=by
 rw[fY];split
 ·simp[*]
 ·split<;>simp[*]
theorem W7(r:Nat):((r:Int)% 2^dl.bits).toNat=r% 2^dl.bits:=by
 rw[show dl.bits=64 from rfl];omega
theorem axD{b d n a s V:Nat}(g:b/wB^a=d)(h:n=a+1)(hs:s<64)(o:wB<=2*(d*2^s))(i:d*2^s<wB)(f:V=b*2^s):V<wB^n/\wB^n<=2*V:=by
 have m:0<wB^a:=kc (by decide);have j:0<2^s:=kc (by decide);have k:b<(d+1)*wB^a:=by
  rw[<-g,kt,lw];exact nl m
 have l:(d+1)*2^s<=wB:=by
  have c:=zK hs;have e:d<2^(64-s):=by
   rw[<-c,j3 d]at i;exact Nat.lt_of_mul_lt_mul_left i
  rw[<-c,j3];exact km _ e
 constructor
 ·rw[f,h,j6,j3 _ wB];refine j7 (lv k j) ?_;rw[l1];exact kh _ l
 ·rw[f,h,j6,j3 _ wB];refine md (kh _ o) ?_;have c:d*wB^a<=b:=by rw[<-g];exact lu _ _
  have e:=kh (2^s) c;rw[kp 2,l1 d];exact km _ e
theorem YZ{a n b s V:Nat}(f:a<wB^b)(hs:s<64)(e:wB^n<=2*V)(i:n<=b):a*2^s<V*wB^(b-n+1):=by
 have d:2*2^s<=wB:=by
  have c:2^(s+1)<=2^64:=j8 (by decide) hs;rw[j6,j3]at c;exact c
 have g:=kh (wB^(b-n+1)) e;rw[<-kw,show n+(b-n+1)=b+1 by omega,j6,kp]at g;have c:=km a d;have h:=lv f (show 0<wB by decide);rw[nn]at c;generalize wB^b*wB=j at*;generalize V*wB^(b-n+1)=z2 at*;generalize a*2^s=z3 at*;generalize a*wB=z4 at*;clear d e f;omega
theorem axE{a b n d c:Nat}(h:a<wB^c)(f:0<b)(i:n=d+1)(g:wB^d<=b)(j:n<=c):a/b<wB^(c-n+1):=by
 rw[j4 f];refine j7 h ?_;have e:=km (wB^(c-n+1)) g;rw[<-kw,show c-n+1+d=c by omega]at e;exact e
theorem Y0{a b s k:Nat}(c:0<2^s):a*2^s% (b*2^s*wB^(k+1))/(b*2^s*wB^k)=ae wB (a/b) k:=by
 rw[j6,<-kp,mx,<-j9,m6 _ _ c,ae]
theorem NX{n N:Nat}{f g:Nat->Nat}(a:n<=N)(h:∀k,k<n->f k=g k):((hC N).map f).take n=(hC n).map g:=by
 rw[<-h6,List.take_range,n3 a];exact hP fun k hk=>h k (h5.1 hk)
theorem C6(a b:Nat)(z:0<b)(bd:(ar wB a).length<=1000000)(bL:(ar wB b).length<=1000000):aA prog 286 [eN a,eN b] (.aE [eN (a/b),eN (a% b)]):=by
 refine aM nf (i_ func286) mix (by simp[f286]) ?_;have bg:=Jy a b o_ o_;simp[f286];refine c2 bg ?_
 by_cases H:a<b
 ·have F:=pL.2 H;simp[F,kv H,j5 H,eN,ar,nD]
 have F:¬fY a b<0:=fun h=>H (pL.1 h);have bk:∀i(h:i<(ar wB a).length),(ar wB a)[i]=ae wB a i:=fun i h=>eH bh h;have U:∀i(h:i<(ar wB b).length),(ar wB b)[i]=ae wB b i:=fun i h=>eH bh h;have A:=cq bh a;have q:=cq bh b
 by_cases J:(ar wB b).length=1
 ·rw[J,l5]at q;have W:((ar wB b).length:Int)=1:=by omega
  obtain⟨l,B,K,w⟩:=DO (m:=(ar wB a).length) (N:=a/b) (kd (l2 _ _) A) o_;have av:=tV [a% b] s_;have bj:eB [a% b]=ar wB (a% b):=by
   have L:a% b<wB:=m3 (kk _ z) q;have:=jZ bh (m:=1) (n:=a% b) (by rw[l5];exact L);rw[<-this,row,i8,hG,js,ae,lb,l3,j5 L]
  rw[bj]at av;have be:(ar wB b)[0]?=some b:=by
   rw[hD o_,U 0 o_,ae,lb,l3,j5 q]
  have bf:∀h:0<(ar wB b).length,(ar wB b)[0]'h=b:=fun h=>by rw[U 0 h,ae,lb,l3,j5 q]
  have aE:a/wB^(ar wB a).length% b=0:=by rw[kv A,ob]
  simp only[eN]at w⊢;generalize ar wB (a/b)=bE at*;generalize ar wB (a% b)=aW at*;generalize ar wB a=x at*;generalize ar wB b=y at*;obtain⟨n,u⟩:∃n,x.length=n:=⟨_,rfl⟩
  rw[u]at B K aE bd;have e1:dp.wrap ((n:Int)-1)=n-1:=aO _ o_ o_;simp[F,J,W,u,e1];refine⟨by simp only[cM];omega,?_⟩;rw[Of (Q:=a/b)];refine lp (α:=Nat) (fun i=>⟨[(8,.p (.int .i64 ((i:Int)-1))),(7,.p (.int .u64 (a/wB^i% b:Nat))),(6,.sl 0 0 1 0 n),(1,.p (.seq (y.map fun x:Nat=>.int .u64 x))),(0,.p (.seq (x.map fun x:Nat=>.int .u64 x)))],[.arr .exact 0 1 (ch n (qF (a/b) i))]⟩)
   (fun i=>i<=n) (fun i=>i) n (la _) ?_ (he:=by simp[aE])
  intro i k1
  by_cases hi:0<i
  ·obtain⟨k,rfl⟩:∃k,i=k+1:=⟨i-1,o_⟩
   have e2:dp.wrap ((k:Int)-1)=k-1:=aO _ o_ o_;have aT:k<x.length:=o_
   have hx:=bk k aT;have ac:x[k]?=some (ae wB a k):=by rw[hD aT,hx]
   have au:=OV (a/wB^(k+1)% b) (ae wB a k) b (kk _ z) q (ct bh _ _);obtain⟨r1,r2⟩:=Y7 (a:=a) (i:=k) z;rw[r1,r2]at au;have aI:=O4 (m:=n) (Q:=a/b) (i:=k);have gk:=mW (n:=n) (qF (a/b) (k+1)) (show k<n by omega);have aG:k<n:=o_
   generalize a/wB^(k+1)% b=bF at*;simp[u,e2,hx,ac,be,bf,J,aG,ad,aL,bG];refine e3 au ?_;simp[aI,gk,e2,aG,ad,aL,bG];refine⟨by rfl,?_⟩;exact rd k (show k<=n by omega)
  ·obtain rfl:i=0:=by omega
   simp[Oe,K];refine cp w (by simp[B];exact⟨rfl,rfl⟩) ?_ (h1:=by simp[eW,hE,B]);simp;refine cp av (by simp;exact⟨rfl,rfl⟩) ?_ (h1:=by simp[eW]);simp;exact bB.refl _
 have bO:2<=(ar wB b).length:=by
  rcases lm (ar wB b).length 1 with h|h
  ·have e:(ar wB b).length=0:=by omega
   rw[e,lb]at q;omega
  ·omega
 have W:¬((ar wB b).length:Int)=1:=o_
 obtain⟨n,u⟩:∃n,(ar wB b).length=n:=⟨_,rfl⟩
 obtain⟨c,Y⟩:∃c,(ar wB a).length=c:=⟨_,rfl⟩
 obtain⟨o,Z⟩:∃o,n=o+1:=⟨n-1,o_⟩
 have aC:wB^o<=b:=by
  rcases lm b (wB^o)with h|h
  ·have:=dO bh o b h;omega
  ·exact h
 obtain⟨d,I⟩:∃d,d=ae wB b o:=⟨_,rfl⟩
 have aD:d<wB:=by rw[I];exact ct bh _ _
 have aB:b/wB^o=d:=by
  rw[I,ae,j5];rw[j4 (kc (by decide)),j3,<-j6,show o.succ=n from Z.symm,<-u];exact q
 have bi:0<d:=by rw[<-aB];exact n0 aC (kc (by decide))
 obtain⟨s,hs,bK,bu,bv⟩:=MW bi aD;have aK:=PX d aD;obtain⟨V,D⟩:∃V,V=b*2^s:=⟨_,rfl⟩
 have C:0<2^s:=kc (by decide);have bb:b<=V:=by rw[D];exact oa _ C
 have ba:0<V:=j7 z bb;obtain⟨ay,bc⟩:=axD aB Z hs bu bv D;have ax:(ar wB V).length=n:=by
  have r:=dO bh n V ay;rcases lm (ar wB V).length n with h|h
  ·have ap:=j7 (cq bh V) (j8 (show 0<wB by decide) (show(ar wB V).length<=o by omega));omega
  ·omega
 have w:=DO (m:=n+1) (N:=V) (j7 ay (j8 (by decide) o_)) o_;obtain⟨l,B,K,w⟩:=w;have ab:=LO b s hs o_;have aa:=LO a s hs o_;have af:o<(ar wB b).length:=o_
 have hx:=U o af;have ac:(ar wB b)[o]?=some d:=by rw[hD af,hx,I]
 rw[u,<-D]at ab;rw[Y]at aa;have aQ:n<=c:=by
  rcases lm c n with h|h
  ·have:=j7 A (j8 (show 0<wB by decide) (show(ar wB a).length<=o by omega));omega
  ·exact h
 rw[Y]at A;have a3:=YZ (n:=n) A hs bc aQ;have a5:=axE (n:=n) A z Z aC aQ;have a6:a% b<wB^n:=m3 (kk _ z) (by rw[u]at q;exact q);have bx:eB ((hC n).map (ae wB (a% b)))=ar wB (a% b):=jZ bh a6;have iu:∀X j,j+n+1<=c+1->X<V*wB^(j+1)->_:=fun X j r ap=>azl X V (c+1) j n ax o_ r o_ ap;simp only[eN]at w⊢aa ab iu;generalize ar wB V=bD at*;generalize bz:ar wB (a/b)=bE at*;generalize bP:ar wB (a% b)=aW at*;generalize ar wB a=x at*;generalize ar wB b=y at*;have e1:dp.wrap ((n:Int)-1)=o:=by rw[aO _ o_ o_];omega
 have bt:(64:Int)-(dz d:Nat)=s:=o_
 rw[bt]at aK;rw[<-I]at hx;have bn:¬(n:Int)=1:=o_
 have bo:¬n=1:=o_
 simp[F,J,W,bn,bo,u,e1,hx,ac,af,ad,aL,bG];refine c1 aK ?_;simp;refine QW ab ?_;simp[K];refine cp w (by simp[B];exact⟨rfl,rfl⟩) ?_ (h1:=by simp[eW,hE,B]);simp;refine QW aa ?_;obtain⟨m,aP⟩:∃m,m=c-n:=⟨_,rfl⟩
 have e2:dp.wrap ((c:Int)-n)=m:=by rw[aO _ o_ o_];omega
 have e3:dp.wrap ((m:Int)+1)=m+1:=bY o_;simp[ax,Y,e2,e3];refine⟨⟨o_,by simp only[cM];omega⟩,?_⟩;have aq:a*2^s% (V*wB^(m+1))=a*2^s:=j5 (by rw[aP];exact a3);rw[Of (Q:=a/b)];refine so (fun s'=>aN s'.env 9=.p (.int .i64 s)/\aN s'.env 11=.sl 1 0 1 0 (c+1)/\aN s'.env 12=.p (.int .i64 n)/\aN s'.env 13=.sl 2 0 1 0 (m+1)/\s'.heap=[.arr .frozen 0 1 (l.map (AV.p∘fun x:Nat=>PV.int .u64 x)),.arr .exact 0 1 (ch (c+1) (ae wB (a% b*2^s))),.arr .exact 0 1 (ch (m+1) (ae wB (a/b)))]) ?_ ?_
 ·refine lp (α:=Nat) (fun j=>⟨[(14,.p (.int .i64 ((j:Int)-1))),(13,.sl 2 0 1 0 (m+1)),(12,.p (.int .i64 n)),(11,.sl 1 0 1 0 (c+1)),(10,.p (.seq (bD.map fun x:Nat=>.int .u64 x))),(9,.p (.int .i64 s))],[.arr .frozen 0 1 (l.map (AV.p∘fun x:Nat=>PV.int .u64 x)),.arr .exact 0 1 (ch (c+1) (ae wB (a*2^s% (V*wB^j)))),.arr .exact 0 1 (ch (m+1) (qF (a/b) j))]⟩)
   (fun j=>j<=m+1) (fun j=>j) (m+1) (la _) ?_ (hn:=by simp[aq]) (hh:=by simp[aq])
  intro j k1
  by_cases bN:0<j
  ·obtain⟨k,rfl⟩:∃k,j=k+1:=⟨j-1,o_⟩
   have e4:dp.wrap ((k:Int)-1)=k-1:=aO _ o_ o_;have e5:dp.wrap ((k:Int)+n)=k+n:=aO _ o_ o_;have aY:dp.wrap ((k:Int)+n+1)=k+n+1:=aO _ o_ o_;have aI:=iu (a*2^s% (V*wB^(k+1))) k o_ (kk _ (m9 ba (kc (by decide))));have hq:a*2^s% (V*wB^(k+1))/(V*wB^k)=ae wB (a/b) k:=by
    rw[D];exact Y0 C
   have L:a*2^s% (V*wB^(k+1))% (V*wB^k)=a*2^s% (V*wB^k):=by
    rw[j6,<-kp,mm]
   rw[hq,L]at aI;generalize a*2^s% (V*wB^(k+1))=X at*;generalize az:a*2^s% (V*wB^k)=bH at*;have a2:((k:Int)+n+1).toNat=k+n+1:=o_
   have f2:(0:Int)<=(k:Int)+n+1:=o_
   have f3:(k:Int)+n+1<=(c:Int)+1:=o_
   have f4:k<=k+n+1:=o_
   have f5:¬k=k+n+1:=o_
   have f6:k+n+1-k=n+1:=o_
   have f7:k<m+1:=o_
   have gk:=mW (n:=m+1) (qF (a/b) (k+1)) f7;have bC:=O4 (m:=m+1) (Q:=a/b) (i:=k);simp[e4,e5,aY,NW,a2,f2,f3,f4,f5,f6];rw[show(if k=0 then({v:=.sl 1 0 1 0 (k+n+1),ak:=[(1,.arr .exact 0 1 (ch (c+1) (ae wB X)))]}:aU)else{v:=.sl 1 0 1 k (n+1),ak:=[(1,.arr .exact 0 1 (ch (c+1) (ae wB X)))]})={v:=.sl 1 0 1 k (n+1),ak:=[(1,.arr .exact 0 1 (ch (c+1) (ae wB X)))]}by split<;>simp[*]];simp;refine⟨o_,?_⟩;refine cf aI [1] ?_;simp[gk,bC,e4,f7,ad,aL,bG];exact rd k (show k<=m+1 by omega) (hn:=by simp[az]) (hh:=by simp[az])
  ·obtain rfl:j=0:=by omega
   have a4:a*2^s% V=a% b*2^s:=by rw[D,op]
   simp[Oe,a4]
 rintro⟨bI,bM⟩ ⟨ag,ah,ai,aj,aR⟩;dsimp only at ag ah ai aj aR;subst aR;obtain⟨R,G⟩:∃R,R=a% b*2^s:=⟨_,rfl⟩
 rw[<-G];simp[ag,ah,ai,aj];refine lp (α:=Nat) (fun i=>⟨[(97,.p (.int .i64 i)),(96,.p (.int .i64 n)),(13,.sl 2 0 1 0 (m+1)),(12,.p (.int .i64 n)),(11,.sl 1 0 1 0 (c+1)),(9,.p (.int .i64 s))],[.arr .frozen 0 1 (l.map (AV.p∘fun x:Nat=>PV.int .u64 x)),.arr .exact 0 1 (ch (c+1) (dJ 0 i (ae wB R) (ae wB (a% b)))),.arr .exact 0 1 (ch (m+1) (ae wB (a/b)))]⟩)
  (fun i=>i<=n) (fun i=>n-i) 0 (m8 _) ?_ (hn:=by simp[tv]) (he:=by simp[ag,ah,ai,aj]) (hh:=by simp[tv])
 intro i k1;have M:=bY (i:=i) o_
 by_cases hi:i<n
 ·have E:i<c+1:=by omega
  have aF:i+1<c+1:=o_
  have an:(ch (c+1) (dJ 0 i (ae wB R) (ae wB (a% b))))[i]?=some (.p (.int .u64 (ae wB R i))):=by
   have:=yY (m:=c+1) (j:=0) (i:=i) (g:=ae wB R) (f:=ae wB (a% b)) o_
   rwa [l4]at this
  have al:=uM (ae wB R i) s o_;have bm:i<c:=o_
  by_cases ao:0<s
  ·obtain⟨t,bw⟩:∃t,t=64-s:=⟨_,rfl⟩
   have a0:dp.wrap (64-(s:Int))=(t:Int):=by rw[aO _ o_ o_];omega
   have a1:=xB (ae wB R (i+1)) t o_;have aI:=zK hs;rw[<-bw]at aI;have a8:0<2^t:=kc (by decide);have bs:ae wB R i/2^s<2^t:=by rw[j4 C,j3,aI];exact ct bh _ _
   have aS:ae wB R (i+1)*2^t% wB=ae wB R (i+1)% 2^s*2^t:=by rw[<-aI,op]
   have br:ae wB R i/2^s|||(ae wB R (i+1)*2^t% wB)=ae wB (a% b) i:=by
    have r:=aLR C a8 R i;rw[aI,G,Nat.mul_div_cancel _ C,<-G]at r;rw[pd,aS,D7 bs,<-aS,r,lt]
   have S:=FL (ae wB R i/2^s) (ae wB R (i+1)*2^t% wB) (kd (l2 _ _) (ct bh _ _)) (kk _ (by decide));rw[br]at S;generalize ae wB R i/2^s=r1 at*;generalize ae wB R (i+1)*2^t% wB=r2 at*;have aX:dl.wrap ((r1% 2^dl.bits|||((r2:Int)% 2^dl.bits).toNat:Nat):Int)=(ae wB (a% b) i:Nat):=by
    rw[W7];exact S
   have P:=pJ (n:=c+1) (i:=i) (v:=r1) (f:=dJ 0 i (ae wB R) (ae wB (a% b))) (g:=fun k=>if k=i then r1 else dJ 0 i (ae wB R) (ae wB (a% b)) k) (if_pos rfl) (fun k hk=>if_neg hk);have T:=mW (n:=c+1) (fun k=>if k=i then r1 else dJ 0 i (ae wB R) (ae wB (a% b)) k) E;have am:=mW (n:=c+1) (fun k=>if k=i then r1 else dJ 0 i (ae wB R) (ae wB (a% b)) k) aF;rw[if_pos rfl]at T;rw[if_neg o_,dJ,if_neg o_]at am;have bA:=pJ (n:=c+1) (i:=i) (v:=ae wB (a% b) i) (f:=fun k=>if k=i then r1 else dJ 0 i (ae wB R) (ae wB (a% b)) k) (g:=dJ 0 (i+1) (ae wB R) (ae wB (a% b))) (by rw[dJ,if_pos o_,oe]) (fun k hk=>by
    rw[if_neg hk,dJ,dJ]
    by_cases h:k<i
    ·rw[if_pos o_,if_pos o_]
    ·rw[if_neg o_,if_neg o_])
   generalize (fun k=>if k=i then r1 else dJ 0 i (ae wB R) (ae wB (a% b)) k)=bJ at*;simp[hi,E,an,al,ao,M,P,ad,aL,bG];simp[E,aF,bm,a0,M,T,am,ad,aL,bG];simp[a1,S,aX,E,M,bA,T,ad,aL,bG];refine⟨o_,⟨by rfl,by rfl,by rfl,by rfl,by rfl⟩,?_⟩;exact rd (i+1) (show i+1<=n by omega)
  ·have aV:s=0:=by omega
   have a7:ae wB R i=ae wB (a% b) i:=by rw[G,aV,lb,na]
   have P:=yX (m:=c+1) (j:=0) (i:=i) (g:=ae wB R) (f:=ae wB (a% b)) (v:=ae wB R i) a7.symm;rw[l4]at P;have aZ:(ae wB R i:Int).fdiv (2^(min s dl.bits))=(ae wB R i:Nat):=by rw[al,aV,lb,l3]
   simp[hi,E,an,ao,M,P,aZ,ad,aL,bG];exact rd (i+1) (show i+1<=n by omega)
 obtain rfl:i=n:=o_
 obtain⟨bQ,aH,bp,aw⟩:=DO (m:=m+1) (N:=a/b) (by rw[aP];exact a5) o_;obtain⟨O,aJ,bq,a9⟩:∃O:List Nat,O.length=c+1/\ch (c+1) (dJ 0 i (ae wB R) (ae wB (a% b)))=O.map (AV.p∘fun x:Nat=>PV.int .u64 x)/\aA prog 290 [.seq (eW (O.take i))] (.seq (aW.map fun x:Nat=>.int .u64 x)):=by
  refine⟨(hC (c+1)).map (dJ 0 i (ae wB R) (ae wB (a% b))),s_,Df _ _,?_⟩;have e:((hC (c+1)).map (dJ 0 i (ae wB R) (ae wB (a% b)))).take i=(hC i).map (ae wB (a% b)):=by
   exact NX o_ fun k hk=>by rw[dJ,if_pos o_,oe]
  rw[e];have r:=tV ((hC i).map (ae wB (a% b))) (by simp;omega);rw[bx]at r;exact r
 simp only[eN,bz]at aw;simp[bp,bq];refine ep aw (by simp[aH];exact⟨rfl,rfl⟩) (by simp;exact⟨rfl,rfl⟩) ?_ (h1:=by simp[eW,hE,aH]);simp[aJ];refine⟨o_,?_⟩;have bl:i<=c+1:=o_
 refine ep a9 (by simp[aJ,bl];exact⟨rfl,rfl⟩) (by simp;exact⟨rfl,rfl⟩) ?_ (h1:=by simp[eW,h6]);simp;rfl
def cj(k:Nat)(q:Rat):Prop:=q.num.natAbs<2^k/\q.den<2^k
theorem cj.mono{k l:Nat}{q:Rat}(h:cj k q)(hl:k<=l):cj l q:=
 ⟨j7 h.1 (j8 o_ hl),j7 h.2 (j8 o_ hl)⟩
theorem mb{n:Int}{d:Nat}(h:d≠0):(pm n d).num=n/(m4 n.natAbs d:Nat)/\(pm n d).den=d/m4 n.natAbs d:=by
 have:pm n d=Rat.normalize n d h:=by
  rw[pp];rfl
 rw[this,Rat.normalize_eq h];exact⟨rfl,rfl⟩
theorem Db{n:Int}{d k:Nat}(h:d≠0)(a:n.natAbs<2^k)(b:d<2^k):cj k (pm n d):=by
 obtain⟨e1,e2⟩:=mb (n:=n) h;refine⟨?_,?_⟩
 ·rw[e1];refine kd ?_ a;rw[Int.natAbs_ediv_of_dvd (hd.2 (o1 _ _))];exact l2 _ _
 ·rw[e2];exact kd (l2 _ _) b
theorem N5{a b:Nat}{x y:Rat}(h:cj a x)(c:cj b y):cj (a+b+1) (x+y):=by
 have e:x+y=pm (x.num*y.den+y.num*x.den) ((x.den*y.den:Nat):Int):=by rw[pu];rfl
 rw[e];have e1:2^(a+b+1)=2^a*2^b+2^a*2^b:=by rw[j6,kw];omega
 refine Db (o2 x.den_nz y.den_nz) ?_ ?_
 ·rw[e1];refine kd (ho _ _) ?_;rw[ge,ge,gg,gg];have f:=ll h.1 c.2;have d:=ll c.1 h.2;rw[j3 (2^b)]at d;omega
 ·have:=ll h.2 c.2;rw[e1];omega
theorem CH{a:Nat}{x:Rat}(h:cj a x):cj a (-x):=by
 refine⟨by rw[pw,g8];exact h.1,by rw[p0];exact h.2⟩
theorem yw{a b:Nat}{x y:Rat}(h:cj a x)(c:cj b y):cj (a+b+1) (x-y):=by
 rw[ps];exact N5 h (CH c)
theorem lQ{a b:Nat}{x y:Rat}(h:cj a x)(c:cj b y):cj (a+b) (x*y):=by
 have e:x*y=pm (x.num*y.num) ((x.den*y.den:Nat):Int):=by
  rw[p1,pp];rfl
 rw[e];refine Db (o2 x.den_nz y.den_nz) ?_ ?_
 ·rw[ge,kw];exact ll h.1 c.1
 ·rw[kw];exact ll h.2 c.2
theorem Yk{x:Rat}(h:x≠0):(x⁻¹).num=x.num.sign*x.den/\(x⁻¹).den=x.num.natAbs:=by
 have a:x.num≠0:=fun e=>h (pr.1 e);have e:x⁻¹=pm (x.num.sign*x.den) (x.num.natAbs:Nat):=by
  rw[p2];rcases gm x.num 0 with h|h|h
  ·have e1:x.num.sign= -1:=Int.sign_eq_neg_one_of_neg h;have e2:((x.num.natAbs:Nat):Int)= -x.num:=by omega
   rw[e1,e2,show(-1*(x.den:Int))= -(x.den:Int)by omega,Rat.divInt_neg',Int.neg_neg]
  ·exact(a h).elim
  ·have e1:x.num.sign=1:=Int.sign_eq_one_of_pos h;have e2:((x.num.natAbs:Nat):Int)=x.num:=by omega
   rw[e1,e2,Int.one_mul]
 have b:m4 (x.num.sign*x.den).natAbs x.num.natAbs=1:=by
  rw[ge,g7 a,lw,gg,oo];exact x.reduced
 obtain⟨e1,e2⟩:=mb (n:=x.num.sign*x.den) (d:=x.num.natAbs) o_;rw[e,e1,e2,b];simp
theorem aKy{a:Nat}{x:Rat}(h:cj a x):cj a x⁻¹:=by
 by_cases b:x=0
 ·subst b;have:(0:Rat)⁻¹=0:=Rat.inv_zero;rw[this];exact h
 ·obtain⟨e1,e2⟩:=Yk b;have c:x.num≠0:=fun e=>b (pr.1 e);refine⟨?_,by rw[e2];exact h.1⟩;rw[e1,ge,g7 c,lw,gg];exact h.2
theorem Da{k:Nat}{n:Int}(h:n.natAbs<2^k)(hk:0<k):cj k (n:Rat):=by
 refine⟨h,?_⟩;show(1:Nat)<2^k;exact Nat.one_lt_two_pow o_
structure NI where
 v:Int
 m:Bool
def NI.sm(a:NI):Bool:=decide (-9223372036854775808<a.v/\a.v<9223372036854775808)||(decide (a.v= -9223372036854775808)&&a.m)
def NI.of(n:Int):NI:=⟨n,true⟩
def NI.mk'(n:Int):NI:=⟨n,false⟩
def NI.neg(a:NI):NI:=.mk' (-a.v)
def NI.abs(a:NI):NI:=if a.v<0 then .mk' (-a.v)else a
def NI.add(a b:NI):NI:=⟨a.v+b.v,a.sm&&b.sm⟩
def NI.sub(a b:NI):NI:=a.add b.neg
def NI.mul(a b:NI):NI:=.mk' (a.v*b.v)
def NI.div(a b:NI):NI:=⟨a.v/b.v,decide (a.v% b.v≠0)⟩
def NI.mod(a b:NI):NI:=.mk' (a.v% b.v)
structure NF where
 q:Rat
 m:Bool
def NF.num(a:NF):NI:=⟨a.q.num,a.m⟩
def NF.den(a:NF):NI:=.mk' a.q.den
def NF.whole(a:NI):NF:=⟨a.v,a.m⟩
def NF.int(n:Int):NF:=⟨n,true⟩
def NF.fL(a:NF):Bool:=decide (a.q.den=1)
def NF.add(a b:NF):NF:=⟨a.q+b.q,a.fL&&b.fL&&(a.num.sm&&b.num.sm)⟩
def NF.neg(a:NF):NF:=⟨-a.q,false⟩
def NF.sub(a b:NF):NF:=a.add b.neg
def NF.mul(a b:NF):NF:=⟨a.q*b.q,false⟩
def NF.inv(a:NF):NF:=⟨a.q⁻¹,false⟩
def NF.div(a b:NF):NF:=⟨a.q/b.q,false⟩
@[simp] theorem NI.rZ(a b:NI):(a.add b).v=a.v+b.v:=rfl
@[simp] theorem NI.my(a b:NI):(a.mul b).v=a.v*b.v:=rfl
@[simp] theorem NI.FD(a:NI):a.neg.v= -a.v:=rfl
@[simp] theorem NI.SS(a b:NI):(a.sub b).v=a.v-b.v:=by show a.v+-b.v=_;omega
@[simp] theorem NF.UY(a b:NF):(a.add b).q=a.q+b.q:=rfl
@[simp] theorem NF.aOZ(a:NF):a.neg.q= -a.q:=rfl
@[simp] theorem NF.oM(a b:NF):(a.sub b).q=a.q-b.q:=by show a.q+-b.q=_;rw[ps]
@[simp] theorem NF.aOY(a b:NF):(a.mul b).q=a.q*b.q:=rfl
@[simp] theorem NF.aOj(a:NF):a.inv.q=a.q⁻¹:=rfl
@[simp] theorem NF.aNo(a b:NF):(a.div b).q=a.q/b.q:=rfl
@[simp] theorem NF.aOi(n:Int):(NF.int n).q=n:=rfl
def ft(z:Int):PV:=.st 162 [.int .i64 z,.aK]
def lg(z:Int):PV:=.st 162 [.int .i64 (if z<0 then -1 else 1),eN z.natAbs]
def E7(p:PV)(z:Int):Prop:=(p=ft z/\-9223372036854775808<=z/\z<=9223372036854775807)\/(p=lg z/\9223372036854775808<=z.natAbs)
theorem Rb(a:NI):∃p,p=if a.sm=true then ft a.v else lg a.v:=⟨_,rfl⟩
noncomputable def eI(a:NI):PV:=ck (Rb a)
theorem jN(a:NI):eI a=if a.sm=true then ft a.v else lg a.v:=ce (Rb a)
theorem NI.Ac{a:NI}(h:-9223372036854775808<a.v)(b:a.v<9223372036854775808):a.sm=true:=by
 simp[NI.sm,h,b]
theorem NI.pO{a:NI}(h:a.sm=true):-9223372036854775808<=a.v/\a.v<=9223372036854775807:=by
 simp only[NI.sm,b3,decide_eq_true_eq,b2]at h;omega
theorem NI.zO{a:NI}(h:¬a.sm=true):9223372036854775808<=a.v.natAbs:=by
 simp only[NI.sm,b3,decide_eq_true_eq,b2,not_or,not_and]at h;omega
theorem NI.Sl(z:Int):(NI.mk' z).sm=decide (-9223372036854775808<z/\z<9223372036854775808):=by
 rw[NI.sm,NI.mk',b4,Bool.or_false]
theorem NI.ja(z:Int):(NI.mk' z).v=z:=rfl
theorem mC(a:NI):E7 (eI a) a.v:=by
 rw[jN]
 by_cases h:a.sm=true
 ·rw[if_pos h];have:=NI.pO h;exact .inl ⟨rfl,this⟩
 ·rw[if_neg h];exact .inr ⟨rfl,NI.zO h⟩
theorem oN{z:Int}(h:-9223372036854775808<z)(a:z<9223372036854775808):eI (.mk' z)=ft z:=by
 rw[jN,NI.Sl,if_pos (by simp[h,a]),NI.ja]
theorem Ra{z:Int}(h:9223372036854775808<=z.natAbs):eI (.mk' z)=lg z:=by
 rw[jN,NI.Sl,if_neg (by simp;omega),NI.ja]
theorem uj{z:Int}(h:-9223372036854775808<=z)(c:z<=9223372036854775807):eI (.of z)=ft z:=by
 rw[jN,if_pos]
 ·rfl
 ·by_cases b:z= -9223372036854775808
  ·subst b;rfl
  ·exact NI.Ac (a:=.of z) (by show _<z;omega) (by show z<_;omega)
@[simp] theorem bxN(u:c8)(h:¬u=117):(Gl.bx u:Option c8)=none:=by
 have a:nk u 117=false:=by
  cases a:nk u 117
  ·rfl
  ·exact(h (m7 a)).elim
 show(bif nk u 117 then some 118 else none)=none;rw[a];rfl
@[simp] theorem aNf:(Gl.bx 117:Option c8)=some 118:=(rfl)
theorem lV:ar wB 0=[]:=by simp[ar,nD]
theorem tU{n:Nat}(a:0<n)(h:n<wB):ar wB n=[n]:=by
 have h1:=jZ bh (m:=1) (n:=n) (by rw[l5];exact h);rw[<-h1,row,i8,hG,js,ae,lb,l3,j5 h];have:=vz [] n o_
 rwa [iz]at this
theorem sn(n:Int):aA prog 178 [.int .i64 n] (ft n):=by
 refine aM nf (i_ func178) mix (by simp[f178]) ?_;simp[f178,ft]
theorem Ep(n:Int)(h:-9223372036854775808<=n)(b:n<=9223372036854775807):aA prog 248 [.int .i64 n] (.int .u64 (n.natAbs:Nat)):=by
 refine aM nf (i_ func248) mix (by simp[f248]) ?_
 by_cases a:n<0
 ·have e:dl.wrap (dp.wrap (-n))=(n.natAbs:Nat):=by
   by_cases hm:n= -9223372036854775808
   ·subst hm;rfl
   ·rw[aO _ o_ o_,fI _ o_ (by simp only[wB];omega)];omega
  simp[f248,a,e]
 ·have e:dl.wrap n=(n.natAbs:Nat):=by rw[fI _ o_ (by simp only[wB];omega)];omega
  simp[f248,a,e]
theorem ot(p:PV)(z:Int)(h:E7 p z):aA prog 240 [p] (.aE [.bool (decide (z<0)),eN z.natAbs]):=by
 refine aM nf (i_ func240) mix (by simp[f240]) ?_;rcases h with⟨rfl,b,d⟩|⟨rfl,b⟩
 ·have hs:=Ep z b d
  by_cases a:z=0
  ·subst a;simp[f240,ft,eN,lV,dF,cZ]
  ·simp[f240,ft,a,dF,cZ];refine e1 hs ?_;simp[eN,tU (n:=z.natAbs) o_ (by simp only[wB];omega)]
   done
 ·have e:ar wB z.natAbs≠[]:=fun h=>by
   have:=cq bh z.natAbs;rw[h,hO,lb]at this;omega
  simp only[lg,eN];obtain⟨c,cs,hc⟩:=hK e;rw[hc];have f:decide ((if z<0 then(-1:Int)else 1)<0)=decide (z<0):=by split<;>simp[*]
  generalize (if z<0 then(-1:Int)else 1)=g at*;simp[f240,dF,cZ,f]
theorem wM(neg:Bool)(n:Nat)(k:(ar wB n).length<=1048576):aA prog 241 [.bool neg,eN n] (eI (.mk' (if neg then -(n:Int)else n))):=by
 by_cases i:n=0
 ·subst i;rw[show(if neg=true then -((0:Nat):Int)else((0:Nat):Int))=0 by simp,oN (by decide) (by decide)];refine aM nf (i_ func241) mix (by simp[f241]) ?_;simp[f241,ft,eN,lV,dF,cZ]
 by_cases q:n<=9223372036854775807
 ·have d:=tU (n:=n) o_ (by simp only[wB];omega);have hI:(n:Int)<=9223372036854775807:=by omega
  have f:dp.wrap (n:Int)=n:=aO _ o_ o_;have g:dp.wrap (-(n:Int))= -n:=aO _ o_ o_;cases neg
  ·rw[if_neg (by decide),oN o_ o_];refine aM nf (i_ func241) mix (by simp[f241]) ?_;simp[f241,ft,eN,d,hI,f,g,dF,cZ]
  ·rw[if_pos rfl,oN o_ o_];refine aM nf (i_ func241) mix (by simp[f241]) ?_;simp[f241,ft,eN,d,hI,f,g,dF,cZ]
 ·have l:ar wB n≠[]:=fun h=>by
   have:=cq bh n;rw[h,hO,lb]at this;omega
  have e:(ar wB n).length=1->(ar wB n)[0]?=some n:=fun h=>by
   have a:=cq bh n;rw[h,l5]at a;rw[tU o_ a];rfl
  have hI:¬(n:Int)<=9223372036854775807:=o_
  have b:(if neg then -(n:Int)else n).natAbs=n:=by cases neg<;>simp
  have m:(if(if neg then -(n:Int)else n)<0 then(-1:Int)else 1)=if neg then -1 else 1:=by
   cases neg
   ·simp only[Bool.false_eq_true,if_false];rw[if_neg o_]
   ·simp only[if_true];rw[if_pos o_]
  rw[Ra (by rw[b];omega)];refine aM nf (i_ func241) mix (by simp[f241]) ?_;rw[lg,b,m];simp only[eN];obtain⟨c,cs,hc⟩:=hK l;rw[hc]at e⊢;rw[hc]at k;cases cs with
  |nil=>
   have j:c=n:=by simpa using e rfl
   subst j;cases neg<;>simp[f241,hI,dF,cZ]
  |cons c2 cs=>
   have o:¬((cs.length:Int)+1+1=1):=o_
   have p:¬((cs.length:Int)+1+1=0):=o_
   cases neg<;>simp[f241,o,p,dF,cZ]
def okW(z:Int):Prop:=(ar wB z.natAbs).length<=900000
theorem aJZ{p:PV}{z:Int}(h:E7 p z):∃a b,p=.st 162 [a,b]:=by
 rcases h with⟨rfl,_⟩|⟨rfl,_⟩
 ·exact⟨_,_,rfl⟩
 ·exact⟨_,_,rfl⟩
theorem wC(a:NI):∃x y,eI a=.st 162 [x,y]:=aJZ (mC a)
theorem ug(a:NI)(l:okW a.v):aA prog 237 [eI a] (eI a.neg):=by
 have h:=mC a;have d:=ot (eI a) a.v h;have b:=wM (!decide (a.v<0)) a.v.natAbs (by rw[okW]at l;omega);have k:(if(!decide (a.v<0))=true then -((a.v.natAbs:Nat):Int)else a.v.natAbs)= -a.v:=by
  by_cases e:a.v<0
  ·simp[e];omega
  ·simp[e];omega
 rw[k]at b;rw[show a.neg=.mk' (-a.v)from rfl];generalize a.v=z at*;generalize n:eI a=p at*;obtain⟨o,q,g⟩:=wC (.mk' (-z));rcases h with⟨rfl,i,m⟩|⟨rfl,i⟩
 ·by_cases f:z= -9223372036854775808
  ·rw[g]at b⊢;refine aM nf (i_ func237) mix (by simp[f237]) ?_;subst f;simp only[ft]at d⊢;simp[f237,dF,cZ];refine c1 d ?_;simp[eN]at b⊢;refine c2 b ?_;simp[ad,aL,bG]
  ·rw[oN o_ o_];have w:dp.wrap (-z)= -z:=aO _ o_ o_;refine aM nf (i_ func237) mix (by simp[f237]) ?_;simp[f237,ft,f,w,dF,cZ]
 ·rw[g]at b⊢;refine aM nf (i_ func237) mix (by simp[f237]) ?_;have j:ar wB z.natAbs≠[]:=fun h=>by
   have:=cq bh z.natAbs;rw[h,hO,lb]at this;omega
  simp only[lg,eN]at d b⊢;obtain⟨c,cs,hc⟩:=hK j;rw[hc]at d b⊢;generalize (if z<0 then(-1:Int)else 1)=r at*;simp[f237,dF,cZ];refine c1 d ?_;simp at b⊢;refine c2 b ?_;simp[ad,aL,bG]
theorem tZ(a:NI):aA prog 205 [eI a] (.int .i64 (if a.v<0 then -1 else if a.v=0 then 0 else 1)):=by
 have h:=mC a;generalize a.v=z at*;generalize eI a=p at*;refine aM nf (i_ func205) mix (by simp[f205]) ?_;rcases h with⟨rfl,b,c⟩|⟨rfl,b⟩
 ·simp[f205,ft];rcases gm z 0 with h|h|h
  ·have e:z<1:=by omega
   simp[h,e];omega
  ·subst h;simp
  ·have e1:¬z<0:=by omega
   have e2:¬z=0:=o_
   have e3:¬z<1:=o_
   simp[e1,e2,e3]
 ·simp[f205,lg,eN]
  by_cases h:z<0
  ·simp[h]
  ·have e2:¬z=0:=by omega
   simp[h,e2]
theorem XF{z:Int}(h:-18446744073709551616<=z)(a:z<=18446744073709551614):dp.wrap z=if z< -9223372036854775808 then z+18446744073709551616 else if 9223372036854775807<z then z-18446744073709551616 else z:=by
 rw[dq]
 split
 ·omega
 ·split<;>omega
theorem oi{z:Int}(h:okW z):(ar wB z.natAbs).length<=900000:=h
theorem Wa{a b L:Nat}(c:(ar wB a).length<=L)(d:(ar wB b).length<=L):(ar wB (a+b)).length<=L+1:=by
 refine dO bh _ _ ?_;have e:=j7 (cq bh a) (j8 (show 0<wB by decide) c);have f:=j7 (cq bh b) (j8 (show 0<wB by decide) d);have g:2*wB^L<=wB^(L+1):=by rw[j6,j3];exact km _ bh
 omega
theorem UX{a b:Int}(i:okW a)(j:okW b):
 ((decide (a<0)=decide (b<0)/\aA prog 241 [.bool (decide (a<0)),eN (a.natAbs+b.natAbs)] (eI (.mk' (a+b))))\/
  (decide (a<0)≠decide (b<0)/\b.natAbs<=a.natAbs/\aA prog 241 [.bool (decide (a<0)),eN (a.natAbs-b.natAbs)] (eI (.mk' (a+b))))\/
  (decide (a<0)≠decide (b<0)/\a.natAbs<b.natAbs/\aA prog 241 [.bool (decide (b<0)),eN (b.natAbs-a.natAbs)] (eI (.mk' (a+b))))):=by
 have hl:=Wa (a:=a.natAbs) (b:=b.natAbs) i j;have l:∀n,n<=a.natAbs+b.natAbs->(ar wB n).length<=1048576:=fun n h=>by
  have:=dO bh _ _ (kd h (cq bh (a.natAbs+b.natAbs)));omega
 have f:∀(neg:Bool)(n:Nat),n<=a.natAbs+b.natAbs->(if neg then -(n:Int)else n)=a+b->aA prog 241 [.bool neg,eN n] (eI (.mk' (a+b))):=fun neg n h e=>by
  have g:=wM neg n (l n h);rw[e]at g;exact g
 by_cases d:decide (a<0)=decide (b<0)
 ·have c:=f (decide (a<0)) (a.natAbs+b.natAbs) (la _) (by
   by_cases h:a<0
   ·have:b<0:=by simpa[h]using d
    simp[h];omega
   ·have:¬b<0:=by simpa[h]using d
    simp[h];omega)
  exact .inl ⟨d,c⟩
 ·by_cases k:b.natAbs<=a.natAbs
  ·have c:=f (decide (a<0)) (a.natAbs-b.natAbs) o_ (by
    by_cases h:a<0
    ·have:¬b<0:=by simpa[h]using d
     simp[h];omega
    ·have:b<0:=by simpa[h]using d
     simp[h];omega)
   exact .inr (.inl ⟨d,k,c⟩)
  ·have c:=f (decide (b<0)) (b.natAbs-a.natAbs) o_ (by
    by_cases h:b<0
    ·have:¬a<0:=fun c=>d (by simp[h,c]);simp[h];omega
    ·have:a<0:=by
      by_cases c:a<0
      ·exact c
      ·exact(d (by simp[h,c])).elim
     simp[h];omega)
   exact .inr (.inr ⟨d,o_,c⟩)
theorem Eh(a:NI):(eI a=ft a.v/\a.sm=true/\-9223372036854775808<=a.v/\a.v<=9223372036854775807)\/(a.sm=false/\∃d c cs,eI a=.st 162 [.int .i64 d,.seq (c::cs)]):=by
 by_cases h:a.sm=true
 ·left;exact⟨by rw[jN,if_pos h],h,NI.pO h⟩
 ·right;refine⟨by simpa using h,?_⟩;have e:=NI.zO h;have b:ar wB a.v.natAbs≠[]:=fun h=>by
   have:=cq bh a.v.natAbs;rw[h,hO,lb]at this;omega
  obtain⟨c,cs,hc⟩:=hK b;rw[jN,if_neg h,lg,eN,hc];exact⟨_,_,_,rfl⟩
theorem xb(a b:NI)(B:okW a.v)(D:okW b.v):aA prog 181 [eI a,eI b] (eI (a.add b)):=by
 have o:=ot (eI a) a.v (mC a);have q:=ot (eI b) b.v (mC b);have U:=oi B;have V:=oi D;have t:=Jy a.v.natAbs b.v.natAbs o_ o_;have C:=WJ a.v.natAbs b.v.natAbs o_ o_;have y:=UX B D;have uP:=Eh a;have G:=Eh b
 by_cases u:(a.sm=true/\b.sm=true)/\-9223372036854775808<=a.v+b.v/\a.v+b.v<=9223372036854775807
 ·obtain⟨⟨g,n⟩,d,l⟩:=u;rw[show eI a=ft a.v by rw[jN,if_pos g],show eI b=ft b.v by rw[jN,if_pos n],show a.add b=.of (a.v+b.v)by rw[NI.add,g,n];rfl,uj d l];generalize a.v=a at*;generalize b.v=b at*;refine aM nf (i_ func181) mix (by simp[f181]) ?_;have w:=aO (a+b) d l;have e:(decide (a<a+b)==decide (0<b))=true:=by
   have:a<a+b↔0<b:=o_
   simp[this]
  simp[f181,ft,w,dF,cZ,e]
 have F:eI (a.add b)=eI (.mk' (a.v+b.v)):=by
  by_cases h:-9223372036854775808<a.v+b.v/\a.v+b.v<9223372036854775808
  ·rw[oN h.1 h.2,jN,if_pos (NI.Ac h.1 h.2)];rfl
  ·by_cases l:(a.sm&&b.sm)=true
   ·have H:a.sm=true/\b.sm=true:=by simpa using l
    have I:¬(-9223372036854775808<=a.v+b.v/\a.v+b.v<=9223372036854775807):=fun h=>u ⟨H,h⟩;rw[Ra o_,jN,if_neg,NI.rZ];intro g;have:=NI.pO g;rw[NI.rZ]at this;omega
   ·rw[NI.add,NI.mk'];rw[show(a.sm&&b.sm)=false by simpa using l]
 rw[F];clear F;obtain⟨M,N,J⟩:=wC a;obtain⟨O,P,K⟩:=wC b;obtain⟨Y,Z,L⟩:=wC (.mk' (a.v+b.v));rw[L]at y⊢;rw[J]at o uP⊢;rw[K]at q G⊢;generalize a.v=f at*;generalize b.v=bv at*;refine aM nf (i_ func181) mix (by simp[f181]) ?_;simp[f181,-bu];rw[bu];simp[-bu];refine join (fun s=>aN s.env 2=.ptr 0 []/\aN s.env 3=.ptr 1 []/\aN s.env 4=.ptr 2 []/\s.heap=[.box false (.p (.st 162 [M,N])),.box false (.p (.st 162 [O,P])),.box false (.p (.st 162 [.int .i64 0,.aK]))]) ?_ ?_
 ·clear y t C o q;rcases uP with⟨d,m,l,g⟩|⟨m,Q,c,cs,d⟩
  ·simp only[ft,PV.st.injEq,j2,and_true,true_and]at d;obtain⟨rfl,rfl⟩:=d;rcases G with⟨n,A,S,T⟩|⟨A,Q,c,cs,n⟩
   ·simp only[ft,PV.st.injEq,j2,and_true,true_and]at n;obtain⟨rfl,rfl⟩:=n;have I:¬(-9223372036854775808<=f+bv/\f+bv<=9223372036854775807):=fun h=>u ⟨⟨m,A⟩,h⟩;have w:=XF (z:=f+bv) o_ o_;have e:¬(f<dp.wrap (f+bv)↔0<bv):=by
     rw[w]
     by_cases W:0<bv
     ·rw[if_neg o_,if_pos o_];omega
     ·rw[if_pos o_];omega
    simp[dF,cZ,e]
   ·simp only[PV.st.injEq,j2,and_true,true_and]at n;obtain⟨rfl,rfl⟩:=n;simp[dF,cZ]
  ·simp only[PV.st.injEq,j2,and_true,true_and]at d;obtain⟨rfl,rfl⟩:=d;simp[dF,cZ]
 rintro⟨R,X⟩ ⟨i,j,k,E⟩;dsimp only at i j k E;subst E;simp[i,j,k];refine c1 o ?_;simp[i,j,k,ad,aL,bG];refine c1 q ?_;rcases y with⟨d,g⟩|⟨d,l,g⟩|⟨d,l,g⟩
 ·have m:(f<0↔bv<0):=by simpa using d
  rw[d]at g;simp[i,j,k,m,ad,aL,bG];refine c2 C ?_;simp;refine c2 g ?_;simp[i,j,k,ad,aL,bG]
 ·have m:¬(f<0↔bv<0):=by simpa using d
  have r:0<=fY f.natAbs bv.natAbs:=by
   have h:=mt pL.1 (show¬f.natAbs<bv.natAbs by omega);omega
  have x:=Kv f.natAbs bv.natAbs l o_;simp[i,j,k,m,ad,aL,bG];refine c2 t ?_;simp[r];refine c2 x ?_;simp[i,j,k,ad,aL,bG];refine c2 g ?_;simp[i,j,k,ad,aL,bG]
 ·have m:¬(f<0↔bv<0):=by simpa using d
  have r:¬0<=fY f.natAbs bv.natAbs:=by have:=pL.2 l;omega
  have x:=Kv bv.natAbs f.natAbs o_ o_;simp[i,j,k,m,ad,aL,bG];refine c2 t ?_;simp[r];refine c2 x ?_;simp[i,j,k,ad,aL,bG];refine c2 g ?_;simp[i,j,k,ad,aL,bG]
@[simp] theorem aPh(a:NI):aL (eI a)=.agg 162:=by
 obtain⟨x,y,h⟩:=wC a;rw[h];rfl
theorem SO(a:NI):∃z:Int,z=if a.sm=true then a.v else if a.v<0 then -1 else 1:=⟨_,rfl⟩
noncomputable def sI(a:NI):Int:=ck (SO a)
theorem zP(a:NI):sI a=if a.sm=true then a.v else if a.v<0 then -1 else 1:=ce (SO a)
theorem S4(a:NI):∃p:PV,p=if a.sm=true then .aK else eN a.v.natAbs:=⟨_,rfl⟩
noncomputable def wI(a:NI):PV:=ck (S4 a)
theorem D6(a:NI):wI a=if a.sm=true then .aK else eN a.v.natAbs:=ce (S4 a)
@[simp] theorem axV(a:NI):cH (eI a)=[.int .i64 (sI a),wI a]:=by
 by_cases h:a.sm=true
 ·rw[jN,zP,D6,if_pos h,if_pos h,if_pos h];rfl
 ·rw[jN,zP,D6,if_neg h,if_neg h,if_neg h];rfl
theorem SP(a:NI):sI a<0↔a.v<0:=by
 rw[zP];split
 ·exact Iff.rfl
 ·split<;>omega
theorem mz{a:NI}(h:a.sm=true):wI a=.aK:=by rw[D6,if_pos h]
theorem oJ{a:NI}(h:a.sm=false):∃c cs,wI a=.seq (c::cs):=by
 rcases Eh a with⟨_,b,_⟩|⟨_,e,c,cs,d⟩
 ·rw[h]at b;exact absurd b (by decide)
 ·refine⟨c,cs,?_⟩;have:=axV a;rw[d]at this;simp[cH]at this;exact this.2.symm
theorem nr{a:NI}(h:a.sm=true):sI a=a.v:=by rw[zP,if_pos h]
theorem EH(a b:NI)(d:okW a.v)(c:okW b.v):aA prog 250 [eI a,eI b] (eI (a.sub b)):=by
 refine aM nf (i_ func250) mix (by simp[f250]) ?_;have e:okW b.neg.v:=by simpa[okW]using c
 simp[f250];refine e1 (ug b c) ?_;simp;refine e2 (xb a b.neg d e) ?_;simp[ad];exact Wk.refl _
theorem QL(a:NI)(c:okW a.v):aA prog 292 [eI a] (eI a.abs):=by
 refine aM nf (i_ func292) mix (by simp[f292]) ?_
 by_cases h:a.v<0
 ·have b:=(SP a).2 h;have e:a.abs=a.neg:=by rw[NI.abs,if_pos h];rfl
  simp[f292,ad,b];refine c1 (ug a c) ?_;simp[ad,e]
 ·have b:=mt (SP a).1 h;have e:a.abs=a:=by rw[NI.abs,if_neg h]
  simp[f292,ad,b,e]
def kH(x y:Int):Int:=if x<y then -1 else if x=y then 0 else 1
theorem QM(a b:NI)(m:okW a.v)(n:okW b.v):aA prog 187 [eI a,eI b] (.int .i64 (kH a.v b.v)):=by
 refine aM nf (i_ func187) mix (by simp[f187]) ?_;have p:(a.sm=true/\b.sm=true)\/¬(a.sm=true/\b.sm=true):=cv _;rcases p with⟨d,l⟩|d
 ·have f:=mz d;have g:=mz l;have j:=nr d;have k:=nr l;rcases gm a.v b.v with h|h|h
  ·have e:kH a.v b.v= -1:=by rw[kH,if_pos h]
   simp[f187,ad,f,g,j,k,h,e,dF,cZ]
  ·have e:kH b.v b.v=0:=by rw[kH,if_neg o_,if_pos rfl]
   have d:¬a.v<b.v:=o_
   simp[f187,ad,f,g,j,k,h,e,dF,cZ]
  ·have e:kH a.v b.v=1:=by rw[kH,if_neg o_,if_neg o_]
   have d:¬a.v<b.v:=o_
   simp[f187,ad,f,g,j,k,h,d,e,dF,cZ]
 ·have e:(if(a.sub b).v<0 then(-1:Int)else if(a.sub b).v=0 then 0 else 1)=kH a.v b.v:=by
   rw[NI.SS,kH];rcases gm a.v b.v with h|h|h
   ·rw[if_pos o_,if_pos h]
   ·rw[if_neg o_,if_pos o_,if_neg o_,if_pos h]
   ·rw[if_neg o_,if_neg o_,if_neg o_,if_neg o_]
  have i:=tZ (a.sub b);rw[e]at i;rcases hs:a.sm with _|_
  ·obtain⟨c,cs,f⟩:=oJ hs;simp[f187,ad,f,dF,cZ];refine c2 (EH a b m n) ?_;simp;refine c1 i ?_;simp
  ·have f:=mz hs;obtain⟨c,cs,g⟩:=oJ (a:=b) (by cases o:b.sm with|false=>rfl|true=>exact(d ⟨hs,o⟩).elim);simp[f187,ad,f,g,dF,cZ];refine c2 (EH a b m n) ?_;simp;refine c1 i ?_;simp
theorem V9{a b L M:Nat}(e:(ar wB a).length<=L)(f:(ar wB b).length<=M):(ar wB (a*b)).length<=L+M:=by
 refine dO bh _ _ ?_;have c:=j7 (cq bh a) (j8 (show 0<wB by decide) e);have d:=j7 (cq bh b) (j8 (show 0<wB by decide) f);rw[kw];exact ll c d
theorem Al(a b:NI)(I:(ar wB a.v.natAbs).length+(ar wB b.v.natAbs).length<=900000):aA prog 183 [eI a,eI b] (eI (a.mul b)):=by
 have F:=ot (eI a) a.v (mC a);have hq:=ot (eI b) b.v (mC b);have E:=WH a.v.natAbs b.v.natAbs o_;have J:=V9 (la (ar wB a.v.natAbs).length) (la (ar wB b.v.natAbs).length);have z:=wM (decide (a.v<0)!=decide (b.v<0)) (a.v.natAbs*b.v.natAbs) o_;have e:(if(decide (a.v<0)!=decide (b.v<0))=true then -((a.v.natAbs*b.v.natAbs:Nat):Int)else(a.v.natAbs*b.v.natAbs:Nat))=a.v*b.v:=by
  rw[<-ge];rcases gD a.v 0 with j|j
  ·rcases gD b.v 0 with d|d
   ·have:=Int.mul_nonneg_of_nonpos_of_nonpos (g0 j) (g0 d);simp[j,d];omega
   ·have:=Int.mul_nonpos_of_nonpos_of_nonneg (g0 j) d;have o:¬b.v<0:=by omega
    simp[j,o];omega
  ·have o:¬a.v<0:=by omega
   rcases gD b.v 0 with d|d
   ·have:=Int.mul_nonpos_of_nonneg_of_nonpos j (g0 d);simp[o,d];omega
   ·have:=Int.mul_nonneg j d;have C:¬b.v<0:=by omega
    simp[o,C];omega
 rw[e]at z;rw[show a.mul b=.mk' (a.v*b.v)from rfl];refine aM nf (i_ func183) mix (by simp[f183]) ?_;simp[f183,-bu];rw[bu];simp[-bu];refine join (fun s=>aN s.env 2=.ptr 0 []/\aN s.env 3=.ptr 1 []/\aN s.env 4=.ptr 2 []/\s.heap=[.box false (.p (eI a)),.box false (.p (eI b)),.box false (.p (.st 162 [.int .i64 0,.aK]))]) ?_ ?_
 ·rcases hs:a.sm with _|_
  ·obtain⟨c,cs,i⟩:=oJ hs;simp[ad,i,dF,cZ]
  ·have i:=mz hs;rcases q:b.sm with _|_
   ·obtain⟨c,cs,k⟩:=oJ q;simp[ad,i,k,dF,cZ]
   ·have k:=mz q;have f:=nr hs;have g:=nr q;have r1:=NI.pO hs;have r2:=NI.pO q;have t:=Ep a.v r1.1 r1.2;have u:=Ep b.v r2.1 r2.2;have M:=zo a.v.natAbs b.v.natAbs o_ o_;obtain⟨H,x⟩:∃H,H=a.v.natAbs*b.v.natAbs/18446744073709551616:=⟨_,rfl⟩
    obtain⟨L,r⟩:∃L,L=a.v.natAbs*b.v.natAbs% 18446744073709551616:=⟨_,rfl⟩
    rw[<-x,<-r]at M;have D:a.v.natAbs*b.v.natAbs=H*18446744073709551616+L:=o_
    clear x r
    by_cases c1:H=0/\L<=9223372036854775807
    ·obtain⟨rfl,r⟩:=c1;have y:(L:Int)<=9223372036854775807:=by omega
     have w:dp.wrap (L:Int)=L:=aO _ o_ o_;have B:dp.wrap (-(L:Int))= -L:=aO _ o_ o_;rw[D]at e;simp only[m2,l4]at e;rw[oN (by rw[<-e];split<;>omega) (by rw[<-e];split<;>omega),ft]
     by_cases c2:a.v<0↔b.v<0
     ·rw[if_neg (by simp[c2])]at e;rw[<-e];simp[ad,i,k,f,g,dF,cZ];refine e1 t ?_;simp[f,g];refine e1 u ?_;simp;refine e2 M ?_;simp[y,c2,ad,i,k,f,g,w]
     ·rw[if_pos (by simp[c2])]at e;rw[<-e];simp[ad,i,k,f,g,dF,cZ];refine e1 t ?_;simp[f,g];refine e1 u ?_;simp;refine e2 M ?_;simp[y,c2,ad,i,k,f,g,w,B]
    ·simp[ad,i,k,f,g,dF,cZ];refine e1 t ?_;simp[f,g];refine e1 u ?_;simp;refine e2 M ?_
     by_cases c2:H=0
     ·have c3:¬(L:Int)<=9223372036854775807:=fun h=>c1 ⟨c2,o_⟩;simp[c2,c3]
     ·have c3:¬(H:Int)=0:=by omega
      simp[c2,c3]
 ·rintro⟨G,K⟩ ⟨l,m,n,A⟩;dsimp only at l m n A;subst A;simp[l,m,n];refine c1 F ?_;simp[l,m,n];refine c1 hq ?_;simp[l,m,n];refine c2 E ?_;simp;refine c2 z ?_;simp[l,m,n,ad]
  done
theorem nv{a b:NI}(h:a.v=b.v)(d:a.v= -9223372036854775808->a.m=b.m):eI a=eI b:=by
 by_cases c:a.v= -9223372036854775808
 ·have:=d c;cases a;cases b;dsimp only at h this;subst h this;rfl
 ·have e:a.sm=b.sm:=by
   simp only[NI.sm,h];rw[h]at c;simp[c]
  rw[jN,jN,e,h]
theorem ZP{a b:Int}(c:0<b):(a.tdiv b=a/b/\a.tmod b=a% b/\¬a.tmod b<0)\/(a.tdiv b-1=a/b/\a.tmod b+b=a% b/\a.tmod b<0/\a/b<0):=by
 have f:=Int.tmod_add_mul_tdiv a b;have g:=hg a c;have i:=hb a c
 by_cases h:a.tmod b<0
 ·right;have e:=(gi (a:=a) (r:=a.tmod b+b) (q:=a.tdiv b-1) c).2 ⟨by rw[hA];omega,o_,o_⟩;have j:a<0:=by
   rcases gD a 0 with d|d
   ·exact d
   ·have:=Int.tmod_nonneg b d;omega
  have d:a/b<0:=ha c o_;omega
 ·left;have e:=(gi (a:=a) (r:=a.tmod b) (q:=a.tdiv b) c).2 ⟨o_,o_,o_⟩;omega
theorem axA{a b:Int}(c:0<b):((if a<0 then -((a.natAbs% b.natAbs:Nat):Int)else(a.natAbs% b.natAbs:Nat))<0/\a/b=(if a<0 then -((a.natAbs/b.natAbs:Nat):Int)else(a.natAbs/b.natAbs:Nat))-1/\a% b=(if a<0 then -((a.natAbs% b.natAbs:Nat):Int)else(a.natAbs% b.natAbs:Nat))+b)\/
 (¬(if a<0 then -((a.natAbs% b.natAbs:Nat):Int)else(a.natAbs% b.natAbs:Nat))<0/\a/b=(if a<0 then -((a.natAbs/b.natAbs:Nat):Int)else(a.natAbs/b.natAbs:Nat))/\a% b=(if a<0 then -((a.natAbs% b.natAbs:Nat):Int)else(a.natAbs% b.natAbs:Nat))):=by
 have e:((b.natAbs:Nat):Int)=b:=o_
 have f:=lk a.natAbs b.natAbs;have g:=kk a.natAbs (show 0<b.natAbs by omega);have i:((a.natAbs% b.natAbs:Nat):Int)+b*(a.natAbs/b.natAbs:Nat)=(a.natAbs:Nat):=by
  rw[<-e,<-gj,<-hp,e,f]
 generalize a.natAbs% b.natAbs=r at*;generalize a.natAbs/b.natAbs=q at*
 by_cases h:a<0
 ·simp only[if_pos h]
  by_cases j:r=0
  ·right;have d:=(gi (a:=a) (r:=0) (q:=-(q:Int)) c).2 ⟨by rw[hB];omega,o_,o_⟩;omega
  ·left;have d:=(gi (a:=a) (r:=-(r:Int)+b) (q:=-(q:Int)-1) c).2 ⟨by rw[hA,hB];omega,o_,o_⟩;omega
 ·simp only[if_neg h];right;have d:=(gi (a:=a) (r:=(r:Int)) (q:=(q:Int)) c).2 ⟨o_,o_,o_⟩;omega
theorem Mx(a b:NI)(i:0<b.v)(M:okW a.v)(z:okW b.v):aA prog 293 [eI a,eI b] (.aE [eI (a.div b),eI (a.mod b)]):=by
 have V:=ot (eI a) a.v (mC a);have hq:=ot (eI b) b.v (mC b);have af:=oi M;have ag:=oi z;have O:=C6 a.v.natAbs b.v.natAbs o_ o_ o_;refine aM nf (i_ func293) mix (by simp[f293]) ?_;simp[f293,-bu];rw[bu];simp[-bu];refine join (fun s=>aN s.env 2=.ptr 0 []/\aN s.env 3=.ptr 1 []/\aN s.env 4=.ptr 2 []/\aN s.env 5=.ptr 3 []/\s.heap=[.box false (.p (eI a)),.box false (.p (eI b)),.box false (.p (.st 162 [.int .i64 0,.aK])),.box false (.p (.st 162 [.int .i64 0,.aK]))]) ?_ ?_
 ·rcases hs:a.sm with _|_
  ·obtain⟨c,cs,l⟩:=oJ hs;simp[ad,l,dF,cZ]
  ·have l:=mz hs;rcases n:b.sm with _|_
   ·obtain⟨c,cs,m⟩:=oJ n;simp[ad,l,m,dF,cZ]
   ·have m:=mz n;have u:=nr hs;have w:=nr n;have r1:=NI.pO hs;have r2:=NI.pO n
    by_cases t:a.v= -9223372036854775808
    ·simp[ad,l,m,u,w,t,dF,cZ]
    ·have r:¬b.v=0:=by omega
     have E:-9223372036854775808<a.v/b.v:=by
      have:=Int.le_ediv_of_mul_le (a:=-9223372036854775807) (b:=a.v) i o_;omega
     have F:a.v/b.v<9223372036854775808:=ha i o_;have G:=gy a.v i;have H:=g6 a.v r;have J:eI (a.div b)=ft (a.v/b.v):=by rw[jN,if_pos (NI.Ac E F)];rfl
     have f2:eI (a.mod b)=ft (a.v% b.v):=oN o_ o_;rw[J,f2];have aj:=hg a.v i;have ai:=hb a.v i;rcases ZP (a:=a.v) i with⟨d1,d2,d3⟩|⟨d1,d2,d3,d4⟩
     ·have q1:dp.wrap (a.v.tdiv b.v)=a.v/b.v:=by rw[d1];exact aO _ o_ o_
      simp[ad,l,m,u,w,t,r,dF,cZ,ft,d3,q1];exact d2.symm
     ·have q1:dp.wrap (dp.wrap (a.v.tdiv b.v)-1)=a.v/b.v:=by rw[aO (a.v.tdiv b.v) o_ o_,d1];exact aO _ o_ o_
      have Z:dp.wrap (a.v.tmod b.v+b.v)=a.v% b.v:=by rw[d2];exact aO _ o_ o_
      simp[ad,l,m,u,w,t,r,dF,cZ,ft,d3,q1,Z]
 ·rintro⟨aa,ah⟩ ⟨d,e,f,g,A⟩;dsimp only at d e f g A;subst A;have S:(ar wB (a.v.natAbs/b.v.natAbs)).length<=900000:=by
   have:=dO bh _ _ (kd (l2 a.v.natAbs b.v.natAbs) (cq bh a.v.natAbs));omega
  have T:(ar wB (a.v.natAbs% b.v.natAbs)).length<=900000:=by
   have:=dO bh _ _ (kd (pi a.v.natAbs b.v.natAbs) (cq bh a.v.natAbs));omega
  have C:=wM (decide (a.v<0)) (a.v.natAbs/b.v.natAbs) o_;have D:=wM (decide (a.v<0)) (a.v.natAbs% b.v.natAbs) o_;have P:=axA (a:=a.v) i;simp only[decide_eq_true_eq]at C D;have ak:=kk a.v.natAbs (show 0<b.v.natAbs by omega);generalize a.v.natAbs/b.v.natAbs=k at*;generalize a.v.natAbs% b.v.natAbs=j at*;have ae:-b.v<(if a.v<0 then -(j:Int)else(j:Int)):=by split<;>omega
  have L:a.v<0->(if a.v<0 then -(j:Int)else(j:Int))<=0:=fun h=>by rw[if_pos h];omega
  have X:okW (if a.v<0 then -(k:Int)else(k:Int)):=by rw[okW];split<;>simpa using S
  have Y:okW (if a.v<0 then -(j:Int)else(j:Int)):=by rw[okW];split<;>simpa using T
  have W:(if a.v<0 then -(k:Int)else(k:Int))= -9223372036854775808->a.v<0:=by split<;>omega
  generalize (if a.v<0 then -(k:Int)else(k:Int))=Q at*;generalize (if a.v<0 then -(j:Int)else(j:Int))=R at*;have y:=tZ (.mk' R);simp only[NI.ja]at y;have G:=gy a.v i;have H:=g6 a.v (show b.v≠0 by omega);simp[d,e,f,g];refine c1 V ?_;simp[d,e,f,g];refine c1 hq ?_;simp[d,e,f,g];refine c2 O ?_;simp;refine c2 C ?_;simp;refine c2 D ?_;simp[d,e,f,g,ad];refine c1 y ?_;rcases P with⟨d1,d2,d3⟩|⟨d1,d2,d3⟩
  ·have B:=EH (.mk' Q) (.of 1) X (by rw[okW];decide);have N:=xb (.mk' R) b Y z;rw[uj (by decide) (by decide)]at B;have o:eI (a.div b)=eI ((NI.mk' Q).sub (.of 1)):=by
    refine nv (by rw[NI.SS];exact d2) (fun h=>?_);have I:Q= -9223372036854775807:=by have:a.v/b.v= -9223372036854775808:=h;omega
    have U:¬a.v% b.v=0:=o_
    subst I;show decide (a.v% b.v≠0)=_;simp[U];rfl
   have q:eI (a.mod b)=eI ((NI.mk' R).add b):=nv (by rw[NI.rZ];exact d3) (fun h=>by have:a.v% b.v= -9223372036854775808:=h;omega);rw[o,q];simp[d,e,f,g,ad,d1];refine e1 (sn 1) ?_;simp[d,e,f,g,ad];refine e2 B ?_;simp[d,e,f,g,ad];refine e2 N ?_;simp[d,e,f,g,ad];exact⟨rfl,rfl⟩
  ·have o:eI (a.div b)=eI (.mk' Q):=by
    refine nv d2 (fun h=>?_);have ab:a.v/b.v= -9223372036854775808:=h;have ac:=L (W o_);have K:a.v% b.v=0:=o_
    show decide (a.v% b.v≠0)=false;simp[K]
   have q:eI (a.mod b)=eI (.mk' R):=nv d3 (fun h=>by have:a.v% b.v= -9223372036854775808:=h;omega);rw[o,q]
   by_cases x:R=0
   ·simp[d,e,f,g,ad,x]
   ·simp[d,e,f,g,ad,d1,x]
theorem re{a b:Int}(h:okW b)(c:a.natAbs<=b.natAbs):okW a:=by
 have:=dO bh _ _ (kd c (cq bh b.natAbs));have:=oi h;rw[okW];omega
theorem QQ(a b:NI)(e:0<b.v)(d:okW a.v)(f:okW b.v):aA prog 246 [eI a,eI b] (eI (a.div b)):=by
 have c:=tZ b;rw[if_neg o_,if_neg o_]at c;refine aM nf (i_ func246) mix (by simp[f246]) ?_;simp[f246];refine c1 c ?_;simp;refine c2 (Mx a b e d f) ?_;simp[ad]
 done
theorem NI.zt(a:NI):a.abs.v.natAbs=a.v.natAbs:=by
 rw[NI.abs];split
 ·rw[NI.ja,g8]
 ·rfl
theorem NI.QG(a:NI):0<=a.abs.v:=by
 rw[NI.abs];split
 ·rw[NI.ja];omega
 ·omega
def eQ(a b:Int):Int:=(m4 a.natAbs b.natAbs:Nat)
theorem QN(a b:NI)(j:okW a.v)(k:okW b.v):aA prog 245 [eI a,eI b] (eI (.mk' (eQ a.v b.v))):=by
 refine aM nf (i_ func245) mix (by simp[f245]) ?_;simp[f245];refine e1 (QL a j) ?_;simp;refine e1 (QL b k) ?_;simp[ad];refine⟨⟨rfl,rfl⟩,?_⟩;have n:eQ a.abs.v b.abs.v=eQ a.v b.v:=by rw[eQ,eQ,NI.zt,NI.zt]
 refine lp (α:=NI×NI) (fun x=>⟨[(4,.ptr 2 []),(3,.ptr 1 []),(2,.ptr 0 [])],[.box false (.p (eI x.1)),.box false (.p (eI x.2)),.box false (.p (.st 162 [.int .i64 0,.aK]))]⟩)
  (fun x=>0<=x.1.v/\0<=x.2.v/\okW x.1.v/\okW x.2.v/\eQ x.1.v x.2.v=eQ a.v b.v) (fun x=>x.2.v.toNat) (a.abs,b.abs) ⟨NI.QG a,NI.QG b,re j (oj (NI.zt a)),re k (oj (NI.zt b)),n⟩ ?_
 rintro⟨x,y⟩ ⟨l,g,i,c,f⟩;dsimp only at l g i c f;have d:=tZ y
 by_cases e:y.v=0
 ·rw[if_neg o_,if_pos e]at d;have hx:eI (.mk' (eQ a.v b.v))=eI x:=by
   refine nv ?_ (fun h=>?_)
   ·rw[NI.ja,<-f,e,eQ];simp;omega
   ·rw[NI.ja,eQ]at h;omega
  rw[hx];simp;refine c1 d ?_;simp[ad]
 ·rw[if_neg o_,if_neg e]at d;have q:=gy x.v (show 0<y.v by omega);have o:=g6 x.v e;have m:(x.v% y.v).natAbs=x.v.natAbs% y.v.natAbs:=by
   have e1:(x.v.natAbs:Int)=x.v:=o_
   have e2:(y.v.natAbs:Int)=y.v:=o_
   have e3:((x.v.natAbs% y.v.natAbs:Nat):Int)=x.v% y.v:=by rw[Int.natCast_emod,e1,e2]
   omega
  simp;refine c1 d ?_;simp[ad];refine c2 (Mx x y o_ i c) ?_;simp[ad];refine⟨rfl,?_⟩;refine rd (y,x.mod y) ⟨g,o,c,re c (by show(x.v% y.v).natAbs<=_;omega),?_⟩ (by show(x.v% y.v).toNat<y.v.toNat;omega);show eQ y.v (x.v% y.v)=_;rw[<-f,eQ,eQ,m,oo y.v.natAbs,<-Nat.gcd_rec,oo]
theorem aLf{o x k A:Nat}(hx:1<=x)(d:1<=o)(h:o*x^k=A)(hk:1<=k):o*x<=A/\(2<=k->x*x<=A):=by
 have a:x<=x^k:=by
  calc x=x^1:=(l5 x).symm
   _<=x^k:=j8 hx hk
 refine⟨by rw[<-h];exact km _ a,fun b=>?_⟩;have c:x*x<=x^k:=by
  calc x*x=x^2:=by rw[pb]
   _<=x^k:=j8 hx b
 rw[<-h];exact md c (ol _ d)
theorem afL(a:NI)(n A:Nat)(E:1<=a.v)(q:A=a.v.natAbs^n)(hl:(ar wB A).length<=400000)(F:(ar wB a.v.natAbs).length<=400000)(J:n<=1000000):aA prog 264 [eI a,.int .i64 n] (eI (.mk' A)):=by
 refine aM nf (i_ func264) mix (by simp[f264]) ?_;simp[f264];refine c1 (sn 1) ?_;rw[show ft 1=eI (.of 1)from(uj (by decide) (by decide)).symm];simp[ad];refine lp (α:=Nat×NI×NI) (fun s=>⟨[(1,.p (.int .i64 s.1)),(5,.ptr 2 []),(4,.ptr 1 []),(2,.ptr 0 [])],[.box false (.p (eI s.2.1)),.box false (.p (.st 162 [.int .i64 0,.aK])),.box false (.p (eI s.2.2))]⟩)
  (fun s=>s.1<=n/\1<=s.2.1.v/\1<=s.2.2.v/\(0<s.1->s.2.2.v.natAbs*s.2.1.v.natAbs^s.1=A)/\(s.1=0->s.2.2.v.natAbs=A)/\(ar wB s.2.1.v.natAbs).length<=400000) (fun s=>s.1) (n,a,.of 1) ⟨la _,E,(by decide:(1:Int)<=1),fun _=>by rw[q];show(1:Int).natAbs*_=_;simp,fun h=>by have h:n=0:=h;rw[q,h,lb];rfl,F⟩ ?_
 rintro⟨k,x,o⟩ ⟨C,c,i,b,l,m⟩;dsimp only at C c i b l m
 by_cases k0:k=0
 ·subst k0;have e:eI (.mk' A)=eI o:=by
   refine nv ?_ (fun h=>?_)
   ·rw[NI.ja,<-l rfl];omega
   ·rw[NI.ja]at h;omega
  rw[e];simp[ad]
 have b:=b o_;have r:=aLf (o:=o.v.natAbs) (x:=x.v.natAbs) o_ o_ b o_;have d:dp.wrap (k% 2^dp.bits&&&1% 2^dp.bits:Nat)=(k% 2:Nat):=by
  rw[show(2^dp.bits:Nat)=18446744073709551616 from rfl,j5 (show k<18446744073709551616 by omega),show 1% 18446744073709551616=2^1-1 from rfl,np];exact aO _ o_ o_
 have hs:(k:Int).fdiv (2^min 1 dp.bits)=(k/2:Nat):=by
  rw[show((2:Int)^min 1 dp.bits)=2 from rfl,g9 _ (by decide)];omega
 have j:0<k:=o_
 have K:(ar wB o.v.natAbs).length<=400000:=by
  have D:o.v.natAbs<=A:=md (oa _ (show 0<x.v.natAbs by omega)) r.1;have:=dO bh _ _ (kd D (cq bh A));omega
 have z:2<=k->(ar wB (x.v*x.v).natAbs).length<=400000:=fun h=>by
  have:=dO bh _ _ (kd (r.2 h) (cq bh A));rw[ge];omega
 have y:(1:Int)<=o.v*x.v:=by
  have:=ht i c (by decide) o_;omega
 have B:(1:Int)<=x.v*x.v:=by
  have:=ht c c (by decide) o_;omega
 have u:=Al o x o_;have w:=Al x x o_;have g:x.v.natAbs^k=(x.v*x.v).natAbs^(k/2)*x.v.natAbs^(k% 2):=by
  rw[ge,<-pb,<-ns,<-kw,ko]
 by_cases H:k% 2=1
 ·rw[H,l5]at g;have t:((k% 2:Nat):Int)=1:=by omega
  rw[t]at d
  by_cases k1:1<k
  ·have f:(1:Int)<k:=by omega
   simp[j,d];refine c2 u ?_;simp[ad,f];refine c2 w ?_;simp[ad,hs];refine rd (k/2,x.mul x,o.mul x) ⟨o_,B,y,fun _=>?_,fun h=>by dsimp only at h;omega,z k1⟩ (by dsimp only;omega);rw[g]at b;show(o.v*x.v).natAbs*(x.v*x.v).natAbs^(k/2)=A;rw[<-b,ge o.v,j3 ((x.v*x.v).natAbs^(k/2)),kp]
  ·have f:¬(1:Int)<k:=by omega
   have G:k=1:=o_
   simp[j,d];refine c2 u ?_;simp[ad,f,hs];refine rd (k/2,x,o.mul x) ⟨o_,c,y,fun h=>by dsimp only at h;omega,fun _=>?_,m⟩ (by dsimp only;omega);subst G;rw[l5]at b;show(o.v*x.v).natAbs=A;rw[<-b,ge]
 ·have I:k% 2=0:=by omega
  rw[I,lb,na]at g;have t:¬((k% 2:Nat):Int)=1:=o_
  rw[show((k% 2:Nat):Int)=0 by omega]at d;have f:(1:Int)<k:=o_
  simp[j,d,f];refine c2 w ?_;simp[ad,hs];refine rd (k/2,x.mul x,o) ⟨o_,B,i,fun _=>?_,fun h=>by dsimp only at h;omega,z o_⟩ (by dsimp only;omega);show o.v.natAbs*(x.v*x.v).natAbs^(k/2)=A;rw[<-g,b]
theorem aiE(x:Nat)(hx:x<18446744073709551616):aA prog 317 [.int .u64 x] (.int .i64 (dz x:Nat)):=by
 refine jh (il func317 k_) fun w aa d _ _ c=>?_;obtain⟨a,rfl,b⟩:=tY c;simp only[aB]at b;subst b;refine(bits_Len64 x w o_ o_).mono ?_;rintro e w' ⟨rfl,rfl⟩;refine⟨_,rfl,⟨la _,fun _ _=>rfl,rfl,rfl⟩,fun w aa=>?_⟩;simp only[aB];rfl
def oO(n:Nat):Nat:=if n=0 then 0 else 64*((ar wB n).length-1)+dz (ae wB n ((ar wB n).length-1))
theorem tg{n:Nat}:ar wB n=[]↔n=0:=by
 constructor
 ·intro h;have:=cq bh n;rw[h,hO,lb]at this;omega
 ·rintro rfl;exact lV
theorem MC(n:Nat):n<2^oO n:=by
 by_cases b:n=0
 ·subst b;exact kc (by decide)
 ·rw[oO,if_neg b];have hl:=cq bh n;have i:0<(ar wB n).length:=by
   rcases lc (ar wB n).length with h|h
   ·exact(b (tg.1 (hS.1 h))).elim
   ·exact h
  obtain⟨m,g⟩:∃m,(ar wB n).length=m+1:=⟨(ar wB n).length-1,o_⟩
  rw[g]at hl⊢;rw[li];have d:n/wB^m<wB:=by
   rw[j4 (kc (by decide)),j3,<-j6];exact hl
  have e:ae wB n m=n/wB^m:=by rw[ae,j5 d]
  have f:0<n/wB^m:=by
   rcases lc (n/wB^m)with h|h
   ·have c:n<wB^m:=by
     rcases lm n (wB^m)with a|a
     ·exact a
     ·have:=n0 a (kc (show 0<wB by decide));omega
    have:=dO bh m n c;omega
   ·exact h
  have c:=yK (n/wB^m) (n/wB^m) (la _) f d;rw[e,kw,ns];show n<wB^m*_;have a:n<(n/wB^m+1)*wB^m:=by
   rw[<-j4 (kc (by decide))];omega
  rw[j3]at a;exact j7 a (km _ c.2.2)
theorem ad1(a:NI)(l:okW a.v):aA prog 285 [eI a] (.int .i64 (oO a.v.natAbs:Nat)):=by
 have b:=ot (eI a) a.v (mC a);refine aM nf (i_ func285) mix (by simp[f285]) ?_;have o:=oi l;have q:∀i(h:i<(ar wB a.v.natAbs).length),(ar wB a.v.natAbs)[i]=ae wB a.v.natAbs i:=fun i h=>eH bh h;have f:=ct (B:=wB) bh a.v.natAbs ((ar wB a.v.natAbs).length-1);have j:=aiE _ f;have A:=MC a.v.natAbs;have s:=tg (n:=a.v.natAbs)
 by_cases e:a.v.natAbs=0
 ·rw[e]at b⊢;simp only[eN,lV]at b;simp[f285];refine c1 b ?_;simp[oO]
 ·have k:=mt s.1 e;rw[oO,if_neg e];have p:dz (ae wB a.v.natAbs ((ar wB a.v.natAbs).length-1))<=64:=by
   rcases lc (ae wB a.v.natAbs ((ar wB a.v.natAbs).length-1))with h|h
   ·rw[h];decide
   ·exact QK h f
  simp only[eN]at b;generalize ar wB a.v.natAbs=x at*;obtain⟨m,d⟩:∃m,x.length=m+1:=⟨x.length-1,by cases x with|nil=>exact(k rfl).elim|cons c cs=>simp⟩
  rw[d,li]at j p f;rw[d,li];rw[d]at o;have hx:=q m o_;have t:x[m]?=some (ae wB a.v.natAbs m):=by rw[hD o_,hx]
  have u:dp.wrap (m:Int)=m:=aO _ o_ o_;have w:dp.wrap (64*(m:Int))=64*m:=aO _ o_ o_;have y:dp.wrap (64*(m:Int)+(dz (ae wB a.v.natAbs m):Nat))=(64*m+dz (ae wB a.v.natAbs m):Nat):=by rw[aO _ o_ o_];push_cast;rfl
  generalize dz (ae wB a.v.natAbs m)=g at*;have z:dp.wrap (64*(m:Int)+g)=64*m+g:=by rw[y];push_cast;rfl
  simp[f285];refine c1 b ?_;have r:¬((m:Int)+1=0):=o_
  simp[k,d,u,w,t,hx,r];refine c1 j ?_;simp[z]
noncomputable def eF(a:NF):PV:=.st 164 [eI a.num,eI a.den]
@[simp] theorem aPf(a:NF):aL (eF a)=.agg 164:=rfl
@[simp] theorem aN1(a:NF):cH (eF a)=[eI a.num,eI a.den]:=rfl
@[simp] theorem aPy(n:Int):aL (ft n)=.agg 162:=rfl
@[simp] theorem aNi:prog.cellsOf 162=2:=k_
@[simp] theorem aNj:prog.cellsOf 164=4:=k_
theorem NJ:ft 1=eI (.mk' 1):=(oN (by decide) (by decide)).symm
def kB:Nat:=100000
theorem qq:kB<=3*kB:=ol _ (by decide)
theorem yZ{n k:Nat}(h:n<2^k):(ar wB n).length<=k/64+1:=by
 refine dO bh _ _ (j7 h ?_);rw[show wB=2^64 from rfl,<-ns];exact j8 (by decide) o_
theorem iO{z:Int}{k:Nat}(h:z.natAbs<2^k)(hk:k<=3*kB):okW z:=by
 have:=yZ h;have a:kB=100000:=rfl;rw[okW];omega
def NF.make(n d:NI):NF:=⟨pm n.v d.v,n.m&&decide (d.v=1)⟩
theorem CO(a:NF):aA prog 180 [eF a] (.bool a.fL):=by
 refine aM nf (i_ func180) mix (by simp[f180]) ?_;have f:a.den.v=a.q.den:=rfl;have h:=a.q.den_pos;rcases hs:a.den.sm with _|_
 ·obtain⟨c,cs,d⟩:=oJ hs;have g:=NI.zO (a:=a.den) (by rw[hs];decide);have b:a.fL=false:=by rw[NF.fL,decide_eq_false_iff_not];omega
  simp[f180,ad,d,dF,cZ,b]
 ·have d:=mz hs;have e:=nr hs;rw[f]at e;have b:a.fL=decide ((a.q.den:Int)=1):=by rw[NF.fL,decide_eq_decide];omega
  simp[f180,ad,d,e,dF,cZ,b];rfl
theorem DS(a:NI):aA prog 177 [eI a] (eF (.whole a)):=by
 refine aM nf (i_ func177) mix (by simp[f177]) ?_;simp[f177];refine e1 (sn 1) ?_;have b:(NF.whole a).num=a:=by cases a;rfl
 have c:(NF.whole a).den=.mk' 1:=rfl;simp[ad,eF,b,c,NJ]
theorem xc(n:Int)(h:-9223372036854775808<=n)(b:n<=9223372036854775807):aA prog 94 [.int .i64 n] (eF (.int n)):=by
 have a:=DS (.of n);rw[uj h b]at a;refine aM nf (i_ func94) mix (by simp[f94]) ?_;simp[f94];refine c1 (sn n) ?_;simp;refine c1 a ?_;simp[ad];exact Wk.refl _
theorem Ea(q:Rat):(if q<0 then(-1:Int)else if q=0 then 0 else 1)=if q.num<0 then -1 else if q.num=0 then 0 else 1:=by
 have a:q<0↔q.num<0:=by rw[<-Rat.not_le,<-Rat.num_nonneg];omega
 have b:q=0↔q.num=0:=pr.symm;simp only[a,b]
theorem DQ(a:NF):aA prog 122 [eF a] (.int .i64 (if a.q<0 then -1 else if a.q=0 then 0 else 1)):=by
 have b:=tZ a.num;refine aM nf (i_ func122) mix (by simp[f122]) ?_;simp[f122,ad];refine c1 b ?_;simp;exact Ea a.q
theorem MT(a:NF)(h:cj kB a.q):aA prog 173 [eF a] (eF a.neg):=by
 have d:=ug a.num (iO h.1 qq);refine aM nf (i_ func173) mix (by simp[f173]) ?_;simp[f173,ad];refine e1 d ?_;have b:a.neg.num=a.num.neg:=by show(⟨(-a.q).num,false⟩:NI)=⟨-a.q.num,false⟩;rw[pw]
 have c:a.neg.den=a.den:=by show(⟨((-a.q).den:Int),false⟩:NI)=⟨a.q.den,false⟩;rw[p0]
 simp[ad,eF,b,c]
theorem WU{n d:NI}(j:0<d.v):(NI.mk' (eQ n.v d.v)).v≠0/\0<eQ n.v d.v/\(¬d.v=1->eI (n.div (.mk' (eQ n.v d.v)))=eI (NF.make n d).num)/\eI (d.div (.mk' (eQ n.v d.v)))=eI (NF.make n d).den:=by
 obtain⟨dn,e⟩:∃dn:Nat,d.v=dn:=⟨d.v.toNat,o_⟩
 have f:dn≠0:=o_
 obtain⟨e1,e2⟩:=mb (n:=n.v) f;have c:eQ n.v d.v=(m4 n.v.natAbs dn:Nat):=by rw[eQ,e];rfl
 have k:0<m4 n.v.natAbs dn:=Nat.gcd_pos_of_pos_right _ o_;have i:(m4 n.v.natAbs dn:Int)∣n.v:=hd.2 (o1 _ _);refine⟨by rw[NI.ja,c];omega,by rw[c];omega,fun g=>?_,?_⟩
 ·refine nv ?_ (fun _=>?_)
  ·show n.v/eQ n.v d.v=(pm n.v d.v).num;rw[c,e,e1]
  ·show decide (n.v% eQ n.v d.v≠0)=(n.m&&decide (d.v=1))
   rw[c,Int.emod_eq_zero_of_dvd i];simp[g]
 ·refine nv ?_ (fun h=>?_)
  ·show d.v/eQ n.v d.v=((pm n.v d.v).den:Int)
   rw[c,e,e2];exact(Int.natCast_ediv _ _).symm
  ·have:d.v/eQ n.v d.v= -9223372036854775808:=h;have:=gt (a:=d.v) (b:=eQ n.v d.v) o_ (by rw[c];omega);omega
theorem Za{n d:NI}(a:d.v<0):NF.make n.neg d.neg=NF.make n d:=by
 rw[NF.make,NF.make];have e1:pm n.neg.v d.neg.v=pm n.v d.v:=Rat.neg_divInt_neg _ _;have e2:(n.neg.m&&decide (d.neg.v=1))=(n.m&&decide (d.v=1)):=by
  rw[show n.neg.m=false from rfl,cc,decide_eq_false o_,b4]
 rw[e1,e2]
theorem Kg(n:Int):(pm n 1).num=n/\(pm n 1).den=1:=by
 obtain⟨e1,e2⟩:=mb (n:=n) (show 1≠0 by decide);rw[oy]at e1 e2;refine⟨?_,?_⟩
 ·exact e1.trans (hz n)
 ·exact e2
theorem Eu(n d:NI)(A:d.v≠0)(q:okW n.v)(o:okW d.v):aA prog 182 [eI n,eI d] (eF (.make n d)):=by
 have i:=tZ d;refine aM nf (i_ func182) mix (by simp[f182]) ?_;simp[f182,-bu];rw[bu];simp[-bu];refine join (fun s=>∃a d':NI,0<d'.v/\okW a.v/\okW d'.v/\NF.make a d'=NF.make n d/\aN s.env 2=.ptr 0 []/\aN s.env 3=.ptr 1 []/\aN s.env 4=.ptr 2 []/\s.heap=[.box false (.p (eI a)),.box false (.p (eI d')),.box false (.p (.st 164 [.st 162 [.int .i64 0,.aK],.st 162 [.int .i64 0,.aK]]))]) ?_ ?_
 ·by_cases l:d.v<0
  ·rw[if_pos l]at i;simp;refine c1 i ?_;simp;refine e1 (ug n q) ?_;simp;refine e1 (ug d o) ?_;simp[ad];exact⟨⟨rfl,rfl⟩,n.neg,d.neg,by rw[NI.FD];omega,re q (by rw[NI.FD];omega),re o (by rw[NI.FD];omega),Za l,rfl,rfl⟩
  ·rw[if_neg l,if_neg A]at i;simp;refine c1 i ?_;simp;exact⟨n,d,o_,q,o,rfl,rfl,rfl⟩
 ·rintro⟨E,F⟩ ⟨a,d',D,y,r,z,b,e,f,u⟩;dsimp only at b e f u;subst u;rw[<-z];clear z i;have t:=QN a d' y r;obtain⟨g1,g2,g3,g4⟩:=WU (n:=a) D;have og:okW (eQ a.v d'.v):=by
   refine re r ?_;rw[eQ];exact md (oj (gg _)) (Nat.gcd_le_right _ o_)
  have w:=QQ a (.mk' (eQ a.v d'.v)) g2 y og;have x:=QQ d' (.mk' (eQ a.v d'.v)) g2 r og
  by_cases hs:d'.v=1
  ·have g:d'.sm=true:=NI.Ac o_ o_;have j:=mz g;have k:=nr g;rw[hs]at k;have C:eF (.make a d')=.st 164 [eI a,eI d']:=by
    rw[eF];have r1:(NF.make a d').num=a:=by
     show(⟨(pm a.v d'.v).num,a.m&&decide (d'.v=1)⟩:NI)=a;rw[hs,(Kg _).1];simp
    have r2:eI (NF.make a d').den=eI d':=by
     refine nv ?_ (fun h=>?_)
     ·show((pm a.v d'.v).den:Int)=d'.v;rw[hs,(Kg _).2];rfl
     ·have:((pm a.v d'.v).den:Int)= -9223372036854775808:=h;omega
    rw[r1,r2]
   rw[C];simp[b,e,f,ad,j,k,dF,cZ]
   done
  ·rw[eF,<-g3 hs,<-g4];have B:(wI d'=.aK/\¬sI d'=1)\/∃c cs,wI d'=.seq (c::cs):=by
    rcases g:d'.sm with _|_
    ·exact .inr (oJ g)
    ·exact .inl ⟨mz g,by rw[nr g];exact hs⟩
   rcases B with⟨j,k⟩|⟨c,cs,j⟩
   ·simp[b,e,f,ad,j,k,dF,cZ];refine c2 t ?_;simp[b,e,f,ad];refine e2 w ?_;simp[b,e,f,ad];refine e2 x ?_;simp[b,e,f,ad]
    done
   ·simp[b,e,f,ad,j,dF,cZ];refine c2 t ?_;simp[b,e,f,ad];refine e2 w ?_;simp[b,e,f,ad];refine e2 x ?_;simp[b,e,f,ad]
    done
theorem lU(a:NF):a.num.v=a.q.num:=rfl
theorem kb(a:NF):a.den.v=a.q.den:=rfl
theorem kO(a:NF):a.den.v.natAbs=a.q.den:=by rw[kb,gg]
theorem rU{x y:NI}{k l:Nat}(hx:x.v.natAbs<2^k)(a:y.v.natAbs<2^l)(h:k+l<=4*kB):aA prog 183 [eI x,eI y] (eI (x.mul y)):=by
 have b:=yZ hx;have c:=yZ a;have d:kB=100000:=rfl;exact Al x y o_
theorem px{x y:Int}{k l:Nat}(hx:x.natAbs<2^k)(a:y.natAbs<2^l):(x*y).natAbs<2^(k+l):=by
 rw[ge,kw];exact ll hx a
theorem Dx{n d:NI}{q:Rat}(m:Bool)(hq:pm n.v d.v=q)(a:(n.m&&decide (d.v=1))=m):NF.make n d=⟨q,m⟩:=by rw[NF.make,hq,a]
theorem Y8(a b:NF):NF.make (a.num.mul b.num) (a.den.mul b.den)=a.mul b:=by
 refine Dx _ ?_ rfl;rw[NI.my,NI.my,lU,lU,kb,kb,p1,pp];rfl
theorem tP(a b:NF)(c:cj kB a.q)(d:cj kB b.q):aA prog 184 [eF a,eF b] (eF (a.mul b)):=by
 have f:=rU (x:=a.num) (y:=b.num) c.1 d.1 o_;have g:=rU (x:=a.den) (y:=b.den) (by rw[kO];exact c.2) (by rw[kO];exact d.2) o_;have e:=Eu (a.num.mul b.num) (a.den.mul b.den) (by rw[NI.my,kb,kb];have:=a.q.den_nz;have:=b.q.den_nz;exact hr o_ o_) (iO (px c.1 d.1) o_) (iO (px (x:=a.den.v) (y:=b.den.v) (by rw[kO];exact c.2) (by rw[kO];exact d.2)) o_);rw[Y8]at e;refine aM nf (i_ func184) mix (by simp[f184]) ?_;simp[f184,ad];refine e2 f ?_;simp[ad];refine e2 g ?_;simp[ad];refine e2 e ?_;simp[ad]
theorem Zi(a:NF)(h:a.q≠0):NF.make a.den a.num=a.inv:=by
 refine Dx _ ?_ rfl;rw[lU,kb];show pm a.q.den a.q.num=a.q⁻¹;rw[p2]
theorem MU(a:NF)(c:cj kB a.q)(b:a.q≠0):aA prog 185 [eF a] (eF a.inv):=by
 have d:=Eu a.den a.num (by rw[lU];exact mt pr.1 b) (iO (by rw[kO];exact c.2) qq) (iO c.1 qq);rw[Zi a b]at d;refine aM nf (i_ func185) mix (by simp[f185]) ?_;simp[f185,ad];refine c2 d ?_;simp[ad]
theorem aht(a b:NF)(g:cj kB a.q)(c:cj kB b.q)(f:b.q≠0):aA prog 99 [eF a,eF b] (eF (a.div b)):=by
 have h:=MU b c f;have d:=tP a b.inv g (aKy c);have e:a.mul b.inv=a.div b:=by
  rw[NF.mul,NF.div,NF.inv,Rat.div_def]
 rw[e]at d;refine aM nf (i_ func99) mix (by simp[f99]) ?_;simp[f99,ad];refine e1 h ?_;simp[ad];refine e2 d ?_;simp[ad]
theorem ZN(a b:NF)(h:¬(a.fL=true/\b.fL=true)):NF.make ((a.num.mul b.den).add (b.num.mul a.den)) (a.den.mul b.den)=a.add b:=by
 have g:(a.fL&&b.fL)=false:=by simpa using h
 refine Dx _ ?_ ?_
 ·rw[NI.rZ,NI.my,NI.my,NI.my,lU,lU,kb,kb,pu];rfl
 ·rw[g,cc];have:¬(a.den.mul b.den).v=1:=by
   intro c;rw[NI.my,kb,kb]at c;have d:a.q.den*b.q.den=1:=by exact_mod_cast c
   have e:=Nat.eq_one_of_mul_eq_one_right d;have f:=Nat.eq_one_of_mul_eq_one_left d;exact h ⟨by rw[NF.fL];simp[e,f],by rw[NF.fL];simp[e,f]⟩
  rw[decide_eq_false this,b4]
theorem NL{q:Rat}(h:q.den=1):(q.num:Rat)=q:=by
 apply Rat.ext
 ·rw[Rat.num_intCast]
 ·rw[Rat.den_intCast,h]
theorem Es(a b:NF)(j:cj kB a.q)(k:cj kB b.q):aA prog 96 [eF a,eF b] (eF (a.add b)):=by
 have d:=CO a;have n:=CO b;refine aM nf (i_ func96) mix (by simp[f96]) ?_
 by_cases hw:a.fL=true/\b.fL=true
 ·rw[hw.1]at d;rw[hw.2]at n;have l:=xb a.num b.num (iO j.1 qq) (iO k.1 qq);have g:=DS (a.num.add b.num);have c:a.q.den=1:=by simpa[NF.fL]using hw.1
  have f:b.q.den=1:=by simpa[NF.fL]using hw.2
  have e:NF.whole (a.num.add b.num)=a.add b:=by
   rw[NF.whole,NF.add];have e1:(((a.num.add b.num).v:Int):Rat)=a.q+b.q:=by
    rw[NI.rZ,lU,lU,Rat.intCast_add,NL c,NL f]
   have e2:(a.num.add b.num).m=(a.fL&&b.fL&&(a.num.sm&&b.num.sm)):=by rw[hw.1,hw.2];rfl
   rw[e1,e2]
  rw[e]at g;simp[f96,ad];refine c1 d ?_;simp[ad];refine c1 n ?_;simp[ad];refine c2 l ?_;simp[ad];refine c1 g ?_;simp[ad]
 ·have h:a.den.v.natAbs<2^kB:=by rw[kO];exact j.2
  have i:b.den.v.natAbs<2^kB:=by rw[kO];exact k.2
  have l:=rU (x:=a.num) (y:=b.den) j.1 i o_;have g:=rU (x:=b.num) (y:=a.den) k.1 h o_;have s:(a.num.mul b.den).v.natAbs<2^(kB+kB):=px j.1 i;have t:(b.num.mul a.den).v.natAbs<2^(kB+kB):=px k.1 h;have p:=xb _ _ (iO s o_) (iO t o_);have r:=rU (x:=a.den) (y:=b.den) h i o_;have u:((a.num.mul b.den).add (b.num.mul a.den)).v.natAbs<2^(kB+kB+1):=by
   rw[NI.rZ,j6];exact kd (ho _ _) o_
  have w:kB=100000:=rfl;have o:=Eu ((a.num.mul b.den).add (b.num.mul a.den)) (a.den.mul b.den) (by rw[NI.my,kb,kb];have:=a.q.den_nz;have:=b.q.den_nz;exact hr o_ o_) (iO u o_) (iO (px (x:=a.den.v) (y:=b.den.v) h i) o_);rw[ZN a b hw]at o;have hc:a.fL=false\/(a.fL=true/\b.fL=false):=by
   rcases c:a.fL with _|_
   ·exact .inl rfl
   ·exact .inr ⟨rfl,by rcases f:b.fL with _|_;rfl;exact(hw ⟨c,f⟩).elim⟩
  rcases hc with c|⟨c,f⟩
  ·rw[c]at d;simp[f96,ad];refine c1 d ?_;simp[ad];refine e2 l ?_;simp[ad];refine e2 g ?_;simp[ad];refine e2 p ?_;simp[ad];refine e2 r ?_;simp[ad];refine e2 o ?_;simp[ad]
  ·rw[c]at d;rw[f]at n;simp[f96,ad];refine c1 d ?_;simp[ad];refine c1 n ?_;simp[ad];refine e2 l ?_;simp[ad];refine e2 g ?_;simp[ad];refine e2 p ?_;simp[ad];refine e2 r ?_;simp[ad];refine e2 o ?_;simp[ad]
theorem zD(a b:NF)(d:cj kB a.q)(c:cj kB b.q):aA prog 172 [eF a,eF b] (eF (a.sub b)):=by
 have e:=MT b c;have f:=Es a b.neg d (CH c);refine aM nf (i_ func172) mix (by simp[f172]) ?_;simp[f172,ad];refine e1 e ?_;simp[ad];refine e2 f ?_;simp[ad];exact Wk.refl _
def eU(x y:Rat):Int:=if x<y then -1 else if x=y then 0 else 1
theorem aKL(a b:Rat):kH (a.num*b.den) (b.num*a.den)=eU a b:=by
 have c:a<b↔a.num*b.den<b.num*a.den:=p4 _ _;have f:a=b↔a.num*b.den=b.num*a.den:=by
  constructor
  ·rintro rfl;rfl
  ·intro h
   by_cases d:a<b
   ·rw[c]at d;omega
   ·by_cases e:b<a
    ·have g:=(p4 b a).1 e;omega
    ·exact Rat.le_antisymm (p3.1 e) (p3.1 d)
 simp only[kH,eU,c,f]
theorem uq(a b:NF)(c:cj kB a.q)(d:cj kB b.q):aA prog 101 [eF a,eF b] (.int .i64 (eU a.q b.q)):=by
 have e:a.den.v.natAbs<2^kB:=by rw[kO];exact c.2
 have f:b.den.v.natAbs<2^kB:=by rw[kO];exact d.2
 have j:=rU (x:=a.num) (y:=b.den) c.1 f o_;have k:=rU (x:=b.num) (y:=a.den) d.1 e o_;have h:(a.num.mul b.den).v.natAbs<2^(kB+kB):=px c.1 f;have i:(b.num.mul a.den).v.natAbs<2^(kB+kB):=px d.1 e;have g:=QM _ _ (iO h o_) (iO i o_);rw[NI.my,NI.my,lU,lU,kb,kb,aKL]at g;refine aM nf (i_ func101) mix (by simp[f101]) ?_;simp[f101,ad];refine e2 j ?_;simp[ad];refine e2 k ?_;simp[ad];refine e2 g ?_;simp[ad]
def low:Nat->Nat->List Nat
 |0,_=>[]
 |i+1,n=>(48+n/10^i% 10)::low i n
def nd(n:Nat):Nat:=if h:n=0 then 0 else nd (n/10)+1
 decreasing_by omega
theorem ny:∀(i n:Nat),i<nd n↔10^i<=n
 |0,n=>by
  rw[nd];split
  ·subst n;simp
  ·simp;omega
 |i+1,n=>by
  rw[nd];split
  ·rename_i h;subst h;have:=kc (n:=i+1) (show 0<10 by omega);constructor
   ·intro h;omega
   ·intro h;omega
  ·have:=ny i (n/10);rw[lq o_,<-j6]at this;rw[<-this];omega
theorem rp(b n:Nat):∀a,low (a+b) n=low a (n/10^b)++low b n
 |0=>by simp[low]
 |a+1=>by
  rw[show a+1+b=(a+b)+1 by omega,low,low,rp b n a,j9,<-kw,lt b a];rfl
theorem Dy(n k:Nat):∀b,b<=k->low b (n% 10^k)=low b n
 |0,_=>rfl
 |b+1,h=>by
  have e:k=b+(k-b-1+1):=o_
  have a:n% 10^k/10^b=n/10^b% 10^(k-b-1+1):=by
   conv=>lhs;rw[e,kw]
   rw[mx]
  rw[low,low,Dy n k b o_,a,Nat.mod_mod_of_dvd _ (Nat.pow_dvd_pow 10 (show 1<=k-b-1+1 by omega)|>fun h=>by simpa using h)]
theorem aKp{n m:Nat}(h:∀i,i<nd n↔i<m):nd n=m:=by
 have a:=h m;have b:=h (nd n);omega
theorem Ec{n k:Nat}(h:10^k<=n):nd n=nd (n/10^k)+k:=by
 refine aKp fun i=>?_;rw[ny]
 by_cases hi:i<k
 ·have:=j8 (show 0<10 by omega) (pa hi);constructor
  ·intro _;omega
  ·intro _;omega
 ·obtain⟨j,rfl⟩:∃j,i=j+k:=⟨i-k,o_⟩
  rw[kw,<-lq (kc o_),<-ny];omega
theorem rX{n k:Nat}(h:n<10^k):nd n<=k:=by
 rcases lm k (nd n)with a|a
 ·rw[ny]at a;omega
 ·exact a
theorem wT{n:Nat}(h:0<n):0<nd n:=by rw[ny,lb];exact h
theorem Zb{M:Nat}(h:10^9<=M):low (nd M) M=low (nd (M/10^9)) (M/10^9)++low 9 (M% 10^9):=by
 rw[Ec h,rp,Dy _ _ _ (la 9)]
theorem rl(n:Nat):∀i,(low i n).length=i
 |0=>rfl
 |i+1=>by simp[low,rl n i]
def bd(n:Nat):List Nat:=low (max 1 (nd n)) n
def bn(z:Int):List Nat:=if z<0 then 45::bd z.natAbs else bd z.natAbs
def bC(q:Rat):List Nat:=if q.den=1 then bn q.num else bn q.num++47::bd q.den
def aY(s:List Nat):Nat:=s.foldl (fun n c=>n*10+(c-48)) 0
def b9(c:Nat):Bool:=decide (48<=c)&&decide (c<=57)
theorem yN(s:List Nat)(c:Nat):aY (s++[c])=aY s*10+(c-48):=by simp[aY]
theorem tE(i n:Nat):low (i+1) n=low i (n/10)++[48+n% 10]:=by
 have:=rp 1 n i;rw[this];simp[low]
theorem Sj:∀(i n:Nat),(low i n).all b9=true
 |0,n=>rfl
 |i+1,n=>by
  rw[low,hQ,Sj i n];have:=kk (n/10^i) (show 0<10 by omega);simp[b9];omega
theorem Ma:∀(i n:Nat),aY (low i n)=n% 10^i
 |0,n=>by simp[low,aY,mp]
 |i+1,n=>by
  rw[tE,yN,Ma i,j6,j3 (10^i),nz];omega
theorem Dc(n:Nat):n<10^nd n:=by
 rcases lm n (10^nd n)with h|h
 ·exact h
 ·have:=(ny (nd n) n).2 h;omega
theorem pT(n:Nat):aY (bd n)=n:=by
 rw[bd,Ma];refine j5 (j7 (Dc n) (j8 o_ o_))
theorem rh(n:Nat):(bd n).length=max 1 (nd n):=rl _ _
theorem qc(n:Nat):(bd n).all b9=true:=Sj _ _
theorem ou:bd 0=[48]:=by
 have:nd 0=0:=by rw[nd,dif_pos rfl]
 rw[bd,this];rfl
theorem F4{n:Nat}(h:0<n):(bd n).head?=some (48+n/10^(nd n-1))/\0<n/10^(nd n-1)/\n/10^(nd n-1)<10:=by
 have d:=wT h;obtain⟨k,hk⟩:∃k,nd n=k+1:=⟨nd n-1,o_⟩
 have e:max 1 (nd n)=k+1:=o_
 have c:=(ny k n).1 o_;have a:=Dc n;rw[hk]at a;have b:n/10^k<10:=by rw[j4 (kc o_),j3,<-j6];exact a
 rw[bd,e,hk,li];exact⟨by rw[low,h3,j5 b],n0 c (kc o_),b⟩
def dx(s:List Nat):Bool:=!s.isEmpty&&s.all b9&&(decide (s.head?≠some 48)||decide (s=[48]))
theorem uW(n:Nat):dx (bd n)=true:=by
 rcases lc n with rfl|h
 ·rw[ou];rfl
 ·obtain⟨b,f,g⟩:=F4 h;have d:(bd n).isEmpty=false:=by
   have:=rh n;cases he:bd n with
   |nil=>rw[he]at this;simp at this;omega
   |cons a l=>rfl
  have c:¬(some (48+n/10^(nd n-1))=some 48):=by intro e;injection e with e;omega
  simp only[dx,d,qc,b,Bool.not_false,Bool.true_and,ne_eq,c,not_false_eq_true,decide_true,Bool.true_or]
theorem jL:∀(k:Nat)(s:List Nat),s.length=k->s.all b9=true->aY s<10^k
 |0,s,h,_=>by
            have:s=[]:=hS.1 h
            subst this;simp[aY]
 |n+1,s,h,a=>by
  have b:s≠[]:=by intro e;subst e;simp at h
  obtain⟨t,c,rfl⟩:∃t c,s=t++[c]:=⟨s.dropLast,s.getLast b,(h4 b).symm⟩
  simp only[i7,hQ,j1,b5,b2]at a;have d:=jL n t (by simpa using h) a.1;have hc:=a.2;simp only[b9,b2,decide_eq_true_eq]at hc;rw[yN,j6];omega
theorem M7:∀(k:Nat)(s:List Nat),s.length=k->s.all b9=true->low k (aY s)=s
 |0,s,h,_=>by
            have:s=[]:=hS.1 h
            subst this;rfl
 |n+1,s,h,a=>by
  have b:s≠[]:=by intro e;subst e;simp at h
  obtain⟨t,c,rfl⟩:∃t c,s=t++[c]:=⟨s.dropLast,s.getLast b,(h4 b).symm⟩
  simp only[i7,hQ,j1,b5,b2]at a;have d:=M7 n t (by simpa using h) a.1;have hc:=a.2;simp only[b9,b2,decide_eq_true_eq]at hc;rw[tE,yN];have e1:(aY t*10+(c-48))/10=aY t:=o_
  have e2:(aY t*10+(c-48))% 10=c-48:=o_
  rw[e1,e2,d];congr 2;omega
theorem KW(c:Nat)(s:List Nat)(h:49<=c):10^s.length<=aY (c::s):=by
 have key:∀(s:List Nat)(a:Nat),a*10^s.length<=s.foldl (fun n c=>n*10+(c-48)) a:=by
  intro s
  induction s with
  |nil=>intro a;simp
  |cons x r b=>
   intro a;rw[i6,hT];refine md ?_ (b _);rw[j6,j3 (10^r.length),<-kp];exact kh _ o_
 have:=key s (c-48);rw[aY,i6,m2,l4];refine md ?_ this;have:1*10^s.length<=(c-48)*10^s.length:=kh _ o_;omega
theorem rH{s:List Nat}(h:dx s=true):bd (aY s)=s:=by
 simp only[dx,b2,b3,decide_eq_true_eq,cb]at h;obtain⟨⟨f,a⟩,b⟩:=h;rcases b with b|rfl
 ·cases s with
  |nil=>simp at f
  |cons c r=>
   have hc:b9 c=true:=by simpa using(hQ.symm.trans a|>fun h=>by simpa using h:b9 c=true/\r.all b9=true).1
   simp only[b9,b2,decide_eq_true_eq]at hc;have i:49<=c:=by
    have:c≠48:=fun e=>b (by rw[e];rfl);omega
   have g:=jL _ _ rfl a;have j:=KW c r i;have k:nd (aY (c::r))=r.length+1:=by
    have l:=(ny r.length _).2 j;have d:=rX g;rw[hT]at d;omega
   rw[bd,k,show max 1 (r.length+1)=r.length+1 by omega];exact M7 _ _ rfl a
 ·have:aY [48]=0:=rfl;rw[this,ou]
def bP(c:Nat):List Nat->List Nat×List Nat×Bool
 |[]=>([],[],false)
 |x::r=>if x=c then([],r,true)else(x::(bP c r).1,(bP c r).2.1,(bP c r).2.2)
theorem C3(c:Nat):∀(a b:List Nat),c∉a->bP c (a++c::b)=(a,b,true)
 |[],b,_=>by simp[bP]
 |x::a,b,h=>by
  simp only[jp,not_or]at h;rw[hN,bP,if_neg (fun e=>h.1 e.symm),C3 c a b h.2]
theorem CN(c:Nat):∀(a:List Nat),c∉a->bP c a=(a,[],false)
 |[],_=>rfl
 |x::a,h=>by
  simp only[jp,not_or]at h;rw[bP,if_neg (fun e=>h.1 e.symm),CN c a h.2]
theorem mv(c:Nat):∀(s:List Nat),((bP c s).2.2=true/\s=(bP c s).1++c::(bP c s).2.1)\/((bP c s).2.2=false/\(bP c s).1=s/\(bP c s).2.1=[])
 |[]=>by simp[bP]
 |x::s=>by
  rw[bP]
  by_cases h:x=c
  ·subst h;simp
  ·rw[if_neg h];rcases mv c s with⟨a,b⟩|⟨a,b,d⟩
   ·left;exact⟨a,by dsimp only;rw[hN,<-b]⟩
   ·right;exact⟨a,by dsimp only;rw[b],d⟩
def bQ(s:List Nat):Bool:=decide (s.head?=some 45)
def bS(s:List Nat):List Nat:=if bQ s=true then s.tail else s
def bF(s:List Nat):List Nat:=(bP 47 (bS s)).1
def bU(s:List Nat):List Nat:=(bP 47 (bS s)).2.1
def eh(s:List Nat):Bool:=(bP 47 (bS s)).2.2
def nu(s:List Nat):Bool:=dx (bF s)&&!(bQ s&&decide (bF s=[48]))&&(!eh s||(dx (bU s)&&decide (bU s≠[48])&&decide (bU s≠[49])))
def bM(s:List Nat):Int:=
 if nu s=false then 1
 else if 600<(bF s).length\/600<(bU s).length then 4
 else if eh s=true/\m4 (aY (bF s)) (aY (bU s))≠1 then 1 else 0
def aZ(s:List Nat):Rat:=pm (if bQ s=true then -(aY (bF s):Int)else aY (bF s)) (if eh s=true then aY (bU s)else 1:Nat)
theorem Bc{s:List Nat}(h:s.all b9=true){c:Nat}(hc:b9 c=false):c∉s:=by
 intro a;rw[ix]at h;rw[h c a]at hc;cases hc
theorem jk{s:List Nat}(h:dx s=true):s.all b9=true:=by
 simp only[dx,b2]at h;exact h.1.2
theorem tj(n:Nat):bn (n:Int)=bd n:=by
 rw[bn,if_neg o_];rfl
theorem Ie{n:Nat}(h:0<n):bn (-(n:Int))=45::bd n:=by
 rw[bn,if_pos o_];congr 1;rw[g8];rfl
theorem vT{s:List Nat}(h:dx s=true)(a:s≠[48]):0<aY s:=by
 rcases lc (aY s)with e|e
 ·have:=rH h;rw[e,ou]at this;exact(a this.symm).elim
 ·exact e
theorem kC{s:List Nat}(h:bM s=0):bC (aZ s)=s/\(aZ s).num=(if bQ s=true then -(aY (bF s):Int)else aY (bF s))/\(aZ s).den=(if eh s=true then aY (bU s)else 1:Nat):=by
 unfold bM at h
 split at h
 ·cases h
 rename_i b
 split at h
 ·cases h
 split at h
 ·cases h
 rename_i g;have b:nu s=true:=by simpa using b
 simp only[nu,b2,cb,Bool.and_eq_false_iff,decide_eq_false_iff_not,b3,decide_eq_true_eq]at b;obtain⟨⟨d,a2⟩,a3⟩:=b;have hs:s=(if bQ s=true then[45]else[])++bS s:=by
  rw[bS]
  by_cases a:bQ s=true
  ·rw[if_pos a,if_pos a];simp only[bQ,decide_eq_true_eq]at a;cases s with
   |nil=>simp at a
   |cons c r=>simp at a;subst a;rfl
  ·rw[if_neg a,if_neg a];rfl
 have i:(if eh s=true then aY (bU s)else 1:Nat)≠0:=by
  split
  ·rename_i hf;rcases a3 with a3|a3
   ·rw[hf]at a3;cases a3
   ·have:=vT a3.1.1 a3.1.2;omega
  ·omega
 have j:m4 (if bQ s=true then -(aY (bF s):Int)else aY (bF s)).natAbs (if eh s=true then aY (bU s)else 1:Nat)=1:=by
  have e:(if bQ s=true then -(aY (bF s):Int)else aY (bF s)).natAbs=aY (bF s):=by split<;>omega
  rw[e]
  by_cases hf:eh s=true
  ·rw[if_pos hf];exact Decidable.not_not.1 fun e=>g ⟨hf,e⟩
  ·rw[if_neg hf,oy]
 obtain⟨e1,e2⟩:=mb (n:=if bQ s=true then -(aY (bF s):Int)else aY (bF s)) i;rw[j]at e1 e2;simp only[l3]at e2;have e1:(aZ s).num=(if bQ s=true then -(aY (bF s):Int)else aY (bF s)):=by rw[aZ,e1];exact hz _
 have e2:(aZ s).den=(if eh s=true then aY (bU s)else 1:Nat):=e2;refine⟨?_,e1,e2⟩;have hI:bn (aZ s).num=(if bQ s=true then[45]else[])++bF s:=by
  rw[e1]
  by_cases a:bQ s=true
  ·rw[if_pos a,if_pos a,Ie,rH d];·rfl
   refine vT d ?_;rcases a2 with a2|a2
   ·rw[a]at a2;cases a2
   ·exact a2
  ·rw[if_neg a,if_neg a,tj,rH d];rfl
 rw[bC,hI,e2]
 by_cases hf:eh s=true
 ·have f:dx (bU s)=true/\bU s≠[48]/\bU s≠[49]:=by
   rcases a3 with a3|a3
   ·rw[hf]at a3;cases a3
   ·exact⟨a3.1.1,a3.1.2,a3.2⟩
  have k:aY (bU s)≠1:=by
   intro e;have:=rH f.1;rw[e]at this;have b:nd 1=1:=by rw[nd,dif_neg o_,nd,dif_pos o_]
   have:bd 1=[49]:=by rw[bd,b];rfl
   exact f.2.2 (by rw[<-this];assumption|>Eq.symm)
  rw[if_pos hf,if_neg k,rH f.1]
  conv=>rhs;rw[hs]
  rw[List.append_assoc];congr 1;rcases mv 47 (bS s)with⟨g1,g2⟩|⟨g1,_⟩
  ·exact g2.symm
  ·rw[eh,g1]at hf;cases hf
 ·rw[if_neg hf,if_pos rfl]
  conv=>rhs;rw[hs]
  congr 1;rcases mv 47 (bS s)with⟨g1,g2⟩|⟨g1,g2,_⟩
  ·exact(hf g1).elim
  ·exact g2
theorem yO(z:Int)(r:List Nat):bQ (bn z++r)=decide (z<0)/\bS (bn z++r)=bd z.natAbs++r:=by
 by_cases h:z<0
 ·have:bn z=45::bd z.natAbs:=by rw[bn,if_pos h]
  rw[this];simp[bQ,bS,h]
 ·have e:bn z=bd z.natAbs:=by rw[bn,if_neg h]
  have a:=qc z.natAbs;have hl:=rh z.natAbs;rw[e];have b:bQ (bd z.natAbs++r)=false:=by
   cases d:bd z.natAbs with
   |nil=>rw[d]at hl;simp at hl;omega
   |cons c t=>
    rw[d]at a;simp only[hQ,b2]at a;have hc:=a.1;simp only[b9,b2,decide_eq_true_eq]at hc;have:¬(some c=some 45):=by intro e;injection e with e;omega
    simp only[bQ,hN,h3,this,decide_false]
  exact⟨by rw[b];simp[h],by rw[bS,b];simp⟩
theorem vM(q:Rat):bQ (bC q)=decide (q.num<0)/\bF (bC q)=bd q.num.natAbs/\eh (bC q)=decide (q.den≠1)/\bU (bC q)=if q.den=1 then[]else bd q.den:=by
 have d:47∉bd q.num.natAbs:=Bc (qc _) rfl
 by_cases h:q.den=1
 ·have e:bC q=bn q.num++[]:=by rw[bC,if_pos h,hL]
  obtain⟨c,b⟩:=yO q.num [];rw[hL,hL]at b;have a:=CN 47 _ d;rw[<-b]at a;rw[e];refine⟨c,?_,?_,?_⟩
  ·rw[hL,bF,a,b]
  ·rw[hL,eh,a,h];rfl
  ·rw[hL,bU,a,if_pos h]
 ·have e:bC q=bn q.num++47::bd q.den:=by rw[bC,if_neg h]
  obtain⟨c,b⟩:=yO q.num (47::bd q.den);have a:=C3 47 _ (bd q.den) d;rw[<-b]at a;rw[e];refine⟨c,?_,?_,?_⟩
  ·rw[bF,a]
  ·rw[eh,a];simp[h]
  ·rw[bU,a,if_neg h]
theorem Mc(q:Rat):aZ (bC q)=q:=by
 obtain⟨a,b,c,d⟩:=vM q;have e1:(if bQ (bC q)=true then -(aY (bF (bC q)):Int)else aY (bF (bC q)))=q.num:=by
  rw[a,b,pT]
  by_cases h:q.num<0
  ·simp[h];omega
  ·simp[h];omega
 have e2:(if eh (bC q)=true then aY (bU (bC q))else 1:Nat)=q.den:=by
  rw[c,d]
  by_cases h:q.den=1
  ·simp[h]
  ·simp[h,pT]
 rw[aZ,e1,e2,Rat.num_divInt_den]
theorem aMl{a b:Rat}(h:bC a=bC b):a=b:=by rw[<-Mc a,h,Mc]
theorem aMk:bd 1=[49]:=by
 have a:nd 1=1:=by rw[nd,dif_neg o_,nd,dif_pos o_]
 rw[bd,a];rfl
theorem vy{n k:Nat}(h:n<10^k)(hk:1<=k):(bd n).length<=k:=by
 rw[rh];have:=rX h;omega
theorem Dv(z:Int):(bn z).length<=(bd z.natAbs).length+1:=by
 rw[bn];split<;>simp
theorem aMm(q:Rat):(bC q).length<=(bd q.num.natAbs).length+(bd q.den).length+2:=by
 have:=Dv q.num;rw[bC];split<;>simp<;>omega
theorem Ws(k:Nat):2^(3*k)<=10^k:=by
 rw[ns];exact Nat.pow_le_pow_left o_ k
theorem KC{n k:Nat}(h:n<2^(3*k))(hk:1<=k):(bd n).length<=k:=vy (j7 h (Ws k)) hk
theorem ED{n k K:Nat}(h:n<2^K)(a:K<=3*k)(hk:1<=k):(bd n).length<=k:=KC (j7 h (j8 (by decide) a)) hk
def mD:Nat:=600
theorem GU{s:List Nat}(h:bM s=0):(aZ s).num.natAbs<10^mD/\(aZ s).den<10^mD:=by
 obtain⟨k,f,g⟩:=kC h;unfold bM at h
 split at h
 ·cases h
 rename_i a
 split at h
 ·cases h
 rename_i hl;have a:nu s=true:=by simpa using a
 simp only[nu,b2,b3,decide_eq_true_eq]at a;obtain⟨⟨b,_⟩,a3⟩:=a;have c:=jL _ _ rfl (jk b);have i:10^(bF s).length<=10^mD:=j8 o_ (by rw[mD];omega);refine⟨?_,?_⟩
 ·rw[f];have e:(if bQ s=true then -(aY (bF s):Int)else aY (bF s)).natAbs=aY (bF s):=by split<;>omega
  rw[e];exact j7 c i
 ·rw[g]
  by_cases hf:eh s=true
  ·rw[if_pos hf];rcases a3 with a3|a3
   ·rw[hf]at a3;cases a3
   ·have d:=jL _ _ rfl (jk a3.1.1);have j:10^(bU s).length<=10^mD:=j8 o_ (by rw[mD];omega);exact j7 d j
  ·rw[if_neg hf];exact Nat.one_lt_pow (by decide) o_
open Go
def cL(l:List UInt8):List Nat:=l.map (·.toNat)
theorem rV(l:List UInt8):(cL l).map p6=l:=by
 induction l with
 |nil=>rfl
 |cons a r b=>simp only[cL,hG]at b⊢;rw[b];simp
def mG(c:Nat):List Nat->Nat->Int
 |[],_=>-1
 |x::r,i=>bif nk x c then(i:Int)else mG c r (i+1)
theorem Nh(c:UInt8):∀(l:List UInt8)(i:Nat),mG c.toNat (cL l) i=if ec l c= -1 then -1 else ec l c+i
 |[],i=>by simp[mG,cL,ec]
 |x::r,i=>by
  have b:=Nh c r (i+1);simp only[cL]at b;simp only[cL,hG,mG,ec]
  by_cases hx:x=c
  ·subst hx;simp
  ·have e:nk x.toNat c.toNat=false:=by
    cases d:nk x.toNat c.toNat
    ·rfl
    ·exact(hx (p5.1 (m7 d))).elim
   have f:=Lib.indexByte_ge r c;simp only[e,cond_false,b,beq_iff_eq,hx,if_false]
   by_cases a:ec r c= -1
   ·simp[a]
   ·rw[if_neg a,if_neg a];rw[if_neg o_];omega
theorem z6(c:Nat):∀(s:List Nat)(k:Nat),((bP c s).2.2=false/\mG c s k= -1/\bP c s=(s,[],false))\/
 ∃i,i<s.length/\mG c s k=((k+i:Nat):Int)/\bP c s=(s.take i,s.drop (i+1),true)
 |[],k=>by simp[bP,mG]
 |x::r,k=>by
  rw[bP,mG]
  by_cases h:x=c
  ·subst h;right;refine⟨0,s_,?_,?_⟩
   ·simp
   ·simp
  ·have d:nk x c=false:=by
    cases d:nk x c
    ·rfl
    ·exact(h (m7 d)).elim
   rw[d,if_neg h,cond_false];rcases z6 c r (k+1)with⟨e,a,b⟩|⟨i,e,a,b⟩
   ·left;exact⟨e,a,by rw[b]⟩
   ·right;refine⟨i+1,by simp;omega,?_,?_⟩
    ·rw[a];congr 1;omega
    ·rw[b];simp
theorem Ei(n:Nat):cL (ea n)=bd n:=by
 induction n using n2 with
 |ind n a=>
  rw[ea]
  by_cases h:n<10
  ·rw[dif_pos h,bd];have c:nd n<=1:=rX o_;rw[show max 1 (nd n)=1 by omega];rw[show(1:Nat)=0+1 from rfl,tE,low,iz,j5 h];simp[cL,p7];omega
  ·rw[dif_neg h];have b:=a (n/10) o_;have e:nd n=nd (n/10)+1:=by
    have:=Ec (n:=n) (k:=1) o_;rw[l5]at this;exact this
   have d:0<nd (n/10):=wT o_;rw[bd,e,show max 1 (nd (n/10)+1)=max 1 (nd (n/10))+1 by omega,tE];have:cL (ea (n/10)++[p6 (48+n% 10)])=cL (ea (n/10))++[48+n% 10]:=by
    simp[cL,p7];omega
   rw[this,b,bd]
theorem aJ1(z:Int):cL (ew z)=bn z:=by
 rw[ew,bn]
 by_cases h:z<0
 ·rw[if_pos h,if_pos h];show 45::cL _=_;rw[Ei]
 ·rw[if_neg h,if_neg h,Ei];congr 1;omega
def sC(s:List Nat):Nat->List Nat
 |0=>[]
 |n+1=>s++sC s n
theorem Mq(s:List UInt8):∀n,sC (cL s) n=cL (eq s n)
 |0=>by simp[sC,eq,cL]
 |n+1=>by
  have a:=Mq s n;simp only[cL]at a;simp[sC,eq,cL,a]
theorem CX(c:Nat):∀n,sC [c] n=hV n c
 |0=>rfl
 |n+1=>by rw[sC,CX c n];rfl
theorem Cv(l:List UInt8):ei l [45]=bQ (cL l):=by
 cases l with
 |nil=>rfl
 |cons c r=>
  rw[ei,bQ];simp only[cL,hG,List.isPrefixOf,h3,b5,Option.some.injEq]
  by_cases h:c=45
  ·subst h;rfl
  ·have a:¬c.toNat=45:=fun e=>h (p5.1 e);have b:((45:UInt8)==c)=false:=by simpa using fun e=>h e.symm
   rw[b];simp[a]
theorem J3(l:List UInt8):cL (ee l [45])=bS (cL l):=by
 rw[ee,Cv,bS];cases h:bQ (cL l)
 ·simp
 ·cases l with
  |nil=>simp[cL,bQ]at h
  |cons c r=>simp[cL]
def lT(s:List Nat):List Nat:=s.dropWhile b9
def jA(s:List Nat):List Nat:=(s.reverse.dropWhile b9).reverse
theorem yl{p:Nat->Bool}:∀{s:List Nat},s.dropWhile p=[]↔s.all p=true
 |[]=>by simp
 |x::r=>by
  rw[List.dropWhile_cons];cases h:p x
  ·simp[h]
  ·simp[h,yl]
theorem W5(s:List Nat):lT (jA s)=[]↔s.all b9=true:=by
 rw[lT,yl,jA];constructor
 ·intro h
  by_cases a:s.reverse.dropWhile b9=[]
  ·rw[yl,hX]at a;exact a
  ·have b:=List.head_dropWhile_not b9 a;rw[hX,ix]at h;rw[h _ (List.head_mem a)]at b;cases b
 ·intro h;have:s.reverse.dropWhile b9=[]:=by rw[yl,hX];exact h
  rw[this];rfl
end Go.au
namespace Go.Proofs
open Go.Shelf
def Tryz.Wn:fv:=⟨fun|103=>256|210=>301|206=>304|n=>n,fun|9=>9|4=>4|24=>316|3=>3|n=>n,fun|n=>n⟩
theorem Tryz.aJ8:fl prog Wn:={
 mixed:=k_
 f103:=func256.trans (congrArg some k_)
 f206:=func304.trans (congrArg some k_)
 f210:=func301.trans (congrArg some k_)
 t3:=underlying3
 a3:=isAgg3
 z3:=sizeOf3
 v3:=zeroValue3
 t4:=underlying4
 a4:=isAgg4
 z4:=sizeOf4
 v4:=zeroValue4
 t9:=underlying9
 a9:=isAgg9
 z9:=sizeOf9
 v9:=zeroValue9
 t24:=underlying316
 a24:=isAgg316
 z24:=sizeOf316
 v24:=zeroValue316}
open Go.RowKit in
theorem Tryz.strings_CutPrefix(s p:ByteArray)(w:cx):
 cy prog 256 #[.string s,.string p] w fun e w'=>e=.returned (.tuple #[.string ⟨(ee s.data.toList p.data.toList).toArray⟩,.bool (ei s.data.toList p.data.toList)])/\w'=w:=Any.strings_CutPrefix aJ8 s p w
def Tryz.Wh:fv:=⟨fun|283=>273|n=>n,fun|3=>3|9=>9|4=>4|n=>n,fun|n=>n⟩
theorem Tryz.aKg:e6 prog Wh:={
 mixed:=k_
 f283:=func273.trans (congrArg some k_)
 t3:=underlying3
 a3:=isAgg3
 z3:=sizeOf3
 v3:=zeroValue3
 t4:=underlying4
 a4:=isAgg4
 z4:=sizeOf4
 v4:=zeroValue4
 t9:=underlying9
 a9:=isAgg9
 z9:=sizeOf9
 v9:=zeroValue9}
open Go.Lib in
theorem Tryz.internal_strconv_small(i:Nat)(h:i<100)(w:cx):
 cy prog 273 #[.int .i64 i] w fun e w'=>e=.returned (.string ⟨(ea i).toArray⟩)/\w'=w:=Any.internal_strconv_small aKg i h w
def Tryz.VF:fv:=⟨fun|284=>274|129=>317|317=>329|318=>330|n=>n,fun|53=>307|3=>3|212=>366|0=>0|4=>4|46=>322|5=>5|9=>9|n=>n,fun|17=>1|n=>n⟩
theorem Tryz.Ze:Go.Proofs.LaysM.n284 prog VF:={
 mixed:=k_
 f129:=func317.trans (congrArg some k_)
 f284:=func274.trans (congrArg some k_)
 f317:=func329.trans (congrArg some k_)
 f318:=func330.trans (congrArg some k_)
 t0:=underlying0
 a0:=isAgg0
 z0:=sizeOf0
 v0:=zeroValue0
 t3:=underlying3
 a3:=isAgg3
 z3:=sizeOf3
 v3:=zeroValue3
 t4:=underlying4
 a4:=isAgg4
 z4:=sizeOf4
 v4:=zeroValue4
 t5:=underlying5
 a5:=isAgg5
 z5:=sizeOf5
 v5:=zeroValue5
 t9:=underlying9
 a9:=isAgg9
 z9:=sizeOf9
 v9:=zeroValue9
 t46:=underlying322
 a46:=isAgg322
 z46:=sizeOf322
 v46:=zeroValue322
 t53:=underlying307
 a53:=isAgg307
 z53:=sizeOf307
 v53:=zeroValue307
 t212:=underlying366
 a212:=isAgg366
 z212:=sizeOf366
 v212:=zeroValue366
 g17:=k_
 i0:=k_
 i3:=k_
 i4:=k_
 i5:=k_
 i9:=k_
 i46:=k_
 i53:=k_
 i212:=k_
 m17:=k_}
open Go.Lib in
theorem Tryz.internal_strconv_numDigits(u:Nat)(h1:1<=u)(h2:u<18446744073709551616)(w:cx)(htab:en prog w "internal/strconv.uint64pow10" .u64 ej):
 cy prog 274 #[.int .u64 u] w fun e w'=>e=.returned (.int .i64 (eb u))/\w'=w:=Any.internal_strconv_numDigits Ze u h1 h2 w htab
def Tryz.Wg:fv:=⟨fun|285=>275|n=>n,fun|37=>116|53=>307|3=>3|4=>4|51=>355|9=>9|5=>5|0=>0|n=>n,fun|n=>n⟩
theorem Tryz.aKh:eL prog Wg:={
 mixed:=k_
 f285:=func275.trans (congrArg some k_)
 t0:=underlying0
 a0:=isAgg0
 z0:=sizeOf0
 v0:=zeroValue0
 t3:=underlying3
 a3:=isAgg3
 z3:=sizeOf3
 v3:=zeroValue3
 t4:=underlying4
 a4:=isAgg4
 z4:=sizeOf4
 v4:=zeroValue4
 t5:=underlying5
 a5:=isAgg5
 z5:=sizeOf5
 v5:=zeroValue5
 t9:=underlying9
 a9:=isAgg9
 z9:=sizeOf9
 v9:=zeroValue9
 t37:=underlying116
 a37:=isAgg116
 z37:=sizeOf116
 v37:=zeroValue116
 t51:=underlying355
 a51:=isAgg355
 z51:=sizeOf355
 v51:=zeroValue355
 t53:=underlying307
 a53:=isAgg307
 z53:=sizeOf307
 v53:=zeroValue307}
open Go.RowKit Go.Sort Go.Lib in
theorem Tryz.internal_strconv_formatBase10(al off cap:Nat)(u:Nat)(d:Array UInt8)(w:cx)(hH:Holds (fun(b:UInt8)=>gc .u8 (b.toNat:Int)) w al off d)(hu:u<10^d.size)(hu64:u<18446744073709551616)(hsz:d.size<4611686018427387904):
 cy prog 275 #[.slice (some ⟨al,off,none⟩) d.size cap,.int .u64 u] w fun e w'=>
  e=.returned (.tuple #[])/\∃(n v':Nat)(dk:Array UInt8),w'=(putRow (fun(b:UInt8)=>gc .u8 (b.toNat:Int)) w al off dk).drewN n/\FmtInv d.size u 0 v' dk:=Any.internal_strconv_formatBase10 aKh al off cap u d w hH hu hu64 hsz
def Tryz.Vs:fv:=⟨fun|171=>54|243=>140|246=>222|283=>273|284=>274|285=>275|286=>276|129=>317|317=>329|318=>330|319=>331|320=>332|337=>371|338=>372|n=>n,fun|3=>3|9=>9|2=>2|4=>4|171=>325|0=>0|53=>307|37=>116|5=>5|173=>328|212=>366|51=>355|20=>20|213=>367|46=>322|232=>417|233=>418|n=>n,fun|17=>1|18=>6|19=>7|n=>n⟩
theorem Tryz.Zf:Go.Proofs.LaysM.n171 prog Vs:={
 mixed:=k_
 f129:=func317.trans (congrArg some k_)
 f171:=func54.trans (congrArg some k_)
 f243:=func140.trans (congrArg some k_)
 f246:=func222.trans (congrArg some k_)
 f283:=func273.trans (congrArg some k_)
 f284:=func274.trans (congrArg some k_)
 f285:=func275.trans (congrArg some k_)
 f286:=func276.trans (congrArg some k_)
 f317:=func329.trans (congrArg some k_)
 f318:=func330.trans (congrArg some k_)
 f319:=func331.trans (congrArg some k_)
 f320:=func332.trans (congrArg some k_)
 f337:=func371.trans (congrArg some k_)
 f338:=func372.trans (congrArg some k_)
 t0:=underlying0
 a0:=isAgg0
 z0:=sizeOf0
 v0:=zeroValue0
 t2:=underlying2
 a2:=isAgg2
 z2:=sizeOf2
 v2:=zeroValue2
 t3:=underlying3
 a3:=isAgg3
 z3:=sizeOf3
 v3:=zeroValue3
 t4:=underlying4
 a4:=isAgg4
 z4:=sizeOf4
 v4:=zeroValue4
 t5:=underlying5
 a5:=isAgg5
 z5:=sizeOf5
 v5:=zeroValue5
 t9:=underlying9
 a9:=isAgg9
 z9:=sizeOf9
 v9:=zeroValue9
 t20:=underlying20
 a20:=isAgg20
 z20:=sizeOf20
 v20:=zeroValue20
 t37:=underlying116
 a37:=isAgg116
 z37:=sizeOf116
 v37:=zeroValue116
 t46:=underlying322
 a46:=isAgg322
 z46:=sizeOf322
 v46:=zeroValue322
 t51:=underlying355
 a51:=isAgg355
 z51:=sizeOf355
 v51:=zeroValue355
 t53:=underlying307
 a53:=isAgg307
 z53:=sizeOf307
 v53:=zeroValue307
 t171:=underlying325
 a171:=isAgg325
 z171:=sizeOf325
 v171:=zeroValue325
 t173:=underlying328
 a173:=isAgg328
 z173:=sizeOf328
 v173:=zeroValue328
 t212:=underlying366
 a212:=isAgg366
 z212:=sizeOf366
 v212:=zeroValue366
 t213:=underlying367
 a213:=isAgg367
 z213:=sizeOf367
 t232:=underlying417
 a232:=isAgg417
 z232:=sizeOf417
 v232:=zeroValue417
 t233:=underlying418
 a233:=isAgg418
 z233:=sizeOf418
 v233:=zeroValue418
 g17:=k_
 g18:=k_
 g19:=k_
 i0:=k_
 i2:=k_
 i3:=k_
 i4:=k_
 i5:=k_
 i9:=k_
 i20:=k_
 i37:=k_
 i46:=k_
 i51:=k_
 i53:=k_
 i171:=k_
 i173:=k_
 i212:=k_
 i232:=k_
 i233:=k_
 m17:=k_
 m18:=k_
 m19:=k_}
open Go.RowKit Go.Sort Go.Lib in
theorem Tryz.strconv_Itoa(n:Int)(h0: -9223372036854775808<=n)(h1:n<=9223372036854775807)(w:cx)(htab:en prog w "internal/strconv.uint64pow10" .u64 ej):
 cy prog 54 #[.int .i64 n] w fun e w'=>e=.returned (.string ⟨(ew n).toArray⟩)/\∃k os,w'=grow (w.drewN k) os:=Any.strconv_Itoa Zf n h0 h1 w htab
def Tryz.Vt:fv:=⟨fun|172=>263|244=>306|245=>307|247=>357|279=>358|280=>359|281=>360|282=>361|287=>380|316=>381|171=>54|205=>382|321=>387|322=>388|243=>140|246=>222|283=>273|284=>274|285=>275|286=>276|129=>317|317=>329|318=>330|319=>331|320=>332|337=>371|338=>372|n=>n,fun|9=>9|3=>3|75=>120|76=>121|4=>4|5=>5|167=>387|37=>116|0=>0|85=>388|2=>2|168=>390|53=>307|175=>407|46=>322|210=>411|127=>286|145=>427|143=>425|21=>21|171=>325|173=>328|212=>366|51=>355|20=>20|213=>367|232=>417|233=>418|80=>224|n=>n,fun|15=>4|16=>5|17=>1|18=>6|19=>7|n=>n⟩
theorem Tryz.Ev:Go.Proofs.LaysC.n172 prog Vt:={
 mixed:=k_
 f129:=func317.trans (congrArg some k_)
 f171:=func54.trans (congrArg some k_)
 f172:=func263.trans (congrArg some k_)
 f205:=func382.trans (congrArg some k_)
 f243:=func140.trans (congrArg some k_)
 f244:=func306.trans (congrArg some k_)
 f245:=func307.trans (congrArg some k_)
 f246:=func222.trans (congrArg some k_)
 f247:=func357.trans (congrArg some k_)
 f279:=func358.trans (congrArg some k_)
 f280:=func359.trans (congrArg some k_)
 f281:=func360.trans (congrArg some k_)
 f282:=func361.trans (congrArg some k_)
 f283:=func273.trans (congrArg some k_)
 f284:=func274.trans (congrArg some k_)
 f285:=func275.trans (congrArg some k_)
 f286:=func276.trans (congrArg some k_)
 f287:=func380.trans (congrArg some k_)
 f316:=func381.trans (congrArg some k_)
 f317:=func329.trans (congrArg some k_)
 f318:=func330.trans (congrArg some k_)
 f319:=func331.trans (congrArg some k_)
 f320:=func332.trans (congrArg some k_)
 f321:=func387.trans (congrArg some k_)
 f322:=func388.trans (congrArg some k_)
 f337:=func371.trans (congrArg some k_)
 f338:=func372.trans (congrArg some k_)
 t0:=underlying0
 a0:=isAgg0
 z0:=sizeOf0
 v0:=zeroValue0
 t2:=underlying2
 a2:=isAgg2
 z2:=sizeOf2
 v2:=zeroValue2
 t3:=underlying3
 a3:=isAgg3
 z3:=sizeOf3
 v3:=zeroValue3
 t4:=underlying4
 a4:=isAgg4
 z4:=sizeOf4
 v4:=zeroValue4
 t5:=underlying5
 a5:=isAgg5
 z5:=sizeOf5
 v5:=zeroValue5
 t9:=underlying9
 a9:=isAgg9
 z9:=sizeOf9
 v9:=zeroValue9
 t20:=underlying20
 a20:=isAgg20
 z20:=sizeOf20
 v20:=zeroValue20
 t21:=underlying21
 a21:=isAgg21
 z21:=sizeOf21
 v21:=zeroValue21
 t37:=underlying116
 a37:=isAgg116
 z37:=sizeOf116
 v37:=zeroValue116
 t46:=underlying322
 a46:=isAgg322
 z46:=sizeOf322
 v46:=zeroValue322
 t51:=underlying355
 a51:=isAgg355
 z51:=sizeOf355
 v51:=zeroValue355
 t53:=underlying307
 a53:=isAgg307
 z53:=sizeOf307
 v53:=zeroValue307
 t75:=underlying120
 a75:=isAgg120
 z75:=sizeOf120
 v75:=zeroValue120
 t76:=underlying121
 a76:=isAgg121
 z76:=sizeOf121
 v76:=zeroValue121
 t85:=underlying388
 a85:=isAgg388
 z85:=sizeOf388
 v85:=zeroValue388
 t127:=underlying286
 a127:=isAgg286
 z127:=sizeOf286
 v127:=zeroValue286
 t143:=underlying425
 a143:=isAgg425
 z143:=sizeOf425
 v143:=zeroValue425
 t145:=underlying427
 a145:=isAgg427
 z145:=sizeOf427
 v145:=zeroValue427
 t167:=underlying387
 a167:=isAgg387
 z167:=sizeOf387
 v167:=zeroValue387
 t168:=underlying390
 a168:=isAgg390
 z168:=sizeOf390
 v168:=zeroValue390
 t171:=underlying325
 a171:=isAgg325
 z171:=sizeOf325
 v171:=zeroValue325
 t173:=underlying328
 a173:=isAgg328
 z173:=sizeOf328
 v173:=zeroValue328
 t175:=underlying407
 a175:=isAgg407
 z175:=sizeOf407
 v175:=zeroValue407
 t210:=underlying411
 a210:=isAgg411
 z210:=sizeOf411
 v210:=zeroValue411
 t212:=underlying366
 a212:=isAgg366
 z212:=sizeOf366
 v212:=zeroValue366
 t213:=underlying367
 a213:=isAgg367
 z213:=sizeOf367
 t232:=underlying417
 a232:=isAgg417
 z232:=sizeOf417
 v232:=zeroValue417
 t233:=underlying418
 a233:=isAgg418
 z233:=sizeOf418
 v233:=zeroValue418
 g15:=k_
 g16:=k_
 g17:=k_
 g18:=k_
 g19:=k_
 t80:=underlying224
 a80:=isAgg224
 z80:=sizeOf224
 v80:=zeroValue224
 i0:=k_
 i2:=k_
 i3:=k_
 i4:=k_
 i5:=k_
 i9:=k_
 i20:=k_
 i21:=k_
 i37:=k_
 i46:=k_
 i51:=k_
 i53:=k_
 i75:=k_
 i76:=k_
 i80:=k_
 i85:=k_
 i127:=k_
 i143:=k_
 i145:=k_
 i167:=k_
 i168:=k_
 i171:=k_
 i173:=k_
 i175:=k_
 i210:=k_
 i212:=k_
 i232:=k_
 i233:=k_
 m15:=k_
 m16:=k_
 m17:=k_
 m18:=k_
 m19:=k_
 c0:=k_
 c2:=k_
 c3:=k_
 c4:=k_
 c5:=k_
 c9:=k_
 c20:=k_
 c21:=k_
 c37:=k_
 c46:=k_
 c51:=k_
 c53:=k_
 c75:=k_
 c76:=k_
 c80:=k_
 c85:=k_
 c127:=k_
 c143:=k_
 c145:=k_
 c167:=k_
 c168:=k_
 c171:=k_
 c173:=k_
 c175:=k_
 c210:=k_
 c212:=k_
 c213:=k_
 c232:=k_
 c233:=k_}
open Go.RowKit in
theorem Tryz.strconv_Atoi_ok(s:ByteArray)(hmax:s.size<=9223372036854775806)(v:Int)(h:er s.data.toList= .ok v)(w:cx):
 cy prog 263 #[.string s] w fun e w'=>e=.returned (.tuple #[.int .i64 v,.nilIface])/\(w'=w\/∃t,w'=Lib.bytesWorld w 5 t):=Any.strconv_Atoi_ok Ev s hmax v h w
open Go.RowKit in
theorem Tryz.strconv_Atoi_syntax(s:ByteArray)(hlim:s.size<=281474976710656)(h:(er s.data.toList).ctorIdx=1)(ev:cN)(w:cx)(hv:w.cell? ⟨4,0,none⟩=some ev)(hev:ev= .nilIface\/∃te pe,ev= .iface te pe):
 cy prog 263 #[.string s] w fun e w'=>∃N,e=.returned (.tuple #[.int .i64 (0),.iface 390 (.pointer (some ⟨N,0,none⟩))])/\w.heap.size<=N/\w'.heap[N]?=some (.cells #[.string ⟨#[65,116,111,105]⟩,.string s,ev] 411 (0,0))/\Below w.heap.size w w':=by
 cases x:er s.data.toList<;>rw[x]at h<;>first|exact Any.strconv_Atoi_syntax Ev s hlim x ev w hv hev|exact absurd h Nat.zero_ne_one|exact absurd h (by decide)
open Go.RowKit in
theorem Tryz.strconv_Atoi_range(s:ByteArray)(hlim:s.size<=281474976710656)(h:er s.data.toList= .range)(ev:cN)(w:cx)(hv:w.cell? ⟨5,0,none⟩=some ev)(hev:ev= .nilIface\/∃te pe,ev= .iface te pe):
 cy prog 263 #[.string s] w fun e w'=>∃N,e=.returned (.tuple #[.int .i64 (Lib.atoiSat s.data.toList),.iface 390 (.pointer (some ⟨N,0,none⟩))])/\w.heap.size<=N/\w'.heap[N]?=some (.cells #[.string ⟨#[65,116,111,105]⟩,.string s,ev] 411 (0,0))/\Below w.heap.size w w':=Any.strconv_Atoi_range Ev s hlim h ev w hv hev
def Tryz.Wj:fv:=⟨fun|219=>303|217=>353|225=>354|224=>355|267=>356|266=>378|314=>379|n=>n,fun|9=>9|3=>3|4=>4|5=>5|46=>322|146=>402|51=>355|n=>n,fun|1=>0|n=>n⟩
theorem Tryz.aKe:e8 prog Wj:={
 mixed:=k_
 f217:=func353.trans (congrArg some k_)
 f219:=func303.trans (congrArg some k_)
 f224:=func355.trans (congrArg some k_)
 f225:=func354.trans (congrArg some k_)
 f266:=func378.trans (congrArg some k_)
 f267:=func356.trans (congrArg some k_)
 f314:=func379.trans (congrArg some k_)
 t3:=underlying3
 a3:=isAgg3
 z3:=sizeOf3
 v3:=zeroValue3
 t4:=underlying4
 a4:=isAgg4
 z4:=sizeOf4
 v4:=zeroValue4
 t5:=underlying5
 a5:=isAgg5
 z5:=sizeOf5
 v5:=zeroValue5
 t9:=underlying9
 a9:=isAgg9
 z9:=sizeOf9
 v9:=zeroValue9
 t46:=underlying322
 a46:=isAgg322
 z46:=sizeOf322
 v46:=zeroValue322
 t51:=underlying355
 a51:=isAgg355
 z51:=sizeOf355
 v51:=zeroValue355
 t146:=underlying402
 a146:=isAgg402
 z146:=sizeOf402
 v146:=zeroValue402
 g1:=k_}
open Go.RowKit Go.Lib in
theorem Tryz.stringslite_Index_one(s:ByteArray)(c:UInt8)(w:cx):
 cy prog 303 #[.string s,.string ⟨#[c]⟩] w fun e w'=>e=.returned (.int .i64 (ec s.data.toList c))/\w'=w:=Any.stringslite_Index_one aKe s c w
def Tryz.WY:fv:=⟨fun|99=>261|206=>304|n=>n,fun|9=>9|4=>4|3=>3|n=>n,fun|n=>n⟩
theorem Tryz.aKi:ez prog WY:={
 mixed:=k_
 f99:=func261.trans (congrArg some k_)
 f206:=func304.trans (congrArg some k_)
 t3:=underlying3
 a3:=isAgg3
 z3:=sizeOf3
 v3:=zeroValue3
 t4:=underlying4
 a4:=isAgg4
 z4:=sizeOf4
 v4:=zeroValue4
 t9:=underlying9
 a9:=isAgg9
 z9:=sizeOf9
 v9:=zeroValue9}
open Go.RowKit Go.Lib in
theorem Tryz.strings_HasPrefix(s p:ByteArray)(w:cx):
 cy prog 261 #[.string s,.string p] w fun e w'=>e=.returned (.bool (ei s.data.toList p.data.toList))/\w'=w:=Any.strings_HasPrefix aKi s p w
def Tryz.Wo:fv:=⟨fun|101=>262|208=>305|206=>304|n=>n,fun|9=>9|4=>4|3=>3|n=>n,fun|n=>n⟩
theorem Tryz.aJ6:fm prog Wo:={
 mixed:=k_
 f101:=func262.trans (congrArg some k_)
 f206:=func304.trans (congrArg some k_)
 f208:=func305.trans (congrArg some k_)
 t3:=underlying3
 a3:=isAgg3
 z3:=sizeOf3
 v3:=zeroValue3
 t4:=underlying4
 a4:=isAgg4
 z4:=sizeOf4
 v4:=zeroValue4
 t9:=underlying9
 a9:=isAgg9
 z9:=sizeOf9
 v9:=zeroValue9}
open Go.RowKit Go.Lib in
theorem Tryz.strings_TrimPrefix(s p:ByteArray)(w:cx):
 cy prog 262 #[.string s,.string p] w fun e w'=>e=.returned (.string ⟨(ee s.data.toList p.data.toList).toArray⟩)/\w'=w:=Any.strings_TrimPrefix aJ6 s p w
def Tryz.JP:fv:=⟨fun|105=>288|212=>344|99=>261|165=>221|166=>52|170=>141|169=>142|263=>374|264=>247|206=>304|240=>138|241=>272|276=>220|277=>328|n=>n,fun|9=>9|3=>3|4=>4|20=>20|0=>0|46=>322|109=>377|5=>5|72=>118|76=>121|51=>355|146=>402|53=>307|148=>308|70=>115|37=>116|75=>120|127=>286|164=>282|80=>224|n=>n,fun|n=>n⟩
theorem Tryz.aJ9:fd prog JP:={
 mixed:=k_
 f99:=func261.trans (congrArg some k_)
 f105:=func288.trans (congrArg some k_)
 f165:=func221.trans (congrArg some k_)
 f166:=func52.trans (congrArg some k_)
 f169:=func142.trans (congrArg some k_)
 f170:=func141.trans (congrArg some k_)
 f206:=func304.trans (congrArg some k_)
 f212:=func344.trans (congrArg some k_)
 f240:=func138.trans (congrArg some k_)
 f241:=func272.trans (congrArg some k_)
 f263:=func374.trans (congrArg some k_)
 f264:=func247.trans (congrArg some k_)
 f276:=func220.trans (congrArg some k_)
 f277:=func328.trans (congrArg some k_)
 t0:=underlying0
 a0:=isAgg0
 z0:=sizeOf0
 v0:=zeroValue0
 t3:=underlying3
 a3:=isAgg3
 z3:=sizeOf3
 v3:=zeroValue3
 t4:=underlying4
 a4:=isAgg4
 z4:=sizeOf4
 v4:=zeroValue4
 t5:=underlying5
 a5:=isAgg5
 z5:=sizeOf5
 v5:=zeroValue5
 t9:=underlying9
 a9:=isAgg9
 z9:=sizeOf9
 v9:=zeroValue9
 t20:=underlying20
 a20:=isAgg20
 z20:=sizeOf20
 v20:=zeroValue20
 t37:=underlying116
 a37:=isAgg116
 z37:=sizeOf116
 v37:=zeroValue116
 t46:=underlying322
 a46:=isAgg322
 z46:=sizeOf322
 v46:=zeroValue322
 t51:=underlying355
 a51:=isAgg355
 z51:=sizeOf355
 v51:=zeroValue355
 t53:=underlying307
 a53:=isAgg307
 z53:=sizeOf307
 v53:=zeroValue307
 t70:=underlying115
 a70:=isAgg115
 z70:=sizeOf115
 v70:=zeroValue115
 t72:=underlying118
 a72:=isAgg118
 z72:=sizeOf118
 v72:=zeroValue118
 t75:=underlying120
 a75:=isAgg120
 z75:=sizeOf120
 v75:=zeroValue120
 t76:=underlying121
 a76:=isAgg121
 z76:=sizeOf121
 v76:=zeroValue121
 t109:=underlying377
 a109:=isAgg377
 z109:=sizeOf377
 v109:=zeroValue377
 t127:=underlying286
 a127:=isAgg286
 z127:=sizeOf286
 v127:=zeroValue286
 t146:=underlying402
 a146:=isAgg402
 z146:=sizeOf402
 v146:=zeroValue402
 t148:=underlying308
 a148:=isAgg308
 z148:=sizeOf308
 v148:=zeroValue308
 t164:=underlying282
 a164:=isAgg282
 z164:=sizeOf282
 v164:=zeroValue282}
theorem Tryz.U2:Builder.Extra prog JP:={
 sizeBuilder:=k_
 liesBuilder:=k_
 t5:=underlying5
 a5:=isAgg5
 z5:=sizeOf5
 v5:=zeroValue5
 infoByte:=k_
 cellsByte:=k_
 sizeByte:=k_
 neB5:=by decide}
open Go.RowKit Go.Lib in
theorem Tryz.strings_Repeat(s:ByteArray)(c:Nat)(w:cx)(hc:c<=9223372036854775807)(hlen:s.size*c<=140737488355328):
 cy prog 288 #[.string s,.int .i64 c] w fun e w'=>e=.returned (.string ⟨(eq s.data.toList c).toArray⟩)/\Below w.heap.size w w':=Any.strings_Repeat aJ9 U2 s c w hc hlen
end Go.Proofs
namespace Go.Proofs
open Go.Shelf Go.RowKit Go.Sort Go.Lib
set_option maxHeartbeats 6400000 in
set_option maxRecDepth 100000 in
theorem Tryz.U0(u:Nat)(hu64:u<18446744073709551616)(w:cx)
 (htab:en prog w "internal/strconv.uint64pow10" .u64 ej):
 cy prog 343 #[.int .u64 u,.int .i64 10] w fun e w'=>e=.returned (.string ⟨(ea u).toArray⟩)/\∃k os,w'=grow (w.drewN k) os:=by
 have e273:∀args w,(callFunc 273 args).run prog w=.ok (.enter 273 args) w:=enters_of func273 k_ rfl;have e274:∀args w,(callFunc 274 args).run prog w=.ok (.enter 274 args) w:=enters_of func274 k_ rfl;have e275:∀args w,(callFunc 275 args).run prog w=.ok (.enter 275 args) w:=enters_of func275 k_ rfl
 by_cases hs:u<100
 ·go_enter func343,ntmps343
  go_wp2_with (go_at_fn 273;refine(internal_strconv_small u hs _).mono ?_;rintro e w' ⟨rfl,rfl⟩)
  go_ret
  exact⟨rfl,0,#[],by simp[World.drewN_zero]⟩
 ·have hu1:1<=u:=by omega
  have hnd20:eb u<=20:=by have:=Lib.numDigits_eq u hu1 hu64;split at this<;>omega
  have hb3:eb u<=24:=o_
  have hal:prog.arrayLen 325=24:=k_
  have hsl1:∀W,(Instr.sliceAt 325 (.pointer (some ⟨w.heap.size,0,none⟩)) none (some (.int .i64 (eb u:Int))) none).run prog W=.ok (.slice (some ⟨w.heap.size,0,none⟩) (eb u) 24) W:=fun W=>by
   rw[run_sliceAt_array_h W 325 ⟨w.heap.size,0,none⟩ k_ .i64 (eb u:Int) o_ (by rw[hal];omega)]
   go_simp
  have hH0:=Lib.holds_zero0 w 325 (eb u) hb3;have hfmt:=internal_strconv_formatBase10 w.heap.size 0 24 u (Array.replicate (eb u) 0) (w.alloc (.cells ed 325)) hH0 (by rw[b0];exact Lib.lt_pow_nDigits u) hu64 (by rw[b0];omega);rw[b0]at hfmt;have HH0:=Lib.hid hH0;clear hH0 hal
  go_enter func343,ntmps343
  go_wp2_with (first
   |(go_at_fn 274;refine(internal_strconv_numDigits u hu1 hu64 _ (Lib.tabIs_alloc htab _)).mono ?_;rintro e w' ⟨rfl,rfl⟩))
  go_at_fn 275
  refine hfmt.mono ?_;rintro e w' ⟨rfl,k,v',dk,rfl,hF⟩;have hcv:(convert 116 9 (.slice (some ⟨w.heap.size,0,none⟩) (eb u) 24)).run prog ((putRow (fun(b:UInt8)=>gc .u8 (b.toNat:Int)) (w.alloc (.cells ed 325)) w.heap.size 0 dk).drewN k)=.ok (.string ⟨(ea u).toArray⟩) ((putRow (fun(b:UInt8)=>gc .u8 (b.toNat:Int)) (w.alloc (.cells ed 325)) w.heap.size 0 dk).drewN k):=by
   have h:=run_convert_bytes_back (P:=prog) ((putRow (fun(b:UInt8)=>gc .u8 (b.toNat:Int)) (w.alloc (.cells ed 325)) w.heap.size 0 dk).drewN k) 116 9 5 ⟨w.heap.size,0,none⟩ 24 (ea u) k_ k_ k_ (fun j hj=>by
    rw[Lib.row_is_numeral hF j hj,Lib.add_plain,World.cell?_drewN];exact cell?_putRow (fun(b:UInt8)=>gc .u8 (b.toNat:Int)) _ w.heap.size 0 _ dk HH0.out (by rw[hF.size,b0]) j (by rw[hF.size];rw[et]at hj;exact hj))
   rw[et]at h;exact h
  go_wp2
  go_ret
  obtain⟨os,eo⟩:=Lib.fin_at w (.cells ed 325) dk k 0;exact⟨rfl,k,os,eo⟩
end Go.Proofs
namespace Go.au
open Go.Proofs
theorem rA{P:cE}{w:cx}{aa:Nat->Prop}(l:List UInt8):aB P w aa (.str (cL l)) (.string ⟨l.toArray⟩):=by
 simp only[aB];exact⟨_,rfl,by simp[cL]⟩
theorem jQ{P:cE}{w:cx}{aa:Nat->Prop}{s:List Nat}{v:cN}(h:aB P w aa (.str s) v):∃bs:ByteArray,v=.string bs/\s=cL bs.data.toList:=by
 simp only[aB]at h;obtain⟨bs,rfl,rfl⟩:=h;exact⟨bs,rfl,rfl⟩
theorem one_byte{w:cx}{aa:Nat->Prop}{c:Nat}{v:cN}(h:aB prog w aa (.str [c]) v):∃b:UInt8,v=.string ⟨#[b]⟩/\c=b.toNat:=by
 obtain⟨bs,rfl,f⟩:=jQ h;clear h;have h:=f;clear f
 match e:bs.data.toList with
 |[]=>rw[e]at h;simp[cL]at h
 |[b]=>
  rw[e]at h;simp[cL]at h;refine⟨b,?_,h⟩;congr 1;cases bs with
  |mk d=>simp at e⊢;exact Array.ext' (by simpa using e)
 |a::b::r=>rw[e]at h;simp[cL]at h
theorem Ej{w:cx}{aa:Nat->Prop}{v:cN}(h:aB prog w aa (.str [45]) v):v=.string ⟨#[45]⟩:=by
 obtain⟨b,rfl,a⟩:=one_byte h;have:b=45:=p5.1 a.symm;rw[this]
theorem BZ(s:List Nat)(c:Nat):aA prog 303 [.str s,.str [c]] (.int .i64 (mG c s 0)):=by
 refine jh (il func303 k_) fun w aa g _ _ f=>?_;obtain⟨x,y,rfl,a,d⟩:=lR f;obtain⟨b,rfl,rfl⟩:=one_byte d;obtain⟨bs,rfl,rfl⟩:=jQ a;refine(stringslite_Index_one bs b w).mono ?_;rintro e w' ⟨rfl,rfl⟩;refine⟨_,rfl,⟨la _,fun _ _=>rfl,rfl,rfl⟩,fun w aa=>?_⟩;have e1:=Nh b bs.data.toList 0;simp only[aB]at e1⊢;rw[e1]
 by_cases h:ec bs.data.toList b= -1<;>simp[h]
theorem ahl(s:List Nat)(c:Nat)(h:s.length<=1048576):aA prog 260 [.str s,.str [c]] (.aE [.str (bP c s).1,.str (bP c s).2.1,.bool (bP c s).2.2]):=by
 refine aM nf (i_ func260) mix (by simp[f260]) ?_;simp[f260];refine c2 (BZ s c) ?_;rcases z6 c s 0 with⟨_,a,b⟩|⟨i,d,a,b⟩
 ·simp[a,b]
 ·rw[l4]at a;have w:=bY (i:=i) o_;have e1:((i:Int)+1).toNat=i+1:=by omega
  simp[a,b,w,e1];omega
theorem QR(s:List Nat)(c:Nat)(h:s.length<=1048576):aA prog 192 [.str s,.str [c]] (.aE [.str (bP c s).1,.str (bP c s).2.1,.bool (bP c s).2.2]):=by
 refine aM nf (i_ func192) mix (by simp[f192]) ?_;simp[f192];refine c2 (ahl s c h) ?_;simp
theorem Z5(s:List Nat):aA prog 261 [.str s,.str [45]] (.bool (bQ s)):=by
 refine jh (il func261 k_) fun w aa d _ _ c=>?_;obtain⟨x,y,rfl,a,b⟩:=lR c;obtain rfl:=Ej b;obtain⟨bs,rfl,rfl⟩:=jQ a;refine(strings_HasPrefix bs _ w).mono ?_;rintro e w' ⟨rfl,rfl⟩;exact⟨_,rfl,⟨la _,fun _ _=>rfl,rfl,rfl⟩,fun w aa=>by rw[<-Cv];simp only[aB]⟩
theorem Dt(s:List Nat):aA prog 262 [.str s,.str [45]] (.str (bS s)):=by
 refine jh (il func262 k_) fun w aa d _ _ c=>?_;obtain⟨x,y,rfl,a,b⟩:=lR c;obtain rfl:=Ej b;obtain⟨bs,rfl,rfl⟩:=jQ a;refine(strings_TrimPrefix bs _ w).mono ?_;rintro e w' ⟨rfl,rfl⟩;exact⟨_,rfl,⟨la _,fun _ _=>rfl,rfl,rfl⟩,fun w aa=>by rw[<-J3];exact rA _⟩
theorem ZI(s:List Nat):aA prog 256 [.str s,.str [45]] (.aE [.str (bS s),.bool (bQ s)]):=by
 refine jh (il func256 k_) fun w aa d _ _ c=>?_;obtain⟨x,y,rfl,a,b⟩:=lR c;obtain rfl:=Ej b;obtain⟨bs,rfl,rfl⟩:=jQ a;refine(strings_CutPrefix bs _ w).mono ?_;rintro e w' ⟨rfl,rfl⟩;refine⟨_,rfl,⟨la _,fun _ _=>rfl,rfl,rfl⟩,fun w aa=>?_⟩;rw[<-J3,<-Cv];simp only[aB,bm];refine⟨[_,_],⟨_,_,rfl,?_,_,_,rfl,rfl,rfl⟩,rfl⟩;exact⟨_,rfl,by simp[cL]⟩
theorem O0{w:cx}{aa:Nat->Prop}(b:mr prog w aa):en prog w "internal/strconv.uint64pow10" .u64 ej:=by
 obtain⟨_,T,a⟩:=b.raw 1 _ rfl;have c:prog.globalNamed "internal/strconv.uint64pow10" =some 1:=k_
 simp only[en,World.var?,c,Option.bind_some,a];rfl
theorem qD(n:Int)(b:-9223372036854775808<=n)(h1:n<=9223372036854775807):aA prog 54 [.int .i64 n] (.str (bn n)):=by
 refine jh (il func54 k_) fun w aa f _ d c=>?_;obtain⟨x,rfl,a⟩:=tY c;simp only[aB]at a;subst a;refine(strconv_Itoa n b h1 w (O0 d)).mono ?_;rintro e w' ⟨rfl,k,os,rfl⟩;refine⟨_,rfl,⟨?_,fun k hk=>?_,rfl,rfl⟩,fun w aa=>?_⟩
 ·simp[gb,World.drewN]
 ·simp only[gb];exact b1 hk
 ·rw[<-aJ1];exact rA _
theorem aia(u:Nat)(f:u<18446744073709551616):aA prog 343 [.int .u64 u,.int .i64 10] (.str (bd u)):=by
 refine jh (il func343 k_) fun w aa g _ d c=>?_;obtain⟨x,y,rfl,a,b⟩:=lR c;simp only[aB]at a b;subst a b;refine(U0 u f w (O0 d)).mono ?_;rintro e w' ⟨rfl,k,os,rfl⟩;refine⟨_,rfl,⟨?_,fun k hk=>?_,rfl,rfl⟩,fun w aa=>?_⟩
 ·simp[gb,World.drewN]
 ·simp only[gb];exact b1 hk
 ·rw[<-Ei];exact rA _
theorem QS(u:Nat)(a:u<18446744073709551616):aA prog 287 [.int .u64 u,.int .i64 10] (.str (bd u)):=by
 refine aM nf (i_ func287) mix (by simp[f287]) ?_;simp[f287];refine c2 (aia u a) ?_;simp
theorem QU(s:List Nat)(c:Nat)(hc:c<=9223372036854775807)(hl:s.length*c<=140737488355328):aA prog 288 [.str s,.int .i64 c] (.str (sC s c)):=by
 refine jh (il func288 k_) fun w aa g _ h f=>?_;obtain⟨x,y,rfl,d,b⟩:=lR f;obtain⟨bs,rfl,rfl⟩:=jQ d;simp only[aB]at b;subst b;refine(strings_Repeat bs c w hc (by simpa[cL]using hl)).mono ?_;rintro e w' ⟨rfl,a⟩;exact⟨_,rfl,⟨a.size,a.block,a.os,a.output⟩,fun w aa=>by
  rw[Mq];exact rA _⟩
theorem B0(s:List Nat)(v:Int)(h:er (s.map p6)=.ok v)(hl:s.length<=9223372036854775806):aA prog 263 [.str s] (.aE [.int .i64 v,.gl]):=by
 refine jh (il func263 k_) fun w aa f _ g c=>?_;obtain⟨x,rfl,b⟩:=tY c;obtain⟨bs,rfl,rfl⟩:=jQ b;rw[rV]at h;refine(strconv_Atoi_ok bs (by simpa[cL]using hl) v h w).mono ?_;rintro e w' ⟨rfl,d⟩;refine⟨_,rfl,?_,fun w aa=>by simp[aB,bm]⟩;rcases d with rfl|⟨t,rfl⟩
 ·exact⟨la _,fun _ _=>rfl,rfl,rfl⟩
 ·have a:=Lib.bytesWorld_below w 5 t;exact⟨a.size,a.block,a.os,a.output⟩
end Go.au
