import Derived.Test.YtpojdjgcpgnaeaaGreatDoorMPD
import Derived.Deep.DeepHandedRow
import Derived.Deep.DeepWitnessRowRef
import Derived.Seven
import Derived.SevenTiedAt
import Derived.Test.YtpojdjgcpgnaeaaGreatDoorMPA
import Derived.KernelRfl
import Derived.Shelf.Spec.BitsCarry
import Derived.Shelf.Strings.Builder1
import Derived.Shelf.Strings.Builder2
import Derived.Shelf.Small.Utf8
import Derived.Shelf.Small.Bits
import Derived.Shelf.Small.Strs
import Derived.Shelf.Small.Wraps
import Derived.Shelf.Strings.BuilderF
import Derived.Shelf.Strconv.Atoi
import Derived.Shelf.Strconv.Itoa0
import Derived.Shelf.Strconv.Itoa1
import Derived.Shelf.LaysM
import Derived.Shelf.Strconv.Itoa2
import Derived.Shelf.Strconv.Itoa3
import Derived.Shelf.Strconv.AtoiErrFast
import Derived.Shelf.Strconv.ParseIntEmpty
import Derived.Shelf.Strconv.AtoiFail
import Derived.Shelf.Strconv.Clone
import Derived.Shelf.Strconv.SyntaxError
import Derived.Shelf.LaysC
import Derived.Shelf.Strconv.ToError
import Derived.Shelf.Strconv.Lower
import Derived.Shelf.Strconv.ParseUint10
import Derived.Shelf.Strconv.ParseUint10Empty
import Derived.Shelf.Strconv.ParseUint10Any
import Derived.Shelf.Strconv.ParseInt10
import Derived.Shelf.Strconv.AtoiLong
import Derived.Shelf.Strconv.AtoiInnerAll
import Derived.Shelf.Strconv.RangeError
import Derived.Shelf.Strconv.ToErrorRange
import Derived.Shelf.Strconv.AtoiAll
import Derived.Shelf.Strings.Search1
import Derived.Shelf.Strings.Search2
import Derived.Shelf.Strings.Cut
import Derived.Shelf.Strings.Shaped
import Derived.Shelf.Strings.Prefix
import Derived.Shelf.Unicode.Decode
import Derived.Shelf.Strings.Runes
import Derived.Shelf.Strings.AsciiSet
import Derived.Shelf.Bits.Mul64
import Derived.Shelf.Strings.Repeat
import Derived.Shelf.Unicode.DecodeSlow
import Derived.Shelf.Unicode.DecodeAny
import Derived.Shelf.Unicode.DecodeLast
import Derived.Shelf.Slices.Turned
import Derived.Test.YtpojdjgcpgnaeaaGreatDoorProg
import Derived.Lib.ItoaNum
import Derived.Lib.Strings
import Derived.Lib.Repeat
import Derived.Lib.Bytealg
import Derived.Test.YtpojdjgcpgnaeaaGreatDoorMThA
import Derived.Lib.Walk
import Derived.Lib.ItoaMem
import Derived.WalkKit
import Derived.BigCall
import Derived.BigGuard
import Derived.Lib.AppendIntMem
import Derived.Lib.Builder
import Derived.Laws.Externs
import Derived.Shelf.RegionOpenPlain
/- Parts of a proof. -/
set_option maxRecDepth 100000
set_option maxHeartbeats 4000000
set_option linter.unusedSimpArgs false
set_option linter.unusedVariables false
set_option linter.unusedSectionVars false
open Go.Proofs.Tryz
open Array renaming size_replicate->b0, getElem?_append_left->b1
open Bool renaming and_eq_true->b2, or_eq_true->b3, not_eq_true'->b4, and_false->b5, and_true->ca, and_eq_false_iff->cb, false_and->cc, true_and->ck
open Classical renaming choose_spec->cx, choose->cy, em->c6
open Go renaming World->da, Calls->db, Program->dg, run_callFunc_extern->dl, FuncId->dp, Value->dq, OpenSpec->dx, TypeId->dy, Checked->dz, ReturnsInHanded->ea
open Go.IntKind renaming u64->eb, i64->ec, wrap_i64->ed
open Go.Lib renaming bitLen->ee, decDigits->ei, nDigits->ej, indexByte->ek, zeros24->en, trimPrefix->eq, hasPrefix->er, pow10Tab->ew, TabIs->ey, repeatL->eP, decDigits_length->e7, itoa->e8, atoiAll->e9
open Go.Oper renaming upon_value->fa
open Go.Proofs.Lays renaming n99->fb, n285->fd, n283->fi, n264->fl, n219->fm, n134->fp, n129->fv, n105->gb, n103->gc, n101->ge
open Go.Result renaming andThen->gg
open Go.Shelf renaming Ren->gi
open Go.Sort renaming grow->gj
open Go.Value renaming int->gm
open Int renaming natAbs_mul->gt, natAbs_natCast->gx, ediv_emod_unique->gy, natCast_mul->gU, lt_trichotomy->g0, ediv_nonneg->g5, lt_of_le_of_lt->g6, emod_lt_of_pos->g7, lt_or_le->g8, le_of_lt->g9, ediv_le_self->ha, emod_nonneg->hb, natAbs_sign_of_ne_zero->hd, natAbs_neg->hg, fdiv_eq_ediv_of_nonneg->hl, ediv_lt_of_lt_mul->ho, tmod_lt_of_pos->hp, ofNat_dvd_left->hr, lt_tmod_of_pos->ht, natAbs_add_le->hv, natCast_add->hA, mul_ne_zero->hB, mul_le_mul->hC, ediv_one->hD, mul_sub->hE, mul_neg->hG
open List renaming range->hJ, getElem?_eq_getElem->hK, take_of_length_le->hL, map_cons->hM, exists_cons_of_ne_nil->hN, append_nil->hO, replicate->hP, ext_getElem->hQ, cons_append->hS, length_nil->hT, map_congr_left->hU, all_cons->hV, length_eq_zero_iff->hW, length_cons->hX, mem_cons->hZ, take_succ_eq_append_getElem->h3, mem_map->h4, all_reverse->h5, all_eq_true->h6, head?_cons->h7, dropLast_concat_getLast->h8, mem_range->h9, map_take->ih, map_map->ii, getElem?_range->ik, getElem_range->ip, length_range->ix, getElem?_map->iy, getElem_set->i6, getElem_map->i7, nil_append->i8, length_map->jh, foldl_cons->jp, all_append->js, range_one->j0, map_nil->j1, all_nil->j2
open List.cons renaming injEq->j3
open Nat renaming mul_comm->j4, div_lt_iff_lt_mul->j5, mod_eq_of_lt->j6, lt_of_lt_of_le->j7, pow_le_pow_right->j8, pow_succ->j9, pow_pos->kb, div_div_eq_div_mul->kc, lt_of_le_of_lt->kk, mul_le_mul_right->km, mod_lt->ko, mul_le_mul_left->kp, div_add_mod->kr, div_eq_of_lt->kv, mul_assoc->kw, le_refl->ky, add_mul->la, pow_add->lb, lt_or_ge->lc, pow_zero->li, eq_zero_or_pos->lk, add_sub_cancel->ll, mod_add_div->lm, mul_lt_mul''->lq, add_mul_mod_self_right->ls, le_div_iff_mul_le->lt, add_mul_div_left->lu, add_comm->lv, div_mul_le_self->lw, mul_lt_mul_of_pos_right->lz, one_mul->l0, mul_add->l1, add_mul_div_right->l2, mul_right_comm->l3, div_le_self->l4, div_one->l5, zero_add->mb, pow_one->md, le_trans->me, mod_mul_right_mod->mj, mul_mod_mul_left->mm, mod_one->mo, add_zero->mp, mod_mul_right_div_self->ms, add_mul_mod_self_left->mx, div_pos->my, add_sub_cancel_left->m1, zero_mul->m2, lt_trans->m3, gcd->m4, div_lt_self->m5, mul_div_mul_right->m6, eq_of_beq_eq_true->m7, zero_le->m8, mul_pos->m9, mul_one->na, mul_le_mul->nb, div_le_div_right->nc, beq->nk, lt_div_mul_add->nm, mul_left_comm->np, and_two_pow_sub_one_eq_mod->ns, pow_mul->n0, mod_mul->n3, add_mod->oa, strongRecOn->ob, min_eq_left->oe, pow_lt_pow_iff_right->oi, add_assoc->oj, le_mul_of_pos_right->ol, zero_mod->oo, sub_zero->oq, le_of_eq->ot, le_mul_of_pos_left->ox, gcd_comm->oz, mul_mod_mul_right->oA, not_lt->oB, lt_of_succ_lt->oD, gcd_one_right->oF, add_mod_right->oK, lt_succ_self->oP, gcd_dvd_left->oR, mul_ne_zero->oS, mul_add_div->oU, lt_succ_iff->oV, le_of_lt->oW, pow_two->o0, or_comm->o1, mod_le->o2
open Rat renaming divInt->o3, normalize_eq_mkRat->o4, num_eq_zero->o5, sub_eq_add_neg->o6, add_def'->o7, neg_num->pa, neg_den->pb, mul_def->pd, inv_def->pm, div_def->pp, not_lt->pr, lt_iff->ps
open UInt8 renaming toNat_inj->pu, ofNat->pw, toNat_ofNat'->p1
namespace Go.az
open Go.Proofs
section
variable{H:Type}{enc:dy×dq->H}
theorem aFU{p:Pinned}{C:dz}{P:dg}(b:p.checked=C)(d:C.prog=P){s:dx}{c:OpenClaim}(f:dp)(fn:Func)
 (hn:c.program=p.name)(hs:c.sum=p.sum)(o:c.spec=s.name)
 (q:c.start=.entering)(n:c.outside=[])(aA:c.inits=[])(t:c.under=none)(i:c.initsInPlace=[]/\c.initsUnfollowed=false/\c.initsRecurse=false/\c.initsNamed=[]/\c.initsPassed=[])(m:c.noBlocks=false)(k:c.leaving=false)(g:c.followed=none)(l:c.narrowed=s.cond.isSome)(r:c.still=false)
 (e:P.funcNamed c.func=some f)(hf:P.funcs[f]?=some fn)
 (closed:joinedFacts P f fn s.bare c=true)
 (j:fn.isInstance P c.origin c.targs)(u:fn.isWrapper P c.wrapper c.mainSum)
 (h:∀os:Os,os.Started->∀(H:Type)(a:dy×dq->H)(F:Stop.Interp),
  ea c.assume C os f .any (s.preRow a P fn c.domain c.apart c.laid) ((s.at F).post a P fn c.apart c.fresh c.handsOn c.again)):c.holds p s:=by
 subst b;subst d;exact OpenClaim.holds_of_cond f fn hn hs o q n aA t i m k g l r e hf closed j u (fun os st H a _ F=>by rw[OpenClaim.pre_eq_preRow];exact h os st H a F)
theorem XX{a:Assume}{C:dz}{P:dg}(q:C.prog=P){os:Os}{f:dp}{fn:Func}{s:dx}{F:Stop.Interp}{h:List PathCond}{apart fresh handsOn again:Bool}{laid:List (String×DataW Unit)}
 (x:ownKnob P.godebug=none)(y:os.Started)(u:P.inits.idxOf? f=none)(r:P.funcs[f]?=some fn)
 (z:∃(w:da)(tape:Tape)(i:Input),w.os=os/\(w.forCall tape i).Shaped P/\i.vars=[]/\Input.okWide P (w.forCall tape i) .any w.heap.size f i/\
  s.preRow enc P fn h apart laid (w.forCall tape i).memory i.args/\a.holds P (lone (Frame.enter P f i.args .normal) [] (w.forCall tape i)))
 (Ep:∀(W:da)(d:Nat)(args:Array dq)(b c:List (DataW H))(g:List MemPlace),
  (∀(j:Nat) t v,fn.params[j]?=some t->args[j]?=some v->Value.okWide P W .any d t v)->
  DataW.Whole enc P fn.params.toList s.vars apart W args.toList b c g->
  (∀k,s.cond=some k->k H (b++c)=true)->
  laidMetH P laid W->
  db P f args W fun e l=>∃v,e=.returned v/\(s.at F).post enc P fn apart fresh handsOn again W args v l):
 ea a C os f .any (s.preRow enc P fn h apart laid) ((s.at F).post enc P fn apart fresh handsOn again):=by
 subst q;exact returnsInHanded_of_row x y u r z (fun W d args b c g m n _ o _ p _ _=>Ep W d args b c g m n o p)
theorem WV{C:dz}{P:dg}(b:C.prog=P){os:Os}{f:dp}{fn:Func}{s:dx}{a:List PathCond}{apart:Bool}{laid:List (String×DataW Unit)}(w0:da)(args:Array dq)(d:w0.os=os)
 (h:(w0.forCall (fun _ _=>0) ⟨#[],args,[]⟩).variablesRefB P=true)
 (e:((w0.forCall (fun _ _=>0) ⟨#[],args,[]⟩).heap.toList.drop P.globals.size).take ((begin P (fun _ _=>0) default).world.heap.size-P.globals.size)=
  (begin P (fun _ _=>0) default).world.heap.toList.drop P.globals.size)
 (c:Input.okWideB P (w0.forCall (fun _ _=>0) ⟨#[],args,[]⟩) f ⟨#[],args,[]⟩=true)
 (g:s.preRow enc P fn a apart laid (w0.forCall (fun _ _=>0) ⟨#[],args,[]⟩).memory args):
 ∃(w:da)(tape:Tape)(i:Input),w.os=os/\(w.forCall tape i).Shaped P/\i.vars=[]/\Input.okWide P (w.forCall tape i) .any w.heap.size f i/\
  s.preRow enc P fn a apart laid (w.forCall tape i).memory i.args/\({modest:=false}:Assume).holds P (lone (Frame.enter P f i.args .normal) [] (w.forCall tape i)):=by
 subst b;exact witness_row_atRef (C:=C) false w0 args d h e c g
theorem aiA{p:Pinned}{C:dz}{P:dg}(m:p.checked=C)(n:C.prog=P)(d:Looks){s:dx}{c:OpenClaim}(kinds:List LaidKind)(e:Bool)(a:Bool×String)(b:Bool){g:dp}{i:Func}
 (hc:c.holds p s)(z:c.wfByText s=true)(y:c.laidByTextAt d p kinds e)
 (aS:c.start=.entering)(v:c.noBlocks=false/\c.again=false)(u:P.mainIs=some (a.1,a.2.toList))(hn:(!a.1&&a.2.isEmpty&&!b)=false)
 (o:P.funcNamed c.func=some g)(hf:P.funcs[g]?=some i)(r:b=P.looks [])(w:∀t∈i.params.toList,P.wantsStandIn t=false)
 (q:false=c.goesBy P):
 Claim7.holds p (.plain s) {stood:={row:=c,standIns:=[],harness:=a,looks:=b},kinds:=[],alts:=[],laidByText:=true,laidKinds:=kinds,laidTests:=e,laidLooks:=d}:=by
 subst m;subst n;refine Claim7.holds_tied_plain_at d [] kinds e a b hc (fun _ h=>by cases h) z (fun _ h=>by cases h) y aS v u hn (fun f fn k l=>?_) q;rw[o]at k;cases k;rw[hf]at l;cases l;exact⟨r,fun j t x=>w t (by simpa using Array.mem_of_getElem? x)⟩
end
theorem Kw:Go.Proofs.YtpojdjgcpgnaeaaGreatDoor.Tryz.pinned.checked=checked:=rfl
theorem zO:checked.prog=prog:=rfl
theorem aCw:true=prog.looks []:=k_
theorem aDb:ownKnob prog.godebug=none:=k_
theorem mix:prog.follows .mixedOrders=true:=k_
abbrev nf:dp->Bool:=fun _=>false
def wB:Nat:=18446744073709551616
theorem sU(x y c:Nat)(hc:c<=1):aq prog 263 [.int .u64 x,.int .u64 y,.int .u64 c] (.aD [.int .u64 ((x+y+c)% wB:Nat),.int .u64 ((x+y+c)/wB:Nat)]):=by
 refine .inr fun w aa a h=>?_;simp only[bO,aF]at h;obtain⟨_,_,rfl,rfl,_,_,rfl,rfl,_,_,rfl,rfl,rfl⟩:=h;refine⟨.tuple #[.int .u64 ((x+y+c)% wB:Nat),.int .u64 ((x+y+c)/wB:Nat)],?_,?_⟩
 ·show(callFunc 263 #[.int .u64 x,.int .u64 y,.int .u64 c]).run prog w=_;rw[dl func263 k_ k_ k_ (e:=add64Entry) k_,run_add64 x y c o_ o_ o_ o_];simp only[gg,wB];congr 5<;>omega
 ·simp only[aF,bO];exact⟨[.int .u64 ((x+y+c)% wB:Nat),.int .u64 ((x+y+c)/wB:Nat)],⟨_,_,rfl,rfl,_,_,rfl,rfl,rfl⟩,rfl⟩
theorem ahP(x y c:Nat)(hc:c<=1):aq prog 292 [.int .u64 x,.int .u64 y,.int .u64 c] (.aD [.int .u64 ((x+wB-y-c)% wB:Nat),.int .u64 ((if x<y+c then 1 else 0:Nat):Int)]):=by
 refine .inr fun w aa a h=>?_;simp only[bO,aF]at h;obtain⟨_,_,rfl,rfl,_,_,rfl,rfl,_,_,rfl,rfl,rfl⟩:=h;refine⟨.tuple #[.int .u64 ((x+wB-y-c)% wB:Nat),.int .u64 ((if x<y+c then 1 else 0:Nat):Int)],?_,?_⟩
 ·show(callFunc 292 #[.int .u64 x,.int .u64 y,.int .u64 c]).run prog w=_;rw[dl func292 k_ k_ k_ (e:=sub64Entry) k_,run_sub64 x y c hc];rfl
 ·simp only[aF,bO];exact⟨[.int .u64 ((x+wB-y-c)% wB:Nat),.int .u64 ((if x<y+c then 1 else 0:Nat):Int)],⟨_,_,rfl,rfl,_,_,rfl,rfl,rfl⟩,rfl⟩
def oQ(B:Nat):Nat->Nat->List Nat
 |0,_=>[]
 |f+1,n=>if n=0 then[]else n% B::oQ B f (n/B)
def au(B n:Nat):List Nat:=oQ B (n+1) n
def jH(B:Nat):List Nat->Nat
 |[]=>0
 |d::l=>d+B*jH B l
def ae(B n i:Nat):Nat:=n/B^i% B
section
variable{B:Nat}
theorem KM(a:2<=B):∀(f g n:Nat),n<f->n<g->oQ B f n=oQ B g n
 |0,_,_,h,_=>by omega
 |_,0,_,_,h=>by omega
 |f+1,g+1,n,b,c=>by
  simp only[oQ]
  split
  ·rfl
  ·rename_i hn;have:n/B<n:=m5 o_ o_;rw[KM a f g (n/B) o_ o_]
theorem oh:au B 0=[]:=by simp[au,oQ]
theorem vt(a:2<=B){n:Nat}(h:n≠0):au B n=n% B::au B (n/B):=by
 have:n/B<n:=m5 o_ o_;rw[au,oQ,if_neg h,au,KM a n (n/B+1) (n/B) this o_]
theorem Mo(a:2<=B)(n:Nat):jH B (au B n)=n:=by
 induction n using ob with
 |ind n b=>
  by_cases h:n=0
  ·subst h;simp[oh,jH]
  ·rw[vt a h,jH,b _ (m5 o_ o_)];exact lm n B
theorem alh(a:2<=B):∀(i n:Nat),(au B n)[i]?.getD 0=ae B n i
 |i,n=>by
  induction i generalizing n with
  |zero=>
   by_cases h:n=0
   ·subst h;simp[oh,ae]
   ·rw[vt a h];simp[ae]
  |succ i b=>
   by_cases h:n=0
   ·subst h;simp[oh,ae]
   ·rw[vt a h,List.getElem?_cons_succ,b];simp only[ae,kc,j9];rw[j4 B]
theorem eZ(a:2<=B){n i:Nat}(h:i<(au B n).length):(au B n)[i]=ae B n i:=by
 have:=alh a i n;rw[hK h]at this;exact this
theorem cC(b:2<=B)(n:Nat):n<B^(au B n).length:=by
 induction n using ob with
 |ind n c=>
  by_cases h:n=0
  ·subst h;simp[oh]
  ·rw[vt b h,hX,j9];have:=c _ (m5 (n:=n) (k:=B) o_ o_);have d:=lm n B;have e:=ko n (show 0<B by omega);have a:(n/B+1)*B<=B^(au B (n/B)).length*B:=km B this;rw[la,j4 (n/B) B]at a;omega
theorem dV(b:2<=B):∀(k n:Nat),n<B^k->(au B n).length<=k
 |0,n,h=>by
  have:n=0:=by simpa using h
  subst this;simp[oh]
 |k+1,n,h=>by
  by_cases a:n=0
  ·subst a;simp[oh]
  ·rw[vt b a,hX];have:=dV b k (n/B) (by
    rw[j5 o_,<-j9];exact h)
   omega
theorem Li(a:2<=B){k n:Nat}(h:B^k<=n):k<(au B n).length:=by
 have:=cC a n;exact(oi (by omega:1<B)).1 (kk h this)
def eQ:List Nat->List Nat
 |[]=>[]
 |d::l=>match eQ l with
  |[]=>if d=0 then[]else[d]
  |t=>d::t
theorem EY(a:2<=B):∀{l:List Nat},(∀d∈l,d<B)->au B (jH B l)=eQ l
 |[],_=>by simp[jH,oh,eQ]
 |d::l,h=>by
  have c:=EY a (l:=l) fun x hx=>h x (List.mem_cons_of_mem _ hx);have f:=h d List.mem_cons_self;simp only[eQ,jH]
  by_cases b:d+B*jH B l=0
  ·have k:d=0:=by omega
   have m:jH B l=0:=by
    rcases Nat.mul_eq_zero.1 (show B*jH B l=0 by omega)with e|e
    ·omega
    ·exact e
   rw[b,oh,<-c,m,oh];simp[k]
  ·rw[vt a b];have e1:(d+B*jH B l)% B=d:=by rw[mx,j6 f]
   have e2:(d+B*jH B l)/B=jH B l:=by
    rw[lu _ _ o_,kv f,mb]
   rw[e1,e2,c]
   split
   ·rename_i g;have i:=c;rw[g,j a]at i;rw[if_neg (by rw[i]at b;simpa using b),g]
   ·rfl
where j (a:2<=B) {n:Nat}:(au B n=[])=(n=0):=by
        apply propext;constructor
        ·intro h;rw[<-Mo a n,h];rfl
        ·rintro rfl;exact oh
def row(B m n:Nat):List Nat:=(hJ m).map (ae B n)
theorem N3{m n:Nat}:(row B m n).length=m:=by simp[row]
theorem Y5(m n:Nat):row B (m+1) n=n% B::row B m (n/B):=by
 rw[row,List.range_succ_eq_map,hM,ii];congr 1
 ·simp[ae]
 ·rw[row];apply hU;intro i _;simp only[Function.comp,ae,kc,j9];rw[j4]
theorem N2(a:2<=B):∀(m n:Nat),jH B (row B m n)=n% B^m
 |0,n=>by simp[row,jH,mo]
 |m+1,n=>by
  rw[Y5,jH,N2 a m,j9,j4 (B^m),n3]
theorem kF(a:2<=B){m n:Nat}(h:n<B^m):eQ (row B m n)=au B n:=by
 rw[<-EY a (l:=row B m n),N2 a,j6 h];intro d b;simp only[row,h4]at b;obtain⟨i,_,rfl⟩:=b;exact ko _ o_
theorem alw(b:2<=B)(n:Nat):au B n=row B (au B n).length n:=by
 apply hQ (by simp[row]);intro i a c;rw[eZ b a];simp[row]
end
section
variable{B:Nat}
theorem mod_pow_succ(n i:Nat):n% B^(i+1)=n% B^i+B^i*ae B n i:=by
 rw[j9,n3,ae]
def dm(B a b i:Nat):Nat:=(a% B^i+b% B^i)/B^i
theorem Aa(a b:Nat):dm B a b 0=0:=by simp[dm,mo]
theorem ng(f:2<=B)(a b i:Nat):dm B a b i<=1:=by
 have c:0<B^i:=kb o_;have d:=ko a c;have e:=ko b c;rw[dm];have:(a% B^i+b% B^i)/B^i<2:=by rw[j5 c];omega
 omega
theorem sC(e:2<=B)(a b i:Nat):(ae B a i+ae B b i+dm B a b i)% B=ae B (a+b) i/\(ae B a i+ae B b i+dm B a b i)/B=dm B a b (i+1):=by
 have c:0<B^i:=kb o_;constructor
 ·have d:(a+b)/B^i=dm B a b i+(a/B^i+b/B^i):=by
   rw[dm]
   conv=>lhs;rw[<-lm a (B^i),<-lm b (B^i)]
   rw[show a% B^i+B^i*(a/B^i)+(b% B^i+B^i*(b/B^i))=(a% B^i+b% B^i)+B^i*(a/B^i+b/B^i)by rw[l1];omega];rw[lu _ _ c]
  rw[ae,ae,ae,d,oa,<-oa (a/B^i),<-oa,lv]
 ·conv=>rhs;rw[dm,mod_pow_succ,mod_pow_succ,j9,<-kc]
  rw[show a% B^i+B^i*ae B a i+(b% B^i+B^i*ae B b i)=(a% B^i+b% B^i)+B^i*(ae B a i+ae B b i)by rw[l1];omega];rw[lu _ _ c,dm,lv ((a% B^i+b% B^i)/B^i)]
theorem kD{n i:Nat}(h:n<B^i):ae B n i=0:=by
 rw[ae,kv h,oo]
theorem cF(a:2<=B)(n i:Nat):ae B n i<B:=ko _ o_
def fG(B a b i:Nat):Nat:=if a% B^i<b% B^i then 1 else 0
theorem DC(a b:Nat):fG B a b 0=0:=by simp[fG,mo]
theorem Mv(d:2<=B){a b:Nat}(k:b<=a)(i:Nat):
 (ae B a i<ae B b i+fG B a b i/\fG B a b (i+1)=1/\ae B a i+B=ae B (a-b) i+(ae B b i+fG B a b i))\/
 (ae B b i+fG B a b i<=ae B a i/\fG B a b (i+1)=0/\ae B a i=ae B (a-b) i+(ae B b i+fG B a b i)):=by
 have g:0<B^i:=kb o_;obtain⟨c,rfl⟩:=Nat.le.dest k;have j:=sC d b c i;rw[show b+c-b=c by omega];have hc:∀i,fG B (b+c) b i=dm B b c i:=by
  intro i;have g:0<B^i:=kb o_;have l:=ko b g;have m:=ko c g;rw[fG,dm,oa]
  by_cases h:b% B^i+c% B^i<B^i
  ·rw[j6 h,kv h,if_neg (oB.2 (Nat.le_add_right _ _))]
  ·have e1:(b% B^i+c% B^i)/B^i=1:=by
    rw[show b% B^i+c% B^i=(b% B^i+c% B^i-B^i)+B^i*1 by omega,lu _ _ g,kv o_]
   have e2:(b% B^i+c% B^i)% B^i=b% B^i+c% B^i-B^i:=by
    rw[Nat.mod_eq_sub_mod o_,j6 o_]
   rw[e1,e2,if_pos o_]
 rw[hc,hc];have n:=cF d b i;have o:=cF d c i;have p:=ng d b c i;have f:=lm (ae B b i+ae B c i+dm B b c i) B;rw[j.1,j.2]at f;have q:=ng d b c (i+1);have r:=cF d (b+c) i;rcases(show dm B b c (i+1)=0\/dm B b c (i+1)=1 by omega)with e|e
 ·right;rw[e]at f⊢;simp at f;exact⟨o_,rfl,o_⟩
 ·left;rw[e]at f⊢;simp at f;exact⟨o_,rfl,o_⟩
def jE(B a b i j:Nat):Nat:=(a% B^i)*b+ae B a i*(b% B^j)*B^i
def dt(B a b i j k:Nat):Nat:=if k<i+j then ae B (jE B a b i j) k else ae B ((a% B^i)*b) k
def mulC(B a b i j:Nat):Nat:=jE B a b i j/B^(i+j)-(a% B^i)*b/B^(i+j)
theorem aAd(a b i j:Nat):(a% B^i)*b<=jE B a b i j:=by rw[jE];omega
theorem LA(a b i:Nat):jE B a b i 0=(a% B^i)*b:=by simp[jE,mo]
theorem DS(a b i:Nat):mulC B a b i 0=0:=by simp[mulC,LA]
theorem LC(a b i j:Nat):jE B a b i (j+1)=jE B a b i j+ae B a i*ae B b j*B^(i+j):=by
 rw[jE,jE,mod_pow_succ,l1,la,lb];have:ae B a i*(B^j*ae B b j)*B^i=ae B a i*ae B b j*(B^i*B^j):=by
  rw[j4 (B^j),<-kw,kw,j4 (B^j)]
 omega
theorem M0(a b i:Nat){n:Nat}(h:b<B^n):jE B a b i n=(a% B^(i+1))*b:=by
 rw[jE,j6 h,mod_pow_succ,la];congr 1;rw[l3,j4 (ae B a i)]
theorem zN(n k:Nat):n/B^(k+1)=n/B^k/B:=by rw[j9,kc]
theorem Ez(g:2<=B)(a b i j:Nat):
 (ae B a i*ae B b j+dt B a b i j (i+j)+mulC B a b i j)% B=ae B (jE B a b i (j+1)) (i+j)/\
 (ae B a i*ae B b j+dt B a b i j (i+j)+mulC B a b i j)/B=mulC B a b i (j+1):=by
 have f:0<B^(i+j):=kb o_;have d:jE B a b i (j+1)/B^(i+j)=jE B a b i j/B^(i+j)+ae B a i*ae B b j:=by
  rw[LC,l2 _ _ f]
 have h:(a% B^i)*b/B^(i+j)<=jE B a b i j/B^(i+j):=nc (aAd a b i j);have c:dt B a b i j (i+j)=(a% B^i)*b/B^(i+j)% B:=by rw[dt,if_neg o_,ae]
 have e:ae B a i*ae B b j+dt B a b i j (i+j)+mulC B a b i j+B*((a% B^i)*b/B^(i+j)/B)=jE B a b i (j+1)/B^(i+j):=by
  rw[d,c,mulC];have:=lm ((a% B^i)*b/B^(i+j)) B;omega
 constructor
 ·conv=>rhs;rw[ae,<-e]
  rw[mx]
 ·conv=>rhs;rw[mulC,show i+(j+1)=i+j+1 from rfl,zN,zN,<-e,lu _ _ o_]
  rw[ll]
theorem LD(f:2<=B){a b i j k:Nat}(hk:k≠i+j):dt B a b i (j+1) k=dt B a b i j k:=by
 rw[dt,dt]
 by_cases h:k<i+j
 ·rw[if_pos o_,if_pos h,LC];have e:0<B^k:=kb o_;obtain⟨d,c⟩:∃d,i+j=k+1+d:=⟨i+j-(k+1),by
   have:k+1<=i+j:=h;rw[Nat.add_sub_cancel' this]⟩
  rw[c,lb,j9];generalize ae B a i*ae B b j=x;rw[ae,ae,show x*(B^k*B*B^d)=x*B^d*B*B^k by simp only[kw,j4,np]];rw[l2 _ _ e,ls]
 ·rw[if_neg o_,if_neg h]
theorem M7(a b i j:Nat):dt B a b i (j+1) (i+j)=ae B (jE B a b i (j+1)) (i+j):=by
 rw[dt,if_pos o_]
theorem xM(d:2<=B)(a:Nat){b n:Nat}(i:Nat)(h:b<B^n):(a% B^i)*b<B^(i+n):=by
 have c:0<B^i:=kb o_;rw[lb];exact lq (ko _ c) h
theorem Kz(c:2<=B){a b i n:Nat}(h:b<B^n):mulC B a b i n=ae B ((a% B^(i+1))*b) (i+n):=by
 have h1:=xM c a i h;have d:=xM c a (i+1) h;rw[mulC,M0 a b i h,kv h1,oq];refine(j6 ?_).symm;rw[j5 (kb o_),j4 B,<-j9,show(i+n).succ=i+1+n by omega];exact d
theorem qL(a b i k:Nat):dt B a b i 0 k=ae B ((a% B^i)*b) k:=by
 rw[dt,LA];split<;>rfl
theorem M8(c:2<=B){a b i n k:Nat}(h:b<B^n)(hk:k≠i+n):dt B a b i n k=ae B ((a% B^(i+1))*b) k:=by
 rw[dt]
 split
 ·rw[M0 a b i h]
 ·rename_i h1;have e1:(a% B^i)*b<B^k:=j7 (xM c a i h) (j8 o_ o_);have e2:(a% B^(i+1))*b<B^k:=j7 (xM c a (i+1) h) (j8 o_ o_);rw[kD e1,kD e2]
theorem vq(d:2<=B)(a b i:Nat):∀j,mulC B a b i j<B
 |0=>by rw[DS];omega
 |j+1=>by
  have h:=(Ez d a b i j).2;have f:=vq d a b i j;have g:dt B a b i j (i+j)<B:=by rw[dt];split<;>exact cF d _ _
  have e:ae B a i*ae B b j<=(B-1)*(B-1):=nb (by have:=cF d a i;omega) (by have:=cF d b j;omega);rw[<-h,j5 o_];obtain⟨c,rfl⟩:∃c,B=c+1:=⟨B-1,o_⟩
  simp only[ll]at e;rw[la,l1];omega
end
section
variable{B:Nat}
theorem Lf{V W d:Nat}(a:0<V/d):W/V<=W/d/(V/d):=by
 have c:0<d:=by
  rcases lk d with h|h
  ·subst h;simp at a
  ·exact h
 have e:0<V:=by
  rcases lk V with h|h
  ·subst h;simp at a
  ·exact h
 rw[lt a,lt c];have a1:W/V*V<=W:=lw W V;have b:V/d*d<=V:=lw V d
 calc W/V*(V/d)*d=W/V*(V/d*d):=kw _ _ _
  _<=W/V*V:=kp _ b
  _<=W:=a1
theorem X4{V W d q:Nat}(e:0<d)(c:0<V)(h:W/d<q*(V/d)):W/V<q:=by
 rw[j5 c];have a1:W<(W/d+1)*d:=by
  have:=nm (a:=W) e;rw[la];omega
 have b:V/d*d<=V:=lw V d
 calc W<(W/d+1)*d:=a1
  _<=q*(V/d)*d:=km _ h
  _=q*(V/d*d):=kw _ _ _
  _<=q*V:=kp _ b
theorem WO{V W d q:Nat}(b:0<d)(g:q*d<=V)(a:0<V)(h:q*(V/d)<=W/d):q<=W/V+1:=by
 rcases lk q with hq|hq
 ·subst hq;exact m8 _
 have:q-1<=W/V:=by
  rw[lt a,Nat.sub_mul,l0];have a1:V<=V/d*d+d:=oW (nm b);have c:W/d*d<=W:=lw W d;have e:q*V<=q*(V/d)*d+q*d:=by
   calc q*V<=q*(V/d*d+d):=kp _ a1
    _=q*(V/d)*d+q*d:=by rw[l1,kw]
  have f:q*(V/d)*d<=W/d*d:=km _ h;omega
 omega
theorem El{q b c T a r:Nat}(d:q*b+r=T):q*(b*B+c)<=T*B+a↔q*c<=r*B+a:=by
 subst d;rw[l1,la,kw];omega
theorem uH(n k:Nat):n/B^k=n/B^(k+1)*B+ae B n k:=by
 rw[zN,ae,j4];exact(kr _ _).symm
theorem sO(n j i:Nat):ae B (n/B^j) i=ae B n (j+i):=by
 rw[ae,ae,kc,lb]
theorem E0{n m i:Nat}(h:i<m):ae B (n% B^m) i=ae B n i:=by
 obtain⟨d,rfl⟩:∃d,m=i+(d+1):=⟨m-i-1,o_⟩
 rw[ae,ae,lb,ms,j9,j4 (B^d),mj]
theorem zU{n c m i:Nat}(h:i<m):ae B (n+c*B^m) i=ae B n i:=by
 rw[<-E0 (n:=n+c*B^m) h,ls,E0 h]
def Si(B W V q n:Nat):Nat:=W+B^(n+1)-q*V
theorem aEy{W V q n:Nat}(h:q*V<=W){i:Nat}(hi:i<n+1):ae B (Si B W V q n) i=ae B (W-q*V) i:=by
 rw[Si,show W+B^(n+1)-q*V=(W-q*V)+1*B^(n+1)by omega,zU hi]
theorem LG(b:2<=B){R d j:Nat}(k:Nat):ae B (R% B^j+d*B^j) k=if k<j then ae B R k else ae B d (k-j):=by
 have a:0<B^j:=kb o_
 split
 ·rename_i h;rw[zU h,E0 h]
 ·rename_i h;obtain⟨e,rfl⟩:∃e,k=j+e:=⟨k-j,o_⟩
  rw[<-sO,l2 _ _ a,kv (ko _ a),mb,m1]
theorem Af{R V j:Nat}:R% (V*B^j)=R% B^j+(R/B^j% V)*B^j/\R/(V*B^j)=R/B^j/V:=by
 constructor
 ·rw[j4 V,n3,j4 (B^j)]
 ·rw[j4 V,kc]
end
section
variable{c v1 v0 T u1 q r:Nat}
def hq(c b a T u1:Nat):Nat:=(T*c+u1)/(b*c+a)
theorem QB(a:T<v1*c+v0)(b:u1<c):hq c v1 v0 T u1<c:=by
 rw[hq,j5 o_]
 calc T*c+u1<T*c+c:=by omega
  _=(T+1)*c:=by rw[la,l0]
  _<=(v1*c+v0)*c:=km _ a
  _=c*(v1*c+v0):=j4 _ _
theorem Om(b:0<v1)(f:v0<c)(e:u1<c):hq c v1 v0 T u1<=T/v1:=by
 have hc:0<c:=o_
 have a1:(v1*c+v0)/c=v1:=by rw[j4,oU hc,kv f,mp]
 have a:(T*c+u1)/c=T:=by rw[j4,oU hc,kv e,mp]
 have h:=Lf (V:=v1*c+v0) (W:=T*c+u1) (d:=c) (by rw[a1];exact b)
 rwa [a1,a]at h
theorem EU(a:0<v1)(hc:0<c)(d:q*v1+r=T)(f:hq c v1 v0 T u1<=q)(e:q*v0<=c*r+u1):q=hq c v1 v0 T u1:=by
 have b:0<v1*c+v0:=by have:=m9 a hc;omega
 have h:q*(v1*c+v0)<=T*c+u1:=(El d).2 (by rw[j4 r];exact e);have:q<=hq c v1 v0 T u1:=by rw[hq,lt b];exact h
 omega
theorem Pu(b:0<v1)(hc:0<c)(f:q*v1+r=T)(i:hq c v1 v0 T u1<=q)(a:c<=q/\hq c v1 v0 T u1<c\/c*r+u1<q*v0):hq c v1 v0 T u1<=q-1:=by
 rcases a with⟨a,g⟩|a
 ·omega
 ·have d:0<v1*c+v0:=by have:=m9 b hc;omega
  have h:¬q*(v1*c+v0)<=T*c+u1:=fun e=>by
   have:=(El f).1 e;rw[j4 r]at this;omega
  have:hq c v1 v0 T u1<q:=by rw[hq,j5 d];omega
  omega
theorem YA(a:T<v1*c+v0)(e:v0<c)(b:q*v1+r=T)(d:c<=r):q<c:=by
 rcases lc q c with h|h
 ·exact h
 ·have:c*v1<=q*v1:=km _ h;rw[j4 c]at this;omega
theorem Nt(b:0<v1)(d:T<v1*c+v0)(g:v0<c)(a:q*v1+r=T)(f:c<=r)(e:hq c v1 v0 T u1<=q):q=hq c v1 v0 T u1:=by
 have i:=YA d g a f;refine EU b o_ a e ?_;have a1:q*v0<=c*v0:=km _ o_;have h:c*v0<=c*r:=kp _ o_;omega
theorem QA(a:0<v1)(b:T<v1*c+v0)(hn:c<=2*v1)(d:v0<c):T/v1<=c+1:=by
 have:T/v1<c+2:=by
  rw[j5 a,la,j4 c];omega
 omega
theorem Ol:T*c+u1-hq c v1 v0 T u1*(v1*c+v0)=(T*c+u1)% (v1*c+v0):=by
 rw[hq];generalize T*c+u1=A;generalize v1*c+v0=V;have:=kr A V;rw[j4 (A/V)];omega
theorem aqr{Y U c:Nat}(hY:0<Y):U/Y=U/c/Y*c+((U/c% Y)*c+U% c)/Y/\U% Y=((U/c% Y)*c+U% c)% Y:=by
 have e:U=(U/c% Y*c+U% c)+(U/c/Y*c)*Y:=by
  have a:=kr U c;have b:=kr (U/c) Y;have d:(Y*(U/c/Y)+U/c% Y)*c=U/c*c:=by rw[b]
  rw[la,j4 Y,l3]at d;rw[j4 c]at a;omega
 constructor
 ·conv=>lhs;rw[e]
  rw[l2 _ _ hY,lv]
 ·conv=>lhs;rw[e]
  rw[ls]
end
section
variable{B W V n q r:Nat}
theorem aHj(b:2<=B)(hn:2<=n)(a:V<B^n):V/B^(n-2)=ae B V (n-1)*B+ae B V (n-2):=by
 obtain⟨k,rfl⟩:∃k,n=k+2:=⟨n-2,o_⟩
 have e1:k+2-2=k:=o_
 have e2:k+2-1=k+1:=o_
 rw[e1,e2,uH];have:V/B^(k+1)=ae B V (k+1):=by
  rw[ae,j6];rw[j5 (kb o_),j4,<-j9];exact a
 rw[this]
theorem aHd(c:2<=B)(hn:2<=n)(a:B^(n-1)<=V)(b:V<B^n):V/B^(n-1)=ae B V (n-1)/\0<ae B V (n-1):=by
 obtain⟨k,rfl⟩:∃k,n=k+1:=⟨n-1,o_⟩
 have e2:k+1-1=k:=o_
 rw[e2]at*;have:V/B^k=ae B V k:=by
  rw[ae,j6];rw[j5 (kb o_),j4,<-j9];exact b
 exact⟨this,by rw[<-this];exact my a (kb o_)⟩
theorem Ek(b:2<=B)(hn:2<=n)(a:B^(n-1)<=V):0<V:=j7 (kb o_) a
theorem Oq(c:2<=B)(hn:2<=n)(d:B^(n-1)<=V)(e:V<B^n):W/V<=W/B^(n-1)/ae B V (n-1):=by
 obtain⟨a,b⟩:=aHd c hn d e;rw[<-a];exact Lf (by rw[a];exact b)
theorem Pv(a:2<=B)(hn:2<=n)(b:V<B^n)(c:q*ae B V (n-1)+r=W/B^(n-1)):
 q*(V/B^(n-2))<=W/B^(n-2)↔q*ae B V (n-2)<=r*B+ae B W (n-2):=by
 rw[aHj a hn b,uH,show n-2+1=n-1 by omega];exact El c
theorem Gc(b:2<=B)(hn:2<=n)(a:B^(n-1)<=V)(c:V<B^n)(f:q*ae B V (n-1)+r=W/B^(n-1))(hq:q<B)(g:q*ae B V (n-2)<=r*B+ae B W (n-2)):q<=W/V+1:=by
 have d:0<B^(n-2):=kb o_;refine WO d ?_ (Ek b hn a) ((Pv b hn c f).2 g);have e:n-1=n-2+1:=o_
 rw[e,j9,j4]at a;exact me (km _ o_) a
theorem Pw(a:2<=B)(hn:2<=n)(b:B^(n-1)<=V)(c:V<B^n)(e:q*ae B V (n-1)+r=W/B^(n-1))(f:r*B+ae B W (n-2)<q*ae B V (n-2)):W/V<q:=by
 have d:0<B^(n-2):=kb o_;refine X4 d (Ek a hn b) ?_;rcases lc (W/B^(n-2)) (q*(V/B^(n-2)))with h|h
 ·exact h
 ·have:=(Pv a hn c e).1 h;omega
theorem Oo(a:2<=B)(b:B<=r)(hq:q<B):q*ae B V (n-2)<=r*B+ae B W (n-2):=by
 have d:ae B V (n-2)<B:=cF a _ _;have a1:q*ae B V (n-2)<=B*B:=nb o_ o_;have c:B*B<=r*B:=km _ b;omega
theorem EV(e:2<=B)(hn:1<=n)(c:V<B^n)(a:W<V*B):W/B^n<=ae B V (n-1)/\W/V<B:=by
 obtain⟨k,rfl⟩:∃k,n=k+1:=⟨n-1,o_⟩
 have e2:k+1-1=k:=o_
 rw[e2];have hk:0<B^k:=kb o_;have b:V/B^k=ae B V k:=by
  rw[ae,j6];rw[j5 hk,j4,<-j9];exact c
 refine⟨?_,?_⟩
 ·rw[<-b,j9,j4,<-kc];refine nc ?_;have:W/B<V:=by rw[j5 o_];exact a
  omega
 ·have d:0<V:=by
   rcases lk V with h|h
   ·subst h;simp at a
   ·exact h
  rw[j5 d,j4];exact a
def jn(B V q i:Nat):Nat:=q*(V% B^i)/B^i
theorem XL:jn B V q 0=0:=by simp[jn,mo]
theorem Y6(b:2<=B)(i:Nat):(q*ae B V i+jn B V q i)% B=ae B (q*V) i/\(q*ae B V i+jn B V q i)/B=jn B V q (i+1):=by
 have a:0<B^i:=kb o_;have e:q*(V% B^(i+1))/B^i=q*ae B V i+jn B V q i:=by
  rw[mod_pow_succ,l1,np,lu _ _ a,jn,lv]
 rw[<-e];constructor
 ·have e2:q*V=q*(V% B^(i+1))+q*(V/B^(i+1))*B^(i+1):=by
   have:=lm V (B^(i+1))
   conv=>lhs;rw[<-this]
   rw[l1,j4 (B^(i+1)),kw]
  conv=>rhs;rw[e2,zU o_]
  rfl
 ·rw[jn,zN]
theorem aE1(b:2<=B)(hq:q<B)(i:Nat):jn B V q i<B:=by
 have a:0<B^i:=kb o_;rw[jn,j5 a];exact lq hq (ko _ a)
theorem Y8(c:2<=B)(hq:q<B)(a:V<B^n):jn B V q n=ae B (q*V) n:=by
 have b:0<B^n:=kb o_;rw[jn,j6 a,ae];refine(j6 ?_).symm;rw[j5 b];exact lq hq a
theorem Wy(hq:q<B)(a:V<B^n):q*V<B^(n+1):=by
 rw[j9,j4 (B^n)];exact lq hq a
theorem xF{m i:Nat}(hi:i<m):ae B (W+B^m) i=ae B W i:=by
 have:=zU (B:=B) (n:=W) (c:=1) hi
 rwa [l0]at this
theorem Wd(b:W<B^(n+1))(a:q*V<B^(n+1)):fG B (W+B^(n+1)) (q*V) (n+1)=if W<q*V then 1 else 0:=by
 rw[fG,oK,j6 b,j6 a]
theorem aEz(h:q*V<=W)(b:q<=W/V+1)(a:0<V)(c:W/V<=q):q=W/V/\W-q*V=W% V:=by
 have e:q=W/V:=by
  have:=(lt a).2 h;omega
 refine⟨e,?_⟩;have:=kr W V;rw[e,j4];omega
theorem Zc(h:W<q*V)(b:q<=W/V+1)(a:0<V)(c:W/V<=q):q=W/V+1/\∀M,q*V<=W+M->W+M-q*V+V=W% V+M:=by
 have e:q=W/V+1:=by
  have:¬q<=W/V:=fun e=>by
   have:=(lt a).1 e;omega
  omega
 refine⟨e,fun M d=>?_⟩;have:=kr W V;have e2:q*V=V*(W/V)+V:=by rw[e,la,l0,j4]
 omega
end
section
variable{S T:Nat}
theorem Ko{x0 x1:Nat}(h:x0<S)(c:0<T):(x0+S*x1)% (S*T)=x0+S*(x1% T):=by
 have d:0<S:=o_
 have e:x1=x1% T+T*(x1/T):=(lm x1 T).symm
 conv=>lhs;rw[e,l1,<-kw,<-oj,mx]
 refine j6 ?_;have a:x1% T+1<=T:=ko _ c;have b:S*(x1% T+1)<=S*T:=kp _ a;rw[l1,na]at b;omega
theorem Yc(w:Nat):ae (S*T) (w*S) 0=(ae (S*T) w 0*S)% (S*T):=by
 simp only[ae,li,l5];rw[Nat.mod_mul_mod]
theorem Yd(b:0<S)(a:0<T)(w i:Nat):ae (S*T) (w*S) (i+1)=(ae (S*T) w (i+1)*S)% (S*T)+ae (S*T) w i/T:=by
 have d:0<S*T:=m9 b a;have e0:w*S/(S*T)^(i+1)=w/(S*T)^i/T:=by
  rw[j9,j4 S T,<-kw,m6 _ _ b,kc]
 have e1:w/(S*T)^(i+1)=w/(S*T)^i/(S*T):=by rw[j9,kc]
 simp only[ae];rw[e0,e1];generalize w/(S*T)^i=x;have e2:x/T=x% (S*T)/T+S*(x/(S*T)):=by
  conv=>lhs;rw[<-lm x (S*T)]
  rw[show S*T*(x/(S*T))=T*(S*(x/(S*T)))by rw[j4 S T,kw],lu _ _ a]
 have c:x% (S*T)/T<S:=by rw[j5 a];exact ko _ d
 rw[e2,Ko c a];have e3:x/(S*T)% (S*T)*S% (S*T)=S*(x/(S*T)% T):=by
  rw[j4 _ S,mm,j4 S T,mj]
 rw[e3,lv]
theorem aGu(a:0<S)(e:0<T)(R i:Nat):ae (S*T) (R/S) i=ae (S*T) R i/S+(ae (S*T) R (i+1)*T)% (S*T):=by
 have d:0<S*T:=m9 a e;have e0:R/S/(S*T)^i=R/(S*T)^i/S:=by rw[kc,j4,kc]
 have e1:R/(S*T)^(i+1)=R/(S*T)^i/(S*T):=by rw[j9,kc]
 simp only[ae];rw[e0,e1];generalize R/(S*T)^i=x;have e2:x/S=x% (S*T)/S+T*(x/(S*T)):=by
  conv=>lhs;rw[<-lm x (S*T)]
  rw[kw,lu _ _ a]
 have c:x% (S*T)/S<T:=by rw[j5 a,j4 T];exact ko _ d
 have b:=Ko (S:=T) (T:=S) (x0:=x% (S*T)/S) (x1:=x/(S*T)) c a;rw[j4 T S]at b;rw[e2,b];have e3:x/(S*T)% (S*T)*T% (S*T)=T*(x/(S*T)% S):=by
  rw[j4 _ T,j4 S T,mm,j4 T S,mj]
 rw[e3]
end
theorem Ft{a b s:Nat}(c:b<2^s):a*2^s|||b=a*2^s+b:=by
 have:=Nat.shiftLeft_add_eq_or_of_lt c a;rw[Nat.shiftLeft_eq]at this;exact this.symm
def eW(l:List Nat):List PV:=l.map fun x:Nat=>.int .u64 x
theorem Ss(w:List Nat):gf prog 1 (w.map (AV.p∘fun x:Nat=>PV.int .u64 x)):=by
 rw[xm];intro v a;obtain⟨x,_,rfl⟩:=h4.1 a;simp[ad,aL,bP]
theorem DD:∀l:List Nat,eQ (l++[0])=eQ l
 |[]=>by simp[eQ]
 |d::l=>by rw[hS,eQ,DD l,eQ]
theorem xi:∀(l:List Nat)(d:Nat),d≠0->eQ (l++[d])=l++[d]
 |[],d,h=>by simp[eQ,h]
 |x::l,d,h=>by
  rw[hS,eQ,xi l d h]
  split
  ·rename_i e;simp at e
  ·rfl
theorem vw(w:List Nat)(h:w.length<=1048576):aq prog 264 [.seq (eW w)] (.seq (eW (eQ w))):=by
 refine gA_ nf func264 mix ?_;simp only[eW];simp[f264];refine lp (α:=Nat) (fun i=>⟨[(3,.p (.int .i64 i)),(0,.p (.seq (w.map fun x:Nat=>.int .u64 x)))],[]⟩) (fun i=>i<=w.length/\eQ w=eQ (w.take i)) (fun i=>i) w.length s_ ?_;rintro i ⟨k1,k2⟩
 by_cases hi:0<i
 ·obtain⟨j,rfl⟩:∃j,i=j+1:=⟨i-1,o_⟩
  have c:ec.wrap (j:Int)=j:=aR _ o_ o_;have a:j<w.length:=o_
  have b:(0:Int)<(j:Int)+1:=o_
  have k3:=k2;rw[h3 a]at k2
  by_cases hz:w[j]=0
  ·rw[hz,DD]at k2;have d:((w[j]:Nat):Int)=0:=by omega
   simp[b,c,a,hz];exact rd j ⟨o_,k2⟩
  ·rw[xi _ _ hz,<-h3 a]at k2;simp[b,c,a,hz];refine⟨⟨o_,o_,Ss w⟩,?_⟩;rw[k2,ih];exact bY.refl _
 ·obtain rfl:i=0:=by omega
  simp[eQ]at k2;simp[k2];exact Ss w
def eN(n:Nat):PV:=.seq ((au wB n).map fun x:Nat=>.int .u64 x)
theorem br:2<=wB:=d_
def gC(a b:Nat):Int:=if a<b then -1 else if b<a then 1 else 0
theorem KQ{a b:Nat}(h:(au wB a).length<(au wB b).length):a<b:=by
 have d:=cC br a;rcases lc a b with c|c
 ·exact c
 ·have:=dV br (au wB a).length b (kk c d);omega
theorem Mf{a b i:Nat}(h:a/wB^(i+1)=b/wB^(i+1))(e:ae wB a i<ae wB b i):a<b:=by
 rw[j9,<-kc,<-kc]at h;have e1:=kr (a/wB^i) wB;have e2:=kr (b/wB^i) wB;rw[ae,ae]at e;rw[h]at e1;rcases lc a b with d|d
 ·exact d
 ·have:=nc (c:=wB^i) d;omega
theorem Zw{a b i:Nat}(h:a/wB^(i+1)=b/wB^(i+1))(c:ae wB a i=ae wB b i):a/wB^i=b/wB^i:=by
 rw[j9,<-kc,<-kc]at h;have e1:=kr (a/wB^i) wB;have e2:=kr (b/wB^i) wB;rw[ae,ae]at c;rw[h]at e1;omega
theorem Kc(a b:Nat)(z:(au wB a).length<=1048576)(A:(au wB b).length<=1048576):aq prog 253 [eN a,eN b] (.int .i64 (gC a b)):=by
 refine gA_ nf func253 mix ?_
 by_cases g:(au wB a).length=(au wB b).length
 case neg=>
  have n:¬((au wB a).length:Int)=(au wB b).length:=o_
  by_cases u:(au wB a).length<(au wB b).length
  ·have k:((au wB a).length:Int)<(au wB b).length:=by omega
   have:=KQ u;have hc:gC a b= -1:=if_pos this;simp[f253,eN,n,k,hc]
  ·have k:¬((au wB a).length:Int)<(au wB b).length:=by omega
   have:=KQ (a:=b) (b:=a) o_;have hc:gC a b=1:=by rw[gC,if_neg o_,if_pos this]
   simp[f253,eN,n,k,hc]
 have r:∀i(h:i<(au wB a).length),(au wB a)[i]=ae wB a i:=fun i h=>eZ br h;have s:∀i(h:i<(au wB b).length),(au wB b)[i]=ae wB b i:=fun i h=>eZ br h;have q:=cC br a;have m:=cC br b;rw[<-g]at m;have t:a/wB^(au wB a).length=b/wB^(au wB a).length:=by rw[kv q,kv m]
 have B:a=b\/a≠b:=o_
 simp only[eN];generalize au wB a=x,au wB b=y at*;have w:ec.wrap ((y.length:Int)-1)=y.length-1:=aR _ o_ o_;simp[f253,g,w];refine lp (α:=Nat) (fun i=>⟨[(5,.p (.int .i64 ((i:Int)-1))),(1,.p (.seq (y.map fun x:Nat=>.int .u64 x))),(0,.p (.seq (x.map fun x:Nat=>.int .u64 x)))],[]⟩) (fun i=>i<=y.length/\a/wB^i=b/wB^i) (fun i=>i) y.length ⟨ky _,by rw[<-g];exact t⟩ ?_;rintro i ⟨k1,k2⟩
 by_cases hi:0<i
 ·obtain⟨j,rfl⟩:∃j,i=j+1:=⟨i-1,o_⟩
  have c:j<x.length:=o_
  have d:j<y.length:=o_
  have v:ec.wrap ((j:Int)-1)=j-1:=aR _ o_ o_;have e:=r j c;have f:=s j d
  by_cases hq:ae wB a j=ae wB b j
  ·simp[c,d,e,f,hq,v];exact rd j ⟨o_,Zw k2 hq⟩
  ·have o:¬(ae wB a j:Int)=ae wB b j:=by omega
   by_cases l:ae wB a j<ae wB b j
   ·have:=Mf k2 l;have hc:gC a b= -1:=if_pos this;simp[c,d,e,f,o,l,hc]
   ·have:=Mf k2.symm (show ae wB b j<ae wB a j by omega);have hc:gC a b=1:=by rw[gC,if_neg o_,if_pos this]
    simp[c,d,e,f,o,l,hc]
 ·obtain rfl:i=0:=by omega
  rw[li,l5,l5]at k2;have hc:gC a b=0:=by rw[gC,if_neg o_,if_neg o_]
  simp[hc]
@[simp] theorem L6{α:Type}{f:α->PV}:∀{l:List α},eE (l.map (AV.p∘f))=some (l.map f)
 |[]=>rfl
 |x::l=>by simp only[hM,Function.comp,eE];rw[show(l.map (AV.p∘f))=l.map (fun x=>AV.p (f x))from rfl]at*;have:=@L6 α f l;rw[show(l.map (AV.p∘f))=l.map (fun x=>AV.p (f x))from rfl]at this;simp[this]
def uA(x:Nat):AV:=.p (.int .u64 x)
def iu(n i:Nat)(f:Nat->Nat):List AV:=(hJ n).map fun j=>uA (if j<i then f j else 0)
theorem E7(n i:Nat)(f:Nat->Nat):(iu n i f).length=n:=by simp[iu]
theorem M9(n:Nat)(f:Nat->Nat):hP n (AV.p (.int .u64 0))=iu n 0 f:=by
 apply hQ (by simp[iu]);intro i a b;simp[iu,uA]
theorem E6{n i:Nat}(f:Nat->Nat)(h:i<n):(iu n i f).set i (.p (.int .u64 (f i)))=iu n (i+1) f:=by
 apply hQ (by simp[iu]);intro j h1 c;simp only[iu,jh,ix]at c;rw[i6];simp only[iu,i7,ip,uA]
 by_cases a:i=j
 ·subst a;rw[if_pos rfl,if_pos o_]
 ·rw[if_neg a]
  by_cases b:j<i
  ·rw[if_pos b,if_pos o_]
  ·rw[if_neg b,if_neg o_]
theorem Na(n:Nat)(f:Nat->Nat):iu n n f=((hJ n).map f).map (AV.p∘fun x:Nat=>PV.int .u64 x):=by
 rw[iu,ii];apply hU;intro j a;rw[if_pos (h9.1 a)];rfl
@[simp] theorem aM7{N:Nat×Nat->Prop}{n i:Nat}{f:Nat->Nat}:aZ N (iu n i f)=True:=by
 rw[dP,eq_iff_iff,iff_true];intro v a;simp only[iu,h4]at a;obtain⟨x,_,rfl⟩:=a;trivial
theorem xJ{n i j:Nat}(f:Nat->Nat)(h:j<n):(iu n i f)[j]?=some (uA (if j<i then f j else 0)):=by
 rw[iu,iy,ik h];rfl
theorem Wt{A C n:Nat}(a:A<wB^n)(b:C<wB^n):dm wB A C n=ae wB (A+C) n:=by
 have c:0<wB^n:=kb d_;have:=ng br A C n;rw[dm,j6 a,j6 b]at*;rw[ae,j6];exact kk this d_
theorem EZ{n i:Nat}(h:(au wB n).length<=i):ae wB n i=0:=kD (j7 (cC br n) (j8 d_ h))
theorem Wx(a b:Nat)(D:(au wB a).length<=1000000)(E:(au wB b).length<=1000000):aq prog 252 [eN a,eN b] (eN (a+b)):=by
 refine gA_ nf func252 mix ?_;simp[f252,-aW];rw[aW];simp[-aW];refine join (fun s=>∃A C,A+C=a+b/\(au wB C).length<=(au wB A).length/\(au wB A).length<=1000000/\aP s.env 0=.p (eN A)/\aP s.env 1=.p (eN C)/\s.heap=[]) ?_ ?_
 ·by_cases R:(au wB a).length<(au wB b).length
  ·have g:((au wB a).length:Int)<(au wB b).length:=by omega
   simp[eN,g];exact⟨b,a,o_,o_,E,rfl,rfl⟩
  ·have g:¬((au wB a).length:Int)<(au wB b).length:=by omega
   simp[eN,g];exact⟨a,b,rfl,o_,D,rfl,rfl⟩
 rintro⟨O,Q⟩ ⟨A,C,hs,J,S,f0,f1,w⟩;dsimp only at f0 f1 w;subst w;rw[<-hs];simp only[eN]at f0 f1⊢;have F:∀i(h:i<(au wB A).length),(au wB A)[i]=ae wB A i:=fun i h=>eZ br h;have G:∀i(h:i<(au wB C).length),(au wB C)[i]=ae wB C i:=fun i h=>eZ br h;have H:=cC br A;have I:=j7 (cC br C) (j8 (show 0<wB by decide) J);have r:=Wt H I;have K:=@EZ C;have L:eQ ((hJ ((au wB A).length+1)).map (ae wB (A+C)))=au wB (A+C):=kF br (by
  have P:2*wB^(au wB A).length<=wB^((au wB A).length+1):=by rw[j9,j4];exact kp _ br
  omega)
 have c:=vw ((hJ ((au wB A).length+1)).map (ae wB (A+C))) (by simp;omega);rw[L]at c;generalize au wB (A+C)=z,au wB A=x,au wB C=y at*;obtain⟨n,hn⟩:∃n,x.length=n:=⟨_,rfl⟩
 obtain⟨m,k⟩:∃m,y.length=m:=⟨_,rfl⟩
 rw[hn]at r c;have t:=Na (n+1) (ae wB (A+C));have j:((hJ (n+1)).map (ae wB (A+C))).length=n+1:=s_
 generalize (hJ (n+1)).map (ae wB (A+C))=l at c t j;have T:n<=1000000:=o_
 have U:m<=n:=o_
 have M:ec.wrap ((n:Int)+1)=n+1:=cH o_;simp[f0,f1,hn,M];refine⟨⟨o_,by simp only[dc];omega⟩,?_⟩;rw[M9 (n+1) (ae wB (A+C))];refine lp (α:=Nat) (fun i=>⟨[(22,.p (.int .i64 i)),(21,.p (.int .i64 n)),(6,.p (.int .u64 (dm wB A C i:Nat))),(5,.sl 0 0 1 0 (n+1)),(1,.p (.seq (y.map fun x:Nat=>.int .u64 x))),(0,.p (.seq (x.map fun x:Nat=>.int .u64 x)))],[.arr .exact 0 1 (iu (n+1) i (ae wB (A+C)))]⟩)
  (fun i=>i<=n) (fun i=>n-i) 0 s_ ?_ (he:=by simp[f0,f1,Aa])
 intro i k1;have B:=cH (i:=i) o_
 by_cases hi:i<n
 ·have f:i<x.length:=by rw[hn];exact hi
  have hx:=F i f;have d:=sU (ae wB A i) (ae wB C i) (dm wB A C i) (ng br A C i);obtain⟨g1,g2⟩:=sC br A C i;rw[g1,g2]at d;have aS:=E6 (n:=n+1) (ae wB (A+C)) (show i<n+1 by omega);have aA:i<(iu (n+1) i (ae wB (A+C))).length:=by rw[E7];omega
  have v:(iu (n+1) i (ae wB (A+C))).length=n+1:=E7 _ _ _;have V:iu (n+1) i (ae wB (A+C))≠[]:=by intro h;rw[h]at v;simp at v
  have e:i<n+1:=o_
  by_cases o:i<m
  ·have u:i<y.length:=by rw[k];exact o
   have N:=G i u;have q:(i:Int)<m:=o_
   simp[hn,k,hi,o,q,hx,N,f,u];refine c3 d ?_;simp[e,aS,B,xJ _ e,ad,aL,bP,uA];exact rd (i+1) (show i+1<=n by omega)
  ·have q:¬(i:Int)<m:=by omega
   have hz:=K (i:=i) o_;rw[hz]at d;simp[hn,k,hi,o,q,hx,f];refine c3 d ?_;simp[e,aS,B,xJ _ e,ad,aL,bP,uA];exact rd (i+1) (show i+1<=n by omega)
 have:i=n:=o_
 subst this;simp[hn,r,xJ _ (oP i),E6 _ (oP i),t,ad,aL,bP,uA];refine cp c (by simp[j];exact⟨rfl,rfl⟩) ?_ (h1:=by simp[eW,hL,j]);simp;exact bY.refl _
end Go.az
namespace Go.az
open Go.Proofs
theorem X7{x y c d:Nat}(h:x+wB=d+(y+c))(a:d<wB):(x+wB-y-c)% wB=d:=by rw[show x+wB-y-c=d by omega];exact j6 a
theorem Ys{x y c d:Nat}(h:x=d+(y+c))(a:d<wB):(x+wB-y-c)% wB=d:=by rw[show x+wB-y-c=d+wB by omega,oK];exact j6 a
theorem Pc{A C:Nat}(h:C<=A)(i:Nat):aq prog 292 [.int .u64 (ae wB A i),.int .u64 (ae wB C i),.int .u64 (fG wB A C i)] (.aD [.int .u64 (ae wB (A-C) i),.int .u64 (fG wB A C (i+1))]):=by
 have c:fG wB A C i<=1:=by rw[fG];split<;>omega
 have a:=ahP (ae wB A i) (ae wB C i) (fG wB A C i) c;have b:=cF br (A-C) i;have e:=cF br A i;have f:=cF br C i;have d:wB=18446744073709551616:=rfl;rcases Mv br h i with⟨e1,e2,e3⟩|⟨e1,e2,e3⟩
 ·rw[if_pos e1,X7 e3 b]at a;rw[e2];exact a
 ·rw[if_neg o_,Ys e3 b]at a;rw[e2];exact a
theorem KZ(A C:Nat)(j:C<=A)(w:(au wB A).length<=1000000):aq prog 254 [eN A,eN C] (eN (A-C)):=by
 refine gA_ nf func254 mix ?_;have D:(au wB C).length<=(au wB A).length:=dV br _ _ (kk j (cC br A));have r:∀i(h:i<(au wB A).length),(au wB A)[i]=ae wB A i:=fun i h=>eZ br h;have s:∀i(h:i<(au wB C).length),(au wB C)[i]=ae wB C i:=fun i h=>eZ br h;have t:=@EZ C;have u:eQ ((hJ (au wB A).length).map (ae wB (A-C)))=au wB (A-C):=kF br (kk (Nat.sub_le A C) (cC br A));have a:=vw ((hJ (au wB A).length).map (ae wB (A-C))) (by simp;omega);rw[u]at a;simp only[eN];generalize au wB (A-C)=z,au wB A=x,au wB C=y at*;obtain⟨n,hn⟩:∃n,x.length=n:=⟨_,rfl⟩
 obtain⟨m,e⟩:∃m,y.length=m:=⟨_,rfl⟩
 rw[hn]at a;have k:=Na n (ae wB (A-C));have d:((hJ n).map (ae wB (A-C))).length=n:=s_
 generalize (hJ n).map (ae wB (A-C))=l at a k d;have B:n<=1000000:=o_
 have F:m<=n:=o_
 simp[f254,hn];refine⟨by simp only[dc];omega,?_⟩;rw[M9 n (ae wB (A-C))];refine lp (α:=Nat) (fun i=>⟨[(14,.p (.int .i64 i)),(13,.p (.int .i64 n)),(6,.p (.int .u64 (fG wB A C i:Nat))),(5,.sl 0 0 1 0 n),(1,.p (.seq (y.map fun x:Nat=>.int .u64 x))),(0,.p (.seq (x.map fun x:Nat=>.int .u64 x)))],[.arr .exact 0 1 (iu n i (ae wB (A-C)))]⟩)
  (fun i=>i<=n) (fun i=>n-i) 0 s_ ?_ (he:=by simp[DC])
 intro i k1;have q:=cH (i:=i) o_
 by_cases hi:i<n
 ·have c:i<x.length:=by rw[hn];exact hi
  have hx:=r i c;have b:=Pc j i;have aS:=E6 (n:=n) (ae wB (A-C)) hi;have E:(iu n i (ae wB (A-C))).length=n:=E7 _ _ _
  by_cases f:i<m
  ·have o:i<y.length:=by rw[e];exact f
   have v:=s i o;have g:(i:Int)<m:=o_
   simp[hn,e,hi,f,g,hx,v,c,o];refine c3 b ?_;simp[hi,aS,q,xJ _ hi,ad,aL,bP,uA];exact rd (i+1) (show i+1<=n by omega)
  ·have g:¬(i:Int)<m:=by omega
   have hz:=t (i:=i) o_;rw[hz]at b;simp[hn,e,hi,f,g,hx,c];refine c3 b ?_;simp[hi,aS,q,xJ _ hi,ad,aL,bP,uA];exact rd (i+1) (show i+1<=n by omega)
 have:i=n:=o_
 subst this;simp[hn,k,ad,aL,bP,uA];refine cp a (by simp[d];exact⟨rfl,rfl⟩) ?_ (h1:=by simp[eW,hL,d]);simp;exact bY.refl _
end Go.az
namespace Go.Proofs
open Go.Shelf
def Tryz.V9:gi:=⟨fun|134=>280|129=>270|n=>n,fun|53=>269|3=>3|4=>4|46=>324|5=>5|9=>9|n=>n,fun|n=>n⟩
theorem Tryz.azK:fp prog V9:={
 mixed:=k_
 f129:=func270.trans (congrArg some k_)
 f134:=func280.trans (congrArg some k_)
 t3:=underlying3
 a3:=isAgg3
 z3:=sizeOf3
 v3:=zeroValue3
 t4:=underlying4
 a4:=isAgg4
 z4:=sizeOf4
 v4:=zeroValue4
 t5:=underlying5
 a5:=isAgg5
 z5:=sizeOf5
 v5:=zeroValue5
 t9:=underlying9
 a9:=isAgg9
 z9:=sizeOf9
 v9:=zeroValue9
 t46:=underlying324
 a46:=isAgg324
 z46:=sizeOf324
 v46:=zeroValue324
 t53:=underlying269
 a53:=isAgg269
 z53:=sizeOf269
 v53:=zeroValue269}
theorem Tryz.bits_LeadingZeros64(x:Int)(w:da)(a:0<=x)(h1:x<=18446744073709551615):
 db prog 280 #[.int .u64 x] w fun e w'=>e=.returned (.int .i64 (64-(ee x.toNat:Int)))/\w'=w:=Any.bits_LeadingZeros64 azK x w a h1
def Tryz.Wa:gi:=⟨fun|129=>270|n=>n,fun|53=>269|3=>3|4=>4|46=>324|5=>5|9=>9|n=>n,fun|n=>n⟩
theorem Tryz.azH:fv prog Wa:={
 mixed:=k_
 f129:=func270.trans (congrArg some k_)
 t3:=underlying3
 a3:=isAgg3
 z3:=sizeOf3
 v3:=zeroValue3
 t4:=underlying4
 a4:=isAgg4
 z4:=sizeOf4
 v4:=zeroValue4
 t5:=underlying5
 a5:=isAgg5
 z5:=sizeOf5
 v5:=zeroValue5
 t9:=underlying9
 a9:=isAgg9
 z9:=sizeOf9
 v9:=zeroValue9
 t46:=underlying324
 a46:=isAgg324
 z46:=sizeOf324
 v46:=zeroValue324
 t53:=underlying269
 a53:=isAgg269
 z53:=sizeOf269
 v53:=zeroValue269}
theorem Tryz.bits_Len64(x:Int)(w:da)(a:0<=x)(h1:x<=18446744073709551615):
 db prog 270 #[.int .u64 x] w fun e w'=>e=.returned (.int .i64 (ee x.toNat))/\w'=w:=Any.bits_Len64 azH x w a h1
def Tryz.V7:gi:=⟨fun|264=>209|n=>n,fun|53=>269|46=>324|n=>n,fun|n=>n⟩
theorem Tryz.azO:fl prog V7:={
 mixed:=k_
 f264:=func209.trans (congrArg some k_)
 t46:=underlying324
 a46:=isAgg324
 z46:=sizeOf324
 v46:=zeroValue324
 t53:=underlying269
 a53:=isAgg269
 z53:=sizeOf269
 v53:=zeroValue269}
open Go.RowKit Go.Lib in
theorem Tryz.bits_Mul64(x y:Nat)(hx:x<18446744073709551616)(hy:y<18446744073709551616)(w:da):
 db prog 209 #[.int .u64 x,.int .u64 y] w fun e w'=>e=.returned (.tuple #[.int .u64 ((x*y/18446744073709551616:Nat):Int),.int .u64 ((x*y% 18446744073709551616:Nat):Int)])/\w'=w:=Any.bits_Mul64 azO x y hx hy w
end Go.Proofs
namespace Go.az
open Go.Proofs
section
variable[Gl]{P:dg}
theorem lH{f:dp}{fn:Func}(h:P.funcs[f]?=some fn)(hs:(fn.body.isSome&&(fn.name != "runtime.NumGoroutine"))=true):Enters P f:=by
 intro args w;simp only[b2,bne_iff_ne]at hs;cases a:fn.body with
 |none=>rw[a]at hs;simp at hs
 |some c=>simp[callFunc,h,hs.2,a]
theorem mX{f:dp}{args:List PV}{v:PV}(j:Enters P f)
 (h:∀(w:da)(aa:Nat->Prop)(a:List dq),(∀k,aa k->k<w.heap.size)->oG P w aa->bO P w aa args a->
  db P f a.toArray w fun e w'=>∃cv,e=.returned cv/\(w.heap.size<=w'.heap.size/\(∀k,k<w.heap.size->w'.heap[k]?=w.heap[k]?)/\w'.os=w.os/\w'.output=w.output)/\∀(w:da)(aa:Nat->Prop),aF P w aa v cv):aq P f args v:=by
 refine .inl ⟨j,fun w aa a c l i=>(h w aa a c l i).mono ?_⟩;rintro e w' ⟨cv,rfl,⟨b,d,m⟩,g⟩;exact⟨cv,aa,rfl,fun _ x=>x,fun _ x=>.inl x,fun k hk=>j7 (c k hk) b,b,d,m,g _ _⟩
theorem sF{w:da}{aa:Nat->Prop}{a b:PV}{cs:List dq}(h:bO P w aa [a,b] cs):∃x y,cs=[x,y]/\aF P w aa a x/\aF P w aa b y:=by
 simp only[bO]at h;obtain⟨x,xs,rfl,c,y,e,rfl,d,rfl⟩:=h;exact⟨x,y,rfl,c,d⟩
theorem AM{w:da}{aa:Nat->Prop}{a:PV}{cs:List dq}(h:bO P w aa [a] cs):∃x,cs=[x]/\aF P w aa a x:=by
 simp only[bO]at h;obtain⟨x,xs,rfl,b,rfl⟩:=h;exact⟨x,rfl,b⟩
end
theorem A6(x y:Nat)(hx:x<18446744073709551616)(g:y<18446744073709551616):aq prog 209 [.int .u64 x,.int .u64 y] (.aD [.int .u64 ((x*y/18446744073709551616:Nat):Int),.int .u64 ((x*y% 18446744073709551616:Nat):Int)]):=by
 refine mX (lH func209 k_) fun w aa h _ _ f=>?_;obtain⟨a,b,rfl,c,d⟩:=sF f;simp only[aF]at c d;subst c d;refine(bits_Mul64 x y hx g w).mono ?_;rintro e w' ⟨rfl,rfl⟩;refine⟨_,rfl,⟨ky _,fun _ _=>rfl,rfl,rfl⟩,fun w aa=>?_⟩;simp only[aF,bO];exact⟨[_,_],⟨_,_,rfl,rfl,_,_,rfl,rfl,rfl⟩,rfl⟩
theorem Pf(x:Nat)(hx:x<18446744073709551616):aq prog 280 [.int .u64 x] (.int .i64 (64-(ee x:Int))):=by
 refine mX (lH func280 k_) fun w aa d _ _ c=>?_;obtain⟨a,rfl,b⟩:=AM c;simp only[aF]at b;subst b;refine(bits_LeadingZeros64 x w o_ o_).mono ?_;rintro e w' ⟨rfl,rfl⟩;refine⟨_,rfl,⟨ky _,fun _ _=>rfl,rfl,rfl⟩,fun w aa=>?_⟩;simp only[aF];rfl
end Go.az
namespace Go.az
open Go.Proofs
theorem fY(n:Int)(h:0<=n)(a:n<wB):eb.wrap n=n:=IntWalk.u64_in n ⟨h,by simp only[wB]at a;omega⟩
def cz(n:Nat)(f:Nat->Nat):List AV:=(hJ n).map fun j=>uA (f j)
theorem NW(n:Nat)(f:Nat->Nat):(cz n f).length=n:=by simp[cz]
theorem n9{n j:Nat}(f:Nat->Nat)(h:j<n):(cz n f)[j]?=some (.p (.int .u64 (f j))):=by
 rw[cz,iy,ik h];rfl
theorem EA{n:Nat}{f:Nat->Nat}(h:∀j,f j=0):hP n (AV.p (.int .u64 0))=cz n f:=by
 apply hQ (by simp[cz]);intro i a b;simp[cz,uA,h]
theorem qX{n i v:Nat}{f g:Nat->Nat}(d:g i=v)(c:∀k,k≠i->g k=f k):(cz n f).set i (.p (.int .u64 v))=cz n g:=by
 apply hQ (by simp[cz]);intro j e b;simp only[cz,jh,ix]at b;rw[i6];simp only[cz,i7,ip,uA]
 by_cases a:i=j
 ·subst a;rw[if_pos rfl,d]
 ·rw[if_neg a,c j o_]
theorem EB(n:Nat)(f:Nat->Nat):cz n f=((hJ n).map f).map (AV.p∘fun x:Nat=>PV.int .u64 x):=by
 rw[cz,ii];rfl
theorem DT{n:Nat}{f g:Nat->Nat}(h:∀k,f k=g k):cz n f=cz n g:=by rw[show f=g from funext h]
@[simp] theorem aM6{N:Nat×Nat->Prop}{n:Nat}{f:Nat->Nat}:aZ N (cz n f)=True:=by
 rw[dP,eq_iff_iff,iff_true];intro v a;simp only[cz,h4]at a;obtain⟨x,_,rfl⟩:=a;trivial
@[simp] theorem aM9{σ:Nat->Nat}{n:Nat}{f:Nat->Nat}:cU σ (cz n f)=cz n f:=by
 have:∀l:List Nat,cU σ (l.map fun j=>uA (f j))=l.map fun j=>uA (f j):=by
  intro l
  induction l with
  |nil=>rfl
  |cons a r b=>simp only[hM,cU,b];rfl
 exact this _
theorem mul_two(P o k:Nat)(h:(P+o+k)/wB<wB)(a:o<wB)(hk:k<wB):
 ((P% wB+o+0)% wB+k+0)% wB=(P+o+k)% wB/\P/wB+(P% wB+o+0)/wB+((P% wB+o+0)% wB+k+0)/wB=(P+o+k)/wB/\P/wB+(P% wB+o+0)/wB<wB:=by
 simp only[wB]at*;omega
theorem Wv(a b:Nat)(C:(au wB a).length+(au wB b).length<=1000000):aq prog 213 [eN a,eN b] (eN (a*b)):=by
 refine gA_ nf func213 mix ?_;have N:∀i(h:i<(au wB a).length),(au wB a)[i]=ae wB a i:=fun i h=>eZ br h;have O:∀i(h:i<(au wB b).length),(au wB b)[i]=ae wB b i:=fun i h=>eZ br h;have s:=cC br a;have o:=cC br b;have S:eQ ((hJ ((au wB a).length+(au wB b).length)).map (ae wB (a*b)))=au wB (a*b):=kF br (by
  rw[lb];exact lq s o)
 have d:=vw ((hJ ((au wB a).length+(au wB b).length)).map (ae wB (a*b))) (by simp;omega);rw[S]at d;simp only[eN];generalize au wB (a*b)=z,au wB a=x,au wB b=y at*;obtain⟨n,hn⟩:∃n,x.length=n:=⟨_,rfl⟩
 obtain⟨m,c⟩:∃m,y.length=m:=⟨_,rfl⟩
 rw[hn]at s d C;rw[c]at o d C;have D:=EB (n+m) (ae wB (a*b));have t:((hJ (n+m)).map (ae wB (a*b))).length=n+m:=s_
 generalize (hJ (n+m)).map (ae wB (a*b))=l at d D t;have ab:ec.wrap ((n:Int)+m)=((n+m:Nat):Int):=by rw[aR _ o_ o_];omega
 have R:((n:Int)+m).toNat=n+m:=o_
 have Q:0<=(n:Int)+m:=o_
 have V:ec.wrap ((n:Int)+m)=(n:Int)+m:=aR _ o_ o_;simp[f213,hn,c,V,R,Q];refine⟨by simp only[dc];omega,?_⟩;rw[EA (f:=dt wB a b 0 0) (by intro j;simp[qL,mo,ae])];refine lp (α:=Nat) (fun i=>⟨[(22,.p (.int .i64 i)),(21,.p (.int .i64 n)),(20,.p (.seq (x.map fun x:Nat=>.int .u64 x))),(5,.sl 0 0 1 0 (n+m)),(1,.p (.seq (y.map fun x:Nat=>.int .u64 x)))],[.arr .exact 0 1 (cz (n+m) (dt wB a b i 0))]⟩)
  (fun i=>i<=n) (fun i=>n-i) 0 s_ ?_ (he:=s_)
 intro i k1;have T:=cH (i:=i) o_
 by_cases hi:i<n
 ·have E:i<x.length:=by rw[hn];exact hi
  have hx:=N i E;simp[hn,c,hi,E,hx];refine lp (α:=Nat) (fun j=>⟨[(29,.p (.int .i64 j)),(28,.p (.int .i64 m)),(27,.p (.seq (y.map fun x:Nat=>.int .u64 x))),(8,.p (.int .u64 (mulC wB a b i j:Nat))),(7,.p (.int .u64 (ae wB a i:Nat))),(6,.p (.int .i64 i)),(22,.p (.int .i64 i)),(21,.p (.int .i64 n)),(20,.p (.seq (x.map fun x:Nat=>.int .u64 x))),(5,.sl 0 0 1 0 (n+m)),(1,.p (.seq (y.map fun x:Nat=>.int .u64 x)))],[.arr .exact 0 1 (cz (n+m) (dt wB a b i j))]⟩)
   (fun j=>j<=m) (fun j=>m-j) 0 s_ ?_ (he:=by simp[DS])
  intro j k2;have U:=cH (i:=j) o_;have w:((i:Int)+j).toNat=i+j:=o_
  have u:0<=(i:Int)+j:=o_
  have H:ec.wrap ((i:Int)+j)=(i:Int)+j:=aR _ o_ o_
  by_cases F:j<m
  ·have G:j<y.length:=by rw[c];exact F
   have X:=O j G;have r:i+j<n+m:=o_
   have e:=n9 (dt wB a b i j) r;have q:=Ez br a b i j;have K:=vq br a b i j;have L:=vq br a b i (j+1);have M:dt wB a b i j (i+j)<wB:=by rw[dt];split<;>exact cF br _ _
   obtain⟨e1,e2,e3⟩:=mul_two (ae wB a i*ae wB b j) (dt wB a b i j (i+j)) (mulC wB a b i j) (by rw[q.2];exact L) M K;rw[q.1]at e1;rw[q.2]at e2;have I:=A6 (ae wB a i) (ae wB b j) (cF br _ _) (cF br _ _);rw[show(18446744073709551616:Nat)=wB from rfl]at I;have Y:=sU (ae wB a i*ae wB b j% wB) (dt wB a b i j (i+j)) 0 o_;have J:=sU ((ae wB a i*ae wB b j% wB+dt wB a b i j (i+j)+0)% wB) (mulC wB a b i j) 0 o_;rw[e1]at J;have hs:=qX (n:=n+m) (i:=i+j) (f:=dt wB a b i j) (g:=dt wB a b i (j+1)) (M7 a b i j) (fun k hk=>LD br hk);generalize ae wB a i*ae wB b j% wB=r1,ae wB a i*ae wB b j/wB=A at*;generalize (r1+dt wB a b i j (i+j)+0)% wB=Z,(r1+dt wB a b i j (i+j)+0)/wB=B at*;generalize (Z+mulC wB a b i j+0)/wB=aa at*;have w1:eb.wrap ((A:Int)+B)=((A+B:Nat):Int):=by rw[fY _ o_ o_];omega
   have w2:eb.wrap ((A:Int)+B+aa)=(mulC wB a b i (j+1):Nat):=by rw[fY _ o_ o_];omega
   simp[hn,c,F,G,X];refine c2 I ?_;simp[H,w,u,r,e,ad,aL,bP];refine c3 Y ?_;simp[w1];refine c3 J ?_;simp[H,w,u,r,e,hs,w1,w2,U,ad,aL,bP];exact rd (j+1) (show j+1<=m by omega)
  have:j=m:=o_
  subst this;have W:ec.wrap ((i:Int)+j)=(i:Int)+j:=aR _ o_ o_;have aA:i+j<n+j:=o_
  have e:=n9 (dt wB a b i j) aA;have hs:=qX (n:=n+j) (i:=i+j) (f:=dt wB a b i j) (g:=dt wB a b (i+1) 0) (v:=mulC wB a b i j) (by rw[qL,Kz br o]) (fun k hk=>by rw[qL,M8 br o hk]);simp[c,W,w,u,hi,aA,e,hs,T,ad,aL,bP];exact rd (i+1) (show i+1<=n by omega)
 have:i=n:=o_
 subst this;have P:cz (i+m) (dt wB a b i 0)=cz (i+m) (ae wB (a*b)):=DT fun k=>by rw[qL,j6 s]
 simp[hn,P,D];refine cp d (by simp[t];exact⟨rfl,rfl⟩) ?_ (h1:=by simp[eW,hL,t]);simp;exact bY.refl _
theorem A1(n:Nat):eb.wrap (n:Int)=(n% wB:Nat):=by
 rw[show eb.wrap (n:Int)=(n:Int)% 18446744073709551616 from rfl];rfl
theorem yT(x s:Nat)(hs:s<64):eb.wrap ((x:Int)*2^(min s eb.bits))=(x*2^s% wB:Nat):=by
 rw[show eb.bits=64 from rfl,oe o_,<-A1];congr 1
theorem wo(x s:Nat)(hs:s<=64):(x:Int).fdiv (2^(min s eb.bits))=(x/2^s:Nat):=by
 rw[show eb.bits=64 from rfl,oe hs,show(2:Int)^s=((2^s:Nat):Int)by push_cast;rfl,hl _ (Int.natCast_nonneg _)];rfl
theorem Gz(a b:Nat)(c:a<wB)(d:b<wB):eb.wrap ((a% 2^eb.bits|||b% 2^eb.bits:Nat):Int)=(a|||b:Nat):=by
 rw[show(2^eb.bits:Nat)=wB from rfl,j6 c,j6 d,A1,j6];exact Nat.or_lt_two_pow (n:=64) c d
def cu(a s i:Nat):Nat:=if i=0 then 0 else ae wB a (i-1)/2^(64-s)
def ic(a s i k:Nat):Nat:=if k<i then ae wB (a*2^s) k else if k=i then cu a s i else 0
theorem Br{s:Nat}(hs:s<64):2^s*2^(64-s)=wB:=by rw[<-lb,show s+(64-s)=64 by omega];rfl
theorem NL(a s i:Nat)(hs:s<64):cu a s i|||(ae wB a i*2^s% wB)=ae wB (a*2^s) i:=by
 have c:0<2^s:=kb d_;have d:0<2^(64-s):=kb d_;have b:=Br hs;have hc:cu a s i<2^s:=by
  rw[cu];split
  ·exact c
  ·rw[j5 d,b];exact cF br _ _
 have e:ae wB a i*2^s% wB=ae wB a i% 2^(64-s)*2^s:=by
  rw[<-b,j4,mm,j4]
 rw[o1,e,Ft hc,<-e];cases i with
 |zero=>rw[cu,if_pos rfl,mp,<-b];exact(Yc a).symm
 |succ i=>rw[cu,if_neg o_,ll,<-b];exact(Yd c d a i).symm
theorem DJ{n:Nat}{f g:Nat->Nat}(h:∀k,k<n->f k=g k):cz n f=cz n g:=by
 rw[cz,cz];exact hU fun k hk=>by rw[h k (h9.1 hk)]
theorem ajw(a s n:Nat)(hs:s<64)(h:ae wB a n=0):cu a s n=ae wB (a*2^s) n:=by
 rw[<-NL a s n hs,h,m2,oo,Nat.or_zero]
theorem Ma(a s:Nat)(hs:s<64)(z:(au wB a).length<=1000000):c8 prog 281 [] [.p (eN a),.p (.int .i64 s)] [.arr .exact 0 1 (cz ((au wB a).length+1) (ae wB (a*2^s)))] (.sl 0 0 1 0 ((au wB a).length+1)):=by
 refine gX nf (i_ func281) mix (by simp[f281]) ?_;have B:∀i(h:i<(au wB a).length),(au wB a)[i]=ae wB a i:=fun i h=>eZ br h;have E:=@EZ a;simp only[eN];generalize au wB a=x at*;obtain⟨n,hn⟩:∃n,x.length=n:=⟨_,rfl⟩
 rw[hn]at z;have I:ec.wrap ((n:Int)+1)=(n:Int)+1:=cH o_;simp[f281,hn,I];refine⟨⟨o_,by simp only[dc];omega⟩,?_⟩;rw[EA (f:=ic a s 0) (by intro j;simp[ic,cu])];refine lp (α:=Nat) (fun i=>⟨[(14,.p (.int .i64 i)),(13,.p (.int .i64 n)),(12,.p (.seq (x.map fun x:Nat=>.int .u64 x))),(5,.sl 0 0 1 0 (n+1)),(1,.p (.int .i64 s))],[.arr .exact 0 1 (cz (n+1) (ic a s i))]⟩)
  (fun i=>i<=n) (fun i=>n-i) 0 s_ ?_ (he:=s_)
 intro i k1;have u:=cH (i:=i) o_
 by_cases hi:i<n
 ·have e:i<x.length:=by rw[hn];exact hi
  have hx:=B i e;have d:i<n+1:=o_
  have m:=n9 (ic a s i) d;have D:ae wB a i*2^s% wB<wB:=ko _ d_;have A:ic a s i i<wB:=by
   rw[ic,if_neg o_,if_pos rfl,cu];split
   ·decide
   ·exact kk (l4 _ _) (cF br _ _)
  have e1:=yT (ae wB a i) s hs;have e2:=Gz (ic a s i i) (ae wB a i*2^s% wB) A D;have e3:ic a s i i|||(ae wB a i*2^s% wB)=ae wB (a*2^s) i:=by rw[<-NL a s i hs,ic,if_neg o_,if_pos rfl]
  rw[e3]at e2;have w:ec.wrap (64-(s:Int))=((64-s:Nat):Int):=by rw[aR _ o_ o_];omega
  have e4:=wo (ae wB a i) (64-s) o_;have q:i+1<n+1:=o_
  have r:=qX (n:=n+1) (i:=i) (f:=ic a s i) (g:=fun k=>if k=i then ae wB (a*2^s) i else ic a s i k) (if_pos rfl) (fun k hk=>if_neg hk);have F:=qX (n:=n+1) (i:=i+1) (v:=ae wB a i/2^(64-s)) (f:=fun k=>if k=i then ae wB (a*2^s) i else ic a s i k) (g:=ic a s (i+1)) (by
   simp[ic,cu]) (fun k hk=>by
   by_cases c:k=i
   ·subst c;simp[ic]
   ·simp only[ic,c,if_false]
    by_cases b:k<i
    ·rw[if_pos o_,if_pos b]
    ·rw[if_neg o_,if_neg hk,if_neg b])
  have C:=n9 (n:=n+1) (fun k=>if k=i then ae wB (a*2^s) i else ic a s i k) q;have G:s=0->cz (n+1) (fun k=>if k=i then ae wB (a*2^s) i else ic a s i k)=cz (n+1) (ic a s (i+1)):=fun h=>by
   have hz:ae wB a i/2^(64-s)=0:=by rw[h];exact kv (cF br _ _)
   refine DT fun k=>?_
   by_cases c:k=i
   ·subst c;simp[ic]
   ·simp only[ic,c,if_false]
    by_cases b:k<i
    ·rw[if_pos b,if_pos o_]
    ·by_cases o:k=i+1
     ·rw[o,if_neg o_,if_neg o_,if_pos rfl,cu,if_neg o_,ll,hz]
     ·rw[if_neg b,if_neg o_,if_neg o]
  generalize ae wB a i*2^s% wB=r1,ae wB a i/2^(64-s)=J,(fun k=>if k=i then ae wB (a*2^s) i else ic a s i k)=g1 at*;obtain⟨t,H⟩:∃t,t=64-s:=⟨_,rfl⟩
  rw[<-H]at w e4
  by_cases l:0<s
  ·simp[hn,hi,d,e,hx,m,e1,e2,l,w,e4,u,r,q,C,F,ad,aL,bP];refine⟨⟨by rfl,by rfl,by rfl⟩,?_⟩;refine⟨o_,?_⟩;exact rd (i+1) (show i+1<=n by omega)
  ·have y:s=0:=by omega
   simp[hn,hi,d,e,hx,m,e1,e2,l,u,r,G y,ad,aL,bP];refine⟨⟨by rfl,by rfl,by rfl⟩,?_⟩;exact rd (i+1) (show i+1<=n by omega)
 have:i=n:=o_
 subst this;simp[hn];refine .inl (DJ fun k hk=>?_);rw[ic]
 by_cases b:k<i
 ·rw[if_pos b]
 ·obtain rfl:k=i:=by omega
  rw[if_neg b,if_pos rfl,ajw a s k hs (E o_)]
theorem Aj:∀(n x:Nat),x<=n->0<x->x<2^64->1<=ee x/\2^(ee x-1)<=x/\x<2^ee x
 |0,x,h,a,_=>by omega
 |n+1,x,h,a,c=>by
  have d:=Lib.bitLen_half x o_ c
  by_cases b:x=1
  ·subst b;decide
  ·obtain⟨i1,i2,i3⟩:=Aj n (x/2) o_ o_ o_;rw[d];generalize ee (x/2)=L at*;obtain⟨k,rfl⟩:∃k,L=k+1:=⟨L-1,o_⟩
   rw[show 1+(k+1)=k+2 by omega,show k+2-1=k+1 by omega,j9,j9];rw[j9]at i3;simp only[ll]at i2;omega
theorem P6{x:Nat}(a:0<x)(h:x<2^64):ee x<=64:=by
 obtain⟨_,b,_⟩:=Aj x x (ky _) a h;have:=(oi (show 1<2 by decide)).1 (kk b h);omega
def wH:Nat:=4294967296
theorem wHH:wH*wH=wB:=rfl
theorem MZ{y:Nat}(a:0<y)(h:y<2^64):∃s,s<64/\ee y+s=64/\wB<=2*(y*2^s)/\y*2^s<wB:=by
 obtain⟨d,b,c⟩:=Aj y y (ky _) a h;have e:=P6 a h;refine⟨64-ee y,o_,o_,?_,?_⟩
 ·have:=km (2^(64-ee y)) b;rw[<-lb,show ee y-1+(64-ee y)=63 by omega]at this;simp only[wB];omega
 ·have:=lz c (kb (show 0<2 by decide) (n:=64-ee y));rw[<-lb,show ee y+(64-ee y)=64 by omega]at this;simp only[wB];omega
structure SM(hi lo y s:Nat) where
 Y:Nat
 v1:Nat
 v0:Nat
 T:Nat
 u:Nat
 u1:Nat
 u0:Nat
 q1:Nat
 R:Nat
 q0:Nat
 hY:Y=y*2^s
 eY:Y=v1*wH+v0
 CE:v1<wH
 mQ:v0<wH
 wz:wH<=2*v1
 yY:T<Y
 Cn:hi*2^s<wB
 tX:hi*2^s|||lo/2^(64-s)=T
 eu:u=lo*2^s% wB
 Ga:u1=u/wH
 F9:u0=u% wH
 CC:u1<wH
 CB:u0<wH
 qh:q1=hq wH v1 v0 T u1
 Cv:q1<wH
 eR:R=T*wH+u1-q1*Y
 yW:R<Y
 Sh:q1*Y<=T*wH+u1
 yJ:q0=hq wH v1 v0 R u0
 Cu:q0<wH
 Sg:q0*Y<=R*wH+u0
 E5:q1*wH+q0=(hi*wB+lo)/y
 rem:(R*wH+u0-q0*Y)/2^s=(hi*wB+lo)% y
theorem aly{hi lo y:Nat}(o:hi<y)(F:y<wB)(z:lo<wB):∃s,s<64/\ee y+s=64/\Nonempty (SM hi lo y s):=by
 obtain⟨s,hs,t,G,m⟩:=MZ (y:=y) o_ F;have g:=Br hs;have a:0<2^s:=kb d_;have v:0<2^(64-s):=kb d_;refine⟨s,hs,t,⟨?_⟩⟩;have e0:y*2^s=y*2^s/wH*wH+y*2^s% wH:=by rw[j4 _ wH,kr]
 have C:y*2^s% wH<wH:=ko _ d_;have D:y*2^s/wH<wH:=by rw[j5 d_];exact m
 have E:wH<=2*(y*2^s/wH):=by simp only[wH,wB]at*;omega
 have x:lo/2^(64-s)<2^s:=by rw[j5 v,g];exact z
 have r:hi*2^s<wB:=m3 (lz o a) m;have h:hi*2^s+lo/2^(64-s)<y*2^s:=by
  have:=km (2^s) (show hi+1<=y from o);rw[la,l0]at this;omega
 have A:hi*2^s|||lo/2^(64-s)=hi*2^s+lo/2^(64-s):=Ft x
 have n:lo*2^s% wB/wH<wH:=by rw[j5 d_];exact ko _ d_
 have b:lo*2^s% wB% wH<wH:=ko _ d_;have i:(hi*wB+lo)*2^s=((hi*2^s+lo/2^(64-s))*wH+lo*2^s% wB/wH)*wH+lo*2^s% wB% wH:=by
  have e1:lo*2^s=lo/2^(64-s)*wB+lo*2^s% wB:=by
   have e2:lo*2^s/wB=lo/2^(64-s):=by
    rw[<-g,j4 lo,Nat.mul_div_mul_left _ _ a]
   rw[<-e2,j4 _ wB,kr]
  have e3:lo*2^s% wB=lo*2^s% wB/wH*wH+lo*2^s% wB% wH:=by rw[j4 _ wH,kr]
  rw[la,l3,e1,la (_*wH),kw (_+_) wH wH,wHH,la];generalize hi*2^s*wB=a1;rw[<-e1];generalize lo*2^s% wB=a2,lo/2^(64-s)*wB=a3 at*;omega
 have l:0<y*2^s:=o_
 obtain⟨e,d⟩:=aqr (Y:=y*2^s) (U:=(hi*wB+lo)*2^s) (c:=wH) l;have j:(hi*wB+lo)*2^s/wH=(hi*2^s+lo/2^(64-s))*wH+lo*2^s% wB/wH:=by
  rw[i,lv,l2 _ _ d_,kv b,mb]
 have k:(hi*wB+lo)*2^s% wH=lo*2^s% wB% wH:=by
  rw[i,lv,ls,j6 b]
 rw[j,k,m6 _ _ a]at e;rw[j,k,j4 _ (2^s),j4 y,mm]at d;rw[j4 (2^s) y]at d;generalize w:y*2^s=Y,hi*2^s+lo/2^(64-s)=T,B:lo*2^s% wB=u at*;have r1:=Ol (T:=T) (c:=wH) (u1:=u/wH) (v1:=Y/wH) (v0:=Y% wH);rw[<-e0]at r1;have r0:=Ol (T:=(T*wH+u/wH)% Y) (c:=wH) (u1:=u% wH) (v1:=Y/wH) (v0:=Y% wH);rw[<-e0]at r0;have q:hq wH (Y/wH) (Y% wH) T (u/wH)=(T*wH+u/wH)/Y:=by rw[hq,<-e0]
 have p:hq wH (Y/wH) (Y% wH) ((T*wH+u/wH)% Y) (u% wH)=((T*wH+u/wH)% Y*wH+u% wH)/Y:=by rw[hq,<-e0]
 have f:(T*wH+u/wH)% Y<Y:=ko _ l;exact{
  Y:=Y,v1:=Y/wH,v0:=Y% wH,T:=T,u:=u,u1:=u/wH,u0:=u% wH
  q1:=hq wH (Y/wH) (Y% wH) T (u/wH),R:=(T*wH+u/wH)% Y,q0:=hq wH (Y/wH) (Y% wH) ((T*wH+u/wH)% Y) (u% wH)
  hY:=w.symm,eY:=e0,CE:=D,mQ:=C,wz:=E,yY:=h,Cn:=r,tX:=A,eu:=B.symm,Ga:=rfl,F9:=rfl,CC:=n,CB:=b
  qh:=rfl,Cv:=QB (by rw[<-e0];exact h) n,eR:=r1.symm,yW:=f
  Sh:=by rw[q];exact lw _ _
  yJ:=rfl,Cu:=QB (by rw[<-e0];exact f) b
  Sg:=by rw[p];exact lw _ _
  E5:=by rw[q,p,<-e]
  rem:=by rw[r0,<-d,Nat.mul_div_cancel_left _ a]}
section
variable[Gl]{P:dg}{an:dp->Bool}{q:Nat×Nat}
theorem tO{b:Code}{Q:bE->St->Prop}{s:St}{id:Nat}(R:St->Prop)(f:fk P an q (.loop b) (sZ id (tj R (fun _ _=>False))) s)(c:∀s',R s'->Q .normal s'):fk P an q (.loop b) (sZ id Q) s:=by
 refine px _ (fun e s a=>?_) f;cases e with
 |normal=>exact c s a
 |exit i=>
  simp only[sZ,q8]at a⊢
  by_cases d:i=id
  ·simp[d,tj]at a⊢;exact c s a
  ·simp[d,tj]at a
 |ret=>exact a.elim
end
theorem Mg(a:Nat)(b:a<wB):eb.wrap ((a% 2^eb.bits&&&4294967295% 2^eb.bits:Nat):Int)=(a% wH:Nat):=by
 rw[show(2^eb.bits:Nat)=wB from rfl,j6 b,show 4294967295% wB=2^32-1 from rfl,ns,A1];rw[show(2:Nat)^32=wH from rfl,j6 (j7 (ko _ d_) (show wH<=wB by decide))]
theorem SI{a b c:Int}{R:Nat}(h:a+b-c=R)(hR:R<wB):eb.wrap (eb.wrap (eb.wrap a+b)-eb.wrap c)=R:=by
 show(((a% 18446744073709551616+b)% 18446744073709551616)-c% 18446744073709551616)% 18446744073709551616=R;have:R<18446744073709551616:=hR;omega
theorem OD(hi lo y:Nat)(ar:hi<y)(ac:y<wB)(aa:lo<wB):aq prog 279 [.int .u64 hi,.int .u64 lo,.int .u64 y] (.aD [.int .u64 ((hi*wB+lo)/y:Nat),.int .u64 ((hi*wB+lo)% y:Nat)]):=by
 refine gA_ nf func279 mix ?_;have B:¬(y:Int)=0:=o_
 have G:¬(y:Int)<=hi:=o_
 have W:¬y<=hi:=o_
 have V:¬y=0:=o_
 by_cases U:hi=0
 ·subst U;have X:eb.wrap ((lo:Int)/y)=(lo:Int)/y:=fY _ (g5 o_ o_) (g6 (ha _ o_) o_);have al:(lo:Int).tmod y=(lo:Int)% y:=Int.tmod_eq_emod_of_nonneg o_;simp[f279,B,G,V,W,X,al]
 obtain⟨s,hs,aG,⟨Y,b,v0,T,u,u1,u0,q1,R,q0,S,eY,CE,mQ,wz,yY,Cn,tX,eu,Ga,F9,CC,CB,qh,Cv,eR,yW,Sh,yJ,Cu,Sg,E5,rem⟩⟩:=aly ar ac aa;have ao:=Pf y ac;obtain⟨t,ab⟩:∃t,t=64-s:=⟨_,rfl⟩
 have H:wH=4294967296:=rfl;have am:wB=18446744073709551616:=rfl;have O:Y<wB:=by
  rw[H]at CE mQ eY;rw[am];omega
 have ak:eb.wrap (64-((ee y:Nat):Int))=s:=by rw[fY _ o_ o_];omega
 have f2:eb.wrap (64-(s:Int))=t:=by rw[fY _ o_ o_];omega
 have f3:eb.wrap ((y:Int)*2^(min s eb.bits))=Y:=by rw[yT y s hs,<-S,j6 O]
 have f4:(Y:Int).fdiv (2^(min 32 eb.bits))=b:=by
  rw[wo Y 32 o_];rw[H]at mQ eY;congr 1;omega
 have f5:eb.wrap ((hi:Int)*2^(min s eb.bits))=(hi*2^s:Nat):=by rw[yT hi s hs,j6 Cn]
 have f6:(lo:Int).fdiv (2^(min t eb.bits))=(lo/2^t:Nat):=wo lo t o_;have f7:=Gz (hi*2^s) (lo/2^t) Cn (kk (l4 _ _) aa);rw[ab,tX,<-ab]at f7;have f8:eb.wrap ((lo:Int)*2^(min s eb.bits))=u:=by rw[yT lo s hs,<-eu]
 have aD:u<wB:=by rw[eu];exact ko _ d_
 have f9:(u:Int).fdiv (2^(min 32 eb.bits))=u1:=by
  rw[wo u 32 o_];congr 1;rw[Ga];rfl
 have d:0<b:=by rw[H]at wz;omega
 have af:¬b=0:=o_
 have ag:¬(b:Int)=0:=o_
 have aE:T<wB:=o_
 generalize hi*2^s=aF,lo/2^t=aH at*;have ax:T/b<=wH+1:=QA d (by rw[<-eY];exact yY) wz mQ;have aB:T/b*b+T% b=T:=by rw[j4,kr]
 have aI:T% b<b:=ko _ d;have az:=Om (T:=T) (u1:=u1) d mQ CC;have g1:eb.wrap ((T:Int)/b)=(T/b:Nat):=by rw[fY _ (g5 o_ o_) (g6 (ha _ o_) o_)];rfl
 generalize T/b=E,T% b=ad at*;have g2:eb.wrap ((T:Int)-eb.wrap ((E:Int)*b))=ad:=by
  have e:((E*b:Nat):Int)=(E:Int)*b:=by push_cast;rfl
  rw[fY ((E:Int)*b) o_ o_,fY _ o_ o_];omega
 have P:=Mg Y O;have Q:=Mg u aD;rw[show Y% wH=v0 by rw[eY,lv,ls,j6 mQ]]at P;rw[<-F9]at Q;have aQ:b<4294967296:=CE;have aN:v0<4294967296:=mQ;have aM:u1<4294967296:=CC;have aL:u0<4294967296:=CB;have aO:4294967296<=2*b:=wz;have ay:R/b<=wH+1:=QA d (by rw[<-eY];exact yW) wz mQ;have aC:R/b*b+R% b=R:=by rw[j4,kr]
 have aK:R% b<b:=ko _ d;have ah:R<wB:=o_
 have aA:=Om (T:=R) (u1:=u0) d mQ CB;have au:eb.wrap ((R:Int)/b)=(R/b:Nat):=by rw[fY _ (g5 o_ o_) (g6 (ha _ o_) o_)];rfl
 generalize R/b=F,R% b=ae at*;have av:eb.wrap ((R:Int)-eb.wrap ((F:Int)*b))=ae:=by
  have e:((F*b:Nat):Int)=(F:Int)*b:=by push_cast;rfl
  rw[fY ((F:Int)*b) o_ o_,fY _ o_ o_];omega
 have M1:eb.wrap (eb.wrap (eb.wrap ((T:Int)*4294967296)+u1)-eb.wrap ((q1:Int)*Y))=R:=by
  refine SI (h:=?_) (hR:=ah);have e1:((T*wH:Nat):Int)=(T:Int)*4294967296:=by push_cast;rfl
  have e2:((q1*Y:Nat):Int)=(q1:Int)*Y:=by push_cast;rfl
  omega
 have M2:eb.wrap (eb.wrap ((q1:Int)*4294967296)+q0)=((q1*wH+q0:Nat):Int):=by
  have B:q1*4294967296+q0<18446744073709551616:=by
   have G:q1<4294967296:=Cv;have X:q0<4294967296:=Cu;omega
  rw[fY ((q1:Int)*4294967296) o_ o_,fY _ o_ o_];push_cast;rfl
 obtain⟨Z,I⟩:∃Z,Z=R*wH+u0-q0*Y:=⟨_,rfl⟩
 have ai:Z<wB:=by
  have B:Z/2^s<y:=by rw[I,rem];exact ko _ o_
  rw[j5 (kb d_),<-S]at B;omega
 have M3:eb.wrap (eb.wrap (eb.wrap ((R:Int)*4294967296)+u0)-eb.wrap ((q0:Int)*Y))=Z:=by
  refine SI (h:=?_) (hR:=ai);have e1:((R*wH:Nat):Int)=(R:Int)*4294967296:=by push_cast;rfl
  have e2:((q0*Y:Nat):Int)=(q0:Int)*Y:=by push_cast;rfl
  omega
 have M4:=wo Z s o_;rw[I,rem]at M4;rw[<-I]at M4;rw[E5]at M2;simp[f279,B,G,V,W,U];refine c1 ao ?_;simp[ak,f2,f3,f4,f5,f6,f7,f8,f9,af,ag,g1,g2,P,Q];refine tO (fun s'=>aP s'.env 15=.p (.int .u64 q1)/\aP s'.env 14=.p (.int .u64 u0)/\aP s'.env 13=.p (.int .u64 u1)/\aP s'.env 11=.p (.int .u64 T)/\aP s'.env 10=.p (.int .u64 v0)/\aP s'.env 9=.p (.int .u64 b)/\aP s'.env 8=.p (.int .u64 s)/\aP s'.env 2=.p (.int .u64 Y)/\s'.heap=[]) ?_ ?_
 ·refine lp (α:=Nat×Nat) (fun a=>⟨[(16,.p (.int .u64 a.2)),(15,.p (.int .u64 a.1)),(14,.p (.int .u64 u0)),(13,.p (.int .u64 u1)),(11,.p (.int .u64 T)),(10,.p (.int .u64 v0)),(9,.p (.int .u64 b)),(8,.p (.int .u64 s)),(2,.p (.int .u64 Y))],[]⟩) (fun a=>a.1*b+a.2=T/\hq wH b v0 T u1<=a.1/\a.2<wH/\a.1<=wH+1) (fun a=>a.1) (E,ad) ⟨aB,az,o_,ax⟩ ?_;rintro⟨x,r⟩ ⟨k1,k2,k3,k4⟩;dsimp only at k1 k2 k3 k4;have aw:r<4294967296:=k3;have N:x<=4294967297:=k4;have g:eb.wrap ((x:Int)*v0)=(x*v0:Nat):=by
   have:=nb N (show v0<=4294967295 by omega);rw[fY _ (by rw[<-gU];omega) (by rw[<-gU];omega)];push_cast;rfl
  have q:eb.wrap (4294967296*(r:Int))=4294967296*r:=fY _ o_ o_;have v:eb.wrap (4294967296*(r:Int)+u1)=4294967296*r+u1:=fY _ o_ o_;have l:eb.wrap ((r:Int)+b)=r+b:=fY _ o_ o_
  by_cases i:4294967296<=x\/4294967296*r+u1<x*v0
  ·have kd:=Pu d (show 0<wH by decide) k1 k2 (i.imp (fun h=>⟨h,by rw[<-qh];exact Cv⟩) id);obtain⟨k,rfl⟩:∃k,x=k+1:=⟨x-1,by
    rcases i with h|h
    ·omega
    ·rcases lk x with e|e
     ·rw[e]at h;omega
     ·omega⟩
   have j:eb.wrap (k:Int)=k:=fY _ o_ o_;have k5:k*b+(r+b)=T:=by rw[<-k1,la];omega
   rw[ll]at kd;have kB:k<=wH+1:=o_
   by_cases J:4294967296<=r+b
   ·have hq:=Nt d (by rw[<-eY];exact yY) mQ k5 J kd;have f:(4294967296:Int)<=(r:Int)+b:=by omega
    rw[<-qh]at hq;subst hq;rcases lc (k+1) 4294967296 with hc|hc
    ·have m:((k:Int)+1<4294967296):=by omega
     have c:¬((4294967296:Int)<=(k:Int)+1):=o_
     have n:(4294967296*(r:Int)+u1<((k+1)*v0:Nat)):=o_
     have o:4294967296*r+u1<(k+1)*v0:=o_
     generalize (k+1)*v0=D at*;push_cast at g;simp[g,q,v,j,l,m,c,n,o,f]
    ·have c:((4294967296:Int)<=(k:Int)+1):=by omega
     simp[j,l,c,f]
   ·have f:¬(4294967296:Int)<=(r:Int)+b:=by omega
    rcases lc (k+1) 4294967296 with hc|hc
    ·have m:((k:Int)+1<4294967296):=by omega
     have c:¬((4294967296:Int)<=(k:Int)+1):=o_
     have n:(4294967296*(r:Int)+u1<((k+1)*v0:Nat)):=o_
     have o:4294967296*r+u1<(k+1)*v0:=o_
     generalize (k+1)*v0=D at*;push_cast at g;simp[g,q,v,j,l,m,c,n,o,f];exact rd (k,r+b) ⟨k5,kd,show r+b<4294967296 by omega,kB⟩
    ·have c:((4294967296:Int)<=(k:Int)+1):=by omega
     simp[j,l,c,f];exact rd (k,r+b) ⟨k5,kd,show r+b<4294967296 by omega,kB⟩
  ·have ap:¬4294967296<=x:=fun h=>i (.inl h);have L:¬4294967296*r+u1<x*v0:=fun h=>i (.inr h);have hq:=EU d (show 0<wH by decide) k1 k2 (oB.1 L);rw[<-qh]at hq;subst hq;have K:¬(4294967296:Int)<=x:=by omega
   have M:¬(4294967296*(r:Int)+u1<(x*v0:Nat)):=o_
   generalize x*v0=D at*;simp[g,q,v,K,M]
 rintro⟨aj,an⟩ ⟨x1,x2,x3,x4,x5,w,z,A,C⟩;dsimp only at x1 x2 x3 x4 x5 w z A C;subst C;simp[x1,x2,x3,x4,x5,w,z,A,M1,af,ag,au,av];refine tO (fun s'=>aP s'.env 18=.p (.int .u64 q0)/\aP s'.env 15=.p (.int .u64 q1)/\aP s'.env 17=.p (.int .u64 R)/\aP s'.env 14=.p (.int .u64 u0)/\aP s'.env 10=.p (.int .u64 v0)/\aP s'.env 9=.p (.int .u64 b)/\aP s'.env 8=.p (.int .u64 s)/\aP s'.env 2=.p (.int .u64 Y)/\s'.heap=[]) ?_ ?_
 ·refine lp (α:=Nat×Nat) (fun a=>⟨[(16,.p (.int .u64 a.2)),(18,.p (.int .u64 a.1)),(15,.p (.int .u64 q1)),(17,.p (.int .u64 R)),(14,.p (.int .u64 u0)),(10,.p (.int .u64 v0)),(9,.p (.int .u64 b)),(8,.p (.int .u64 s)),(2,.p (.int .u64 Y))],[]⟩) (fun a=>a.1*b+a.2=R/\hq wH b v0 R u0<=a.1/\a.2<wH/\a.1<=wH+1) (fun a=>a.1) (F,ae) ⟨aC,aA,o_,ay⟩ ?_ (he:=by simp[x1,x2,x3,x4,x5,w,z,A]);rintro⟨x,r⟩ ⟨k1,k2,k3,k4⟩;dsimp only at k1 k2 k3 k4;have aw:r<4294967296:=k3;have N:x<=4294967297:=k4;have g:eb.wrap ((x:Int)*v0)=(x*v0:Nat):=by
   have:=nb N (show v0<=4294967295 by omega);rw[fY _ (by rw[<-gU];omega) (by rw[<-gU];omega)];push_cast;rfl
  have q:eb.wrap (4294967296*(r:Int))=4294967296*r:=fY _ o_ o_;have v:eb.wrap (4294967296*(r:Int)+u0)=4294967296*r+u0:=fY _ o_ o_;have l:eb.wrap ((r:Int)+b)=r+b:=fY _ o_ o_
  by_cases i:4294967296<=x\/4294967296*r+u0<x*v0
  ·have kd:=Pu d (show 0<wH by decide) k1 k2 (i.imp (fun h=>⟨h,by rw[<-yJ];exact Cu⟩) id);obtain⟨k,rfl⟩:∃k,x=k+1:=⟨x-1,by
    rcases i with h|h
    ·omega
    ·rcases lk x with e|e
     ·rw[e]at h;omega
     ·omega⟩
   have j:eb.wrap (k:Int)=k:=fY _ o_ o_;have k5:k*b+(r+b)=R:=by rw[<-k1,la];omega
   rw[ll]at kd;have kB:k<=wH+1:=o_
   by_cases J:4294967296<=r+b
   ·have hq:=Nt d (by rw[<-eY];exact yW) mQ k5 J kd;have f:(4294967296:Int)<=(r:Int)+b:=by omega
    rw[<-yJ]at hq;subst hq;rcases lc (k+1) 4294967296 with hc|hc
    ·have m:((k:Int)+1<4294967296):=by omega
     have c:¬((4294967296:Int)<=(k:Int)+1):=o_
     have n:(4294967296*(r:Int)+u0<((k+1)*v0:Nat)):=o_
     have o:4294967296*r+u0<(k+1)*v0:=o_
     generalize (k+1)*v0=D at*;push_cast at g;simp[g,q,v,j,l,m,c,n,o,f]
    ·have c:((4294967296:Int)<=(k:Int)+1):=by omega
     simp[j,l,c,f]
   ·have f:¬(4294967296:Int)<=(r:Int)+b:=by omega
    rcases lc (k+1) 4294967296 with hc|hc
    ·have m:((k:Int)+1<4294967296):=by omega
     have c:¬((4294967296:Int)<=(k:Int)+1):=o_
     have n:(4294967296*(r:Int)+u0<((k+1)*v0:Nat)):=o_
     have o:4294967296*r+u0<(k+1)*v0:=o_
     generalize (k+1)*v0=D at*;push_cast at g;simp[g,q,v,j,l,m,c,n,o,f];exact rd (k,r+b) ⟨k5,kd,show r+b<4294967296 by omega,kB⟩
    ·have c:((4294967296:Int)<=(k:Int)+1):=by omega
     simp[j,l,c,f];exact rd (k,r+b) ⟨k5,kd,show r+b<4294967296 by omega,kB⟩
  ·have ap:¬4294967296<=x:=fun h=>i (.inl h);have L:¬4294967296*r+u0<x*v0:=fun h=>i (.inr h);have hq:=EU d (show 0<wH by decide) k1 k2 (oB.1 L);rw[<-yJ]at hq;subst hq;have K:¬(4294967296:Int)<=x:=by omega
   have M:¬(4294967296*(r:Int)+u0<(x*v0:Nat)):=o_
   generalize x*v0=D at*;simp[g,q,v,K,M]
 rintro⟨aj,an⟩ ⟨x1,x2,x3,x4,x5,w,z,A,C⟩;dsimp only at x1 x2 x3 x4 x5 w z A C;subst C;simp[x1,x2,x3,x4,x5,w,z,A,M2,M3,M4]
def dK(j n:Nat)(g f:Nat->Nat)(k:Nat):Nat:=if j<=k/\k<j+n then f (k-j)else g k
theorem uU{j:Nat}{g f:Nat->Nat}:dK j 0 g f=g:=by
 funext k;rw[dK,if_neg o_]
theorem Ay{m j i:Nat}{g f:Nat->Nat}{v:Nat}(a:f i=v):(cz m (dK j i g f)).set (j+i) (.p (.int .u64 v))=cz m (dK j (i+1) g f):=by
 refine qX ?_ fun k hk=>?_
 ·rw[dK,if_pos o_,m1,a]
 ·rw[dK,dK]
  by_cases h:j<=k/\k<j+i
  ·rw[if_pos h,if_pos o_]
  ·rw[if_neg h,if_neg o_]
theorem Az{m j i:Nat}{g f:Nat->Nat}(h:j+i<m):(cz m (dK j i g f))[j+i]?=some (.p (.int .u64 (g (j+i)))):=by
 rw[n9 _ h,dK,if_neg o_]
theorem YS{j n:Nat}{g f a:Nat->Nat}:dK j n (dK j n g f) a=dK j n g a:=by
 funext k;rw[dK,dK,dK];split<;>rfl
theorem apB(X V m j n:Nat)(hn:(au wB V).length=n)(y:2<=n)(bb:j+n+1<=m)(be:m<=1000002)(aF:X<V*wB^(j+1)):
 c8 prog 282 [.arr .exact 0 1 (cz m (ae wB X))] [.sl 0 0 1 j (n+1),.p (eN V)] [.arr .exact 0 1 (cz m (ae wB (X% (V*wB^j))))] (.p (.int .u64 (X/(V*wB^j):Nat))):=by
 refine gX nf (i_ func282) mix (by simp[f282]) ?_;have b:=cC br V;have A:wB^(n-1)<=V:=by
  rcases lc V (wB^(n-1))with h|h
  ·have:=dV br (n-1) V h;omega
  ·exact h
 rw[hn]at b;have L:∀i(h:i<(au wB V).length),(au wB V)[i]=ae wB V i:=fun i h=>eZ br h;have ap:0<V:=Ek br y A;obtain⟨W,t⟩:∃W,X/wB^j=W:=⟨_,rfl⟩
 have T:W<V*wB:=by
  rw[<-t,j5 (kb d_),kw,j4 wB,<-j9];exact aF
 have K:W<wB^(n+1):=m3 T (by rw[j9];exact lz b d_);have aa:∀i,i<n+1->(cz m (ae wB X))[j+i]?=some (.p (.int .u64 (ae wB W i))):=fun i hi=>by rw[n9 _ o_,<-t,sO]
 have aH:X/(V*wB^j)=W/V:=by rw[Af.2,t]
 have aw:∀f:Nat->Nat,(∀i,i<n+1->f i=ae wB (W% V) i)->cz m (dK j (n+1) (ae wB X) f)=cz m (ae wB (X% (V*wB^j))):=fun f hf=>DJ fun k hk=>by
  rw[Af.1,t,LG br,dK]
  by_cases d:k<j
  ·rw[if_neg o_,if_pos d]
  ·rw[if_neg d]
   by_cases z:k<j+(n+1)
   ·rw[if_pos o_,hf _ o_]
   ·have e1:ae wB X k=0:=by
     obtain⟨e,rfl⟩:∃e,k=j+e:=⟨k-j,o_⟩
     rw[<-sO,t];exact kD (j7 K (j8 d_ o_))
    have e2:ae wB (W% V) (k-j)=0:=kD (j7 (kk (o2 _ _) K) (j8 d_ o_));rw[if_neg o_,e1,e2]
 rw[aH];simp only[eN];generalize au wB V=x at*;have an:∀i,i<n->i<x.length:=fun i h=>by omega
 have e1:ec.wrap ((n:Int)-1)=((n-1:Nat):Int):=by rw[aR _ o_ o_];omega
 have e2:ec.wrap ((n:Int)-2)=((n-2:Nat):Int):=by rw[aR _ o_ o_];omega
 obtain⟨n1,v⟩:∃n1,n1=n-1:=⟨_,rfl⟩
 obtain⟨n2,ac⟩:∃n2,n2=n-2:=⟨_,rfl⟩
 rw[<-v]at e1;rw[<-ac]at e2;have w:=L n1 o_;have ay:=L n2 o_;have a3:n1<x.length:=o_
 have a4:n2<x.length:=o_
 have E:x[n1]?=some (ae wB V n1):=by rw[hK a3,w]
 have a2:x[n2]?=some (ae wB V n2):=by rw[hK a4,ay]
 have H:n1<n:=o_
 have M:n2<n:=o_
 have I:n1<n+1:=o_
 have N:n2<n+1:=o_
 have aj:=aa n o_;have g1:=aa n1 o_;have g2:=aa n2 o_;have aN:n=n1+1:=o_
 have am:W/wB^n=ae wB W n:=by
  rw[ae,j6];rw[j5 (kb d_),j4,<-j9];exact K
 have U:W/wB^n1=ae wB W n*wB+ae wB W n1:=by rw[uH,<-aN,am]
 simp[f282,-aW,hn];rw[aW];simp[-aW,hn];rw[aW];simp[-aW,hn];rw[aW];simp[-aW,hn];rw[aW];simp[-aW,hn];refine join (fun s=>∃q r o:Nat,q*ae wB V n1+(r+o*wB)=W/wB^n1/\W/V<=q/\q<wB/\r<wB/\o<=1/\aP s.env 0=.sl 0 0 1 j (n+1)/\aP s.env 1=.p (.seq (x.map fun x:Nat=>.int .u64 x))/\aP s.env 5=.p (.int .i64 n)/\aP s.env 6=.p (.int .u64 q)/\aP s.env 7=.p (.int .u64 r)/\aP s.env 8=.p (.int .u64 o)/\s.heap=[.arr .exact 0 1 (cz m (ae wB X))]) ?_ ?_
 ·by_cases hc:ae wB V n1<=ae wB W n
  ·have Y:(ae wB V n1:Int)<=ae wB W n:=by omega
   simp[e1,e2,w,E,H,I,aj,g1,Y,hn,ad,aL,bP];refine e3 (sU (ae wB W n1) (ae wB V n1) 0 o_) ?_;simp;have a1:=cF br W n1;have ai:=cF br V n1;have aB:ae wB W n=ae wB V n1:=by
    have:=(EV br o_ b T).1;rw[am,<-v]at this;omega
   refine⟨18446744073709551615,(ae wB W n1+ae wB V n1)% wB,(ae wB W n1+ae wB V n1)/wB,?_,?_,d_,ko _ d_,?_,rfl,rfl,rfl⟩
   ·rw[U,aB];simp only[wB];omega
   ·have:=(EV br o_ b T).2;simp only[wB]at this;omega
   ·simp only[wB]at*;omega
  ·have Y:¬(ae wB V n1:Int)<=ae wB W n:=by omega
   simp[e1,e2,w,E,H,I,aj,g1,Y,hn,ad,aL,bP];refine e3 (OD (ae wB W n) (ae wB W n1) (ae wB V n1) o_ (cF br _ _) (cF br _ _)) ?_;simp;have a1:=cF br W n1;have ai:=cF br V n1;refine⟨(ae wB W n*wB+ae wB W n1)/ae wB V n1,(ae wB W n*wB+ae wB W n1)% ae wB V n1,0,?_,?_,?_,?_,o_,rfl,rfl,rfl⟩
   ·rw[U,m2,mp,j4,kr]
   ·rw[<-U,v];exact Oq br y A b
   ·rw[j5 o_];have:=km wB (show ae wB W n+1<=ae wB V n1 by omega);rw[la,l0]at this;rw[j4 wB];omega
   ·exact m3 (ko _ o_) ai
 rintro⟨aC,aJ⟩ ⟨q,r,o,k1,k2,k3,k4,k5,x1,x2,x3,x4,x5,ag,C⟩;dsimp only at x1 x2 x3 x4 x5 ag C;subst C;simp[x1,x2,x3,x4,x5,ag];refine tO (fun s=>∃q:Nat,W/V<=q/\q<=W/V+1/\q<wB/\aP s.env 0=.sl 0 0 1 j (n+1)/\aP s.env 1=.p (.seq (x.map fun x:Nat=>.int .u64 x))/\aP s.env 5=.p (.int .i64 n)/\aP s.env 6=.p (.int .u64 q)/\s.heap=[.arr .exact 0 1 (cz m (ae wB X))]) ?_ ?_
 ·have aS:q*ae wB V n1+(r+o*wB)=W/wB^n1/\W/V<=q/\q<wB/\r<wB/\o<=1:=⟨k1,k2,k3,k4,k5⟩
  clear k1 k2 k3 k4 k5;refine lp (α:=Nat×Nat×Nat) (fun a=>⟨[(8,.p (.int .u64 a.2.2)),(7,.p (.int .u64 a.2.1)),(6,.p (.int .u64 a.1)),(5,.p (.int .i64 n)),(1,.p (.seq (x.map fun x:Nat=>.int .u64 x))),(0,.sl 0 0 1 j (n+1))],[.arr .exact 0 1 (cz m (ae wB X))]⟩)
   (fun a=>a.1*ae wB V n1+(a.2.1+a.2.2*wB)=W/wB^n1/\W/V<=a.1/\a.1<wB/\a.2.1<wB/\a.2.2<=1) (fun a=>a.1) (q,r,o) aS ?_ (he:=by simp[x1,x2,x3,x4,x5,ag])
  rintro⟨q,r,o⟩ ⟨k1,k2,k3,k4,k5⟩;dsimp only at k1 k2 k3 k4 k5
  by_cases aO:o=0
  ·subst aO;rw[m2,mp]at k1;have J:=A6 q (ae wB V n2) k3 (cF br _ _);rw[show(18446744073709551616:Nat)=wB from rfl]at J;have a7:=kr (q*ae wB V n2) wB;have a8:q*ae wB V n2% wB<wB:=ko _ d_;have al:=fun h=>Gc br y A b (by rw[<-v];exact k1) k3 (by rw[<-ac];exact h);have ak:=fun h=>Pw (q:=q) (r:=r) br y A b (by rw[<-v];exact k1) (by rw[<-ac];exact h);have a9:=cF br W n2;generalize q*ae wB V n2% wB=lo,q*ae wB V n2/wB=hi at*;generalize q*ae wB V n2=P at*;have l:=sU r (ae wB V n1) 0 o_;simp[e1,e2,w,E,ay,a2,H,I,M,N,hn];refine c2 J ?_;rcases Nat.lt_trichotomy hi r with h|h|h
   ·have hI:(hi:Int)<r:=by omega
    simp[hI];refine⟨q,k2,al (by
     have:=kp wB (show hi+1<=r by omega);rw[l1,na,j4 wB r]at this;omega),k3,rfl⟩
   ·subst h
    by_cases bc:lo<=ae wB W n2
    ·have hI:(lo:Int)<=ae wB W n2:=by omega
     simp[hI,e2,g2,M,N];exact⟨q,k2,al (by rw[j4 hi];omega),k3,rfl⟩
    ·have hI:¬(lo:Int)<=ae wB W n2:=by omega
     have B:=ak (by rw[j4 hi];omega);have aT:0<q:=kk (m8 _) B;obtain⟨k,rfl⟩:∃k,q=k+1:=⟨q-1,o_⟩
     have w1:eb.wrap (k:Int)=k:=fY _ o_ o_;simp[hI,e1,e2,g2,H,I,M,N,w,E,w1,ad,aL,bP];refine c3 l ?_;simp;have z1:=lm (hi+ae wB V n1) wB;have z2:k*ae wB V n1+((hi+ae wB V n1)% wB+(hi+ae wB V n1)/wB*wB)=W/wB^n1:=by
      rw[j4 _ wB,z1,<-k1,la,l0,oj,lv hi]
     have z3:=cF br V n1;have z4:(hi+ae wB V n1)/wB<=1:=by
      have z5:=k4;simp only[wB]at z3 z5⊢;omega
     exact rd (k,(hi+ae wB V n1)% wB,(hi+ae wB V n1)/wB) ⟨z2,oV.1 B,oD k3,ko _ d_,z4⟩
   ·have hI:¬(hi:Int)<r:=by omega
    have aE:¬(hi:Int)=r:=o_
    have aG:=kp wB (show r+1<=hi by omega);rw[l1,na,j4 wB r]at aG;have B:=ak o_;have aT:0<q:=kk (m8 _) B;obtain⟨k,rfl⟩:∃k,q=k+1:=⟨q-1,o_⟩
    have w1:eb.wrap (k:Int)=k:=fY _ o_ o_;simp[hI,aE,e1,e2,g2,H,I,M,N,w,E,w1,ad,aL,bP];refine c3 l ?_;simp;have z1:=lm (r+ae wB V n1) wB;have z2:k*ae wB V n1+((r+ae wB V n1)% wB+(r+ae wB V n1)/wB*wB)=W/wB^n1:=by
     rw[j4 _ wB,z1,<-k1,la,l0,oj,lv r]
    have z3:=cF br V n1;have z4:(r+ae wB V n1)/wB<=1:=by
     have z5:=k4;simp only[wB]at z3 z5⊢;omega
    exact rd (k,(r+ae wB V n1)% wB,(r+ae wB V n1)/wB) ⟨z2,oV.1 B,oD k3,ko _ d_,z4⟩
  ·have aQ:o=1:=by omega
   subst aQ;simp;exact⟨q,k2,Gc br y A b (by rw[<-v];exact k1) k3 (Oo br o_ k3),k3,rfl⟩
 rintro⟨aC,aJ⟩ ⟨q,k2,k3,k4,x1,x2,x3,x4,C⟩;dsimp only at x1 x2 x3 x4 C;subst C;have aU:q*V<wB^(n+1):=Wy k4 b;have ar:q*V<=W+wB^(n+1):=o_
 obtain⟨D,S⟩:∃D,D=W+wB^(n+1)-q*V:=⟨_,rfl⟩
 have ax:∀i,i<n+1->aq prog 292 [.int .u64 (ae wB W i),.int .u64 (ae wB (q*V) i),.int .u64 (fG wB (W+wB^(n+1)) (q*V) i)] (.aD [.int .u64 (ae wB D i),.int .u64 (fG wB (W+wB^(n+1)) (q*V) (i+1))]):=fun i hi=>by
  have h:=Pc ar i;rw[<-S,xF hi]at h;exact h
 have aX:∀i,(q*ae wB V i% wB+jn wB V q i+0)% wB=ae wB (q*V) i/\eb.wrap (((q*ae wB V i/wB:Nat):Int)+((q*ae wB V i% wB+jn wB V q i+0)/wB:Nat))=(jn wB V q (i+1):Nat):=fun i=>by
  obtain⟨d,z⟩:=Y6 (q:=q) (V:=V) br i;have aD:=aE1 (V:=V) br k4 (i+1);rw[<-d,<-z];rw[<-z]at aD;generalize q*ae wB V i=P,jn wB V q i=c at*;have e:P/wB+(P% wB+c+0)/wB=(P+c)/wB:=by simp only[wB];omega
  refine⟨by simp only[wB];omega,?_⟩;rw[fY _ o_ o_];omega
 have aI:=Wd (V:=V) (q:=q) K aU;have aV:=Y8 br k4 b;have bd:(cz m (ae wB X)).length=m:=NW _ _;simp[x1,x2,x3,x4];refine lp (α:=Nat) (fun i=>⟨[(105,.p (.int .i64 i)),(104,.p (.int .i64 n)),(12,.p (.int .u64 (jn wB V q i:Nat))),(11,.p (.int .u64 (fG wB (W+wB^(n+1)) (q*V) i:Nat))),(6,.p (.int .u64 q)),(5,.p (.int .i64 n)),(1,.p (.seq (x.map fun x:Nat=>.int .u64 x))),(0,.sl 0 0 1 j (n+1))],[.arr .exact 0 1 (cz m (dK j i (ae wB X) (ae wB D)))]⟩)
  (fun i=>i<=n) (fun i=>n-i) 0 s_ ?_ (hn:=by simp[uU]) (he:=by simp[x1,x2,x3,x4,XL,DC]) (hh:=by simp[uU])
 intro i k5;have aZ:=cH (i:=i) o_
 by_cases hi:i<n
 ·have G:i<x.length:=an i hi;have F:=L i G;have af:x[i]?=some (ae wB V i):=by rw[hK G,F]
  have J:=A6 q (ae wB V i) k4 (cF br _ _);rw[show(18446744073709551616:Nat)=wB from rfl]at J;have l:=sU (q*ae wB V i% wB) (jn wB V q i) 0 o_;obtain⟨r1,a5⟩:=aX i;have O:=ax i o_;rw[r1]at l;generalize q*ae wB V i% wB=lo,q*ae wB V i/wB=ba at*;generalize (lo+jn wB V q i+0)/wB=c' at*;have aA:i<n+1:=o_
  have u:(cz m (dK j i (ae wB X) (ae wB D)))[j+i]?=some (.p (.int .u64 (ae wB W i))):=by rw[Az o_,<-t,sO]
  have R:=Ay (m:=m) (j:=j) (i:=i) (g:=ae wB X) (f:=ae wB D) rfl;simp[hn,hi,F,af];refine c2 J ?_;simp;refine c3 l ?_;simp[a5,aA,u];refine c3 O ?_;simp[aA,u,R,aZ,ad,aL,bP];exact rd (i+1) (show i+1<=n by omega)
 have aK:i=n:=o_
 subst aK;have u:(cz m (dK j i (ae wB X) (ae wB D)))[j+i]?=some (.p (.int .u64 (ae wB W i))):=by rw[Az o_,<-t,sO]
 have R:=Ay (m:=m) (j:=j) (i:=i) (g:=ae wB X) (f:=ae wB D) rfl;have O:=ax i o_;rw[<-aV]at O;simp[u];refine c3 O ?_;rw[aI]
 by_cases av:q*V<=W
 ·obtain⟨y1,y2⟩:=aEz av k3 ap k2;have Z:=aw (ae wB D) fun k hk=>by rw[S,<-y2];exact aEy av hk
  have ah:(q:Int)=(W:Int)/V:=by rw[y1];rfl
  have ab:(if W<q*V then 1 else 0:Nat)=0:=if_neg o_;rw[ab];simp[u,R,Z,<-ah,ad,aL,bP]
 ·obtain⟨y1,y2⟩:=Zc o_ k3 ap k2;have y3:=y2 (wB^(i+1)) ar;rw[<-S]at y3;have Z:=aw (ae wB (D+V)) fun k hk=>by rw[y3,xF hk]
  have ab:(if W<q*V then 1 else 0:Nat)=1:=if_pos o_;have ah:eb.wrap ((q:Int)-1)=(W:Int)/V:=by
   have e:((W/V:Nat):Int)=(W:Int)/V:=rfl;rw[<-e];generalize W/V=Q at*;rw[fY _ o_ o_];omega
  rw[ab];simp[u,R,ad,aL,bP];refine lp (α:=Nat) (fun k=>⟨[(157,.p (.int .i64 k)),(156,.p (.int .i64 i)),(17,.p (.int .u64 (dm wB D V k:Nat))),(6,.p (.int .u64 q)),(5,.p (.int .i64 i)),(1,.p (.seq (x.map fun x:Nat=>.int .u64 x))),(0,.sl 0 0 1 j (i+1))],[.arr .exact 0 1 (cz m (dK j k (dK j (i+1) (ae wB X) (ae wB D)) (ae wB (D+V))))]⟩)
   (fun k=>k<=i) (fun k=>i-k) 0 s_ ?_ (hn:=by simp[uU]) (he:=by simp[Aa]) (hh:=by simp[uU])
  intro k k6;have a0:=cH (i:=k) o_;have gk:(cz m (dK j k (dK j (i+1) (ae wB X) (ae wB D)) (ae wB (D+V))))[j+k]?=some (.p (.int .u64 (ae wB D k))):=by rw[Az o_,dK,if_pos o_,m1]
  have az:=Ay (m:=m) (j:=j) (i:=k) (g:=dK j (i+1) (ae wB X) (ae wB D)) (f:=ae wB (D+V)) rfl;obtain⟨d,z⟩:=sC br D V k
  by_cases hk:k<i
  ·have G:k<x.length:=an k hk;have F:=L k G;have af:x[k]?=some (ae wB V k):=by rw[hK G,F]
   have l:=sU (ae wB D k) (ae wB V k) (dm wB D V k) (ng br _ _ _);rw[d,z]at l;have ao:k<i+1:=o_
   simp[hn,hk,ao,F,af,gk,ad,aL,bP];refine e3 l ?_;simp[ao,gk,az,a0,ad,aL,bP];refine⟨⟨by rfl,by rfl,by rfl⟩,?_⟩;exact rd (k+1) (show k+1<=i by omega)
  have aM:k=i:=o_
  subst aM;have aY:ae wB V k=0:=kD b;rw[aY,mp]at d;have a6:eb.wrap ((ae wB D k:Int)+(dm wB D V k:Nat))=(ae wB (D+V) k:Nat):=by rw[<-hA,A1,d]
  simp[gk,az,a6,ah,Z,YS,ad,aL,bP]
theorem YQ{a b i:Nat}(c:0<b):(a/wB^(i+1)% b*wB+ae wB a i)/b=ae wB (a/b) i/\(a/wB^(i+1)% b*wB+ae wB a i)% b=a/wB^i% b:=by
 have e:=uH (B:=wB) a i;have g:=kr (a/wB^(i+1)) b;have f:a/wB^i=(a/wB^(i+1)% b*wB+ae wB a i)+a/wB^(i+1)/b*wB*b:=by
  rw[e];generalize ae wB a i=d;generalize a/wB^(i+1)/b=Q,a/wB^(i+1)% b=R at*;rw[<-g,la,j4 b,l3 Q b wB];omega
 have j:(a/wB^(i+1)% b*wB+ae wB a i)/b<wB:=by
  rw[j5 c];have k:=cF br a i;have h:=km wB (show a/wB^(i+1)% b+1<=b from ko _ c);rw[la,l0]at h;rw[j4 wB];omega
 constructor
 ·conv=>rhs;rw[ae,kc,j4 b,<-kc,f,l2 _ _ c,ls,j6 j]
 ·rw[f,ls]
def qF(Q i k:Nat):Nat:=if i<=k then ae wB Q k else 0
theorem OL{m Q i:Nat}:(cz m (qF Q (i+1))).set i (.p (.int .u64 (ae wB Q i)))=cz m (qF Q i):=by
 refine qX ?_ fun k hk=>?_
 ·rw[qF,if_pos (ky _)]
 ·rw[qF,qF]
  by_cases h:i<=k
  ·rw[if_pos h,if_pos o_]
  ·rw[if_neg h,if_neg o_]
theorem N8{m Q:Nat}:cz m (qF Q 0)=cz m (ae wB Q):=DT fun k=>by rw[qF,if_pos (m8 _)]
theorem N9{m Q:Nat}:hP m (AV.p (.int .u64 0))=cz m (qF Q m):=by
 rw[EA (f:=fun _=>0) (fun _=>rfl)];exact DJ fun k hk=>by rw[qF,if_neg o_]
theorem E8{m N:Nat}(h:N<wB^m)(b:m<=1048576):∃l:List Nat,l.length=m/\cz m (ae wB N)=l.map (AV.p∘fun x:Nat=>PV.int .u64 x)/\aq prog 264 [.seq (eW l)] (eN N):=by
 refine⟨(hJ m).map (ae wB N),s_,EB m _,?_⟩;have a:=vw ((hJ m).map (ae wB N)) (by simp;omega);rw[show eQ ((hJ m).map (ae wB N))=au wB N from kF br h]at a;exact a
theorem q7{a b:Nat}:gC a b<0↔a<b:=by
 rw[gC];split
 ·simp[*]
 ·split<;>simp[*]
theorem WY(r:Nat):((r:Int)% 2^eb.bits).toNat=r% 2^eb.bits:=by
 rw[show eb.bits=64 from rfl];omega
theorem alJ{b d n n1 s V:Nat}(f:b/wB^n1=d)(g:n=n1+1)(hs:s<64)(m:wB<=2*(d*2^s))(h:d*2^s<wB)(e:V=b*2^s):V<wB^n/\wB^n<=2*V:=by
 have l:0<wB^n1:=kb d_;have i:0<2^s:=kb d_;have j:b<(d+1)*wB^n1:=by
  rw[<-f,la,l0];exact nm l
 have k:(d+1)*2^s<=wB:=by
  have a:=Br hs;have c:d<2^(64-s):=by
   rw[<-a,j4 d]at h;exact Nat.lt_of_mul_lt_mul_left h
  rw[<-a,j4];exact kp _ c
 constructor
 ·rw[e,g,j9,j4 _ wB];refine j7 (lz j i) ?_;rw[l3];exact km _ k
 ·rw[e,g,j9,j4 _ wB];refine me (km _ m) ?_;have a:d*wB^n1<=b:=by rw[<-f];exact lw _ _
  have c:=km (2^s) a;rw[kw 2,l3 d];exact kp _ c
theorem YJ{a n b s V:Nat}(f:a<wB^b)(hs:s<64)(e:wB^n<=2*V)(i:n<=b):a*2^s<V*wB^(b-n+1):=by
 have d:2*2^s<=wB:=by
  have c:2^(s+1)<=2^64:=j8 d_ hs;rw[j9,j4]at c;exact c
 have g:=km (wB^(b-n+1)) e;rw[<-lb,show n+(b-n+1)=b+1 by omega,j9,kw]at g;have c:=kp a d;have h:=lz f (show 0<wB by decide);rw[np]at c;generalize wB^b*wB=z1,V*wB^(b-n+1)=z2,a*2^s=z3,a*wB=z4 at*;clear d e f;omega
theorem amq{a b n n1 c:Nat}(g:a<wB^c)(e:0<b)(h:n=n1+1)(f:wB^n1<=b)(i:n<=c):a/b<wB^(c-n+1):=by
 rw[j5 e];refine j7 g ?_;have d:=kp (wB^(c-n+1)) f;rw[<-lb,show c-n+1+n1=c by omega]at d;exact d
theorem YK{a b s k:Nat}(c:0<2^s):a*2^s% (b*2^s*wB^(k+1))/(b*2^s*wB^k)=ae wB (a/b) k:=by
 rw[j9,<-kw,ms,<-kc,m6 _ _ c,ae]
theorem NX{n N:Nat}{f g:Nat->Nat}(hn:n<=N)(h:∀k,k<n->f k=g k):((hJ N).map f).take n=(hJ n).map g:=by
 rw[<-ih,List.take_range,oe hn];exact hU fun k hk=>h k (h9.1 hk)
theorem Et(a b:Nat)(u:0<b)(a5:(au wB a).length<=1000000)(bB:(au wB b).length<=1000000):aq prog 243 [eN a,eN b] (.aD [eN (a/b),eN (a% b)]):=by
 refine gA_ nf func243 mix ?_;have a8:=Kc a b o_ o_;simp[f243];refine c2 a8 ?_
 by_cases F:a<b
 ·have D:=q7.2 F;simp[D,kv F,j6 F,eN,au,oQ]
 have D:¬gC a b<0:=fun h=>F (q7.1 h);have bb:∀i(h:i<(au wB a).length),(au wB a)[i]=ae wB a i:=fun i h=>eZ br h;have P:∀i(h:i<(au wB b).length),(au wB b)[i]=ae wB b i:=fun i h=>eZ br h;have w:=cC br a;have o:=cC br b
 by_cases H:(au wB b).length=1
 ·rw[H,md]at o;have S:((au wB b).length:Int)=1:=by omega
  obtain⟨l,z,I,r⟩:=E8 (m:=(au wB a).length) (N:=a/b) (kk (l4 _ _) w) o_;have ak:=vw [a% b] s_;have ba:eQ [a% b]=au wB (a% b):=by
   have J:a% b<wB:=m3 (ko _ u) o;have:=kF br (m:=1) (n:=a% b) (by rw[md];exact J);rw[<-this,row,j0,hM,j1,ae,li,l5,j6 J]
  rw[ba]at ak;have a6:(au wB b)[0]?=some b:=by
   rw[hK o_,P 0 o_,ae,li,l5,j6 o]
  have a7:∀h:0<(au wB b).length,(au wB b)[0]'h=b:=fun h=>by rw[P 0 h,ae,li,l5,j6 o]
  have aw:a/wB^(au wB a).length% b=0:=by rw[kv w,oo]
  simp only[eN]at r⊢;generalize au wB (a/b)=bu,au wB (a% b)=aK,au wB a=x,au wB b=y at*;obtain⟨n,hn⟩:∃n,x.length=n:=⟨_,rfl⟩
  rw[hn]at z I aw a5;have e1:ec.wrap ((n:Int)-1)=n-1:=aR _ o_ o_;simp[D,H,S,hn,e1];refine⟨by simp only[dc];omega,?_⟩;rw[N9 (Q:=a/b)];refine lp (α:=Nat) (fun i=>⟨[(8,.p (.int .i64 ((i:Int)-1))),(7,.p (.int .u64 (a/wB^i% b:Nat))),(6,.sl 0 0 1 0 n),(1,.p (.seq (y.map fun x:Nat=>.int .u64 x))),(0,.p (.seq (x.map fun x:Nat=>.int .u64 x)))],[.arr .exact 0 1 (cz n (qF (a/b) i))]⟩)
   (fun i=>i<=n) (fun i=>i) n (ky _) ?_ (he:=by simp[aw])
  intro i k1
  by_cases hi:0<i
  ·obtain⟨k,rfl⟩:∃k,i=k+1:=⟨i-1,o_⟩
   have e2:ec.wrap ((k:Int)-1)=k-1:=aR _ o_ o_;have aH:k<x.length:=o_
   have hx:=bb k aH;have Z:x[k]?=some (ae wB a k):=by rw[hK aH,hx]
   have aj:=OD (a/wB^(k+1)% b) (ae wB a k) b (ko _ u) o (cF br _ _);obtain⟨r1,ab⟩:=YQ (a:=a) (i:=k) u;rw[r1,ab]at aj;have aS:=OL (m:=n) (Q:=a/b) (i:=k);have gk:=n9 (n:=n) (qF (a/b) (k+1)) (show k<n by omega);have ay:k<n:=o_
   generalize a/wB^(k+1)% b=bv at*;simp[hn,e2,hx,Z,a6,a7,H,ay,ad,aL,bP];refine e3 aj ?_;simp[aS,gk,e2,ay,ad,aL,bP];refine⟨by rfl,?_⟩;exact rd k (show k<=n by omega)
  ·obtain rfl:i=0:=by omega
   simp[N8,I];refine cp r (by simp[z];exact⟨rfl,rfl⟩) ?_ (h1:=by simp[eW,hL,z]);simp;refine cp ak (by simp;exact⟨rfl,rfl⟩) ?_ (h1:=by simp[eW]);simp;exact bY.refl _
 have bE:2<=(au wB b).length:=by
  rcases lc (au wB b).length 1 with h|h
  ·have e:(au wB b).length=0:=by omega
   rw[e,li]at o;omega
  ·omega
 have S:¬((au wB b).length:Int)=1:=o_
 obtain⟨n,hn⟩:∃n,(au wB b).length=n:=⟨_,rfl⟩
 obtain⟨c,T⟩:∃c,(au wB a).length=c:=⟨_,rfl⟩
 obtain⟨n1,U⟩:∃n1,n=n1+1:=⟨n-1,o_⟩
 have ar:wB^n1<=b:=by
  rcases lc b (wB^n1)with h|h
  ·have:=dV br n1 b h;omega
  ·exact h
 obtain⟨d,G⟩:∃d,d=ae wB b n1:=⟨_,rfl⟩
 have av:d<wB:=by rw[G];exact cF br _ _
 have ap:b/wB^n1=d:=by
  rw[G,ae,j6];rw[j5 (kb d_),j4,<-j9,show n1.succ=n from U.symm,<-hn];exact o
 have a9:0<d:=by rw[<-ap];exact my ar (kb d_)
 obtain⟨s,hs,bA,bl,bm⟩:=MZ a9 av;have aC:=Pf d av;obtain⟨V,B⟩:∃V,V=b*2^s:=⟨_,rfl⟩
 have A:0<2^s:=kb d_;have a3:b<=V:=by rw[B];exact ol _ A
 have a2:0<V:=j7 u a3;obtain⟨an,a4⟩:=alJ ap U hs bl bm B;have am:(au wB V).length=n:=by
  have q:=dV br n V an;rcases lc (au wB V).length n with h|h
  ·have ah:=j7 (cC br V) (j8 (show 0<wB by decide) (show(au wB V).length<=n1 by omega));omega
  ·omega
 have r:=E8 (m:=n+1) (N:=V) (j7 an (j8 d_ o_)) o_;obtain⟨l,z,I,r⟩:=r;have Y:=Ma b s hs o_;have W:=Ma a s hs o_;have aa:n1<(au wB b).length:=o_
 have hx:=P n1 aa;have Z:(au wB b)[n1]?=some d:=by rw[hK aa,hx,G]
 rw[hn,<-B]at Y;rw[T]at W;have aE:n<=c:=by
  rcases lc c n with h|h
  ·have:=j7 w (j8 (show 0<wB by decide) (show(au wB a).length<=n1 by omega));omega
  ·exact h
 rw[T]at w;have aU:=YJ (n:=n) w hs a4 aE;have aW:=amq (n:=n) w u U ar aE;have aX:a% b<wB^n:=m3 (ko _ u) (by rw[hn]at o;exact o);have bo:eQ ((hJ n).map (ae wB (a% b)))=au wB (a% b):=kF br aX;have iH:∀X j,j+n+1<=c+1->X<V*wB^(j+1)->_:=fun X j q ah=>apB X V (c+1) j n am o_ q o_ ah;simp only[eN]at r⊢W Y iH;generalize au wB V=bt,bp:au wB (a/b)=bu,bF:au wB (a% b)=aK,au wB a=x,au wB b=y at*;have e1:ec.wrap ((n:Int)-1)=n1:=by rw[aR _ o_ o_];omega
 have bk:(64:Int)-(ee d:Nat)=s:=o_
 rw[bk]at aC;rw[<-G]at hx;have be:¬(n:Int)=1:=o_
 have bf:¬n=1:=o_
 simp[D,H,S,be,bf,hn,e1,hx,Z,aa,ad,aL,bP];refine c1 aC ?_;simp;refine Qh Y ?_;simp[I];refine cp r (by simp[z];exact⟨rfl,rfl⟩) ?_ (h1:=by simp[eW,hL,z]);simp;refine Qh W ?_;obtain⟨m,aD⟩:∃m,m=c-n:=⟨_,rfl⟩
 have e2:ec.wrap ((c:Int)-n)=m:=by rw[aR _ o_ o_];omega
 have e3:ec.wrap ((m:Int)+1)=m+1:=cH o_;simp[am,T,e2,e3];refine⟨⟨o_,by simp only[dc];omega⟩,?_⟩;have ai:a*2^s% (V*wB^(m+1))=a*2^s:=j6 (by rw[aD];exact aU);rw[N9 (Q:=a/b)];refine tO (fun s'=>aP s'.env 9=.p (.int .i64 s)/\aP s'.env 11=.sl 1 0 1 0 (c+1)/\aP s'.env 12=.p (.int .i64 n)/\aP s'.env 13=.sl 2 0 1 0 (m+1)/\s'.heap=[.arr .frozen 0 1 (l.map (AV.p∘fun x:Nat=>PV.int .u64 x)),.arr .exact 0 1 (cz (c+1) (ae wB (a% b*2^s))),.arr .exact 0 1 (cz (m+1) (ae wB (a/b)))]) ?_ ?_
 ·refine lp (α:=Nat) (fun j=>⟨[(14,.p (.int .i64 ((j:Int)-1))),(13,.sl 2 0 1 0 (m+1)),(12,.p (.int .i64 n)),(11,.sl 1 0 1 0 (c+1)),(10,.p (.seq (bt.map fun x:Nat=>.int .u64 x))),(9,.p (.int .i64 s))],[.arr .frozen 0 1 (l.map (AV.p∘fun x:Nat=>PV.int .u64 x)),.arr .exact 0 1 (cz (c+1) (ae wB (a*2^s% (V*wB^j)))),.arr .exact 0 1 (cz (m+1) (qF (a/b) j))]⟩)
   (fun j=>j<=m+1) (fun j=>j) (m+1) (ky _) ?_ (hn:=by simp[ai]) (hh:=by simp[ai])
  intro j k1
  by_cases bD:0<j
  ·obtain⟨k,rfl⟩:∃k,j=k+1:=⟨j-1,o_⟩
   have e4:ec.wrap ((k:Int)-1)=k-1:=aR _ o_ o_;have e5:ec.wrap ((k:Int)+n)=k+n:=aR _ o_ o_;have e6:ec.wrap ((k:Int)+n+1)=k+n+1:=aR _ o_ o_;have aS:=iH (a*2^s% (V*wB^(k+1))) k o_ (ko _ (m9 a2 (kb d_)));have hq:a*2^s% (V*wB^(k+1))/(V*wB^k)=ae wB (a/b) k:=by
    rw[B];exact YK A
   have J:a*2^s% (V*wB^(k+1))% (V*wB^k)=a*2^s% (V*wB^k):=by
    rw[j9,<-kw,mj]
   rw[hq,J]at aS;generalize a*2^s% (V*wB^(k+1))=X,ao:a*2^s% (V*wB^k)=bw at*;have aT:((k:Int)+n+1).toNat=k+n+1:=o_
   have f2:(0:Int)<=(k:Int)+n+1:=o_
   have f3:(k:Int)+n+1<=(c:Int)+1:=o_
   have f4:k<=k+n+1:=o_
   have f5:¬k=k+n+1:=o_
   have f6:k+n+1-k=n+1:=o_
   have f7:k<m+1:=o_
   have gk:=n9 (n:=m+1) (qF (a/b) (k+1)) f7;have bs:=OL (m:=m+1) (Q:=a/b) (i:=k);simp[e4,e5,e6,NW,aT,f2,f3,f4,f5,f6];rw[show(if k=0 then({v:=.sl 1 0 1 0 (k+n+1),aA:=[(1,.arr .exact 0 1 (cz (c+1) (ae wB X)))]}:aY)else{v:=.sl 1 0 1 k (n+1),aA:=[(1,.arr .exact 0 1 (cz (c+1) (ae wB X)))]})={v:=.sl 1 0 1 k (n+1),aA:=[(1,.arr .exact 0 1 (cz (c+1) (ae wB X)))]}by split<;>simp[*]];simp;refine⟨o_,?_⟩;refine cf aS [1] ?_;simp[gk,bs,e4,f7,ad,aL,bP];exact rd k (show k<=m+1 by omega) (hn:=by simp[ao]) (hh:=by simp[ao])
  ·obtain rfl:j=0:=by omega
   have aV:a*2^s% V=a% b*2^s:=by rw[B,oA]
   simp[N8,aV]
 rintro⟨bx,bC⟩ ⟨x1,x2,x3,x4,aF⟩;dsimp only at x1 x2 x3 x4 aF;subst aF;obtain⟨R,E⟩:∃R,R=a% b*2^s:=⟨_,rfl⟩
 rw[<-E];simp[x1,x2,x3,x4];refine lp (α:=Nat) (fun i=>⟨[(97,.p (.int .i64 i)),(96,.p (.int .i64 n)),(13,.sl 2 0 1 0 (m+1)),(12,.p (.int .i64 n)),(11,.sl 1 0 1 0 (c+1)),(9,.p (.int .i64 s))],[.arr .frozen 0 1 (l.map (AV.p∘fun x:Nat=>PV.int .u64 x)),.arr .exact 0 1 (cz (c+1) (dK 0 i (ae wB R) (ae wB (a% b)))),.arr .exact 0 1 (cz (m+1) (ae wB (a/b)))]⟩)
  (fun i=>i<=n) (fun i=>n-i) 0 (m8 _) ?_ (hn:=by simp[uU]) (he:=by simp[x1,x2,x3,x4]) (hh:=by simp[uU])
 intro i k1;have K:=cH (i:=i) o_
 by_cases hi:i<n
 ·have C:i<c+1:=by omega
  have ax:i+1<c+1:=o_
  have af:(cz (c+1) (dK 0 i (ae wB R) (ae wB (a% b))))[i]?=some (.p (.int .u64 (ae wB R i))):=by
   have:=Az (m:=c+1) (j:=0) (i:=i) (g:=ae wB R) (f:=ae wB (a% b)) o_
   rwa [mb]at this
  have ac:=wo (ae wB R i) s o_;have bd:i<c:=o_
  by_cases ag:0<s
  ·obtain⟨t,bn⟩:∃t,t=64-s:=⟨_,rfl⟩
   have aO:ec.wrap (64-(s:Int))=(t:Int):=by rw[aR _ o_ o_];omega
   have aQ:=yT (ae wB R (i+1)) t o_;have aS:=Br hs;rw[<-bn]at aS;have a0:0<2^t:=kb d_;have bj:ae wB R i/2^s<2^t:=by rw[j5 A,j4,aS];exact cF br _ _
   have aG:ae wB R (i+1)*2^t% wB=ae wB R (i+1)% 2^s*2^t:=by rw[<-aS,oA]
   have bi:ae wB R i/2^s|||(ae wB R (i+1)*2^t% wB)=ae wB (a% b) i:=by
    have q:=aGu A a0 R i;rw[aS,E,Nat.mul_div_cancel _ A,<-E]at q;rw[o1,aG,Ft bj,<-aG,q,lv]
   have O:=Gz (ae wB R i/2^s) (ae wB R (i+1)*2^t% wB) (kk (l4 _ _) (cF br _ _)) (ko _ d_);rw[bi]at O;generalize ae wB R i/2^s=r1,ae wB R (i+1)*2^t% wB=ab at*;have aM:eb.wrap ((r1% 2^eb.bits|||((ab:Int)% 2^eb.bits).toNat:Nat):Int)=(ae wB (a% b) i:Nat):=by
    rw[WY];exact O
   have M:=qX (n:=c+1) (i:=i) (v:=r1) (f:=dK 0 i (ae wB R) (ae wB (a% b))) (g:=fun k=>if k=i then r1 else dK 0 i (ae wB R) (ae wB (a% b)) k) (if_pos rfl) (fun k hk=>if_neg hk);have g2:=n9 (n:=c+1) (fun k=>if k=i then r1 else dK 0 i (ae wB R) (ae wB (a% b)) k) C;have g3:=n9 (n:=c+1) (fun k=>if k=i then r1 else dK 0 i (ae wB R) (ae wB (a% b)) k) ax;rw[if_pos rfl]at g2;rw[if_neg o_,dK,if_neg o_]at g3;have bq:=qX (n:=c+1) (i:=i) (v:=ae wB (a% b) i) (f:=fun k=>if k=i then r1 else dK 0 i (ae wB R) (ae wB (a% b)) k) (g:=dK 0 (i+1) (ae wB R) (ae wB (a% b))) (by rw[dK,if_pos o_,oq]) (fun k hk=>by
    rw[if_neg hk,dK,dK]
    by_cases h:k<i
    ·rw[if_pos o_,if_pos o_]
    ·rw[if_neg o_,if_neg o_])
   generalize (fun k=>if k=i then r1 else dK 0 i (ae wB R) (ae wB (a% b)) k)=bz at*;simp[hi,C,af,ac,ag,K,M,ad,aL,bP];simp[C,ax,bd,aO,K,g2,g3,ad,aL,bP];simp[aQ,O,aM,C,K,bq,g2,ad,aL,bP];refine⟨o_,⟨by rfl,by rfl,by rfl,by rfl,by rfl⟩,?_⟩;exact rd (i+1) (show i+1<=n by omega)
  ·have aI:s=0:=by omega
   have aZ:ae wB R i=ae wB (a% b) i:=by rw[E,aI,li,na]
   have M:=Ay (m:=c+1) (j:=0) (i:=i) (g:=ae wB R) (f:=ae wB (a% b)) (v:=ae wB R i) aZ.symm;rw[mb]at M;have aN:(ae wB R i:Int).fdiv (2^(min s eb.bits))=(ae wB R i:Nat):=by rw[ac,aI,li,l5]
   simp[hi,C,af,ag,K,M,aN,ad,aL,bP];exact rd (i+1) (show i+1<=n by omega)
 obtain rfl:i=n:=o_
 obtain⟨bG,az,bg,al⟩:=E8 (m:=m+1) (N:=a/b) (by rw[aD];exact aW) o_;obtain⟨L,aB,bh,a1⟩:∃L:List Nat,L.length=c+1/\cz (c+1) (dK 0 i (ae wB R) (ae wB (a% b)))=L.map (AV.p∘fun x:Nat=>PV.int .u64 x)/\aq prog 264 [.seq (eW (L.take i))] (.seq (aK.map fun x:Nat=>.int .u64 x)):=by
  refine⟨(hJ (c+1)).map (dK 0 i (ae wB R) (ae wB (a% b))),s_,EB _ _,?_⟩;have e:((hJ (c+1)).map (dK 0 i (ae wB R) (ae wB (a% b)))).take i=(hJ i).map (ae wB (a% b)):=by
   exact NX o_ fun k hk=>by rw[dK,if_pos o_,oq]
  rw[e];have q:=vw ((hJ i).map (ae wB (a% b))) (by simp;omega);rw[bo]at q;exact q
 simp only[eN,bp]at al;simp[bg,bh];refine ep al (by simp[az];exact⟨rfl,rfl⟩) (by simp;exact⟨rfl,rfl⟩) ?_ (h1:=by simp[eW,hL,az]);simp[aB];refine⟨o_,?_⟩;have bc:i<=c+1:=o_
 refine ep a1 (by simp[aB,bc];exact⟨rfl,rfl⟩) (by simp;exact⟨rfl,rfl⟩) ?_ (h1:=by simp[eW,ih]);simp;rfl
def aQ(k:Nat)(q:Rat):Prop:=q.num.natAbs<2^k/\q.den<2^k
theorem aQ.mono{k l:Nat}{q:Rat}(h:aQ k q)(a:k<=l):aQ l q:=
 ⟨j7 h.1 (j8 o_ a),j7 h.2 (j8 o_ a)⟩
theorem mY{n:Int}{d:Nat}(h:d≠0):(o3 n d).num=n/(m4 n.natAbs d:Nat)/\(o3 n d).den=d/m4 n.natAbs d:=by
 have:o3 n d=Rat.normalize n d h:=by
  rw[o4];rfl
 rw[this,Rat.normalize_eq h];exact⟨rfl,rfl⟩
theorem Ey{n:Int}{d k:Nat}(h:d≠0)(a:n.natAbs<2^k)(b:d<2^k):aQ k (o3 n d):=by
 obtain⟨e1,e2⟩:=mY (n:=n) h;refine⟨?_,?_⟩
 ·rw[e1];refine kk ?_ a;rw[Int.natAbs_ediv_of_dvd (hr.2 (oR _ _))];exact l4 _ _
 ·rw[e2];exact kk (l4 _ _) b
theorem kl{a b:Nat}{x y:Rat}(h:aQ a x)(c:aQ b y):aQ (a+b+1) (x+y):=by
 have e:x+y=o3 (x.num*y.den+y.num*x.den) ((x.den*y.den:Nat):Int):=by rw[o7];rfl
 rw[e];have e1:2^(a+b+1)=2^a*2^b+2^a*2^b:=by rw[j9,lb];omega
 refine Ey (oS x.den_nz y.den_nz) ?_ ?_
 ·rw[e1];refine kk (hv _ _) ?_;rw[gt,gt,gx,gx];have g1:=lq h.1 c.2;have g2:=lq c.1 h.2;rw[j4 (2^b)]at g2;omega
 ·have:=lq h.2 c.2;rw[e1];omega
theorem kU{a:Nat}{x:Rat}(h:aQ a x):aQ a (-x):=by
 refine⟨by rw[pa,hg];exact h.1,by rw[pb];exact h.2⟩
theorem fA{a b:Nat}{x y:Rat}(h:aQ a x)(c:aQ b y):aQ (a+b+1) (x-y):=by
 rw[o6];exact kl h (kU c)
theorem bC{a b:Nat}{x y:Rat}(h:aQ a x)(c:aQ b y):aQ (a+b) (x*y):=by
 have e:x*y=o3 (x.num*y.num) ((x.den*y.den:Nat):Int):=by
  rw[pd,o4];rfl
 rw[e];refine Ey (oS x.den_nz y.den_nz) ?_ ?_
 ·rw[gt,lb];exact lq h.1 c.1
 ·rw[lb];exact lq h.2 c.2
theorem X3{x:Rat}(h:x≠0):(x⁻¹).num=x.num.sign*x.den/\(x⁻¹).den=x.num.natAbs:=by
 have hn:x.num≠0:=fun e=>h (o5.1 e);have e:x⁻¹=o3 (x.num.sign*x.den) (x.num.natAbs:Nat):=by
  rw[pm];rcases g0 x.num 0 with h|h|h
  ·have e1:x.num.sign= -1:=Int.sign_eq_neg_one_of_neg h;have e2:((x.num.natAbs:Nat):Int)= -x.num:=by omega
   rw[e1,e2,show(-1*(x.den:Int))= -(x.den:Int)by omega,Rat.divInt_neg',Int.neg_neg]
  ·exact(hn h).elim
  ·have e1:x.num.sign=1:=Int.sign_eq_one_of_pos h;have e2:((x.num.natAbs:Nat):Int)=x.num:=by omega
   rw[e1,e2,Int.one_mul]
 have a:m4 (x.num.sign*x.den).natAbs x.num.natAbs=1:=by
  rw[gt,hd hn,l0,gx,oz];exact x.reduced
 obtain⟨e1,e2⟩:=mY (n:=x.num.sign*x.den) (d:=x.num.natAbs) o_;rw[e,e1,e2,a];simp
theorem uX{a:Nat}{x:Rat}(h:aQ a x):aQ a x⁻¹:=by
 by_cases b:x=0
 ·subst b;have:(0:Rat)⁻¹=0:=Rat.inv_zero;rw[this];exact h
 ·obtain⟨e1,e2⟩:=X3 b;have hn:x.num≠0:=fun e=>b (o5.1 e);refine⟨?_,by rw[e2];exact h.1⟩;rw[e1,gt,hd hn,l0,gx];exact h.2
theorem iK{a b:Nat}{x y:Rat}(h:aQ a x)(c:aQ b y):aQ (a+b) (x/y):=by
 rw[pp];exact bC h (uX c)
theorem Bb{k:Nat}{n:Int}(h:n.natAbs<2^k)(hk:0<k):aQ k (n:Rat):=by
 refine⟨h,?_⟩;show(1:Nat)<2^k;exact Nat.one_lt_two_pow o_
structure NI where
 v:Int
 m:Bool
def NI.sm(a:NI):Bool:=decide (-9223372036854775808<a.v/\a.v<9223372036854775808)||(decide (a.v= -9223372036854775808)&&a.m)
def NI.of(n:Int):NI:=⟨n,true⟩
def NI.mk'(n:Int):NI:=⟨n,false⟩
def NI.neg(a:NI):NI:=.mk' (-a.v)
def NI.abs(a:NI):NI:=if a.v<0 then .mk' (-a.v)else a
def NI.add(a b:NI):NI:=⟨a.v+b.v,a.sm&&b.sm⟩
def NI.sub(a b:NI):NI:=a.add b.neg
def NI.mul(a b:NI):NI:=.mk' (a.v*b.v)
def NI.div(a b:NI):NI:=⟨a.v/b.v,decide (a.v% b.v≠0)⟩
def NI.mod(a b:NI):NI:=.mk' (a.v% b.v)
structure NF where
 q:Rat
 m:Bool
def NF.num(a:NF):NI:=⟨a.q.num,a.m⟩
def NF.den(a:NF):NI:=.mk' a.q.den
def NF.whole(a:NI):NF:=⟨a.v,a.m⟩
def NF.int(n:Int):NF:=⟨n,true⟩
def NF.gh(a:NF):Bool:=decide (a.q.den=1)
def NF.add(a b:NF):NF:=⟨a.q+b.q,a.gh&&b.gh&&(a.num.sm&&b.num.sm)⟩
def NF.neg(a:NF):NF:=⟨-a.q,false⟩
def NF.sub(a b:NF):NF:=a.add b.neg
def NF.mul(a b:NF):NF:=⟨a.q*b.q,false⟩
def NF.inv(a:NF):NF:=⟨a.q⁻¹,false⟩
def NF.div(a b:NF):NF:=⟨a.q/b.q,false⟩
@[simp] theorem NI.tv(a b:NI):(a.add b).v=a.v+b.v:=rfl
@[simp] theorem NI.ny(a b:NI):(a.mul b).v=a.v*b.v:=rfl
@[simp] theorem NI.Gr(a:NI):a.neg.v= -a.v:=rfl
@[simp] theorem NI.Sv(a b:NI):(a.sub b).v=a.v-b.v:=by show a.v+-b.v=_;omega
@[simp] theorem NF.Kb(a b:NF):(a.add b).q=a.q+b.q:=rfl
@[simp] theorem NF.aM8(a:NF):a.neg.q= -a.q:=rfl
@[simp] theorem NF.dW(a b:NF):(a.sub b).q=a.q-b.q:=by show a.q+-b.q=_;rw[o6]
@[simp] theorem NF.Gq(a b:NF):(a.mul b).q=a.q*b.q:=rfl
@[simp] theorem NF.aMi(a:NF):a.inv.q=a.q⁻¹:=rfl
@[simp] theorem NF.aJE(a b:NF):(a.div b).q=a.q/b.q:=rfl
@[simp] theorem NF.aMh(n:Int):(NF.int n).q=n:=rfl
def fE(z:Int):PV:=.st 113 [.int .i64 z,.aK]
def lR(z:Int):PV:=.st 113 [.int .i64 (if z<0 then -1 else 1),eN z.natAbs]
def Gj(p:PV)(z:Int):Prop:=(p=fE z/\-9223372036854775808<=z/\z<=9223372036854775807)\/(p=lR z/\9223372036854775808<=z.natAbs)
theorem Qm(a:NI):∃p,p=if a.sm=true then fE a.v else lR a.v:=⟨_,rfl⟩
noncomputable def eI(a:NI):PV:=cy (Qm a)
theorem kh(a:NI):eI a=if a.sm=true then fE a.v else lR a.v:=cx (Qm a)
theorem NI.BK{a:NI}(h:-9223372036854775808<a.v)(b:a.v<9223372036854775808):a.sm=true:=by
 simp[NI.sm,h,b]
theorem NI.q9{a:NI}(h:a.sm=true):-9223372036854775808<=a.v/\a.v<=9223372036854775807:=by
 simp only[NI.sm,b3,decide_eq_true_eq,b2]at h;omega
theorem NI.Bu{a:NI}(h:¬a.sm=true):9223372036854775808<=a.v.natAbs:=by
 simp only[NI.sm,b3,decide_eq_true_eq,b2,not_or,not_and]at h;omega
theorem NI.RW(z:Int):(NI.mk' z).sm=decide (-9223372036854775808<z/\z<9223372036854775808):=by
 rw[NI.sm,NI.mk',b5,Bool.or_false]
theorem NI.jm(z:Int):(NI.mk' z).v=z:=rfl
theorem nD(a:NI):Gj (eI a) a.v:=by
 rw[kh]
 by_cases h:a.sm=true
 ·rw[if_pos h];have:=NI.q9 h;exact .inl ⟨rfl,this⟩
 ·rw[if_neg h];exact .inr ⟨rfl,NI.Bu h⟩
theorem pZ{z:Int}(h:-9223372036854775808<z)(a:z<9223372036854775808):eI (.mk' z)=fE z:=by
 rw[kh,NI.RW,if_pos (by simp[h,a]),NI.jm]
theorem Ql{z:Int}(h:9223372036854775808<=z.natAbs):eI (.mk' z)=lR z:=by
 rw[kh,NI.RW,if_neg (by simp;omega),NI.jm]
theorem vJ{z:Int}(h:-9223372036854775808<=z)(c:z<=9223372036854775807):eI (.of z)=fE z:=by
 rw[kh,if_pos]
 ·rfl
 ·by_cases b:z= -9223372036854775808
  ·subst b;rfl
  ·exact NI.BK (a:=.of z) (by show _<z;omega) (by show z<_;omega)
@[simp] theorem bxN(u:dy)(h:¬u=307):(Gl.bx u:Option dy)=none:=by
 have a:nk u 307=false:=by
  cases a:nk u 307
  ·rfl
  ·exact(h (m7 a)).elim
 show(bif nk u 307 then some 308 else none)=none;rw[a];rfl
@[simp] theorem aJj:(Gl.bx 307:Option dy)=some 308:=(rfl)
theorem mB:au wB 0=[]:=by simp[au,oQ]
theorem vu{n:Nat}(a:0<n)(h:n<wB):au wB n=[n]:=by
 have h1:=kF br (m:=1) (n:=n) (by rw[md];exact h);rw[<-h1,row,j0,hM,j1,ae,li,l5,j6 h];have:=xi [] n o_
 rwa [i8]at this
theorem tM(n:Int):aq prog 165 [.int .i64 n] (fE n):=by
 refine gA_ nf func165 mix ?_;simp[f165,fE]
theorem FH(n:Int)(h:-9223372036854775808<=n)(a:n<=9223372036854775807):aq prog 210 [.int .i64 n] (.int .u64 (n.natAbs:Nat)):=by
 refine gA_ nf func210 mix ?_
 by_cases hn:n<0
 ·have e:eb.wrap (ec.wrap (-n))=(n.natAbs:Nat):=by
   by_cases hm:n= -9223372036854775808
   ·subst hm;rfl
   ·rw[aR _ o_ o_,fY _ o_ (by simp only[wB];omega)];omega
  simp[f210,hn,e]
 ·have e:eb.wrap n=(n.natAbs:Nat):=by rw[fY _ o_ (by simp only[wB];omega)];omega
  simp[f210,hn,e]
theorem pJ(p:PV)(z:Int)(h:Gj p z):aq prog 211 [p] (.aD [.bool (decide (z<0)),eN z.natAbs]):=by
 refine gA_ nf func211 mix ?_;rcases h with⟨rfl,b,d⟩|⟨rfl,b⟩
 ·have hs:=FH z b d
  by_cases a:z=0
  ·subst a;simp[f211,fE,eN,mB,dF,cX]
  ·simp[f211,fE,a,dF,cX];refine e1 hs ?_;simp[eN,vu (n:=z.natAbs) o_ (by simp only[wB];omega)]
   done
 ·have e:au wB z.natAbs≠[]:=fun h=>by
   have:=cC br z.natAbs;rw[h,hT,li]at this;omega
  simp only[lR,eN];obtain⟨c,cs,hc⟩:=hN e;rw[hc];have hz:decide ((if z<0 then(-1:Int)else 1)<0)=decide (z<0):=by split<;>simp[*]
  generalize (if z<0 then(-1:Int)else 1)=f at*;simp[f211,dF,cX,hz]
theorem yh(neg:Bool)(n:Nat)(hn:(au wB n).length<=1048576):aq prog 212 [.bool neg,eN n] (eI (.mk' (if neg then -(n:Int)else n))):=by
 by_cases f:n=0
 ·subst f;rw[show(if neg=true then -((0:Nat):Int)else((0:Nat):Int))=0 by simp,pZ d_ d_];refine gA_ nf func212 mix ?_;simp[f212,fE,eN,mB,dF,cX]
 by_cases m:n<=9223372036854775807
 ·have d:=vu (n:=n) o_ (by simp only[wB];omega);have hI:(n:Int)<=9223372036854775807:=by omega
  have w1:ec.wrap (n:Int)=n:=aR _ o_ o_;have w2:ec.wrap (-(n:Int))= -n:=aR _ o_ o_;cases neg
  ·rw[if_neg d_,pZ o_ o_];refine gA_ nf func212 mix ?_;simp[f212,fE,eN,d,hI,w1,w2,dF,cX]
  ·rw[if_pos rfl,pZ o_ o_];refine gA_ nf func212 mix ?_;simp[f212,fE,eN,d,hI,w1,w2,dF,cX]
 ·have i:au wB n≠[]:=fun h=>by
   have:=cC br n;rw[h,hT,li]at this;omega
  have e:(au wB n).length=1->(au wB n)[0]?=some n:=fun h=>by
   have a:=cC br n;rw[h,md]at a;rw[vu o_ a];rfl
  have hI:¬(n:Int)<=9223372036854775807:=o_
  have b:(if neg then -(n:Int)else n).natAbs=n:=by cases neg<;>simp
  have j:(if(if neg then -(n:Int)else n)<0 then(-1:Int)else 1)=if neg then -1 else 1:=by
   cases neg
   ·simp only[Bool.false_eq_true,if_false];rw[if_neg o_]
   ·simp only[if_true];rw[if_pos o_]
  rw[Ql (by rw[b];omega)];refine gA_ nf func212 mix ?_;rw[lR,b,j];simp only[eN];obtain⟨c,cs,hc⟩:=hN i;rw[hc]at e⊢;rw[hc]at hn;cases cs with
  |nil=>
   have g:c=n:=by simpa using e rfl
   subst g;cases neg<;>simp[f212,hI,dF,cX]
  |cons c2 cs=>
   have k:¬((cs.length:Int)+1+1=1):=o_
   have l:¬((cs.length:Int)+1+1=0):=o_
   cases neg<;>simp[f212,k,l,dF,cX]
def okW(z:Int):Prop:=(au wB z.natAbs).length<=900000
theorem ayi{p:PV}{z:Int}(h:Gj p z):∃a b,p=.st 113 [a,b]:=by
 rcases h with⟨rfl,_⟩|⟨rfl,_⟩
 ·exact⟨_,_,rfl⟩
 ·exact⟨_,_,rfl⟩
theorem xX(a:NI):∃x y,eI a=.st 113 [x,y]:=ayi (nD a)
theorem vG(a:NI)(hz:okW a.v):aq prog 188 [eI a] (eI a.neg):=by
 have h:=nD a;have d:=pJ (eI a) a.v h;have b:=yh (!decide (a.v<0)) a.v.natAbs (by rw[okW]at hz;omega);have k:(if(!decide (a.v<0))=true then -((a.v.natAbs:Nat):Int)else a.v.natAbs)= -a.v:=by
  by_cases e:a.v<0
  ·simp[e];omega
  ·simp[e];omega
 rw[k]at b;rw[show a.neg=.mk' (-a.v)from rfl];generalize a.v=z,m:eI a=p at*;obtain⟨n,o,g⟩:=xX (.mk' (-z));rcases h with⟨rfl,i,l⟩|⟨rfl,i⟩
 ·by_cases f:z= -9223372036854775808
  ·rw[g]at b⊢;refine gA_ nf func188 mix ?_;subst f;simp only[fE]at d⊢;simp[f188,dF,cX];refine c1 d ?_;simp[eN]at b⊢;simp[ad,aL,bP,c2 b]
  ·rw[pZ o_ o_];have w:ec.wrap (-z)= -z:=aR _ o_ o_;refine gA_ nf func188 mix ?_;simp[f188,fE,f,w,dF,cX]
 ·rw[g]at b⊢;refine gA_ nf func188 mix ?_;have j:au wB z.natAbs≠[]:=fun h=>by
   have:=cC br z.natAbs;rw[h,hT,li]at this;omega
  simp only[lR,eN]at d b⊢;obtain⟨c,cs,hc⟩:=hN j;rw[hc]at d b⊢;generalize (if z<0 then(-1:Int)else 1)=q at*;simp[f188,dF,cX];refine c1 d ?_;simp at b⊢;simp[ad,aL,bP,c2 b]
theorem vB(a:NI):aq prog 215 [eI a] (.int .i64 (if a.v<0 then -1 else if a.v=0 then 0 else 1)):=by
 have h:=nD a;generalize a.v=z,eI a=p at*;refine gA_ nf func215 mix ?_;rcases h with⟨rfl,b,c⟩|⟨rfl,b⟩
 ·simp[f215,fE];rcases g0 z 0 with h|h|h
  ·have e:z<1:=by omega
   simp[h,e];omega
  ·subst h;simp
  ·have e1:¬z<0:=by omega
   have e2:¬z=0:=o_
   have e3:¬z<1:=o_
   simp[e1,e2,e3]
 ·simp[f215,lR,eN]
  by_cases h:z<0
  ·simp[h]
  ·have e2:¬z=0:=by omega
   simp[h,e2]
theorem Xw{z:Int}(h:-18446744073709551616<=z)(a:z<=18446744073709551614):ec.wrap z=if z< -9223372036854775808 then z+18446744073709551616 else if 9223372036854775807<z then z-18446744073709551616 else z:=by
 rw[ed]
 split
 ·omega
 ·split<;>omega
theorem pG{z:Int}(h:okW z):(au wB z.natAbs).length<=900000:=h
theorem V0{a b L:Nat}(c:(au wB a).length<=L)(d:(au wB b).length<=L):(au wB (a+b)).length<=L+1:=by
 refine dV br _ _ ?_;have e:=j7 (cC br a) (j8 (show 0<wB by decide) c);have f:=j7 (cC br b) (j8 (show 0<wB by decide) d);have g:2*wB^L<=wB^(L+1):=by rw[j9,j4];exact kp _ br
 omega
theorem US{a b:Int}(i:okW a)(j:okW b):
 ((decide (a<0)=decide (b<0)/\aq prog 212 [.bool (decide (a<0)),eN (a.natAbs+b.natAbs)] (eI (.mk' (a+b))))\/
  (decide (a<0)≠decide (b<0)/\b.natAbs<=a.natAbs/\aq prog 212 [.bool (decide (a<0)),eN (a.natAbs-b.natAbs)] (eI (.mk' (a+b))))\/
  (decide (a<0)≠decide (b<0)/\a.natAbs<b.natAbs/\aq prog 212 [.bool (decide (b<0)),eN (b.natAbs-a.natAbs)] (eI (.mk' (a+b))))):=by
 have m:=V0 (a:=a.natAbs) (b:=b.natAbs) i j;have l:∀n,n<=a.natAbs+b.natAbs->(au wB n).length<=1048576:=fun n h=>by
  have:=dV br _ _ (kk h (cC br (a.natAbs+b.natAbs)));omega
 have f:∀(neg:Bool)(n:Nat),n<=a.natAbs+b.natAbs->(if neg then -(n:Int)else n)=a+b->aq prog 212 [.bool neg,eN n] (eI (.mk' (a+b))):=fun neg n h e=>by
  have g:=yh neg n (l n h);rw[e]at g;exact g
 by_cases d:decide (a<0)=decide (b<0)
 ·have c:=f (decide (a<0)) (a.natAbs+b.natAbs) (ky _) (by
   by_cases h:a<0
   ·have:b<0:=by simpa[h]using d
    simp[h];omega
   ·have:¬b<0:=by simpa[h]using d
    simp[h];omega)
  exact .inl ⟨d,c⟩
 ·by_cases k:b.natAbs<=a.natAbs
  ·have c:=f (decide (a<0)) (a.natAbs-b.natAbs) o_ (by
    by_cases h:a<0
    ·have:¬b<0:=by simpa[h]using d
     simp[h];omega
    ·have:b<0:=by simpa[h]using d
     simp[h];omega)
   exact .inr (.inl ⟨d,k,c⟩)
  ·have c:=f (decide (b<0)) (b.natAbs-a.natAbs) o_ (by
    by_cases h:b<0
    ·have:¬a<0:=fun c=>d (by simp[h,c]);simp[h];omega
    ·have:a<0:=by
      by_cases c:a<0
      ·exact c
      ·exact(d (by simp[h,c])).elim
     simp[h];omega)
   exact .inr (.inr ⟨d,o_,c⟩)
theorem FA(a:NI):(eI a=fE a.v/\a.sm=true/\-9223372036854775808<=a.v/\a.v<=9223372036854775807)\/(a.sm=false/\∃d c cs,eI a=.st 113 [.int .i64 d,.seq (c::cs)]):=by
 by_cases h:a.sm=true
 ·left;exact⟨by rw[kh,if_pos h],h,NI.q9 h⟩
 ·right;refine⟨by simpa using h,?_⟩;have e:=NI.Bu h;have b:au wB a.v.natAbs≠[]:=fun h=>by
   have:=cC br a.v.natAbs;rw[h,hT,li]at this;omega
  obtain⟨c,cs,hc⟩:=hN b;rw[kh,if_neg h,lR,eN,hc];exact⟨_,_,_,rfl⟩
theorem yA(a b:NI)(x:okW a.v)(A:okW b.v):aq prog 193 [eI a,eI b] (eI (a.add b)):=by
 have l:=pJ (eI a) a.v (nD a);have m:=pJ (eI b) b.v (nD b);have R:=pG x;have S:=pG A;have o:=Kc a.v.natAbs b.v.natAbs o_ o_;have y:=Wx a.v.natAbs b.v.natAbs o_ o_;have t:=US x A;have wu:=FA a;have D:=FA b
 by_cases q:(a.sm=true/\b.sm=true)/\-9223372036854775808<=a.v+b.v/\a.v+b.v<=9223372036854775807
 ·obtain⟨⟨g,k⟩,d,i⟩:=q;rw[show eI a=fE a.v by rw[kh,if_pos g],show eI b=fE b.v by rw[kh,if_pos k],show a.add b=.of (a.v+b.v)by rw[NI.add,g,k];rfl,vJ d i];generalize a.v=a,b.v=b at*;refine gA_ nf func193 mix ?_;have w:=aR (a+b) d i;have e:(decide (a<a+b)==decide (0<b))=true:=by
   have:a<a+b↔0<b:=o_
   simp[this]
  simp[f193,fE,w,dF,cX,e]
 have C:eI (a.add b)=eI (.mk' (a.v+b.v)):=by
  by_cases h:-9223372036854775808<a.v+b.v/\a.v+b.v<9223372036854775808
  ·rw[pZ h.1 h.2,kh,if_pos (NI.BK h.1 h.2)];rfl
  ·by_cases i:(a.sm&&b.sm)=true
   ·have E:a.sm=true/\b.sm=true:=by simpa using i
    have F:¬(-9223372036854775808<=a.v+b.v/\a.v+b.v<=9223372036854775807):=fun h=>q ⟨E,h⟩;rw[Ql o_,kh,if_neg,NI.tv];intro g;have:=NI.q9 g;rw[NI.tv]at this;omega
   ·rw[NI.add,NI.mk'];rw[show(a.sm&&b.sm)=false by simpa using i]
 rw[C];clear C;obtain⟨J,K,G⟩:=xX a;obtain⟨L,M,H⟩:=xX b;obtain⟨V,W,I⟩:=xX (.mk' (a.v+b.v));rw[I]at t⊢;rw[G]at l wu⊢;rw[H]at m D⊢;generalize a.v=f,b.v=bv at*;refine gA_ nf func193 mix ?_;simp[f193,-aW];rw[aW];simp[-aW];refine join (fun s=>aP s.env 2=.ptr 0 []/\aP s.env 3=.ptr 1 []/\aP s.env 4=.ptr 2 []/\s.heap=[.box false (.p (.st 113 [J,K])),.box false (.p (.st 113 [L,M])),.box false (.p (.st 113 [.int .i64 0,.aK]))]) ?_ ?_
 ·clear t o y l m;rcases wu with⟨d,j,i,g⟩|⟨j,N,c,cs,d⟩
  ·simp only[fE,PV.st.injEq,j3,and_true,true_and]at d;obtain⟨rfl,rfl⟩:=d;rcases D with⟨k,u,P,Q⟩|⟨u,N,c,cs,k⟩
   ·simp only[fE,PV.st.injEq,j3,and_true,true_and]at k;obtain⟨rfl,rfl⟩:=k;have F:¬(-9223372036854775808<=f+bv/\f+bv<=9223372036854775807):=fun h=>q ⟨⟨j,u⟩,h⟩;have w:=Xw (z:=f+bv) o_ o_;have e:¬(f<ec.wrap (f+bv)↔0<bv):=by
     rw[w]
     by_cases T:0<bv
     ·rw[if_neg o_,if_pos o_];omega
     ·rw[if_pos o_];omega
    simp[dF,cX,e]
   ·simp only[PV.st.injEq,j3,and_true,true_and]at k;obtain⟨rfl,rfl⟩:=k;simp[dF,cX]
  ·simp only[PV.st.injEq,j3,and_true,true_and]at d;obtain⟨rfl,rfl⟩:=d;simp[dF,cX]
 rintro⟨O,U⟩ ⟨x1,x2,x3,B⟩;dsimp only at x1 x2 x3 B;subst B;simp[x1,x2,x3];refine c1 l ?_;simp[x1,x2,x3,ad,aL,bP];refine c1 m ?_;rcases t with⟨d,g⟩|⟨d,i,g⟩|⟨d,i,g⟩
 ·have j:(f<0↔bv<0):=by simpa using d
  rw[d]at g;simp(maxDischargeDepth:=99) [x1,x2,x3,j,ad,aL,bP,c2 y,c2 g]
 ·have j:¬(f<0↔bv<0):=by simpa using d
  have n:0<=gC f.natAbs bv.natAbs:=by
   have h:=mt q7.1 (show¬f.natAbs<bv.natAbs by omega);omega
  have r:=KZ f.natAbs bv.natAbs i o_;simp(maxDischargeDepth:=99) [x1,x2,x3,j,ad,aL,bP,n,c2 o,c2 r,c2 g]
 ·have j:¬(f<0↔bv<0):=by simpa using d
  have n:¬0<=gC f.natAbs bv.natAbs:=by have:=q7.2 i;omega
  have r:=KZ bv.natAbs f.natAbs o_ o_;simp(maxDischargeDepth:=99) [x1,x2,x3,j,ad,aL,bP,n,c2 o,c2 r,c2 g]
@[simp] theorem aNs(a:NI):aL (eI a)=.agg 113:=by
 obtain⟨x,y,h⟩:=xX a;rw[h];rfl
theorem Sn(a:NI):∃z:Int,z=if a.sm=true then a.v else if a.v<0 then -1 else 1:=⟨_,rfl⟩
noncomputable def sI(a:NI):Int:=cy (Sn a)
theorem Bv(a:NI):sI a=if a.sm=true then a.v else if a.v<0 then -1 else 1:=cx (Sn a)
theorem SH(a:NI):∃p:PV,p=if a.sm=true then .aK else eN a.v.natAbs:=⟨_,rfl⟩
noncomputable def wI(a:NI):PV:=cy (SH a)
theorem Fs(a:NI):wI a=if a.sm=true then .aK else eN a.v.natAbs:=cx (SH a)
@[simp] theorem aob(a:NI):bW (eI a)=[.int .i64 (sI a),wI a]:=by
 by_cases h:a.sm=true
 ·rw[kh,Bv,Fs,if_pos h,if_pos h,if_pos h];rfl
 ·rw[kh,Bv,Fs,if_neg h,if_neg h,if_neg h];rfl
theorem So(a:NI):sI a<0↔a.v<0:=by
 rw[Bv];split
 ·exact Iff.rfl
 ·split<;>omega
theorem nA{a:NI}(h:a.sm=true):wI a=.aK:=by rw[Fs,if_pos h]
theorem pS{a:NI}(h:a.sm=false):∃c cs,wI a=.seq (c::cs):=by
 rcases FA a with⟨_,b,_⟩|⟨_,e,c,cs,d⟩
 ·rw[h]at b;exact absurd b d_
 ·refine⟨c,cs,?_⟩;have:=aob a;rw[d]at this;simp[bW]at this;exact this.2.symm
theorem oI{a:NI}(h:a.sm=true):sI a=a.v:=by rw[Bv,if_pos h]
theorem F2(a b:NI)(d:okW a.v)(c:okW b.v):aq prog 214 [eI a,eI b] (eI (a.sub b)):=by
 refine gA_ nf func214 mix ?_;have e:okW b.neg.v:=by simpa[okW]using c
 simp[f214];refine e1 (vG b c) ?_;simp;refine e2 (yA a b.neg d e) ?_;simp[ad];exact Wk.refl _
theorem P7(a:NI)(c:okW a.v):aq prog 276 [eI a] (eI a.abs):=by
 refine gA_ nf func276 mix ?_
 by_cases h:a.v<0
 ·have b:=(So a).2 h;have e:a.abs=a.neg:=by rw[NI.abs,if_pos h];rfl
  simp[f276,ad,b,ad,e,c1 (vG a c)]
 ·have b:=mt (So a).1 h;have e:a.abs=a:=by rw[NI.abs,if_neg h]
  simp[f276,ad,b,e]
def lr(x y:Int):Int:=if x<y then -1 else if x=y then 0 else 1
theorem P8(a b:NI)(k:okW a.v)(l:okW b.v):aq prog 142 [eI a,eI b] (.int .i64 (lr a.v b.v)):=by
 refine gA_ nf func142 mix ?_;have n:(a.sm=true/\b.sm=true)\/¬(a.sm=true/\b.sm=true):=c6 _;rcases n with⟨d,j⟩|d
 ·have w1:=nA d;have w2:=nA j;have g:=oI d;have i:=oI j;rcases g0 a.v b.v with h|h|h
  ·have e:lr a.v b.v= -1:=by rw[lr,if_pos h]
   simp[f142,ad,w1,w2,g,i,h,e,dF,cX]
  ·have e:lr b.v b.v=0:=by rw[lr,if_neg o_,if_pos rfl]
   have d:¬a.v<b.v:=o_
   simp[f142,ad,w1,w2,g,i,h,e,dF,cX]
  ·have e:lr a.v b.v=1:=by rw[lr,if_neg o_,if_neg o_]
   have d:¬a.v<b.v:=o_
   simp[f142,ad,w1,w2,g,i,h,d,e,dF,cX]
 ·have e:(if(a.sub b).v<0 then(-1:Int)else if(a.sub b).v=0 then 0 else 1)=lr a.v b.v:=by
   rw[NI.Sv,lr];rcases g0 a.v b.v with h|h|h
   ·rw[if_pos o_,if_pos h]
   ·rw[if_neg o_,if_pos o_,if_neg o_,if_pos h]
   ·rw[if_neg o_,if_neg o_,if_neg o_,if_neg o_]
  have f:=vB (a.sub b);rw[e]at f;rcases hs:a.sm with _|_
  ·obtain⟨c,cs,w1⟩:=pS hs;simp[f142,ad,w1,dF,cX,c2 (F2 a b k l),c1 f]
  ·have w1:=nA hs;obtain⟨c,cs,w2⟩:=pS (a:=b) (by cases m:b.sm with|false=>rfl|true=>exact(d ⟨hs,m⟩).elim);simp[f142,ad,w1,w2,dF,cX,c2 (F2 a b k l),c1 f]
theorem VZ{a b L M:Nat}(e:(au wB a).length<=L)(f:(au wB b).length<=M):(au wB (a*b)).length<=L+M:=by
 refine dV br _ _ ?_;have c:=j7 (cC br a) (j8 (show 0<wB by decide) e);have d:=j7 (cC br b) (j8 (show 0<wB by decide) f);rw[lb];exact lq c d
theorem BV(a b:NI)(B:(au wB a.v.natAbs).length+(au wB b.v.natAbs).length<=900000):aq prog 141 [eI a,eI b] (eI (a.mul b)):=by
 have z:=pJ (eI a) a.v (nD a);have hq:=pJ (eI b) b.v (nD b);have y:=Wv a.v.natAbs b.v.natAbs o_;have C:=VZ (ky (au wB a.v.natAbs).length) (ky (au wB b.v.natAbs).length);have q:=yh (decide (a.v<0)!=decide (b.v<0)) (a.v.natAbs*b.v.natAbs) o_;have e:(if(decide (a.v<0)!=decide (b.v<0))=true then -((a.v.natAbs*b.v.natAbs:Nat):Int)else(a.v.natAbs*b.v.natAbs:Nat))=a.v*b.v:=by
  rw[<-gt];rcases g8 a.v 0 with f|f
  ·rcases g8 b.v 0 with d|d
   ·have:=Int.mul_nonneg_of_nonpos_of_nonpos (g9 f) (g9 d);simp[f,d];omega
   ·have:=Int.mul_nonpos_of_nonpos_of_nonneg (g9 f) d;have g:¬b.v<0:=by omega
    simp[f,g];omega
  ·have g:¬a.v<0:=by omega
   rcases g8 b.v 0 with d|d
   ·have:=Int.mul_nonpos_of_nonneg_of_nonpos f (g9 d);simp[g,d];omega
   ·have:=Int.mul_nonneg f d;have w:¬b.v<0:=by omega
    simp[g,w];omega
 rw[e]at q;rw[show a.mul b=.mk' (a.v*b.v)from rfl];refine gA_ nf func141 mix ?_;simp[f141,-aW];rw[aW];simp[-aW];refine join (fun s=>aP s.env 2=.ptr 0 []/\aP s.env 3=.ptr 1 []/\aP s.env 4=.ptr 2 []/\s.heap=[.box false (.p (eI a)),.box false (.p (eI b)),.box false (.p (.st 113 [.int .i64 0,.aK]))]) ?_ ?_
 ·rcases hs:a.sm with _|_
  ·obtain⟨c,cs,w1⟩:=pS hs;simp[ad,w1,dF,cX]
  ·have w1:=nA hs;rcases i:b.sm with _|_
   ·obtain⟨c,cs,w2⟩:=pS i;simp[ad,w1,w2,dF,cX]
   ·have w2:=nA i;have j:=oI hs;have k:=oI i;have r1:=NI.q9 hs;have t:=NI.q9 i;have z1:=FH a.v r1.1 r1.2;have z2:=FH b.v t.1 t.2;have M:=A6 a.v.natAbs b.v.natAbs o_ o_;obtain⟨H,n⟩:∃H,H=a.v.natAbs*b.v.natAbs/18446744073709551616:=⟨_,rfl⟩
    obtain⟨L,l⟩:∃L,L=a.v.natAbs*b.v.natAbs% 18446744073709551616:=⟨_,rfl⟩
    rw[<-n,<-l]at M;have x:a.v.natAbs*b.v.natAbs=H*18446744073709551616+L:=o_
    clear n l
    by_cases c1:H=0/\L<=9223372036854775807
    ·obtain⟨rfl,l⟩:=c1;have o:(L:Int)<=9223372036854775807:=by omega
     have m:ec.wrap (L:Int)=L:=aR _ o_ o_;have u:ec.wrap (-(L:Int))= -L:=aR _ o_ o_;rw[x]at e;simp only[m2,mb]at e;rw[pZ (by rw[<-e];split<;>omega) (by rw[<-e];split<;>omega),fE]
     by_cases c2:a.v<0↔b.v<0
     ·rw[if_neg (by simp[c2])]at e;rw[<-e];simp(maxDischargeDepth:=99) [ad,w1,w2,j,k,dF,cX,o,c2,m,e1 z1,e1 z2,e2 M]
     ·rw[if_pos (by simp[c2])]at e;rw[<-e];simp(maxDischargeDepth:=99) [ad,w1,w2,j,k,dF,cX,o,c2,m,u,e1 z1,e1 z2,e2 M]
    ·simp[ad,w1,w2,j,k,dF,cX];refine e1 z1 ?_;simp[j,k];refine e1 z2 ?_;simp;refine e2 M ?_
     by_cases c2:H=0
     ·have c3:¬(L:Int)<=9223372036854775807:=fun h=>c1 ⟨c2,o_⟩;simp[c2,c3]
     ·have c3:¬(H:Int)=0:=by omega
      simp[c2,c3]
 ·rintro⟨A,D⟩ ⟨x1,x2,x3,r⟩;dsimp only at x1 x2 x3 r;subst r;simp[x1,x2,x3];refine c1 z ?_;simp[x1,x2,x3];refine c1 hq ?_;simp[x1,x2,x3];refine c2 y ?_;simp;refine c2 q ?_;simp[x1,x2,x3,ad]
  done
theorem oL{a b:NI}(h:a.v=b.v)(d:a.v= -9223372036854775808->a.m=b.m):eI a=eI b:=by
 by_cases c:a.v= -9223372036854775808
 ·have:=d c;cases a;cases b;dsimp only at h this;subst h this;rfl
 ·have e:a.sm=b.sm:=by
   simp only[NI.sm,h];rw[h]at c;simp[c]
  rw[kh,kh,e,h]
theorem Zu{a b:Int}(c:0<b):(a.tdiv b=a/b/\a.tmod b=a% b/\¬a.tmod b<0)\/(a.tdiv b-1=a/b/\a.tmod b+b=a% b/\a.tmod b<0/\a/b<0):=by
 have f:=Int.tmod_add_mul_tdiv a b;have g:=ht a c;have i:=hp a c
 by_cases h:a.tmod b<0
 ·right;have e:=(gy (a:=a) (r:=a.tmod b+b) (q:=a.tdiv b-1) c).2 ⟨by rw[hE];omega,o_,o_⟩;have j:a<0:=by
   rcases g8 a 0 with d|d
   ·exact d
   ·have:=Int.tmod_nonneg b d;omega
  have d:a/b<0:=ho c o_;omega
 ·left;have e:=(gy (a:=a) (r:=a.tmod b) (q:=a.tdiv b) c).2 ⟨o_,o_,o_⟩;omega
theorem alz{a b:Int}(c:0<b):((if a<0 then -((a.natAbs% b.natAbs:Nat):Int)else(a.natAbs% b.natAbs:Nat))<0/\a/b=(if a<0 then -((a.natAbs/b.natAbs:Nat):Int)else(a.natAbs/b.natAbs:Nat))-1/\a% b=(if a<0 then -((a.natAbs% b.natAbs:Nat):Int)else(a.natAbs% b.natAbs:Nat))+b)\/
 (¬(if a<0 then -((a.natAbs% b.natAbs:Nat):Int)else(a.natAbs% b.natAbs:Nat))<0/\a/b=(if a<0 then -((a.natAbs/b.natAbs:Nat):Int)else(a.natAbs/b.natAbs:Nat))/\a% b=(if a<0 then -((a.natAbs% b.natAbs:Nat):Int)else(a.natAbs% b.natAbs:Nat))):=by
 have e:((b.natAbs:Nat):Int)=b:=o_
 have f:=lm a.natAbs b.natAbs;have g:=ko a.natAbs (show 0<b.natAbs by omega);have i:((a.natAbs% b.natAbs:Nat):Int)+b*(a.natAbs/b.natAbs:Nat)=(a.natAbs:Nat):=by
  rw[<-e,<-gU,<-hA,e,f]
 generalize a.natAbs% b.natAbs=r,a.natAbs/b.natAbs=q at*
 by_cases h:a<0
 ·simp only[if_pos h]
  by_cases j:r=0
  ·right;have d:=(gy (a:=a) (r:=0) (q:=-(q:Int)) c).2 ⟨by rw[hG];omega,o_,o_⟩;omega
  ·left;have d:=(gy (a:=a) (r:=-(r:Int)+b) (q:=-(q:Int)-1) c).2 ⟨by rw[hE,hG];omega,o_,o_⟩;omega
 ·simp only[if_neg h];right;have d:=(gy (a:=a) (r:=(r:Int)) (q:=(q:Int)) c).2 ⟨o_,o_,o_⟩;omega
theorem MG(a b:NI)(d:0<b.v)(E:okW a.v)(o:okW b.v):aq prog 277 [eI a,eI b] (.aD [eI (a.div b),eI (a.mod b)]):=by
 have L:=pJ (eI a) a.v (nD a);have hq:=pJ (eI b) b.v (nD b);have W:=pG E;have X:=pG o;have G:=Et a.v.natAbs b.v.natAbs o_ o_ o_;refine gA_ nf func277 mix ?_;simp[f277,-aW];rw[aW];simp[-aW];refine join (fun s=>aP s.env 2=.ptr 0 []/\aP s.env 3=.ptr 1 []/\aP s.env 4=.ptr 2 []/\aP s.env 5=.ptr 3 []/\s.heap=[.box false (.p (eI a)),.box false (.p (eI b)),.box false (.p (.st 113 [.int .i64 0,.aK])),.box false (.p (.st 113 [.int .i64 0,.aK]))]) ?_ ?_
 ·rcases hs:a.sm with _|_
  ·obtain⟨c,cs,w1⟩:=pS hs;simp[ad,w1,dF,cX]
  ·have w1:=nA hs;rcases g:b.sm with _|_
   ·obtain⟨c,cs,w2⟩:=pS g;simp[ad,w1,w2,dF,cX]
   ·have w2:=nA g;have k:=oI hs;have l:=oI g;have r1:=NI.q9 hs;have ac:=NI.q9 g
    by_cases j:a.v= -9223372036854775808
    ·simp[ad,w1,w2,k,l,j,dF,cX]
    ·have i:¬b.v=0:=by omega
     have w:-9223372036854775808<a.v/b.v:=by
      have:=Int.le_ediv_of_mul_le (a:=-9223372036854775807) (b:=a.v) d o_;omega
     have x:a.v/b.v<9223372036854775808:=ho d o_;have y:=g7 a.v d;have z:=hb a.v i;have B:eI (a.div b)=fE (a.v/b.v):=by rw[kh,if_pos (NI.BK w x)];rfl
     have f2:eI (a.mod b)=fE (a.v% b.v):=pZ o_ o_;rw[B,f2];have aa:=ht a.v d;have Z:=hp a.v d;rcases Zu (a:=a.v) d with⟨d1,d2,d3⟩|⟨d1,d2,d3,d4⟩
     ·have q1:ec.wrap (a.v.tdiv b.v)=a.v/b.v:=by rw[d1];exact aR _ o_ o_
      simp[ad,w1,w2,k,l,j,i,dF,cX,fE,d3,q1];exact d2.symm
     ·have q1:ec.wrap (ec.wrap (a.v.tdiv b.v)-1)=a.v/b.v:=by rw[aR (a.v.tdiv b.v) o_ o_,d1];exact aR _ o_ o_
      have P:ec.wrap (a.v.tmod b.v+b.v)=a.v% b.v:=by rw[d2];exact aR _ o_ o_
      simp[ad,w1,w2,k,l,j,i,dF,cX,fE,d3,q1,P]
 ·rintro⟨S,Y⟩ ⟨x1,x2,x3,x4,q⟩;dsimp only at x1 x2 x3 x4 q;subst q;have I:(au wB (a.v.natAbs/b.v.natAbs)).length<=900000:=by
   have:=dV br _ _ (kk (l4 a.v.natAbs b.v.natAbs) (cC br a.v.natAbs));omega
  have J:(au wB (a.v.natAbs% b.v.natAbs)).length<=900000:=by
   have:=dV br _ _ (kk (o2 a.v.natAbs b.v.natAbs) (cC br a.v.natAbs));omega
  have t:=yh (decide (a.v<0)) (a.v.natAbs/b.v.natAbs) o_;have u:=yh (decide (a.v<0)) (a.v.natAbs% b.v.natAbs) o_;have H:=alz (a:=a.v) d;simp only[decide_eq_true_eq]at t u;have ab:=ko a.v.natAbs (show 0<b.v.natAbs by omega);generalize a.v.natAbs/b.v.natAbs=f,a.v.natAbs% b.v.natAbs=e at*;have V:-b.v<(if a.v<0 then -(e:Int)else(e:Int)):=by split<;>omega
  have D:a.v<0->(if a.v<0 then -(e:Int)else(e:Int))<=0:=fun h=>by rw[if_pos h];omega
  have N:okW (if a.v<0 then -(f:Int)else(f:Int)):=by rw[okW];split<;>simpa using I
  have O:okW (if a.v<0 then -(e:Int)else(e:Int)):=by rw[okW];split<;>simpa using J
  have M:(if a.v<0 then -(f:Int)else(f:Int))= -9223372036854775808->a.v<0:=by split<;>omega
  generalize (if a.v<0 then -(f:Int)else(f:Int))=Q,(if a.v<0 then -(e:Int)else(e:Int))=R at*;have n:=vB (.mk' R);simp only[NI.jm]at n;have y:=g7 a.v d;have z:=hb a.v (show b.v≠0 by omega);simp[x1,x2,x3,x4];refine c1 L ?_;simp[x1,x2,x3,x4];refine c1 hq ?_;simp[x1,x2,x3,x4];refine c2 G ?_;simp;refine c2 t ?_;simp;refine c2 u ?_;simp[x1,x2,x3,x4,ad];refine c1 n ?_;rcases H with⟨d1,d2,d3⟩|⟨d1,d2,d3⟩
  ·have r:=F2 (.mk' Q) (.of 1) N (by rw[okW];decide);have F:=yA (.mk' R) b O o;rw[vJ d_ d_]at r;have g1:eI (a.div b)=eI ((NI.mk' Q).sub (.of 1)):=by
    refine oL (by rw[NI.Sv];exact d2) (fun h=>?_);have A:Q= -9223372036854775807:=by have:a.v/b.v= -9223372036854775808:=h;omega
    have K:¬a.v% b.v=0:=o_
    subst A;show decide (a.v% b.v≠0)=_;simp[K];rfl
   have g2:eI (a.mod b)=eI ((NI.mk' R).add b):=oL (by rw[NI.tv];exact d3) (fun h=>by have:a.v% b.v= -9223372036854775808:=h;omega);rw[g1,g2];simp[x1,x2,x3,x4,ad,d1];refine e1 (tM 1) ?_;simp[x1,x2,x3,x4,ad];refine e2 r ?_;simp[x1,x2,x3,x4,ad];refine e2 F ?_;simp[x1,x2,x3,x4,ad];exact⟨rfl,rfl⟩
  ·have g1:eI (a.div b)=eI (.mk' Q):=by
    refine oL d2 (fun h=>?_);have T:a.v/b.v= -9223372036854775808:=h;have U:=D (M o_);have C:a.v% b.v=0:=o_
    show decide (a.v% b.v≠0)=false;simp[C]
   have g2:eI (a.mod b)=eI (.mk' R):=oL d3 (fun h=>by have:a.v% b.v= -9223372036854775808:=h;omega);rw[g1,g2]
   by_cases m:R=0
   ·simp[x1,x2,x3,x4,ad,m]
   ·simp[x1,x2,x3,x4,ad,d1,m]
theorem sP{a b:Int}(h:okW b)(c:a.natAbs<=b.natAbs):okW a:=by
 have:=dV br _ _ (kk c (cC br b.natAbs));have:=pG h;rw[okW];omega
theorem Qc(a b:NI)(e:0<b.v)(d:okW a.v)(f:okW b.v):aq prog 241 [eI a,eI b] (eI (a.div b)):=by
 have c:=vB b;rw[if_neg o_,if_neg o_]at c;refine gA_ nf func241 mix ?_;simp[f241];refine c1 c ?_;simp;refine c2 (MG a b e d f) ?_;simp[ad]
 done
theorem NI.A8(a:NI):a.abs.v.natAbs=a.v.natAbs:=by
 rw[NI.abs];split
 ·rw[NI.jm,hg]
 ·rfl
theorem NI.PX(a:NI):0<=a.abs.v:=by
 rw[NI.abs];split
 ·rw[NI.jm];omega
 ·omega
def ff(a b:Int):Int:=(m4 a.natAbs b.natAbs:Nat)
theorem P9(a b:NI)(j:okW a.v)(k:okW b.v):aq prog 240 [eI a,eI b] (eI (.mk' (ff a.v b.v))):=by
 refine gA_ nf func240 mix ?_;simp[f240];refine e1 (P7 a j) ?_;simp;refine e1 (P7 b k) ?_;simp[ad];refine⟨⟨rfl,rfl⟩,?_⟩;have n:ff a.abs.v b.abs.v=ff a.v b.v:=by rw[ff,ff,NI.A8,NI.A8]
 refine lp (α:=NI×NI) (fun x=>⟨[(4,.ptr 2 []),(3,.ptr 1 []),(2,.ptr 0 [])],[.box false (.p (eI x.1)),.box false (.p (eI x.2)),.box false (.p (.st 113 [.int .i64 0,.aK]))]⟩)
  (fun x=>0<=x.1.v/\0<=x.2.v/\okW x.1.v/\okW x.2.v/\ff x.1.v x.2.v=ff a.v b.v) (fun x=>x.2.v.toNat) (a.abs,b.abs) ⟨NI.PX a,NI.PX b,sP j (ot (NI.A8 a)),sP k (ot (NI.A8 b)),n⟩ ?_
 rintro⟨x,y⟩ ⟨l,g,i,c,f⟩;dsimp only at l g i c f;have d:=vB y
 by_cases e:y.v=0
 ·rw[if_neg o_,if_pos e]at d;have hx:eI (.mk' (ff a.v b.v))=eI x:=by
   refine oL ?_ (fun h=>?_)
   ·rw[NI.jm,<-f,e,ff];simp;omega
   ·rw[NI.jm,ff]at h;omega
  rw[hx];simp[ad,c1 d]
 ·rw[if_neg o_,if_neg e]at d;have q:=g7 x.v (show 0<y.v by omega);have o:=hb x.v e;have m:(x.v% y.v).natAbs=x.v.natAbs% y.v.natAbs:=by
   have e1:(x.v.natAbs:Int)=x.v:=o_
   have e2:(y.v.natAbs:Int)=y.v:=o_
   have e3:((x.v.natAbs% y.v.natAbs:Nat):Int)=x.v% y.v:=by rw[Int.natCast_emod,e1,e2]
   omega
  simp;refine c1 d ?_;simp[ad];refine c2 (MG x y o_ i c) ?_;simp[ad];refine⟨rfl,?_⟩;refine rd (y,x.mod y) ⟨g,o,c,sP c (by show(x.v% y.v).natAbs<=_;omega),?_⟩ (by show(x.v% y.v).toNat<y.v.toNat;omega);show ff y.v (x.v% y.v)=_;rw[<-f,ff,ff,m,oz y.v.natAbs,<-Nat.gcd_rec,oz]
theorem aDQ{o x k A:Nat}(hx:1<=x)(d:1<=o)(h:o*x^k=A)(hk:1<=k):o*x<=A/\(2<=k->x*x<=A):=by
 have a:x<=x^k:=by
  calc x=x^1:=(md x).symm
   _<=x^k:=j8 hx hk
 refine⟨by rw[<-h];exact kp _ a,fun b=>?_⟩;have c:x*x<=x^k:=by
  calc x*x=x^2:=by rw[o0]
   _<=x^k:=j8 hx b
 rw[<-h];exact me c (ox _ d)
theorem Z0(a:NI)(n A:Nat)(E:1<=a.v)(q:A=a.v.natAbs^n)(J:(au wB A).length<=400000)(F:(au wB a.v.natAbs).length<=400000)(hn:n<=1000000):aq prog 251 [eI a,.int .i64 n] (eI (.mk' A)):=by
 refine gA_ nf func251 mix ?_;simp[f251];refine c1 (tM 1) ?_;rw[show fE 1=eI (.of 1)from(vJ d_ d_).symm];simp[ad];refine lp (α:=Nat×NI×NI) (fun s=>⟨[(1,.p (.int .i64 s.1)),(5,.ptr 2 []),(4,.ptr 1 []),(2,.ptr 0 [])],[.box false (.p (eI s.2.1)),.box false (.p (.st 113 [.int .i64 0,.aK])),.box false (.p (eI s.2.2))]⟩)
  (fun s=>s.1<=n/\1<=s.2.1.v/\1<=s.2.2.v/\(0<s.1->s.2.2.v.natAbs*s.2.1.v.natAbs^s.1=A)/\(s.1=0->s.2.2.v.natAbs=A)/\(au wB s.2.1.v.natAbs).length<=400000) (fun s=>s.1) (n,a,.of 1) ⟨ky _,E,(by decide:(1:Int)<=1),fun _=>by rw[q];show(1:Int).natAbs*_=_;simp,fun h=>by have h:n=0:=h;rw[q,h,li];rfl,F⟩ ?_
 rintro⟨k,x,o⟩ ⟨C,c,i,b,l,m⟩;dsimp only at C c i b l m
 by_cases k0:k=0
 ·subst k0;have e:eI (.mk' A)=eI o:=by
   refine oL ?_ (fun h=>?_)
   ·rw[NI.jm,<-l rfl];omega
   ·rw[NI.jm]at h;omega
  rw[e];simp[ad]
 have b:=b o_;have r:=aDQ (o:=o.v.natAbs) (x:=x.v.natAbs) o_ o_ b o_;have d:ec.wrap (k% 2^ec.bits&&&1% 2^ec.bits:Nat)=(k% 2:Nat):=by
  rw[show(2^ec.bits:Nat)=18446744073709551616 from rfl,j6 (show k<18446744073709551616 by omega),show 1% 18446744073709551616=2^1-1 from rfl,ns];exact aR _ o_ o_
 have hs:(k:Int).fdiv (2^min 1 ec.bits)=(k/2:Nat):=by
  rw[show((2:Int)^min 1 ec.bits)=2 from rfl,hl _ d_];omega
 have j:0<k:=o_
 have K:(au wB o.v.natAbs).length<=400000:=by
  have D:o.v.natAbs<=A:=me (ol _ (show 0<x.v.natAbs by omega)) r.1;have:=dV br _ _ (kk D (cC br A));omega
 have z:2<=k->(au wB (x.v*x.v).natAbs).length<=400000:=fun h=>by
  have:=dV br _ _ (kk (r.2 h) (cC br A));rw[gt];omega
 have y:(1:Int)<=o.v*x.v:=by
  have:=hC i c d_ o_;omega
 have B:(1:Int)<=x.v*x.v:=by
  have:=hC c c d_ o_;omega
 have u:=BV o x o_;have w:=BV x x o_;have g:x.v.natAbs^k=(x.v*x.v).natAbs^(k/2)*x.v.natAbs^(k% 2):=by
  rw[gt,<-o0,<-n0,<-lb,kr]
 by_cases H:k% 2=1
 ·rw[H,md]at g;have t:((k% 2:Nat):Int)=1:=by omega
  rw[t]at d
  by_cases k1:1<k
  ·have f:(1:Int)<k:=by omega
   simp[j,d];refine c2 u ?_;simp[ad,f];refine c2 w ?_;simp[ad,hs];refine rd (k/2,x.mul x,o.mul x) ⟨o_,B,y,fun _=>?_,fun h=>by dsimp only at h;omega,z k1⟩ (by dsimp only;omega);rw[g]at b;show(o.v*x.v).natAbs*(x.v*x.v).natAbs^(k/2)=A;rw[<-b,gt o.v,j4 ((x.v*x.v).natAbs^(k/2)),kw]
  ·have f:¬(1:Int)<k:=by omega
   have G:k=1:=o_
   simp[j,d];refine c2 u ?_;simp[ad,f,hs];refine rd (k/2,x,o.mul x) ⟨o_,c,y,fun h=>by dsimp only at h;omega,fun _=>?_,m⟩ (by dsimp only;omega);subst G;rw[md]at b;show(o.v*x.v).natAbs=A;rw[<-b,gt]
 ·have I:k% 2=0:=by omega
  rw[I,li,na]at g;have t:¬((k% 2:Nat):Int)=1:=o_
  rw[show((k% 2:Nat):Int)=0 by omega]at d;have f:(1:Int)<k:=o_
  simp[j,d,f];refine c2 w ?_;simp[ad,hs];refine rd (k/2,x.mul x,o) ⟨o_,B,i,fun _=>?_,fun h=>by dsimp only at h;omega,z o_⟩ (by dsimp only;omega);show o.v.natAbs*(x.v*x.v).natAbs^(k/2)=A;rw[<-g,b]
theorem adE(x:Nat)(hx:x<18446744073709551616):aq prog 270 [.int .u64 x] (.int .i64 (ee x:Nat)):=by
 refine mX (lH func270 k_) fun w aa d _ _ c=>?_;obtain⟨a,rfl,b⟩:=AM c;simp only[aF]at b;subst b;refine(bits_Len64 x w o_ o_).mono ?_;rintro e w' ⟨rfl,rfl⟩;refine⟨_,rfl,⟨ky _,fun _ _=>rfl,rfl,rfl⟩,fun w aa=>?_⟩;simp only[aF];rfl
def p0(n:Nat):Nat:=if n=0 then 0 else 64*((au wB n).length-1)+ee (ae wB n ((au wB n).length-1))
theorem uO{n:Nat}:au wB n=[]↔n=0:=by
 constructor
 ·intro h;have:=cC br n;rw[h,hT,li]at this;omega
 ·rintro rfl;exact mB
theorem ML(n:Nat):n<2^p0 n:=by
 by_cases b:n=0
 ·subst b;exact kb d_
 ·rw[p0,if_neg b];have e:=cC br n;have j:0<(au wB n).length:=by
   rcases lk (au wB n).length with h|h
   ·exact(b (uO.1 (hW.1 h))).elim
   ·exact h
  obtain⟨m,i⟩:∃m,(au wB n).length=m+1:=⟨(au wB n).length-1,o_⟩
  rw[i]at e⊢;rw[ll];have d:n/wB^m<wB:=by
   rw[j5 (kb d_),j4,<-j9];exact e
  have f:ae wB n m=n/wB^m:=by rw[ae,j6 d]
  have g:0<n/wB^m:=by
   rcases lk (n/wB^m)with h|h
   ·have c:n<wB^m:=by
     rcases lc n (wB^m)with a|a
     ·exact a
     ·have:=my a (kb (show 0<wB by decide));omega
    have:=dV br m n c;omega
   ·exact h
  have c:=Aj (n/wB^m) (n/wB^m) (ky _) g d;rw[f,lb,n0];show n<wB^m*_;have a:n<(n/wB^m+1)*wB^m:=by
   rw[<-j5 (kb d_)];omega
  rw[j4]at a;exact j7 a (kp _ c.2.2)
theorem ZS(a:NI)(l:okW a.v):aq prog 228 [eI a] (.int .i64 (p0 a.v.natAbs:Nat)):=by
 have b:=pJ (eI a) a.v (nD a);refine gA_ nf func228 mix ?_;have o:=pG l;have q:∀i(h:i<(au wB a.v.natAbs).length),(au wB a.v.natAbs)[i]=ae wB a.v.natAbs i:=fun i h=>eZ br h;have f:=cF (B:=wB) br a.v.natAbs ((au wB a.v.natAbs).length-1);have j:=adE _ f;have w:=ML a.v.natAbs;have s:=uO (n:=a.v.natAbs)
 by_cases e:a.v.natAbs=0
 ·rw[e]at b⊢;simp only[eN,mB]at b;simp[f228,p0,c1 b]
 ·have k:=mt s.1 e;rw[p0,if_neg e];have p:ee (ae wB a.v.natAbs ((au wB a.v.natAbs).length-1))<=64:=by
   rcases lk (ae wB a.v.natAbs ((au wB a.v.natAbs).length-1))with h|h
   ·rw[h];decide
   ·exact P6 h f
  simp only[eN]at b;generalize au wB a.v.natAbs=x at*;obtain⟨m,d⟩:∃m,x.length=m+1:=⟨x.length-1,by cases x with|nil=>exact(k rfl).elim|cons c cs=>simp⟩
  rw[d,ll]at j p f;rw[d,ll];rw[d]at o;have hx:=q m o_;have t:x[m]?=some (ae wB a.v.natAbs m):=by rw[hK o_,hx]
  have w1:ec.wrap (m:Int)=m:=aR _ o_ o_;have w2:ec.wrap (64*(m:Int))=64*m:=aR _ o_ o_;have w3:ec.wrap (64*(m:Int)+(ee (ae wB a.v.natAbs m):Nat))=(64*m+ee (ae wB a.v.natAbs m):Nat):=by rw[aR _ o_ o_];push_cast;rfl
  generalize ee (ae wB a.v.natAbs m)=g at*;have u:ec.wrap (64*(m:Int)+g)=64*m+g:=by rw[w3];push_cast;rfl
  simp[f228];refine c1 b ?_;have r:¬((m:Int)+1=0):=o_
  simp[k,d,w1,w2,t,hx,r,u,c1 j]
noncomputable def eF(a:NF):PV:=.st 115 [eI a.num,eI a.den]
@[simp] theorem aNq(a:NF):aL (eF a)=.agg 115:=rfl
@[simp] theorem aLP(a:NF):bW (eF a)=[eI a.num,eI a.den]:=rfl
@[simp] theorem aNS(n:Int):aL (fE n)=.agg 113:=rfl
@[simp] theorem aJm:prog.cellsOf 113=2:=k_
@[simp] theorem aJn:prog.cellsOf 115=4:=k_
theorem NR:fE 1=eI (.mk' 1):=(pZ d_ d_).symm
def kB:Nat:=100000
theorem rH:kB<=3*kB:=ox _ d_
theorem AA{n k:Nat}(h:n<2^k):(au wB n).length<=k/64+1:=by
 refine dV br _ _ (j7 h ?_);rw[show wB=2^64 from rfl,<-n0];exact j8 d_ o_
theorem iR{z:Int}{k:Nat}(h:z.natAbs<2^k)(hk:k<=3*kB):okW z:=by
 have:=AA h;have a:kB=100000:=rfl;rw[okW];omega
def NF.make(n d:NI):NF:=⟨o3 n.v d.v,n.m&&decide (d.v=1)⟩
theorem D7(a:NF):aq prog 189 [eF a] (.bool a.gh):=by
 refine gA_ nf func189 mix ?_;have e:a.den.v=a.q.den:=rfl;have g:=a.q.den_pos;rcases hs:a.den.sm with _|_
 ·obtain⟨c,cs,w1⟩:=pS hs;have f:=NI.Bu (a:=a.den) (by rw[hs];decide);have b:a.gh=false:=by rw[NF.gh,decide_eq_false_iff_not];omega
  simp[f189,ad,w1,dF,cX,b]
 ·have w1:=nA hs;have d:=oI hs;rw[e]at d;have b:a.gh=decide ((a.q.den:Int)=1):=by rw[NF.gh,decide_eq_decide];omega
  simp[f189,ad,w1,d,dF,cX,b];rfl
theorem Fb(a:NI):aq prog 164 [eI a] (eF (.whole a)):=by
 refine gA_ nf func164 mix ?_;simp[f164];refine e1 (tM 1) ?_;have b:(NF.whole a).num=a:=by cases a;rfl
 have c:(NF.whole a).den=.mk' 1:=rfl;simp[ad,eF,b,c,NR]
theorem mI(n:Int)(h:-9223372036854775808<=n)(b:n<=9223372036854775807):aq prog 99 [.int .i64 n] (eF (.int n)):=by
 have a:=Fb (.of n);rw[vJ h b]at a;refine gA_ nf func99 mix ?_;simp[f99];refine c1 (tM n) ?_;simp;refine c1 a ?_;simp[ad];exact Wk.refl _
theorem Fv(q:Rat):(if q<0 then(-1:Int)else if q=0 then 0 else 1)=if q.num<0 then -1 else if q.num=0 then 0 else 1:=by
 have a:q<0↔q.num<0:=by rw[<-Rat.not_le,<-Rat.num_nonneg];omega
 have b:q=0↔q.num=0:=o5.symm;simp only[a,b]
theorem mF(a:NF):aq prog 143 [eF a] (.int .i64 (if a.q<0 then -1 else if a.q=0 then 0 else 1)):=by
 have b:=vB a.num;refine gA_ nf func143 mix ?_;simp[f143,ad];refine c1 b ?_;simp;exact Fv a.q
theorem ru(a:NF)(h:aQ kB a.q):aq prog 116 [eF a] (eF a.neg):=by
 have d:=vG a.num (iR h.1 rH);refine gA_ nf func116 mix ?_;simp[f116,ad];refine e1 d ?_;have b:a.neg.num=a.num.neg:=by show(⟨(-a.q).num,false⟩:NI)=⟨-a.q.num,false⟩;rw[pa]
 have c:a.neg.den=a.den:=by show(⟨((-a.q).den:Int),false⟩:NI)=⟨a.q.den,false⟩;rw[pb]
 simp[ad,eF,b,c]
theorem WH{n d:NI}(j:0<d.v):(NI.mk' (ff n.v d.v)).v≠0/\0<ff n.v d.v/\(¬d.v=1->eI (n.div (.mk' (ff n.v d.v)))=eI (NF.make n d).num)/\eI (d.div (.mk' (ff n.v d.v)))=eI (NF.make n d).den:=by
 obtain⟨dn,e⟩:∃dn:Nat,d.v=dn:=⟨d.v.toNat,o_⟩
 have f:dn≠0:=o_
 obtain⟨e1,e2⟩:=mY (n:=n.v) f;have c:ff n.v d.v=(m4 n.v.natAbs dn:Nat):=by rw[ff,e];rfl
 have k:0<m4 n.v.natAbs dn:=Nat.gcd_pos_of_pos_right _ o_;have i:(m4 n.v.natAbs dn:Int)∣n.v:=hr.2 (oR _ _);refine⟨by rw[NI.jm,c];omega,by rw[c];omega,fun g=>?_,?_⟩
 ·refine oL ?_ (fun _=>?_)
  ·show n.v/ff n.v d.v=(o3 n.v d.v).num;rw[c,e,e1]
  ·show decide (n.v% ff n.v d.v≠0)=(n.m&&decide (d.v=1))
   rw[c,Int.emod_eq_zero_of_dvd i];simp[g]
 ·refine oL ?_ (fun h=>?_)
  ·show d.v/ff n.v d.v=((o3 n.v d.v).den:Int)
   rw[c,e,e2];exact(Int.natCast_ediv _ _).symm
  ·have:d.v/ff n.v d.v= -9223372036854775808:=h;have:=g5 (a:=d.v) (b:=ff n.v d.v) o_ (by rw[c];omega);omega
theorem YT{n d:NI}(a:d.v<0):NF.make n.neg d.neg=NF.make n d:=by
 rw[NF.make,NF.make];have e1:o3 n.neg.v d.neg.v=o3 n.v d.v:=Rat.neg_divInt_neg _ _;have e2:(n.neg.m&&decide (d.neg.v=1))=(n.m&&decide (d.v=1)):=by
  rw[show n.neg.m=false from rfl,cc,decide_eq_false o_,b5]
 rw[e1,e2]
theorem KL(n:Int):(o3 n 1).num=n/\(o3 n 1).den=1:=by
 obtain⟨e1,e2⟩:=mY (n:=n) (show 1≠0 by decide);rw[oF]at e1 e2;refine⟨?_,?_⟩
 ·exact e1.trans (hD n)
 ·exact e2
theorem FL(n d:NI)(q:d.v≠0)(hn:okW n.v)(i:okW d.v):aq prog 187 [eI n,eI d] (eF (.make n d)):=by
 have e:=vB d;refine gA_ nf func187 mix ?_;simp[f187,-aW];rw[aW];simp[-aW];refine join (fun s=>∃a d':NI,0<d'.v/\okW a.v/\okW d'.v/\NF.make a d'=NF.make n d/\aP s.env 2=.ptr 0 []/\aP s.env 3=.ptr 1 []/\aP s.env 4=.ptr 2 []/\s.heap=[.box false (.p (eI a)),.box false (.p (eI d')),.box false (.p (.st 115 [.st 113 [.int .i64 0,.aK],.st 113 [.int .i64 0,.aK]]))]) ?_ ?_
 ·by_cases g:d.v<0
  ·rw[if_pos g]at e;simp;refine c1 e ?_;simp;refine e1 (vG n hn) ?_;simp;refine e1 (vG d i) ?_;simp[ad];exact⟨⟨rfl,rfl⟩,n.neg,d.neg,by rw[NI.Gr];omega,sP hn (by rw[NI.Gr];omega),sP i (by rw[NI.Gr];omega),YT g,rfl,rfl⟩
  ·rw[if_neg g,if_neg q]at e;simp;refine c1 e ?_;simp;exact⟨n,d,o_,hn,i,rfl,rfl,rfl⟩
 ·rintro⟨w,x⟩ ⟨a,d',y1,y2,y3,y4,x1,x2,x3,k⟩;dsimp only at x1 x2 x3 k;subst k;rw[<-y4];clear y4 e;have j:=P9 a d' y2 y3;obtain⟨g1,g2,g3,g4⟩:=WH (n:=a) y1;have og:okW (ff a.v d'.v):=by
   refine sP y3 ?_;rw[ff];exact me (ot (gx _)) (Nat.gcd_le_right _ o_)
  have l:=Qc a (.mk' (ff a.v d'.v)) g2 y2 og;have o:=Qc d' (.mk' (ff a.v d'.v)) g2 y3 og
  by_cases hs:d'.v=1
  ·have b:d'.sm=true:=NI.BK o_ o_;have w1:=nA b;have f:=oI b;rw[hs]at f;have t:eF (.make a d')=.st 115 [eI a,eI d']:=by
    rw[eF];have r1:(NF.make a d').num=a:=by
     show(⟨(o3 a.v d'.v).num,a.m&&decide (d'.v=1)⟩:NI)=a;rw[hs,(KL _).1];simp
    have u:eI (NF.make a d').den=eI d':=by
     refine oL ?_ (fun h=>?_)
     ·show((o3 a.v d'.v).den:Int)=d'.v;rw[hs,(KL _).2];rfl
     ·have:((o3 a.v d'.v).den:Int)= -9223372036854775808:=h;omega
    rw[r1,u]
   rw[t];simp[x1,x2,x3,ad,w1,f,dF,cX]
   done
  ·rw[eF,<-g3 hs,<-g4];have r:(wI d'=.aK/\¬sI d'=1)\/∃c cs,wI d'=.seq (c::cs):=by
    rcases b:d'.sm with _|_
    ·exact .inr (pS b)
    ·exact .inl ⟨nA b,by rw[oI b];exact hs⟩
   rcases r with⟨w1,f⟩|⟨c,cs,w1⟩
   ·simp[x1,x2,x3,ad,w1,f,dF,cX];refine c2 j ?_;simp[x1,x2,x3,ad];refine e2 l ?_;simp[x1,x2,x3,ad];refine e2 o ?_;simp[x1,x2,x3,ad]
    done
   ·simp[x1,x2,x3,ad,w1,dF,cX];refine c2 j ?_;simp[x1,x2,x3,ad];refine e2 l ?_;simp[x1,x2,x3,ad];refine e2 o ?_;simp[x1,x2,x3,ad]
    done
theorem mz(a:NF):a.num.v=a.q.num:=rfl
theorem kH(a:NF):a.den.v=a.q.den:=rfl
theorem lG(a:NF):a.den.v.natAbs=a.q.den:=by rw[kH,gx]
theorem tt{x y:NI}{k l:Nat}(hx:x.v.natAbs<2^k)(a:y.v.natAbs<2^l)(h:k+l<=4*kB):aq prog 141 [eI x,eI y] (eI (x.mul y)):=by
 have b:=AA hx;have c:=AA a;have d:kB=100000:=rfl;exact BV x y o_
theorem qJ{x y:Int}{k l:Nat}(hx:x.natAbs<2^k)(a:y.natAbs<2^l):(x*y).natAbs<2^(k+l):=by
 rw[gt,lb];exact lq hx a
theorem ER{n d:NI}{q:Rat}(m:Bool)(hq:o3 n.v d.v=q)(a:(n.m&&decide (d.v=1))=m):NF.make n d=⟨q,m⟩:=by rw[NF.make,hq,a]
theorem YR(a b:NF):NF.make (a.num.mul b.num) (a.den.mul b.den)=a.mul b:=by
 refine ER _ ?_ rfl;rw[NI.ny,NI.ny,mz,mz,kH,kH,pd,o4];rfl
theorem fB(a b:NF)(c:aQ kB a.q)(d:aQ kB b.q):aq prog 120 [eF a,eF b] (eF (a.mul b)):=by
 have f:=tt (x:=a.num) (y:=b.num) c.1 d.1 o_;have g:=tt (x:=a.den) (y:=b.den) (by rw[lG];exact c.2) (by rw[lG];exact d.2) o_;have e:=FL (a.num.mul b.num) (a.den.mul b.den) (by rw[NI.ny,kH,kH];have:=a.q.den_nz;have:=b.q.den_nz;exact hB o_ o_) (iR (qJ c.1 d.1) o_) (iR (qJ (x:=a.den.v) (y:=b.den.v) (by rw[lG];exact c.2) (by rw[lG];exact d.2)) o_);rw[YR]at e;refine gA_ nf func120 mix ?_;simp(maxDischargeDepth:=99) [f120,ad,ad,e2 f,e2 g,e2 e]
theorem Y3(a:NF)(h:a.q≠0):NF.make a.den a.num=a.inv:=by
 refine ER _ ?_ rfl;rw[mz,kH];show o3 a.q.den a.q.num=a.q⁻¹;rw[pm]
theorem yt(a:NF)(c:aQ kB a.q)(b:a.q≠0):aq prog 115 [eF a] (eF a.inv):=by
 have d:=FL a.den a.num (by rw[mz];exact mt o5.1 b) (iR (by rw[lG];exact c.2) rH) (iR c.1 rH);rw[Y3 a b]at d;refine gA_ nf func115 mix ?_;simp[f115,ad,ad,c2 d]
theorem tI(a b:NF)(g:aQ kB a.q)(c:aQ kB b.q)(f:b.q≠0):aq prog 100 [eF a,eF b] (eF (a.div b)):=by
 have h:=yt b c f;have d:=fB a b.inv g (uX c);have e:a.mul b.inv=a.div b:=by
  rw[NF.mul,NF.div,NF.inv,pp]
 rw[e]at d;refine gA_ nf func100 mix ?_;simp(maxDischargeDepth:=99) [f100,ad,ad,e1 h,e2 d]
theorem Zs(a b:NF)(h:¬(a.gh=true/\b.gh=true)):NF.make ((a.num.mul b.den).add (b.num.mul a.den)) (a.den.mul b.den)=a.add b:=by
 have g:(a.gh&&b.gh)=false:=by simpa using h
 refine ER _ ?_ ?_
 ·rw[NI.tv,NI.ny,NI.ny,NI.ny,mz,mz,kH,kH,o7];rfl
 ·rw[g,cc];have:¬(a.den.mul b.den).v=1:=by
   intro c;rw[NI.ny,kH,kH]at c;have d:a.q.den*b.q.den=1:=by exact_mod_cast c
   have e:=Nat.eq_one_of_mul_eq_one_right d;have f:=Nat.eq_one_of_mul_eq_one_left d;exact h ⟨by rw[NF.gh];simp[e,f],by rw[NF.gh];simp[e,f]⟩
  rw[decide_eq_false this,b5]
theorem NT{q:Rat}(h:q.den=1):(q.num:Rat)=q:=by
 apply Rat.ext
 ·rw[Rat.num_intCast]
 ·rw[Rat.den_intCast,h]
theorem nH(a b:NF)(i:aQ kB a.q)(j:aQ kB b.q):aq prog 119 [eF a,eF b] (eF (a.add b)):=by
 have w1:=D7 a;have w2:=D7 b;refine gA_ nf func119 mix ?_
 by_cases hw:a.gh=true/\b.gh=true
 ·rw[hw.1]at w1;rw[hw.2]at w2;have k:=yA a.num b.num (iR i.1 rH) (iR j.1 rH);have f:=Fb (a.num.add b.num);have c:a.q.den=1:=by simpa[NF.gh]using hw.1
  have d:b.q.den=1:=by simpa[NF.gh]using hw.2
  have e:NF.whole (a.num.add b.num)=a.add b:=by
   rw[NF.whole,NF.add];have e1:(((a.num.add b.num).v:Int):Rat)=a.q+b.q:=by
    rw[NI.tv,mz,mz,Rat.intCast_add,NT c,NT d]
   have e2:(a.num.add b.num).m=(a.gh&&b.gh&&(a.num.sm&&b.num.sm)):=by rw[hw.1,hw.2];rfl
   rw[e1,e2]
  rw[e]at f;simp(maxDischargeDepth:=99) [f119,ad,ad,c1 w1,c1 w2,c2 k,c1 f]
 ·have g:a.den.v.natAbs<2^kB:=by rw[lG];exact i.2
  have h:b.den.v.natAbs<2^kB:=by rw[lG];exact j.2
  have k:=tt (x:=a.num) (y:=b.den) i.1 h o_;have f:=tt (x:=b.num) (y:=a.den) j.1 g o_;have p:(a.num.mul b.den).v.natAbs<2^(kB+kB):=qJ i.1 h;have r:(b.num.mul a.den).v.natAbs<2^(kB+kB):=qJ j.1 g;have n:=yA _ _ (iR p o_) (iR r o_);have o:=tt (x:=a.den) (y:=b.den) g h o_;have s:((a.num.mul b.den).add (b.num.mul a.den)).v.natAbs<2^(kB+kB+1):=by
   rw[NI.tv,j9];exact kk (hv _ _) o_
  have t:kB=100000:=rfl;have l:=FL ((a.num.mul b.den).add (b.num.mul a.den)) (a.den.mul b.den) (by rw[NI.ny,kH,kH];have:=a.q.den_nz;have:=b.q.den_nz;exact hB o_ o_) (iR s o_) (iR (qJ (x:=a.den.v) (y:=b.den.v) g h) o_);rw[Zs a b hw]at l;have hc:a.gh=false\/(a.gh=true/\b.gh=false):=by
   rcases c:a.gh with _|_
   ·exact .inl rfl
   ·exact .inr ⟨rfl,by rcases d:b.gh with _|_;rfl;exact(hw ⟨c,d⟩).elim⟩
  rcases hc with c|⟨c,d⟩
  ·rw[c]at w1;simp(maxDischargeDepth:=99) [f119,ad,ad,c1 w1,e2 k,e2 f,e2 n,e2 o,e2 l]
  ·rw[c]at w1;rw[d]at w2;simp(maxDischargeDepth:=99) [f119,ad,ad,c1 w1,c1 w2,e2 k,e2 f,e2 n,e2 o,e2 l]
theorem nF(a b:NF)(d:aQ kB a.q)(c:aQ kB b.q):aq prog 140 [eF a,eF b] (eF (a.sub b)):=by
 have e:=ru b c;have f:=nH a b.neg d (kU c);refine gA_ nf func140 mix ?_;simp[f140,ad];refine e1 e ?_;simp[ad];refine e2 f ?_;simp[ad];exact Wk.refl _
def cT(x y:Rat):Int:=if x<y then -1 else if x=y then 0 else 1
theorem aAU(a b:Rat):lr (a.num*b.den) (b.num*a.den)=cT a b:=by
 have c:a<b↔a.num*b.den<b.num*a.den:=ps _ _;have f:a=b↔a.num*b.den=b.num*a.den:=by
  constructor
  ·rintro rfl;rfl
  ·intro h
   by_cases d:a<b
   ·rw[c]at d;omega
   ·by_cases e:b<a
    ·have g:=(ps b a).1 e;omega
    ·exact Rat.le_antisymm (pr.1 e) (pr.1 d)
 simp only[lr,cT,c,f]
theorem ry(a b:NF)(c:aQ kB a.q)(d:aQ kB b.q):aq prog 88 [eF a,eF b] (.int .i64 (cT a.q b.q)):=by
 have e:a.den.v.natAbs<2^kB:=by rw[lG];exact c.2
 have f:b.den.v.natAbs<2^kB:=by rw[lG];exact d.2
 have j:=tt (x:=a.num) (y:=b.den) c.1 f o_;have k:=tt (x:=b.num) (y:=a.den) d.1 e o_;have h:(a.num.mul b.den).v.natAbs<2^(kB+kB):=qJ c.1 f;have i:(b.num.mul a.den).v.natAbs<2^(kB+kB):=qJ d.1 e;have g:=P8 _ _ (iR h o_) (iR i o_);rw[NI.ny,NI.ny,mz,mz,kH,kH,aAU]at g;refine gA_ nf func88 mix ?_;simp(maxDischargeDepth:=99) [f88,ad,ad,e2 j,e2 k,e2 g]
def low:Nat->Nat->List Nat
 |0,_=>[]
 |i+1,n=>(48+n/10^i% 10)::low i n
def nd(n:Nat):Nat:=if h:n=0 then 0 else nd (n/10)+1
 decreasing_by omega
theorem oO:∀(i n:Nat),i<nd n↔10^i<=n
 |0,n=>by
  rw[nd];split
  ·subst n;simp
  ·simp;omega
 |i+1,n=>by
  rw[nd];split
  ·rename_i h;subst h;have:=kb (n:=i+1) (show 0<10 by omega);constructor
   ·intro h;omega
   ·intro h;omega
  ·have:=oO i (n/10);rw[lt o_,<-j9]at this;rw[<-this];omega
theorem sS(b n:Nat):∀a,low (a+b) n=low a (n/10^b)++low b n
 |0=>by simp[low]
 |a+1=>by
  rw[show a+1+b=(a+b)+1 by omega,low,low,sS b n a,kc,<-lb,lv b a];rfl
theorem ES(n k:Nat):∀b,b<=k->low b (n% 10^k)=low b n
 |0,_=>rfl
 |b+1,h=>by
  have e:k=b+(k-b-1+1):=o_
  have a:n% 10^k/10^b=n/10^b% 10^(k-b-1+1):=by
   conv=>lhs;rw[e,lb]
   rw[ms]
  rw[low,low,ES n k b o_,a,Nat.mod_mod_of_dvd _ (Nat.pow_dvd_pow 10 (show 1<=k-b-1+1 by omega)|>fun h=>by simpa using h)]
theorem aAh{n m:Nat}(h:∀i,i<nd n↔i<m):nd n=m:=by
 have a:=h m;have b:=h (nd n);omega
theorem Fw{n k:Nat}(h:10^k<=n):nd n=nd (n/10^k)+k:=by
 refine aAh fun i=>?_;rw[oO]
 by_cases hi:i<k
 ·have:=j8 (show 0<10 by omega) (oW hi);constructor
  ·intro _;omega
  ·intro _;omega
 ·obtain⟨j,rfl⟩:∃j,i=j+k:=⟨i-k,o_⟩
  rw[lb,<-lt (kb o_),<-oO];omega
theorem tu{n k:Nat}(h:n<10^k):nd n<=k:=by
 rcases lc k (nd n)with a|a
 ·rw[oO]at a;omega
 ·exact a
theorem yu{n:Nat}(h:0<n):0<nd n:=by rw[oO,li];exact h
theorem YU{M:Nat}(h:10^9<=M):low (nd M) M=low (nd (M/10^9)) (M/10^9)++low 9 (M% 10^9):=by
 rw[Fw h,sS,ES _ _ _ (ky 9)]
theorem sR(n:Nat):∀i,(low i n).length=i
 |0=>rfl
 |i+1=>by simp[low,sR n i]
def bc(n:Nat):List Nat:=low (max 1 (nd n)) n
def bQ(z:Int):List Nat:=if z<0 then 45::bc z.natAbs else bc z.natAbs
def bk(q:Rat):List Nat:=if q.den=1 then bQ q.num else bQ q.num++47::bc q.den
def bf(s:List Nat):Nat:=s.foldl (fun n c=>n*10+(c-48)) 0
def cA(c:Nat):Bool:=decide (48<=c)&&decide (c<=57)
theorem Am(s:List Nat)(c:Nat):bf (s++[c])=bf s*10+(c-48):=by simp[bf]
theorem u4(i n:Nat):low (i+1) n=low i (n/10)++[48+n% 10]:=by
 have:=sS 1 n i;rw[this];simp[low]
theorem RV:∀(i n:Nat),(low i n).all cA=true
 |0,n=>rfl
 |i+1,n=>by
  rw[low,hV,RV i n];have:=ko (n/10^i) (show 0<10 by omega);simp[cA];omega
theorem Ml:∀(i n:Nat),bf (low i n)=n% 10^i
 |0,n=>by simp[low,bf,mo]
 |i+1,n=>by
  rw[u4,Am,Ml i,j9,j4 (10^i),n3];omega
theorem Be(n:Nat):n<10^nd n:=by
 rcases lc n (10^nd n)with h|h
 ·exact h
 ·have:=(oO (nd n) n).2 h;omega
theorem ri(n:Nat):bf (bc n)=n:=by
 rw[bc,Ml];refine j6 (j7 (Be n) (j8 o_ o_))
theorem CH{a b:Nat}(h:bc a=bc b):a=b:=by rw[<-ri a,h,ri]
theorem qQ(n:Nat):(bc n).length=max 1 (nd n):=sR _ _
theorem qd(n:Nat):(bc n).all cA=true:=RV _ _
theorem ou:bc 0=[48]:=by
 have:nd 0=0:=by rw[nd,dif_pos rfl]
 rw[bc,this];rfl
theorem S1{n:Nat}(h:0<n):(bc n).head?=some (48+n/10^(nd n-1))/\0<n/10^(nd n-1)/\n/10^(nd n-1)<10:=by
 have d:=yu h;obtain⟨k,hk⟩:∃k,nd n=k+1:=⟨nd n-1,o_⟩
 have e:max 1 (nd n)=k+1:=o_
 have c:=(oO k n).1 o_;have a:=Be n;rw[hk]at a;have b:n/10^k<10:=by rw[j5 (kb o_),j4,<-j9];exact a
 rw[bc,e,hk,ll];exact⟨by rw[low,h7,j6 b],my c (kb o_),b⟩
def dI(s:List Nat):Bool:=!s.isEmpty&&s.all cA&&(decide (s.head?≠some 48)||decide (s=[48]))
theorem G0(n:Nat):dI (bc n)=true:=by
 rcases lk n with rfl|h
 ·rw[ou];rfl
 ·obtain⟨b,f,g⟩:=S1 h;have d:(bc n).isEmpty=false:=by
   have:=qQ n;cases he:bc n with
   |nil=>rw[he]at this;simp at this;omega
   |cons a l=>rfl
  have c:¬(some (48+n/10^(nd n-1))=some 48):=by intro e;injection e with e;omega
  simp only[dI,d,qd,b,Bool.not_false,ck,ne_eq,c,not_false_eq_true,decide_true,Bool.true_or]
theorem kA:∀(k:Nat)(s:List Nat),s.length=k->s.all cA=true->bf s<10^k
 |0,s,h,_=>by
            have:s=[]:=hW.1 h
            subst this;simp[bf]
 |n+1,s,h,a=>by
  have b:s≠[]:=by intro e;subst e;simp at h
  obtain⟨t,c,rfl⟩:∃t c,s=t++[c]:=⟨s.dropLast,s.getLast b,(h8 b).symm⟩
  simp only[js,hV,j2,ca,b2]at a;have d:=kA n t (by simpa using h) a.1;have hc:=a.2;simp only[cA,b2,decide_eq_true_eq]at hc;rw[Am,j9];omega
theorem Nc:∀(k:Nat)(s:List Nat),s.length=k->s.all cA=true->low k (bf s)=s
 |0,s,h,_=>by
            have:s=[]:=hW.1 h
            subst this;rfl
 |n+1,s,h,a=>by
  have b:s≠[]:=by intro e;subst e;simp at h
  obtain⟨t,c,rfl⟩:∃t c,s=t++[c]:=⟨s.dropLast,s.getLast b,(h8 b).symm⟩
  simp only[js,hV,j2,ca,b2]at a;have d:=Nc n t (by simpa using h) a.1;have hc:=a.2;simp only[cA,b2,decide_eq_true_eq]at hc;rw[u4,Am];have e1:(bf t*10+(c-48))/10=bf t:=o_
  have e2:(bf t*10+(c-48))% 10=c-48:=o_
  rw[e1,e2,d];congr 2;omega
theorem Vg(c:Nat)(s:List Nat)(h:49<=c):10^s.length<=bf (c::s):=by
 have key:∀(s:List Nat)(a:Nat),a*10^s.length<=s.foldl (fun n c=>n*10+(c-48)) a:=by
  intro s
  induction s with
  |nil=>intro a;simp
  |cons x r b=>
   intro a;rw[jp,hX];refine me ?_ (b _);rw[j9,j4 (10^r.length),<-kw];exact km _ o_
 have:=key s (c-48);rw[bf,jp,m2,mb];refine me ?_ this;have:1*10^s.length<=(c-48)*10^s.length:=km _ o_;omega
theorem xZ{s:List Nat}(h:dI s=true):bc (bf s)=s:=by
 simp only[dI,b2,b3,decide_eq_true_eq,b4]at h;obtain⟨⟨f,a⟩,b⟩:=h;rcases b with b|rfl
 ·cases s with
  |nil=>simp at f
  |cons c r=>
   have hc:cA c=true:=by simpa using(hV.symm.trans a|>fun h=>by simpa using h:cA c=true/\r.all cA=true).1
   simp only[cA,b2,decide_eq_true_eq]at hc;have i:49<=c:=by
    have:c≠48:=fun e=>b (by rw[e];rfl);omega
   have g:=kA _ _ rfl a;have j:=Vg c r i;have hn:nd (bf (c::r))=r.length+1:=by
    have a1:=(oO r.length _).2 j;have d:=tu g;rw[hX]at d;omega
   rw[bc,hn,show max 1 (r.length+1)=r.length+1 by omega];exact Nc _ _ rfl a
 ·have:bf [48]=0:=rfl;rw[this,ou]
def ch(c:Nat):List Nat->List Nat×List Nat×Bool
 |[]=>([],[],false)
 |x::r=>if x=c then([],r,true)else(x::(ch c r).1,(ch c r).2.1,(ch c r).2.2)
theorem Eo(c:Nat):∀(a b:List Nat),c∉a->ch c (a++c::b)=(a,b,true)
 |[],b,_=>by simp[ch]
 |x::a,b,h=>by
  simp only[hZ,not_or]at h;rw[hS,ch,if_neg (fun e=>h.1 e.symm),Eo c a b h.2]
theorem D5(c:Nat):∀(a:List Nat),c∉a->ch c a=(a,[],false)
 |[],_=>rfl
 |x::a,h=>by
  simp only[hZ,not_or]at h;rw[ch,if_neg (fun e=>h.1 e.symm),D5 c a h.2]
theorem qZ(c:Nat):∀(s:List Nat),((ch c s).2.2=true/\s=(ch c s).1++c::(ch c s).2.1)\/((ch c s).2.2=false/\(ch c s).1=s/\(ch c s).2.1=[])
 |[]=>by simp[ch]
 |x::s=>by
  rw[ch]
  by_cases h:x=c
  ·subst h;simp
  ·rw[if_neg h];rcases qZ c s with⟨a,b⟩|⟨a,b,d⟩
   ·left;exact⟨a,by dsimp only;rw[hS,<-b]⟩
   ·right;exact⟨a,by dsimp only;rw[b],d⟩
def b9(s:List Nat):Bool:=decide (s.head?=some 45)
def dh(s:List Nat):List Nat:=if b9 s=true then s.tail else s
def bH(s:List Nat):List Nat:=(ch 47 (dh s)).1
def bU(s:List Nat):List Nat:=(ch 47 (dh s)).2.1
def eU(s:List Nat):Bool:=(ch 47 (dh s)).2.2
def mC(s:List Nat):Bool:=dI (bH s)&&!(b9 s&&decide (bH s=[48]))&&(!eU s||(dI (bU s)&&decide (bU s≠[48])&&decide (bU s≠[49])))
def bZ(s:List Nat):Int:=
 if mC s=false then 1
 else if 600<(bH s).length\/600<(bU s).length then 4
 else if eU s=true/\m4 (bf (bH s)) (bf (bU s))≠1 then 1 else 0
def bm(s:List Nat):Rat:=o3 (if b9 s=true then -(bf (bH s):Int)else bf (bH s)) (if eU s=true then bf (bU s)else 1:Nat)
theorem CG{s:List Nat}(h:s.all cA=true){c:Nat}(hc:cA c=false):c∉s:=by
 intro a;rw[h6]at h;rw[h c a]at hc;cases hc
theorem kT{s:List Nat}(h:dI s=true):s.all cA=true:=by
 simp only[dI,b2]at h;exact h.1.2
theorem xg(n:Nat):bQ (n:Int)=bc n:=by
 rw[bQ,if_neg o_];rfl
theorem aHk{n:Nat}(h:0<n):bQ (-(n:Int))=45::bc n:=by
 rw[bQ,if_pos o_];congr 1;rw[hg];rfl
theorem AE{s:List Nat}(h:dI s=true)(a:s≠[48]):0<bf s:=by
 rcases lk (bf s)with e|e
 ·have:=xZ h;rw[e,ou]at this;exact(a this.symm).elim
 ·exact e
theorem jx{s:List Nat}(h:bZ s=0):bk (bm s)=s/\(bm s).num=(if b9 s=true then -(bf (bH s):Int)else bf (bH s))/\(bm s).den=(if eU s=true then bf (bU s)else 1:Nat):=by
 unfold bZ at h
 split at h
 ·cases h
 rename_i a
 split at h
 ·cases h
 split at h
 ·cases h
 rename_i d;have a:mC s=true:=by simpa using a
 simp only[mC,b2,b4,cb,decide_eq_false_iff_not,b3,decide_eq_true_eq]at a;obtain⟨⟨a1,a2⟩,a3⟩:=a;have hs:s=(if b9 s=true then[45]else[])++dh s:=by
  rw[dh]
  by_cases hn:b9 s=true
  ·rw[if_pos hn,if_pos hn];simp only[b9,decide_eq_true_eq]at hn;cases s with
   |nil=>simp at hn
   |cons c r=>simp at hn;subst hn;rfl
  ·rw[if_neg hn,if_neg hn];rfl
 have f:(if eU s=true then bf (bU s)else 1:Nat)≠0:=by
  split
  ·rename_i hf;rcases a3 with a3|a3
   ·rw[hf]at a3;cases a3
   ·have:=AE a3.1.1 a3.1.2;omega
  ·omega
 have g:m4 (if b9 s=true then -(bf (bH s):Int)else bf (bH s)).natAbs (if eU s=true then bf (bU s)else 1:Nat)=1:=by
  have e:(if b9 s=true then -(bf (bH s):Int)else bf (bH s)).natAbs=bf (bH s):=by split<;>omega
  rw[e]
  by_cases hf:eU s=true
  ·rw[if_pos hf];exact Decidable.not_not.1 fun e=>d ⟨hf,e⟩
  ·rw[if_neg hf,oF]
 obtain⟨e1,e2⟩:=mY (n:=if b9 s=true then -(bf (bH s):Int)else bf (bH s)) f;rw[g]at e1 e2;simp only[l5]at e2;have e1:(bm s).num=(if b9 s=true then -(bf (bH s):Int)else bf (bH s)):=by rw[bm,e1];exact hD _
 have e2:(bm s).den=(if eU s=true then bf (bU s)else 1:Nat):=e2;refine⟨?_,e1,e2⟩;have hI:bQ (bm s).num=(if b9 s=true then[45]else[])++bH s:=by
  rw[e1]
  by_cases hn:b9 s=true
  ·rw[if_pos hn,if_pos hn,aHk,xZ a1];·rfl
   refine AE a1 ?_;rcases a2 with a2|a2
   ·rw[hn]at a2;cases a2
   ·exact a2
  ·rw[if_neg hn,if_neg hn,xg,xZ a1];rfl
 rw[bk,hI,e2]
 by_cases hf:eU s=true
 ·have b:dI (bU s)=true/\bU s≠[48]/\bU s≠[49]:=by
   rcases a3 with a3|a3
   ·rw[hf]at a3;cases a3
   ·exact⟨a3.1.1,a3.1.2,a3.2⟩
  have i:bf (bU s)≠1:=by
   intro e;have:=xZ b.1;rw[e]at this;have a:nd 1=1:=by rw[nd,dif_neg o_,nd,dif_pos o_]
   have:bc 1=[49]:=by rw[bc,a];rfl
   exact b.2.2 (by rw[<-this];assumption|>Eq.symm)
  rw[if_pos hf,if_neg i,xZ b.1]
  conv=>rhs;rw[hs]
  rw[List.append_assoc];congr 1;rcases qZ 47 (dh s)with⟨g1,g2⟩|⟨g1,_⟩
  ·exact g2.symm
  ·rw[eU,g1]at hf;cases hf
 ·rw[if_neg hf,if_pos rfl]
  conv=>rhs;rw[hs]
  congr 1;rcases qZ 47 (dh s)with⟨g1,g2⟩|⟨g1,g2,_⟩
  ·exact(hf g1).elim
  ·exact g2
theorem An(z:Int)(r:List Nat):b9 (bQ z++r)=decide (z<0)/\dh (bQ z++r)=bc z.natAbs++r:=by
 by_cases h:z<0
 ·have:bQ z=45::bc z.natAbs:=by rw[bQ,if_pos h]
  rw[this];simp[b9,dh,h]
 ·have e:bQ z=bc z.natAbs:=by rw[bQ,if_neg h]
  have a:=qd z.natAbs;have b:=qQ z.natAbs;rw[e];have hn:b9 (bc z.natAbs++r)=false:=by
   cases d:bc z.natAbs with
   |nil=>rw[d]at b;simp at b;omega
   |cons c t=>
    rw[d]at a;simp only[hV,b2]at a;have hc:=a.1;simp only[cA,b2,decide_eq_true_eq]at hc;have:¬(some c=some 45):=by intro e;injection e with e;omega
    simp only[b9,hS,h7,this,decide_false]
  exact⟨by rw[hn];simp[h],by rw[dh,hn];simp⟩
theorem vm(q:Rat):b9 (bk q)=decide (q.num<0)/\bH (bk q)=bc q.num.natAbs/\eU (bk q)=decide (q.den≠1)/\bU (bk q)=if q.den=1 then[]else bc q.den:=by
 have d:47∉bc q.num.natAbs:=CG (qd _) rfl
 by_cases h:q.den=1
 ·have e:bk q=bQ q.num++[]:=by rw[bk,if_pos h,hO]
  obtain⟨c,b⟩:=An q.num [];rw[hO,hO]at b;have a:=D5 47 _ d;rw[<-b]at a;rw[e];refine⟨c,?_,?_,?_⟩
  ·rw[hO,bH,a,b]
  ·rw[hO,eU,a,h];rfl
  ·rw[hO,bU,a,if_pos h]
 ·have e:bk q=bQ q.num++47::bc q.den:=by rw[bk,if_neg h]
  obtain⟨c,b⟩:=An q.num (47::bc q.den);have a:=Eo 47 _ (bc q.den) d;rw[<-b]at a;rw[e];refine⟨c,?_,?_,?_⟩
  ·rw[bH,a]
  ·rw[eU,a];simp[h]
  ·rw[bU,a,if_neg h]
theorem Mn(q:Rat):bm (bk q)=q:=by
 obtain⟨a,b,c,d⟩:=vm q;have e1:(if b9 (bk q)=true then -(bf (bH (bk q)):Int)else bf (bH (bk q)))=q.num:=by
  rw[a,b,ri]
  by_cases h:q.num<0
  ·simp[h];omega
  ·simp[h];omega
 have e2:(if eU (bk q)=true then bf (bU (bk q))else 1:Nat)=q.den:=by
  rw[c,d]
  by_cases h:q.den=1
  ·simp[h]
  ·simp[h,ri]
 rw[bm,e1,e2,Rat.num_divInt_den]
theorem aHl{a b:Rat}(h:bk a=bk b):a=b:=by rw[<-Mn a,h,Mn]
theorem GZ:bc 1=[49]:=by
 have a:nd 1=1:=by rw[nd,dif_neg o_,nd,dif_pos o_]
 rw[bc,a];rfl
theorem ai6{q:Rat}(f:(bc q.num.natAbs).length<=600)(g:(bc q.den).length<=600):bZ (bk q)=0:=by
 obtain⟨g1,g2,g3,g4⟩:=vm q;have hf:mC (bk q)=true:=by
  simp only[mC,g1,g2,g3,g4,G0,ck,b2,b3,b4,cb,decide_eq_false_iff_not,decide_eq_true_eq];refine⟨?_,?_⟩
  ·by_cases h:q.num<0
   ·right;intro e;have:=CH (b:=0) (e.trans ou.symm);omega
   ·exact .inl h
  ·by_cases h:q.den=1
   ·left;simp[h]
   ·right;rw[if_neg h];have hz:=q.den_nz;refine⟨⟨G0 _,fun e=>?_⟩,fun e=>?_⟩
    ·exact hz (CH (e.trans ou.symm))
    ·exact h (CH (e.trans GZ.symm))
 rw[bZ,hf,if_neg s_,g2,g3,g4];rw[if_neg (by
  intro h;rcases h with h|h
  ·omega
  ·split at h
   ·simp at h
   ·omega)]
 rw[if_neg];rintro⟨c,a⟩;have d:¬q.den=1:=by simpa using c
 rw[if_neg d,ri,ri]at a;exact a q.reduced
theorem xf{n k:Nat}(h:n<10^k)(hk:1<=k):(bc n).length<=k:=by
 rw[qQ];have:=tu h;omega
theorem BS{n k:Nat}(h:(bc n).length<=k):n<10^k:=by
 rw[qQ]at h;exact j7 (Be n) (j8 o_ o_)
theorem EN(z:Int):(bQ z).length<=(bc z.natAbs).length+1:=by
 rw[bQ];split<;>simp
theorem GY(q:Rat):(bk q).length<=(bc q.num.natAbs).length+(bc q.den).length+2:=by
 have:=EN q.num;rw[bk];split<;>simp<;>omega
theorem S5(q:Rat):∀c∈bk q,c<58:=by
 have a:∀n,∀c∈bc n,c<58:=fun n c hc=>by
  have:=h6.1 (qd n) c hc;simp only[cA,b2,decide_eq_true_eq]at this;omega
 have hI:∀z,∀c∈bQ z,c<58:=fun z c hc=>by
  rw[bQ]at hc
  split at hc
  ·rcases hZ.1 hc with rfl|hc
   ·omega
   ·exact a _ c hc
  ·exact a _ c hc
 intro c hc;rw[bk]at hc
 split at hc
 ·exact hI _ c hc
 ·rcases List.mem_append.1 hc with hc|hc
  ·exact hI _ c hc
  ·rcases hZ.1 hc with rfl|hc
   ·omega
   ·exact a _ c hc
theorem Wg(k:Nat):2^(3*k)<=10^k:=by
 rw[n0];exact Nat.pow_le_pow_left o_ k
theorem K6{n k:Nat}(h:n<2^(3*k))(hk:1<=k):(bc n).length<=k:=xf (j7 h (Wg k)) hk
theorem tK{n k K:Nat}(h:n<2^K)(a:K<=3*k)(hk:1<=k):(bc n).length<=k:=K6 (j7 h (j8 d_ a)) hk
def mD:Nat:=600
theorem H3{s:List Nat}(h:bZ s=0):(bm s).num.natAbs<10^mD/\(bm s).den<10^mD:=by
 obtain⟨j,d,f⟩:=jx h;unfold bZ at h
 split at h
 ·cases h
 rename_i a
 split at h
 ·cases h
 rename_i k;have a:mC s=true:=by simpa using a
 simp only[mC,b2,b3,decide_eq_true_eq]at a;obtain⟨⟨a1,_⟩,a3⟩:=a;have b:=kA _ _ rfl (kT a1);have g:10^(bH s).length<=10^mD:=j8 o_ (by rw[mD];omega);refine⟨?_,?_⟩
 ·rw[d];have e:(if b9 s=true then -(bf (bH s):Int)else bf (bH s)).natAbs=bf (bH s):=by split<;>omega
  rw[e];exact j7 b g
 ·rw[f]
  by_cases hf:eU s=true
  ·rw[if_pos hf];rcases a3 with a3|a3
   ·rw[hf]at a3;cases a3
   ·have c:=kA _ _ rfl (kT a3.1.1);have i:10^(bU s).length<=10^mD:=j8 o_ (by rw[mD];omega);exact j7 c i
  ·rw[if_neg hf];exact Nat.one_lt_pow d_ o_
open Go
def eO(l:List UInt8):List Nat:=l.map (·.toNat)
theorem Wn(l:List UInt8):(eO l).map pw=l:=by
 induction l with
 |nil=>rfl
 |cons a r b=>simp only[eO,hM]at b⊢;rw[b];simp
def qm(c:Nat):List Nat->Nat->Int
 |[],_=>-1
 |x::r,i=>bif nk x c then(i:Int)else qm c r (i+1)
theorem Nr(c:UInt8):∀(l:List UInt8)(i:Nat),qm c.toNat (eO l) i=if ek l c= -1 then -1 else ek l c+i
 |[],i=>by simp[qm,eO,ek]
 |x::r,i=>by
  have b:=Nr c r (i+1);simp only[eO]at b;simp only[eO,hM,qm,ek]
  by_cases hx:x=c
  ·subst hx;simp
  ·have hn:nk x.toNat c.toNat=false:=by
    cases d:nk x.toNat c.toNat
    ·rfl
    ·exact(hx (pu.1 (m7 d))).elim
   have e:=Lib.indexByte_ge r c;simp only[hn,cond_false,b,beq_iff_eq,hx,if_false]
   by_cases a:ek r c= -1
   ·simp[a]
   ·rw[if_neg a,if_neg a];rw[if_neg o_];omega
theorem Ns(c:Nat):∀(s:List Nat)(k:Nat),((ch c s).2.2=false/\qm c s k= -1/\ch c s=(s,[],false))\/
 ∃i,i<s.length/\qm c s k=((k+i:Nat):Int)/\ch c s=(s.take i,s.drop (i+1),true)
 |[],k=>by simp[ch,qm]
 |x::r,k=>by
  rw[ch,qm]
  by_cases h:x=c
  ·subst h;right;refine⟨0,s_,?_,?_⟩
   ·simp
   ·simp
  ·have d:nk x c=false:=by
    cases d:nk x c
    ·rfl
    ·exact(h (m7 d)).elim
   rw[d,if_neg h,cond_false];rcases Ns c r (k+1)with⟨e,a,b⟩|⟨i,e,a,b⟩
   ·left;exact⟨e,a,by rw[b]⟩
   ·right;refine⟨i+1,by simp;omega,?_,?_⟩
    ·rw[a];congr 1;omega
    ·rw[b];simp
theorem FB(n:Nat):eO (ei n)=bc n:=by
 induction n using ob with
 |ind n a=>
  rw[ei]
  by_cases h:n<10
  ·rw[dif_pos h,bc];have c:nd n<=1:=tu o_;rw[show max 1 (nd n)=1 by omega];rw[show(1:Nat)=0+1 from rfl,u4,low,i8,j6 h];simp[eO,p1];omega
  ·rw[dif_neg h];have b:=a (n/10) o_;have e:nd n=nd (n/10)+1:=by
    have:=Fw (n:=n) (k:=1) o_;rw[md]at this;exact this
   have d:0<nd (n/10):=yu o_;rw[bc,e,show max 1 (nd (n/10)+1)=max 1 (nd (n/10))+1 by omega,u4];have:eO (ei (n/10)++[pw (48+n% 10)])=eO (ei (n/10))++[48+n% 10]:=by
    simp[eO,p1];omega
   rw[this,b,bc]
theorem ayp(z:Int):eO (e8 z)=bQ z:=by
 rw[e8,bQ]
 by_cases h:z<0
 ·rw[if_pos h,if_pos h];show 45::eO _=_;rw[FB]
 ·rw[if_neg h,if_neg h,FB];congr 1;omega
def tZ(s:List Nat):Nat->List Nat
 |0=>[]
 |n+1=>s++tZ s n
theorem MB(s:List UInt8):∀n,tZ (eO s) n=eO (eP s n)
 |0=>by simp[tZ,eP,eO]
 |n+1=>by
  have a:=MB s n;simp only[eO]at a;simp[tZ,eP,eO,a]
theorem Eg(c:Nat):∀n,tZ [c] n=hP n c
 |0=>rfl
 |n+1=>by rw[tZ,Eg c n];rfl
theorem DO(l:List UInt8):er l [45]=b9 (eO l):=by
 cases l with
 |nil=>rfl
 |cons c r=>
  rw[er,b9];simp only[eO,hM,List.isPrefixOf,h7,ca,Option.some.injEq]
  by_cases h:c=45
  ·subst h;rfl
  ·have a:¬c.toNat=45:=fun e=>h (pu.1 e);have b:((45:UInt8)==c)=false:=by simpa using fun e=>h e.symm
   rw[b];simp[a]
theorem KD(l:List UInt8):eO (eq l [45])=dh (eO l):=by
 rw[eq,DO,dh];cases h:b9 (eO l)
 ·simp
 ·cases l with
  |nil=>simp[eO,b9]at h
  |cons c r=>simp[eO]
def mw(s:List Nat):List Nat:=s.dropWhile cA
def jP(s:List Nat):List Nat:=(s.reverse.dropWhile cA).reverse
theorem zI{p:Nat->Bool}:∀{s:List Nat},s.dropWhile p=[]↔s.all p=true
 |[]=>by simp
 |x::r=>by
  rw[List.dropWhile_cons];cases h:p x
  ·simp[h]
  ·simp[h,zI]
theorem WW(s:List Nat):mw (jP s)=[]↔s.all cA=true:=by
 rw[mw,zI,jP];constructor
 ·intro h
  by_cases a:s.reverse.dropWhile cA=[]
  ·rw[zI,h5]at a;exact a
  ·have b:=List.head_dropWhile_not cA a;rw[h5,h6]at h;rw[h _ (List.head_mem a)]at b;cases b
 ·intro h;have:s.reverse.dropWhile cA=[]:=by rw[zI,h5];exact h
  rw[this];rfl
end Go.az
namespace Go.Proofs
open Go.Shelf
def Tryz.Wb:gi:=⟨fun|103=>265|210=>297|206=>289|n=>n,fun|9=>9|4=>4|24=>327|3=>3|n=>n,fun|n=>n⟩
theorem Tryz.azC:gc prog Wb:={
 mixed:=k_
 f103:=func265.trans (congrArg some k_)
 f206:=func289.trans (congrArg some k_)
 f210:=func297.trans (congrArg some k_)
 t3:=underlying3
 a3:=isAgg3
 z3:=sizeOf3
 v3:=zeroValue3
 t4:=underlying4
 a4:=isAgg4
 z4:=sizeOf4
 v4:=zeroValue4
 t9:=underlying9
 a9:=isAgg9
 z9:=sizeOf9
 v9:=zeroValue9
 t24:=underlying327
 a24:=isAgg327
 z24:=sizeOf327
 v24:=zeroValue327}
open Go.RowKit in
theorem Tryz.strings_CutPrefix(s p:ByteArray)(w:da):
 db prog 265 #[.string s,.string p] w fun e w'=>e=.returned (.tuple #[.string ⟨(eq s.data.toList p.data.toList).toArray⟩,.bool (er s.data.toList p.data.toList)])/\w'=w:=Any.strings_CutPrefix azC s p w
def Tryz.V6:gi:=⟨fun|283=>301|n=>n,fun|3=>3|9=>9|4=>4|n=>n,fun|n=>n⟩
theorem Tryz.azP:fi prog V6:={
 mixed:=k_
 f283:=func301.trans (congrArg some k_)
 t3:=underlying3
 a3:=isAgg3
 z3:=sizeOf3
 v3:=zeroValue3
 t4:=underlying4
 a4:=isAgg4
 z4:=sizeOf4
 v4:=zeroValue4
 t9:=underlying9
 a9:=isAgg9
 z9:=sizeOf9
 v9:=zeroValue9}
open Go.Lib in
theorem Tryz.internal_strconv_small(i:Nat)(h:i<100)(w:da):
 db prog 301 #[.int .i64 i] w fun e w'=>e=.returned (.string ⟨(ei i).toArray⟩)/\w'=w:=Any.internal_strconv_small azP i h w
def Tryz.VE:gi:=⟨fun|284=>302|129=>270|317=>324|318=>325|n=>n,fun|53=>269|3=>3|212=>372|0=>0|4=>4|46=>324|5=>5|9=>9|n=>n,fun|17=>3|n=>n⟩
theorem Tryz.YX:Go.Proofs.LaysM.n284 prog VE:={
 mixed:=k_
 f129:=func270.trans (congrArg some k_)
 f284:=func302.trans (congrArg some k_)
 f317:=func324.trans (congrArg some k_)
 f318:=func325.trans (congrArg some k_)
 t0:=underlying0
 a0:=isAgg0
 z0:=sizeOf0
 v0:=zeroValue0
 t3:=underlying3
 a3:=isAgg3
 z3:=sizeOf3
 v3:=zeroValue3
 t4:=underlying4
 a4:=isAgg4
 z4:=sizeOf4
 v4:=zeroValue4
 t5:=underlying5
 a5:=isAgg5
 z5:=sizeOf5
 v5:=zeroValue5
 t9:=underlying9
 a9:=isAgg9
 z9:=sizeOf9
 v9:=zeroValue9
 t46:=underlying324
 a46:=isAgg324
 z46:=sizeOf324
 v46:=zeroValue324
 t53:=underlying269
 a53:=isAgg269
 z53:=sizeOf269
 v53:=zeroValue269
 t212:=underlying372
 a212:=isAgg372
 z212:=sizeOf372
 v212:=zeroValue372
 g17:=k_
 i0:=k_
 i3:=k_
 i4:=k_
 i5:=k_
 i9:=k_
 i46:=k_
 i53:=k_
 i212:=k_
 m17:=k_}
open Go.Lib in
theorem Tryz.internal_strconv_numDigits(u:Nat)(h1:1<=u)(h2:u<18446744073709551616)(w:da)(htab:ey prog w "internal/strconv.uint64pow10" .u64 ew):
 db prog 302 #[.int .u64 u] w fun e w'=>e=.returned (.int .i64 (ej u))/\w'=w:=Any.internal_strconv_numDigits YX u h1 h2 w htab
def Tryz.V5:gi:=⟨fun|285=>303|n=>n,fun|37=>306|53=>269|3=>3|4=>4|51=>352|9=>9|5=>5|0=>0|n=>n,fun|n=>n⟩
theorem Tryz.azV:fd prog V5:={
 mixed:=k_
 f285:=func303.trans (congrArg some k_)
 t0:=underlying0
 a0:=isAgg0
 z0:=sizeOf0
 v0:=zeroValue0
 t3:=underlying3
 a3:=isAgg3
 z3:=sizeOf3
 v3:=zeroValue3
 t4:=underlying4
 a4:=isAgg4
 z4:=sizeOf4
 v4:=zeroValue4
 t5:=underlying5
 a5:=isAgg5
 z5:=sizeOf5
 v5:=zeroValue5
 t9:=underlying9
 a9:=isAgg9
 z9:=sizeOf9
 v9:=zeroValue9
 t37:=underlying306
 a37:=isAgg306
 z37:=sizeOf306
 v37:=zeroValue306
 t51:=underlying352
 a51:=isAgg352
 z51:=sizeOf352
 v51:=zeroValue352
 t53:=underlying269
 a53:=isAgg269
 z53:=sizeOf269
 v53:=zeroValue269}
open Go.RowKit Go.Sort Go.Lib in
theorem Tryz.internal_strconv_formatBase10(aw off cap:Nat)(u:Nat)(d:Array UInt8)(w:da)(hH:Holds (fun(b:UInt8)=>gm .u8 (b.toNat:Int)) w aw off d)(hu:u<10^d.size)(hu64:u<18446744073709551616)(hsz:d.size<4611686018427387904):
 db prog 303 #[.slice (some ⟨aw,off,none⟩) d.size cap,.int .u64 u] w fun e w'=>
  e=.returned (.tuple #[])/\∃(n v':Nat)(dk:Array UInt8),w'=(putRow (fun(b:UInt8)=>gm .u8 (b.toNat:Int)) w aw off dk).drewN n/\FmtInv d.size u 0 v' dk:=Any.internal_strconv_formatBase10 azV aw off cap u d w hH hu hu64 hsz
def Tryz.Vs:gi:=⟨fun|171=>242|243=>278|246=>300|283=>301|284=>302|285=>303|286=>304|129=>270|317=>324|318=>325|319=>326|320=>327|337=>338|338=>339|n=>n,fun|3=>3|9=>9|2=>2|4=>4|171=>348|0=>0|53=>269|37=>306|5=>5|173=>350|212=>372|51=>352|20=>20|213=>373|46=>324|232=>393|233=>394|n=>n,fun|17=>3|18=>6|19=>7|n=>n⟩
theorem Tryz.YY:Go.Proofs.LaysM.n171 prog Vs:={
 mixed:=k_
 f129:=func270.trans (congrArg some k_)
 f171:=func242.trans (congrArg some k_)
 f243:=func278.trans (congrArg some k_)
 f246:=func300.trans (congrArg some k_)
 f283:=func301.trans (congrArg some k_)
 f284:=func302.trans (congrArg some k_)
 f285:=func303.trans (congrArg some k_)
 f286:=func304.trans (congrArg some k_)
 f317:=func324.trans (congrArg some k_)
 f318:=func325.trans (congrArg some k_)
 f319:=func326.trans (congrArg some k_)
 f320:=func327.trans (congrArg some k_)
 f337:=func338.trans (congrArg some k_)
 f338:=func339.trans (congrArg some k_)
 t0:=underlying0
 a0:=isAgg0
 z0:=sizeOf0
 v0:=zeroValue0
 t2:=underlying2
 a2:=isAgg2
 z2:=sizeOf2
 v2:=zeroValue2
 t3:=underlying3
 a3:=isAgg3
 z3:=sizeOf3
 v3:=zeroValue3
 t4:=underlying4
 a4:=isAgg4
 z4:=sizeOf4
 v4:=zeroValue4
 t5:=underlying5
 a5:=isAgg5
 z5:=sizeOf5
 v5:=zeroValue5
 t9:=underlying9
 a9:=isAgg9
 z9:=sizeOf9
 v9:=zeroValue9
 t20:=underlying20
 a20:=isAgg20
 z20:=sizeOf20
 v20:=zeroValue20
 t37:=underlying306
 a37:=isAgg306
 z37:=sizeOf306
 v37:=zeroValue306
 t46:=underlying324
 a46:=isAgg324
 z46:=sizeOf324
 v46:=zeroValue324
 t51:=underlying352
 a51:=isAgg352
 z51:=sizeOf352
 v51:=zeroValue352
 t53:=underlying269
 a53:=isAgg269
 z53:=sizeOf269
 v53:=zeroValue269
 t171:=underlying348
 a171:=isAgg348
 z171:=sizeOf348
 v171:=zeroValue348
 t173:=underlying350
 a173:=isAgg350
 z173:=sizeOf350
 v173:=zeroValue350
 t212:=underlying372
 a212:=isAgg372
 z212:=sizeOf372
 v212:=zeroValue372
 t213:=underlying373
 a213:=isAgg373
 z213:=sizeOf373
 t232:=underlying393
 a232:=isAgg393
 z232:=sizeOf393
 v232:=zeroValue393
 t233:=underlying394
 a233:=isAgg394
 z233:=sizeOf394
 v233:=zeroValue394
 g17:=k_
 g18:=k_
 g19:=k_
 i0:=k_
 i2:=k_
 i3:=k_
 i4:=k_
 i5:=k_
 i9:=k_
 i20:=k_
 i37:=k_
 i46:=k_
 i51:=k_
 i53:=k_
 i171:=k_
 i173:=k_
 i212:=k_
 i232:=k_
 i233:=k_
 m17:=k_
 m18:=k_
 m19:=k_}
open Go.RowKit Go.Sort Go.Lib in
theorem Tryz.strconv_Itoa(n:Int)(h0: -9223372036854775808<=n)(h1:n<=9223372036854775807)(w:da)(htab:ey prog w "internal/strconv.uint64pow10" .u64 ew):
 db prog 242 #[.int .i64 n] w fun e w'=>e=.returned (.string ⟨(e8 n).toArray⟩)/\∃k os,w'=grow (w.drewN k) os:=Any.strconv_Itoa YY n h0 h1 w htab
def Tryz.Vt:gi:=⟨fun|172=>250|244=>290|245=>291|247=>312|279=>313|280=>314|281=>315|282=>316|287=>331|316=>332|171=>242|205=>333|321=>340|322=>341|243=>278|246=>300|283=>301|284=>302|285=>303|286=>304|129=>270|317=>324|318=>325|319=>326|320=>327|337=>338|338=>339|n=>n,fun|9=>9|3=>3|75=>310|76=>311|4=>4|5=>5|167=>358|37=>306|0=>0|85=>359|2=>2|168=>361|53=>269|175=>377|46=>324|210=>381|127=>340|145=>391|143=>389|21=>21|171=>348|173=>350|212=>372|51=>352|20=>20|213=>373|232=>393|233=>394|80=>256|n=>n,fun|15=>4|16=>5|17=>3|18=>6|19=>7|n=>n⟩
theorem Tryz.YZ:Go.Proofs.LaysC.n172 prog Vt:={
 mixed:=k_
 f129:=func270.trans (congrArg some k_)
 f171:=func242.trans (congrArg some k_)
 f172:=func250.trans (congrArg some k_)
 f205:=func333.trans (congrArg some k_)
 f243:=func278.trans (congrArg some k_)
 f244:=func290.trans (congrArg some k_)
 f245:=func291.trans (congrArg some k_)
 f246:=func300.trans (congrArg some k_)
 f247:=func312.trans (congrArg some k_)
 f279:=func313.trans (congrArg some k_)
 f280:=func314.trans (congrArg some k_)
 f281:=func315.trans (congrArg some k_)
 f282:=func316.trans (congrArg some k_)
 f283:=func301.trans (congrArg some k_)
 f284:=func302.trans (congrArg some k_)
 f285:=func303.trans (congrArg some k_)
 f286:=func304.trans (congrArg some k_)
 f287:=func331.trans (congrArg some k_)
 f316:=func332.trans (congrArg some k_)
 f317:=func324.trans (congrArg some k_)
 f318:=func325.trans (congrArg some k_)
 f319:=func326.trans (congrArg some k_)
 f320:=func327.trans (congrArg some k_)
 f321:=func340.trans (congrArg some k_)
 f322:=func341.trans (congrArg some k_)
 f337:=func338.trans (congrArg some k_)
 f338:=func339.trans (congrArg some k_)
 t0:=underlying0
 a0:=isAgg0
 z0:=sizeOf0
 v0:=zeroValue0
 t2:=underlying2
 a2:=isAgg2
 z2:=sizeOf2
 v2:=zeroValue2
 t3:=underlying3
 a3:=isAgg3
 z3:=sizeOf3
 v3:=zeroValue3
 t4:=underlying4
 a4:=isAgg4
 z4:=sizeOf4
 v4:=zeroValue4
 t5:=underlying5
 a5:=isAgg5
 z5:=sizeOf5
 v5:=zeroValue5
 t9:=underlying9
 a9:=isAgg9
 z9:=sizeOf9
 v9:=zeroValue9
 t20:=underlying20
 a20:=isAgg20
 z20:=sizeOf20
 v20:=zeroValue20
 t21:=underlying21
 a21:=isAgg21
 z21:=sizeOf21
 v21:=zeroValue21
 t37:=underlying306
 a37:=isAgg306
 z37:=sizeOf306
 v37:=zeroValue306
 t46:=underlying324
 a46:=isAgg324
 z46:=sizeOf324
 v46:=zeroValue324
 t51:=underlying352
 a51:=isAgg352
 z51:=sizeOf352
 v51:=zeroValue352
 t53:=underlying269
 a53:=isAgg269
 z53:=sizeOf269
 v53:=zeroValue269
 t75:=underlying310
 a75:=isAgg310
 z75:=sizeOf310
 v75:=zeroValue310
 t76:=underlying311
 a76:=isAgg311
 z76:=sizeOf311
 v76:=zeroValue311
 t85:=underlying359
 a85:=isAgg359
 z85:=sizeOf359
 v85:=zeroValue359
 t127:=underlying340
 a127:=isAgg340
 z127:=sizeOf340
 v127:=zeroValue340
 t143:=underlying389
 a143:=isAgg389
 z143:=sizeOf389
 v143:=zeroValue389
 t145:=underlying391
 a145:=isAgg391
 z145:=sizeOf391
 v145:=zeroValue391
 t167:=underlying358
 a167:=isAgg358
 z167:=sizeOf358
 v167:=zeroValue358
 t168:=underlying361
 a168:=isAgg361
 z168:=sizeOf361
 v168:=zeroValue361
 t171:=underlying348
 a171:=isAgg348
 z171:=sizeOf348
 v171:=zeroValue348
 t173:=underlying350
 a173:=isAgg350
 z173:=sizeOf350
 v173:=zeroValue350
 t175:=underlying377
 a175:=isAgg377
 z175:=sizeOf377
 v175:=zeroValue377
 t210:=underlying381
 a210:=isAgg381
 z210:=sizeOf381
 v210:=zeroValue381
 t212:=underlying372
 a212:=isAgg372
 z212:=sizeOf372
 v212:=zeroValue372
 t213:=underlying373
 a213:=isAgg373
 z213:=sizeOf373
 t232:=underlying393
 a232:=isAgg393
 z232:=sizeOf393
 v232:=zeroValue393
 t233:=underlying394
 a233:=isAgg394
 z233:=sizeOf394
 v233:=zeroValue394
 g15:=k_
 g16:=k_
 g17:=k_
 g18:=k_
 g19:=k_
 t80:=underlying256
 a80:=isAgg256
 z80:=sizeOf256
 v80:=zeroValue256
 i0:=k_
 i2:=k_
 i3:=k_
 i4:=k_
 i5:=k_
 i9:=k_
 i20:=k_
 i21:=k_
 i37:=k_
 i46:=k_
 i51:=k_
 i53:=k_
 i75:=k_
 i76:=k_
 i80:=k_
 i85:=k_
 i127:=k_
 i143:=k_
 i145:=k_
 i167:=k_
 i168:=k_
 i171:=k_
 i173:=k_
 i175:=k_
 i210:=k_
 i212:=k_
 i232:=k_
 i233:=k_
 m15:=k_
 m16:=k_
 m17:=k_
 m18:=k_
 m19:=k_
 c0:=k_
 c2:=k_
 c3:=k_
 c4:=k_
 c5:=k_
 c9:=k_
 c20:=k_
 c21:=k_
 c37:=k_
 c46:=k_
 c51:=k_
 c53:=k_
 c75:=k_
 c76:=k_
 c80:=k_
 c85:=k_
 c127:=k_
 c143:=k_
 c145:=k_
 c167:=k_
 c168:=k_
 c171:=k_
 c173:=k_
 c175:=k_
 c210:=k_
 c212:=k_
 c213:=k_
 c232:=k_
 c233:=k_}
open Go.RowKit in
theorem Tryz.strconv_Atoi_ok(s:ByteArray)(hmax:s.size<=9223372036854775806)(v:Int)(h:e9 s.data.toList= .ok v)(w:da):
 db prog 250 #[.string s] w fun e w'=>e=.returned (.tuple #[.int .i64 v,.nilIface])/\(w'=w\/∃t,w'=Lib.bytesWorld w 5 t):=Any.strconv_Atoi_ok YZ s hmax v h w
def Tryz.V8:gi:=⟨fun|219=>288|217=>308|225=>309|224=>310|267=>311|266=>329|314=>330|n=>n,fun|9=>9|3=>3|4=>4|5=>5|46=>324|146=>353|51=>352|n=>n,fun|1=>2|n=>n⟩
theorem Tryz.azL:fm prog V8:={
 mixed:=k_
 f217:=func308.trans (congrArg some k_)
 f219:=func288.trans (congrArg some k_)
 f224:=func310.trans (congrArg some k_)
 f225:=func309.trans (congrArg some k_)
 f266:=func329.trans (congrArg some k_)
 f267:=func311.trans (congrArg some k_)
 f314:=func330.trans (congrArg some k_)
 t3:=underlying3
 a3:=isAgg3
 z3:=sizeOf3
 v3:=zeroValue3
 t4:=underlying4
 a4:=isAgg4
 z4:=sizeOf4
 v4:=zeroValue4
 t5:=underlying5
 a5:=isAgg5
 z5:=sizeOf5
 v5:=zeroValue5
 t9:=underlying9
 a9:=isAgg9
 z9:=sizeOf9
 v9:=zeroValue9
 t46:=underlying324
 a46:=isAgg324
 z46:=sizeOf324
 v46:=zeroValue324
 t51:=underlying352
 a51:=isAgg352
 z51:=sizeOf352
 v51:=zeroValue352
 t146:=underlying353
 a146:=isAgg353
 z146:=sizeOf353
 v146:=zeroValue353
 g1:=k_}
open Go.RowKit Go.Lib in
theorem Tryz.stringslite_Index_one(s:ByteArray)(c:UInt8)(w:da):
 db prog 288 #[.string s,.string ⟨#[c]⟩] w fun e w'=>e=.returned (.int .i64 (ek s.data.toList c))/\w'=w:=Any.stringslite_Index_one azL s c w
def Tryz.WM:gi:=⟨fun|99=>249|206=>289|n=>n,fun|9=>9|4=>4|3=>3|n=>n,fun|n=>n⟩
theorem Tryz.azW:fb prog WM:={
 mixed:=k_
 f99:=func249.trans (congrArg some k_)
 f206:=func289.trans (congrArg some k_)
 t3:=underlying3
 a3:=isAgg3
 z3:=sizeOf3
 v3:=zeroValue3
 t4:=underlying4
 a4:=isAgg4
 z4:=sizeOf4
 v4:=zeroValue4
 t9:=underlying9
 a9:=isAgg9
 z9:=sizeOf9
 v9:=zeroValue9}
open Go.RowKit Go.Lib in
theorem Tryz.strings_HasPrefix(s p:ByteArray)(w:da):
 db prog 249 #[.string s,.string p] w fun e w'=>e=.returned (.bool (er s.data.toList p.data.toList))/\w'=w:=Any.strings_HasPrefix azW s p w
def Tryz.Wc:gi:=⟨fun|101=>229|208=>271|206=>289|n=>n,fun|9=>9|4=>4|3=>3|n=>n,fun|n=>n⟩
theorem Tryz.azz:ge prog Wc:={
 mixed:=k_
 f101:=func229.trans (congrArg some k_)
 f206:=func289.trans (congrArg some k_)
 f208:=func271.trans (congrArg some k_)
 t3:=underlying3
 a3:=isAgg3
 z3:=sizeOf3
 v3:=zeroValue3
 t4:=underlying4
 a4:=isAgg4
 z4:=sizeOf4
 v4:=zeroValue4
 t9:=underlying9
 a9:=isAgg9
 z9:=sizeOf9
 v9:=zeroValue9}
open Go.RowKit Go.Lib in
theorem Tryz.strings_TrimPrefix(s p:ByteArray)(w:da):
 db prog 229 #[.string s,.string p] w fun e w'=>e=.returned (.string ⟨(eq s.data.toList p.data.toList).toArray⟩)/\w'=w:=Any.strings_TrimPrefix azz s p w
def Tryz.Ks:gi:=⟨fun|105=>245|212=>284|99=>249|165=>285|166=>246|170=>286|169=>247|263=>305|264=>209|206=>289|240=>287|241=>306|276=>307|277=>328|n=>n,fun|9=>9|3=>3|4=>4|20=>20|0=>0|46=>324|109=>337|5=>5|72=>308|76=>311|51=>352|146=>353|53=>269|148=>270|70=>305|37=>306|75=>310|127=>340|164=>355|80=>256|n=>n,fun|n=>n⟩
theorem Tryz.azF:gb prog Ks:={
 mixed:=k_
 f99:=func249.trans (congrArg some k_)
 f105:=func245.trans (congrArg some k_)
 f165:=func285.trans (congrArg some k_)
 f166:=func246.trans (congrArg some k_)
 f169:=func247.trans (congrArg some k_)
 f170:=func286.trans (congrArg some k_)
 f206:=func289.trans (congrArg some k_)
 f212:=func284.trans (congrArg some k_)
 f240:=func287.trans (congrArg some k_)
 f241:=func306.trans (congrArg some k_)
 f263:=func305.trans (congrArg some k_)
 f264:=func209.trans (congrArg some k_)
 f276:=func307.trans (congrArg some k_)
 f277:=func328.trans (congrArg some k_)
 t0:=underlying0
 a0:=isAgg0
 z0:=sizeOf0
 v0:=zeroValue0
 t3:=underlying3
 a3:=isAgg3
 z3:=sizeOf3
 v3:=zeroValue3
 t4:=underlying4
 a4:=isAgg4
 z4:=sizeOf4
 v4:=zeroValue4
 t5:=underlying5
 a5:=isAgg5
 z5:=sizeOf5
 v5:=zeroValue5
 t9:=underlying9
 a9:=isAgg9
 z9:=sizeOf9
 v9:=zeroValue9
 t20:=underlying20
 a20:=isAgg20
 z20:=sizeOf20
 v20:=zeroValue20
 t37:=underlying306
 a37:=isAgg306
 z37:=sizeOf306
 v37:=zeroValue306
 t46:=underlying324
 a46:=isAgg324
 z46:=sizeOf324
 v46:=zeroValue324
 t51:=underlying352
 a51:=isAgg352
 z51:=sizeOf352
 v51:=zeroValue352
 t53:=underlying269
 a53:=isAgg269
 z53:=sizeOf269
 v53:=zeroValue269
 t70:=underlying305
 a70:=isAgg305
 z70:=sizeOf305
 v70:=zeroValue305
 t72:=underlying308
 a72:=isAgg308
 z72:=sizeOf308
 v72:=zeroValue308
 t75:=underlying310
 a75:=isAgg310
 z75:=sizeOf310
 v75:=zeroValue310
 t76:=underlying311
 a76:=isAgg311
 z76:=sizeOf311
 v76:=zeroValue311
 t109:=underlying337
 a109:=isAgg337
 z109:=sizeOf337
 v109:=zeroValue337
 t127:=underlying340
 a127:=isAgg340
 z127:=sizeOf340
 v127:=zeroValue340
 t146:=underlying353
 a146:=isAgg353
 z146:=sizeOf353
 v146:=zeroValue353
 t148:=underlying270
 a148:=isAgg270
 z148:=sizeOf270
 v148:=zeroValue270
 t164:=underlying355
 a164:=isAgg355
 z164:=sizeOf355
 v164:=zeroValue355}
theorem Tryz.U2:Builder.Extra prog Ks:={
 sizeBuilder:=k_
 liesBuilder:=k_
 t5:=underlying5
 a5:=isAgg5
 z5:=sizeOf5
 v5:=zeroValue5
 infoByte:=k_
 cellsByte:=k_
 sizeByte:=k_
 neB5:=d_}
open Go.RowKit Go.Lib in
theorem Tryz.strings_Repeat(s:ByteArray)(c:Nat)(w:da)(hc:c<=9223372036854775807)(hlen:s.size*c<=140737488355328):
 db prog 245 #[.string s,.int .i64 c] w fun e w'=>e=.returned (.string ⟨(eP s.data.toList c).toArray⟩)/\Below w.heap.size w w':=Any.strings_Repeat azF U2 s c w hc hlen
end Go.Proofs
namespace Go.Proofs
open Go.Shelf Go.RowKit Go.Sort Go.Lib
set_option maxHeartbeats 6400000 in
set_option maxRecDepth 100000 in
theorem Tryz.UW(u:Nat)(hu64:u<18446744073709551616)(w:da)
 (htab:ey prog w "internal/strconv.uint64pow10" .u64 ew):
 db prog 283 #[.int .u64 u,.int .i64 10] w fun e w'=>e=.returned (.string ⟨(ei u).toArray⟩)/\∃k os,w'=grow (w.drewN k) os:=by
 have e301:∀args w,(callFunc 301 args).run prog w=.ok (.enter 301 args) w:=enters_of func301 k_ rfl;have e302:∀args w,(callFunc 302 args).run prog w=.ok (.enter 302 args) w:=enters_of func302 k_ rfl;have e303:∀args w,(callFunc 303 args).run prog w=.ok (.enter 303 args) w:=enters_of func303 k_ rfl
 by_cases hs:u<100
 ·go_enter func283,ntmps283
  go_wp2_with (go_at_fn 301;refine(internal_strconv_small u hs _).mono ?_;rintro e w' ⟨rfl,rfl⟩)
  go_ret
  exact⟨rfl,0,#[],by simp[World.drewN_zero]⟩
 ·have hu1:1<=u:=by omega
  have hnd20:ej u<=20:=by have:=Lib.numDigits_eq u hu1 hu64;split at this<;>omega
  have hb3:ej u<=24:=o_
  have hal:prog.arrayLen 348=24:=k_
  have hsl1:∀W,(Instr.sliceAt 348 (.pointer (some ⟨w.heap.size,0,none⟩)) none (some (.int .i64 (ej u:Int))) none).run prog W=.ok (.slice (some ⟨w.heap.size,0,none⟩) (ej u) 24) W:=fun W=>by
   rw[run_sliceAt_array_h W 348 ⟨w.heap.size,0,none⟩ k_ .i64 (ej u:Int) o_ (by rw[hal];omega)]
   go_simp
  have hH0:=Lib.holds_zero0 w 348 (ej u) hb3;have hfmt:=internal_strconv_formatBase10 w.heap.size 0 24 u (Array.replicate (ej u) 0) (w.alloc (.cells en 348)) hH0 (by rw[b0];exact Lib.lt_pow_nDigits u) hu64 (by rw[b0];omega);rw[b0]at hfmt;have HH0:=Lib.hid hH0;clear hH0 hal
  go_enter func283,ntmps283
  go_wp2_with (first
   |(go_at_fn 302;refine(internal_strconv_numDigits u hu1 hu64 _ (Lib.tabIs_alloc htab _)).mono ?_;rintro e w' ⟨rfl,rfl⟩))
  go_at_fn 303
  refine hfmt.mono ?_;rintro e w' ⟨rfl,k,v',dk,rfl,hF⟩;have hcv:(convert 306 9 (.slice (some ⟨w.heap.size,0,none⟩) (ej u) 24)).run prog ((putRow (fun(b:UInt8)=>gm .u8 (b.toNat:Int)) (w.alloc (.cells en 348)) w.heap.size 0 dk).drewN k)=.ok (.string ⟨(ei u).toArray⟩) ((putRow (fun(b:UInt8)=>gm .u8 (b.toNat:Int)) (w.alloc (.cells en 348)) w.heap.size 0 dk).drewN k):=by
   have h:=run_convert_bytes_back (P:=prog) ((putRow (fun(b:UInt8)=>gm .u8 (b.toNat:Int)) (w.alloc (.cells en 348)) w.heap.size 0 dk).drewN k) 306 9 5 ⟨w.heap.size,0,none⟩ 24 (ei u) k_ k_ k_ (fun j hj=>by
    rw[Lib.row_is_numeral hF j hj,Lib.add_plain,World.cell?_drewN];exact cell?_putRow (fun(b:UInt8)=>gm .u8 (b.toNat:Int)) _ w.heap.size 0 _ dk HH0.out (by rw[hF.size,b0]) j (by rw[hF.size];rw[e7]at hj;exact hj))
   rw[e7]at h;exact h
  go_wp2
  go_ret
  obtain⟨os,eo⟩:=Lib.fin_at w (.cells en 348) dk k 0;exact⟨rfl,k,os,eo⟩
end Go.Proofs
namespace Go.az
open Go.Proofs
theorem AN{P:dg}{w:da}{aa:Nat->Prop}(l:List UInt8):aF P w aa (.str (eO l)) (.string ⟨l.toArray⟩):=by
 simp only[aF];exact⟨_,rfl,by simp[eO]⟩
theorem sY{P:dg}{w:da}{aa:Nat->Prop}{s:List Nat}{v:dq}(h:aF P w aa (.str s) v):∃bs:ByteArray,v=.string bs/\s=eO bs.data.toList:=by
 simp only[aF]at h;obtain⟨bs,rfl,rfl⟩:=h;exact⟨bs,rfl,rfl⟩
theorem MY{w:da}{aa:Nat->Prop}{c:Nat}{v:dq}(h:aF prog w aa (.str [c]) v):∃b:UInt8,v=.string ⟨#[b]⟩/\c=b.toNat:=by
 obtain⟨bs,rfl,f⟩:=sY h;clear h;have h:=f;clear f
 match e:bs.data.toList with
 |[]=>rw[e]at h;simp[eO]at h
 |[b]=>
  rw[e]at h;simp[eO]at h;refine⟨b,?_,h⟩;congr 1;cases bs with
  |mk d=>simp at e⊢;exact Array.ext' (by simpa using e)
 |a::b::r=>rw[e]at h;simp[eO]at h
theorem FC{w:da}{aa:Nat->Prop}{v:dq}(h:aF prog w aa (.str [45]) v):v=.string ⟨#[45]⟩:=by
 obtain⟨b,rfl,a⟩:=MY h;have:b=45:=pu.1 a.symm;rw[this]
theorem adh(s:List Nat)(c:Nat):aq prog 288 [.str s,.str [c]] (.int .i64 (qm c s 0)):=by
 refine mX (lH func288 k_) fun w aa g _ _ f=>?_;obtain⟨x,y,rfl,a,d⟩:=sF f;obtain⟨b,rfl,rfl⟩:=MY d;obtain⟨bs,rfl,rfl⟩:=sY a;refine(stringslite_Index_one bs b w).mono ?_;rintro e w' ⟨rfl,rfl⟩;refine⟨_,rfl,⟨ky _,fun _ _=>rfl,rfl,rfl⟩,fun w aa=>?_⟩;have e1:=Nr b bs.data.toList 0;simp only[aF]at e1⊢;rw[e1]
 by_cases h:ek bs.data.toList b= -1<;>simp[h]
theorem Z7(s:List Nat)(c:Nat)(h:s.length<=1048576):aq prog 248 [.str s,.str [c]] (.aD [.str (ch c s).1,.str (ch c s).2.1,.bool (ch c s).2.2]):=by
 refine gA_ nf func248 mix ?_;simp[f248];refine c2 (adh s c) ?_;rcases Ns c s 0 with⟨_,a,b⟩|⟨i,d,a,b⟩
 ·simp[a,b]
 ·rw[mb]at a;have w:=cH (i:=i) o_;have e1:((i:Int)+1).toNat=i+1:=by omega
  simp[a,b,w,e1];omega
theorem Qd(s:List Nat)(c:Nat)(h:s.length<=1048576):aq prog 191 [.str s,.str [c]] (.aD [.str (ch c s).1,.str (ch c s).2.1,.bool (ch c s).2.2]):=by
 refine gA_ nf func191 mix ?_;simp[f191,c2 (Z7 s c h)]
theorem ZF(s:List Nat):aq prog 249 [.str s,.str [45]] (.bool (b9 s)):=by
 refine mX (lH func249 k_) fun w aa d _ _ c=>?_;obtain⟨x,y,rfl,a,b⟩:=sF c;obtain rfl:=FC b;obtain⟨bs,rfl,rfl⟩:=sY a;refine(strings_HasPrefix bs _ w).mono ?_;rintro e w' ⟨rfl,rfl⟩;exact⟨_,rfl,⟨ky _,fun _ _=>rfl,rfl,rfl⟩,fun w aa=>by rw[<-DO];simp only[aF]⟩
theorem LY(s:List Nat):aq prog 229 [.str s,.str [45]] (.str (dh s)):=by
 refine mX (lH func229 k_) fun w aa d _ _ c=>?_;obtain⟨x,y,rfl,a,b⟩:=sF c;obtain rfl:=FC b;obtain⟨bs,rfl,rfl⟩:=sY a;refine(strings_TrimPrefix bs _ w).mono ?_;rintro e w' ⟨rfl,rfl⟩;exact⟨_,rfl,⟨ky _,fun _ _=>rfl,rfl,rfl⟩,fun w aa=>by rw[<-KD];exact AN _⟩
theorem Zl(s:List Nat):aq prog 265 [.str s,.str [45]] (.aD [.str (dh s),.bool (b9 s)]):=by
 refine mX (lH func265 k_) fun w aa d _ _ c=>?_;obtain⟨x,y,rfl,a,b⟩:=sF c;obtain rfl:=FC b;obtain⟨bs,rfl,rfl⟩:=sY a;refine(strings_CutPrefix bs _ w).mono ?_;rintro e w' ⟨rfl,rfl⟩;refine⟨_,rfl,⟨ky _,fun _ _=>rfl,rfl,rfl⟩,fun w aa=>?_⟩;rw[<-KD,<-DO];simp only[aF,bO];refine⟨[_,_],⟨_,_,rfl,?_,_,_,rfl,rfl,rfl⟩,rfl⟩;exact⟨_,rfl,by simp[eO]⟩
theorem OI{w:da}{aa:Nat->Prop}(b:oG prog w aa):ey prog w "internal/strconv.uint64pow10" .u64 ew:=by
 obtain⟨_,T,a⟩:=b.raw 3 _ rfl;have hn:prog.globalNamed "internal/strconv.uint64pow10" =some 3:=k_
 simp only[ey,World.var?,hn,Option.bind_some,a];rfl
theorem adi(n:Int)(b:-9223372036854775808<=n)(c:n<=9223372036854775807):aq prog 242 [.int .i64 n] (.str (bQ n)):=by
 refine mX (lH func242 k_) fun w aa g _ f d=>?_;obtain⟨x,rfl,a⟩:=AM d;simp only[aF]at a;subst a;refine(strconv_Itoa n b c w (OI f)).mono ?_;rintro e w' ⟨rfl,k,os,rfl⟩;refine⟨_,rfl,⟨?_,fun k hk=>?_,rfl,rfl⟩,fun w aa=>?_⟩
 ·simp[gj,World.drewN]
 ·simp only[gj];exact b1 hk
 ·rw[<-ayp];exact AN _
theorem acH(u:Nat)(f:u<18446744073709551616):aq prog 283 [.int .u64 u,.int .i64 10] (.str (bc u)):=by
 refine mX (lH func283 k_) fun w aa g _ d c=>?_;obtain⟨x,y,rfl,a,b⟩:=sF c;simp only[aF]at a b;subst a b;refine(UW u f w (OI d)).mono ?_;rintro e w' ⟨rfl,k,os,rfl⟩;refine⟨_,rfl,⟨?_,fun k hk=>?_,rfl,rfl⟩,fun w aa=>?_⟩
 ·simp[gj,World.drewN]
 ·simp only[gj];exact b1 hk
 ·rw[<-FB];exact AN _
theorem Qe(u:Nat)(a:u<18446744073709551616):aq prog 244 [.int .u64 u,.int .i64 10] (.str (bc u)):=by
 refine gA_ nf func244 mix ?_;simp[f244,c2 (acH u a)]
theorem Qf(s:List Nat)(c:Nat)(hc:c<=9223372036854775807)(g:s.length*c<=140737488355328):aq prog 245 [.str s,.int .i64 c] (.str (tZ s c)):=by
 refine mX (lH func245 k_) fun w aa h _ i f=>?_;obtain⟨x,y,rfl,d,b⟩:=sF f;obtain⟨bs,rfl,rfl⟩:=sY d;simp only[aF]at b;subst b;refine(strings_Repeat bs c w hc (by simpa[eO]using g)).mono ?_;rintro e w' ⟨rfl,a⟩;exact⟨_,rfl,⟨a.size,a.block,a.os,a.output⟩,fun w aa=>by
  rw[MB];exact AN _⟩
theorem Z6(s:List Nat)(v:Int)(h:e9 (s.map pw)=.ok v)(d:s.length<=9223372036854775806):aq prog 250 [.str s] (.aD [.int .i64 v,.ia]):=by
 refine mX (lH func250 k_) fun w aa g _ i c=>?_;obtain⟨x,rfl,b⟩:=AM c;obtain⟨bs,rfl,rfl⟩:=sY b;rw[Wn]at h;refine(strconv_Atoi_ok bs (by simpa[eO]using d) v h w).mono ?_;rintro e w' ⟨rfl,f⟩;refine⟨_,rfl,?_,fun w aa=>by simp[aF,bO]⟩;rcases f with rfl|⟨t,rfl⟩
 ·exact⟨ky _,fun _ _=>rfl,rfl,rfl⟩
 ·have a:=Lib.bytesWorld_below w 5 t;exact⟨a.size,a.block,a.os,a.output⟩
def tB:Nat:=1000000000000000000
theorem Fl:tB=10^18:=d_
theorem Nb:∀i,low i 0=hP i 48
 |0=>rfl
 |i+1=>by rw[u4,Nat.zero_div,Nb i,List.replicate_succ']
theorem Sb{r:Nat}(h:r<tB):hP (18-(bc r).length) 48++bc r=low 18 r:=by
 rw[qQ,bc];have c:nd r<=18:=tu (by rw[<-Fl];exact h);obtain⟨k,hk⟩:∃k,k=max 1 (nd r):=⟨_,rfl⟩
 have d:k<=18:=o_
 have b:r<10^k:=j7 (Be r) (j8 d_ o_);rw[<-hk];have:=sS (18-k) r (a:=k);have e:low 18 r=low (18-k) (r/10^k)++low k r:=by
  have:=sS k r (18-k);rw[show 18-k+k=18 by omega]at this;exact this
 rw[e,kv b,Nb]
theorem E3{r:Nat}(h:r<tB):(bc r).length<=18:=by
 rw[qQ];have a:nd r<=18:=tu (by rw[<-Fl];exact h);omega
theorem Ym{m:Nat}(h:tB<=m):bc m=bc (m/tB)++low 18 (m% tB):=by
 rw[Fl]at h⊢;have e:=Fw (n:=m) (k:=18) h;have a:0<nd (m/10^18):=yu (my h (kb d_));rw[bc,bc,show max 1 (nd m)=max 1 (nd (m/10^18))+18 by omega,sS,ES m 18 18 (ky _)]
def kN(m:Nat)(a:List (List Nat)):List Nat:=(if m=0 then[]else bc m)++a.reverse.flatten
def fc(m:Nat):List Nat:=if m/tB=0 then bc m else low 18 (m% tB)
theorem Mq{m:Nat}(h:m≠0)(c:List (List Nat)):kN (m/tB) (c++[fc m])=kN m c:=by
 rw[kN,kN,if_neg h,fc,List.reverse_append]
 by_cases a:m/tB=0
 ·rw[if_pos a,if_pos a];simp
 ·rw[if_neg a,if_neg a];have:tB<=m:=by
   rcases lc m tB with b|b
   ·exact(a (kv b)).elim
   ·exact b
  rw[Ym this];simp
theorem Yo(a:List (List Nat)):kN 0 a=a.reverse.flatten:=by rw[kN,if_pos rfl];rfl
theorem A2(n:Nat):0<(bc n).length:=by rw[qQ];omega
theorem Lx(m:Nat):fc m≠[]:=by
 intro h;have:(fc m).length=0:=by rw[h];rfl
 rw[fc]at this
 split at this
 ·have:=A2 m;omega
 ·rw[sR]at this;omega
theorem Ly(m:Nat):(fc m).length<=18:=by
 rw[fc]
 split
 ·rename_i h;have b:m<tB:=by
   rcases lc m tB with a|a
   ·exact a
   ·have:=my a (show 0<tB by decide);omega
  exact E3 b
 ·rw[sR];exact ky _
theorem Np{c:Nat}(h:cA c=true):c<256:=by
 simp only[cA,b2,decide_eq_true_eq]at h;omega
end Go.az
namespace Go.Proofs
open Go.az
theorem Tryz.Dj:prog.underlying 305=some (.pointer 308):=k_
theorem Tryz.J1:prog.underlying 355=some .unsafePointer:=k_
theorem Tryz.Jx:(prog.info? 308).map (·.size)=some 2:=k_
theorem Tryz.az1:liesAt prog prog.depth 308 (2/prog.cellsOf 308) 0 308 1=true:=k_
set_option maxHeartbeats 1000000 in
set_option maxRecDepth 100000 in
theorem Tryz.U8(b:Nat)(w:da)(h0:w.cell? ⟨b,0,none⟩=some (.pointer (some ⟨b,0,none⟩))):
 db prog 287 #[.pointer (some ⟨b,0,none⟩)] w fun e w'=>e=.returned (.tuple #[])/\w'=w:=by
 obtain⟨j,hj,_⟩:=Option.map_eq_some_iff.1 Jx
 go_enter func287,ntmps287
 go_wp2
 rw[Lib.run_neq_ptr_same w _ Dj hj]
 go_wp2
 go_end0
 exact⟨rfl,rfl⟩
set_option maxHeartbeats 1000000 in
set_option maxRecDepth 100000 in
theorem Tryz.U9(b:Nat)(w:da)(h0:w.cell? ⟨b,0,none⟩=some (.pointer none))(hsh:w.shape? b=some (308,2))(hfz:w.frozen? ⟨b,0,none⟩=false):
 db prog 287 #[.pointer (some ⟨b,0,none⟩)] w fun e w'=>e=.returned (.tuple #[])/\w'=w.setCell ⟨b,0,none⟩ (.pointer (some ⟨b,0,none⟩)):=by
 obtain⟨j,hj,hjs⟩:=Option.map_eq_some_iff.1 Jx
 go_enter func287,ntmps287
 go_wp2
 rw[Lib.run_to_unsafe w ⟨b,0,none⟩ Dj J1 hj (by rw[hjs];decide) hsh (Nat.zero_lt_succ 1)];simp only[gg];rw[fa]
 go_wp2
 rw[dl func307 k_ k_ k_ (e:=Extern.AbiNoEscape.same) k_];rw[Lib.run_noEscape];simp only[gg];rw[fa]
 go_wp2
 rw[Lib.run_from_unsafe w ⟨b,0,none⟩ J1 Dj hj hsh az1];simp only[gg];rw[fa]
 go_wp2
 go_end0
 exact⟨rfl,rfl⟩
end Go.Proofs
