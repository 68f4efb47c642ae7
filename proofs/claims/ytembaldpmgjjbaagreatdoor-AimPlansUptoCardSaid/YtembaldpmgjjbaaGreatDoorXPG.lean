import Derived.Test.YtembaldpmgjjbaaGreatDoorXPC
import Derived.Test.YtembaldpmgjjbaaGreatDoorXPA
import Derived.KernelRfl
import Derived.Shelf.Spec.BitsCarry
import Derived.Shelf.Strings.Builder1
import Derived.Shelf.Strings.Builder2
import Derived.Shelf.Small.Utf8
import Derived.Shelf.Small.Bits
import Derived.Shelf.Small.Strs
import Derived.Shelf.Small.Wraps
import Derived.Shelf.Strings.BuilderF
import Derived.Shelf.Strconv.Atoi
import Derived.Shelf.Strconv.Itoa0
import Derived.Shelf.Strconv.Itoa1
import Derived.Shelf.LaysM
import Derived.Shelf.Strconv.Itoa2
import Derived.Shelf.Strconv.Itoa3
import Derived.Shelf.Strconv.AtoiErrFast
import Derived.Shelf.Strconv.ParseIntEmpty
import Derived.Shelf.Strconv.AtoiFail
import Derived.Shelf.Strconv.Clone
import Derived.Shelf.Strconv.SyntaxError
import Derived.Shelf.LaysC
import Derived.Shelf.Strconv.ToError
import Derived.Shelf.Strconv.Lower
import Derived.Shelf.Strconv.ParseUint10
import Derived.Shelf.Strconv.ParseUint10Empty
import Derived.Shelf.Strconv.ParseUint10Any
import Derived.Shelf.Strconv.ParseInt10
import Derived.Shelf.Strconv.AtoiLong
import Derived.Shelf.Strconv.AtoiInnerAll
import Derived.Shelf.Strconv.RangeError
import Derived.Shelf.Strconv.ToErrorRange
import Derived.Shelf.Strconv.AtoiAll
import Derived.Shelf.Strings.Search1
import Derived.Shelf.Strings.Search2
import Derived.Shelf.Strings.Cut
import Derived.Shelf.Strings.Shaped
import Derived.Shelf.Strings.Prefix
import Derived.Shelf.Strings.Runes
import Derived.Shelf.Strings.AsciiSet
import Derived.Shelf.Bits.Mul64
import Derived.Shelf.Strings.Repeat
import Derived.Shelf.Unicode.DecodeSlow
import Derived.Shelf.Slices.Turned
import Derived.Test.YtembaldpmgjjbaaGreatDoorProg
import Derived.Lib.ItoaNum
import Derived.Lib.Strings
import Derived.Lib.Repeat
import Derived.Lib.Bytealg
import Derived.Test.YtembaldpmgjjbaaGreatDoorXThA
import Derived.Lib.Walk
import Derived.Lib.ItoaMem
import Derived.WalkKit
import Derived.BigCall
import Derived.BigGuard
import Derived.Lib.AppendIntMem
import Derived.Lib.Builder
import Derived.Laws.Externs
import Derived.Shelf.RegionOpenPlain
/- Parts of a proof. -/
set_option maxRecDepth 100000
set_option maxHeartbeats 4000000
set_option linter.unusedSimpArgs false
set_option linter.unusedVariables false
set_option linter.unusedSectionVars false
open Go.Proofs.Tryz
open Array renaming size_replicate->bV, getElem?_append_left->b0
open Bool renaming and_eq_true->b1, or_eq_true->b2, not_eq_true'->b3, and_false->b4, and_true->b5, and_eq_false_iff->ca, false_and->cb, true_and->cc
open Classical renaming choose_spec->cd, choose->ck, em->cx
open Go renaming World->cy, Calls->c6, run_callFunc_extern->da, Value->db, Program->dd, FuncId->dg, TypeId->dl
open Go.IntKind renaming u64->dp, i64->dq, wrap_i64->dx
open Go.Lib renaming bitLen->dy, decDigits->dz, nDigits->ea, indexByte->eb, zeros24->ec, trimPrefix->ed, hasPrefix->ee, pow10Tab->ei, TabIs->ej, repeatL->eq, decDigits_length->er, itoa->ew, atoiAll->ey
open Go.Oper renaming upon_value->eM
open Go.Proofs.Lays renaming n99->eP, n285->e7, n283->e8, n264->e9, n219->fb, n134->fd, n129->fi, n105->fl, n103->fm, n101->fv
open Go.Result renaming andThen->fw
open Go.Shelf renaming Ren->gb
open Go.Sort renaming grow->gc
open Go.Value renaming int->ge
open Int renaming natAbs_mul->gg, natAbs_natCast->gi, ediv_emod_unique->gj, natCast_mul->gm, lt_trichotomy->gt, ediv_nonneg->gx, lt_of_le_of_lt->gy, emod_lt_of_pos->g0, lt_or_le->g5, le_of_lt->g6, ediv_le_self->g7, emod_nonneg->g8, natAbs_sign_of_ne_zero->g9, natAbs_neg->ha, fdiv_eq_ediv_of_nonneg->hb, ediv_lt_of_lt_mul->hd, tmod_lt_of_pos->hg, ofNat_dvd_left->hl, lt_tmod_of_pos->ho, natAbs_add_le->hp, natCast_add->hr, mul_ne_zero->ht, mul_le_mul->hv, ediv_one->hA, mul_sub->hB, mul_neg->hC
open List renaming range->hD, getElem?_eq_getElem->hE, take_of_length_le->hG, map_cons->hJ, exists_cons_of_ne_nil->hK, append_nil->hL, replicate->hM, ext_getElem->hN, cons_append->hO, length_nil->hP, map_congr_left->hQ, all_cons->hS, length_eq_zero_iff->hT, length_cons->hU, mem_map->hV, mem_cons->hW, take_succ_eq_append_getElem->hX, all_reverse->hZ, all_eq_true->h3, length_map->h4, head?_cons->h5, dropLast_concat_getLast->h6, mem_range->h7, map_take->h8, map_map->h9, getElem?_range->ih, getElem_range->ii, length_range->ik, getElem?_map->ip, getElem_set->ix, getElem_map->iA, nil_append->iB, foldl_cons->i6, all_append->i7, range_one->i8, map_nil->jp, all_nil->js
open List.cons renaming injEq->j1
open Nat renaming mul_comm->j2, div_lt_iff_lt_mul->j3, mod_eq_of_lt->j4, lt_of_lt_of_le->j5, pow_le_pow_right->j6, pow_succ->j7, pow_pos->j8, div_div_eq_div_mul->j9, lt_of_le_of_lt->kb, mul_le_mul_right->kc, mod_lt->kf, mul_le_mul_left->kk, div_add_mod->km, div_eq_of_lt->ko, mul_assoc->kp, le_refl->kv, add_mul->kw, pow_add->kx, lt_or_ge->kz, pow_zero->kC, eq_zero_or_pos->kD, add_sub_cancel->kF, mod_add_div->kH, mul_lt_mul''->kL, add_mul_mod_self_right->kO, le_div_iff_mul_le->kP, add_mul_div_left->kW, add_comm->kX, div_mul_le_self->la, mul_lt_mul_of_pos_right->lb, one_mul->lc, mul_add->li, add_mul_div_right->lk, mul_right_comm->ll, div_le_self->lm, div_one->lq, zero_add->ls, pow_one->lt, le_trans->lu, mod_mul_right_mod->lv, mul_mod_mul_left->lw, mod_one->lz, add_zero->lW, mod_mul_right_div_self->l0, add_mul_mod_self_left->l1, div_pos->l2, add_sub_cancel_left->l3, zero_mul->l4, lt_trans->l5, gcd->mb, div_lt_self->md, mul_div_mul_right->mm, eq_of_beq_eq_true->mo, zero_le->mp, mul_pos->ms, mul_one->mx, mul_le_mul->m1, div_le_div_right->m2, beq->m3, lt_div_mul_add->m4, mul_left_comm->m5, and_two_pow_sub_one_eq_mod->m6, pow_mul->m7, mod_mul->m8, add_mod->m9, strongRecOn->na, min_eq_left->nb, pow_lt_pow_iff_right->nc, add_assoc->nk, le_mul_of_pos_right->nm, zero_mod->np, sub_zero->ns, le_of_eq->nF, le_mul_of_pos_left->nI, gcd_comm->nJ, mul_mod_mul_right->n0, not_lt->n1, lt_of_succ_lt->n2, gcd_one_right->n3, add_mod_right->n4, lt_succ_self->n5, gcd_dvd_left->n6, mul_ne_zero->n7, mul_add_div->oa, lt_succ_iff->ob, le_of_lt->oc, pow_two->oe, or_comm->oi, mod_le->oj
open Rat renaming divInt->ol, normalize_eq_mkRat->om, num_eq_zero->oo, sub_eq_add_neg->oq, add_def'->ot, neg_num->ou, neg_den->ov, mul_def->ox, inv_def->oz, div_def->oA, not_lt->oB, lt_iff->oD
open UInt8 renaming toNat_inj->oF, ofNat->oG, toNat_ofNat'->oH
namespace Go.ae
open Go.Proofs Go.Proofs.YtembaldpmgjjbaaGreatDoor
section
variable{H:Type}{W:cy}{ad:Nat->Prop}
theorem Y0{n:Nat}{d:DataW H}(h:∃cs,bc prog W ad (bO prog (n+1) 9 d) cs)(a:Rows.uptoBulk d<=1048576):∃s:List Nat,bO prog (n+1) 9 d=.str s/\s.length<=1048576/\∀c∈s,c<256:=by
 obtain⟨cs,h⟩:=h;cases d with
 |lit l=>
  cases l with
  |string bytes=>
   refine⟨bytes.map (·.toNat),by simp only[bO,yK],?_,?_⟩
   ·rw[Rows.uptoBulk]at a;rw[h4];omega
   ·intro c hc;obtain⟨u,_,rfl⟩:=hV.1 hc;exact u.toNat_lt
  |_=>simp only[bO,yK,bc]at h
 |_=>simp only[bO,yK,bc]at h
theorem aQu{d:DataW H}(h:∃cs,bc prog W ad (bO prog 8 9 d) cs)(a:Rows.uptoBulk d<=1048576):∃s:List Nat,bO prog 8 9 d=.str s/\s.length<=1048576/\∀c∈s,c<256:=
 Y0 (n:=7) h a
end
open Go.Proofs
theorem mix:prog.follows .mixedOrders=true:=k_
abbrev nf:dg->Bool:=fun _=>false
def wB:Nat:=18446744073709551616
theorem vg(x y c:Nat)(hc:c<=1):al prog 288 [.int .u64 x,.int .u64 y,.int .u64 c] (.aE [.int .u64 ((x+y+c)% wB:Nat),.int .u64 ((x+y+c)/wB:Nat)]):=by
 refine .inr fun w ad a h=>?_;simp only[bY,aH]at h;obtain⟨_,_,rfl,rfl,_,_,rfl,rfl,_,_,rfl,rfl,rfl⟩:=h;refine⟨.tuple #[.int .u64 ((x+y+c)% wB:Nat),.int .u64 ((x+y+c)/wB:Nat)],?_,?_⟩
 ·show(callFunc 288 #[.int .u64 x,.int .u64 y,.int .u64 c]).run prog w=_;rw[da func288 k_ k_ k_ (e:=add64Entry) k_,run_add64 x y c o_ o_ o_ o_];simp only[fw,wB];congr 5<;>omega
 ·simp only[aH,bY];exact⟨[.int .u64 ((x+y+c)% wB:Nat),.int .u64 ((x+y+c)/wB:Nat)],⟨_,_,rfl,rfl,_,_,rfl,rfl,rfl⟩,rfl⟩
theorem aK3(x y c:Nat)(hc:c<=1):al prog 334 [.int .u64 x,.int .u64 y,.int .u64 c] (.aE [.int .u64 ((x+wB-y-c)% wB:Nat),.int .u64 ((if x<y+c then 1 else 0:Nat):Int)]):=by
 refine .inr fun w ad a h=>?_;simp only[bY,aH]at h;obtain⟨_,_,rfl,rfl,_,_,rfl,rfl,_,_,rfl,rfl,rfl⟩:=h;refine⟨.tuple #[.int .u64 ((x+wB-y-c)% wB:Nat),.int .u64 ((if x<y+c then 1 else 0:Nat):Int)],?_,?_⟩
 ·show(callFunc 334 #[.int .u64 x,.int .u64 y,.int .u64 c]).run prog w=_;rw[da func334 k_ k_ k_ (e:=sub64Entry) k_,run_sub64 x y c hc];rfl
 ·simp only[aH,bY];exact⟨[.int .u64 ((x+wB-y-c)% wB:Nat),.int .u64 ((if x<y+c then 1 else 0:Nat):Int)],⟨_,_,rfl,rfl,_,_,rfl,rfl,rfl⟩,rfl⟩
def qP(B:Nat):Nat->Nat->List Nat
 |0,_=>[]
 |f+1,n=>if n=0 then[]else n% B::qP B f (n/B)
def aw(B n:Nat):List Nat:=qP B (n+1) n
def kJ(B:Nat):List Nat->Nat
 |[]=>0
 |d::l=>d+B*kJ B l
def ag(B n i:Nat):Nat:=n/B^i% B
section
variable{B:Nat}
theorem OK(a:2<=B):∀(f g n:Nat),n<f->n<g->qP B f n=qP B g n
 |0,_,_,h,_=>by omega
 |_,0,_,_,h=>by omega
 |f+1,g+1,n,b,c=>by
  simp only[qP]
  split
  ·rfl
  ·rename_i hn;have:n/B<n:=md o_ o_;rw[OK a f g (n/B) o_ o_]
theorem qy:aw B 0=[]:=by simp[aw,qP]
theorem xL(a:2<=B){n:Nat}(h:n≠0):aw B n=n% B::aw B (n/B):=by
 have:n/B<n:=md o_ o_;rw[aw,qP,if_neg h,aw,OK a n (n/B+1) (n/B) this o_]
theorem Qk(a:2<=B)(n:Nat):kJ B (aw B n)=n:=by
 induction n using na with
 |ind n b=>
  by_cases h:n=0
  ·subst h;simp[qy,kJ]
  ·rw[xL a h,kJ,b _ (md o_ o_)];exact kH n B
theorem aLA(a:2<=B):∀(i n:Nat),(aw B n)[i]?.getD 0=ag B n i
 |i,n=>by
  induction i generalizing n with
  |zero=>
   by_cases h:n=0
   ·subst h;simp[qy,ag]
   ·rw[xL a h];simp[ag]
  |succ i b=>
   by_cases h:n=0
   ·subst h;simp[qy,ag]
   ·rw[xL a h,List.getElem?_cons_succ,b];simp only[ag,j9,j7];rw[j2 B]
theorem fI(a:2<=B){n i:Nat}(h:i<(aw B n).length):(aw B n)[i]=ag B n i:=by
 have:=aLA a i n;rw[hE h]at this;exact this
theorem cU(b:2<=B)(n:Nat):n<B^(aw B n).length:=by
 induction n using na with
 |ind n c=>
  by_cases h:n=0
  ·subst h;simp[qy]
  ·rw[xL b h,hU,j7];have:=c _ (md (n:=n) (k:=B) o_ o_);have d:=kH n B;have e:=kf n (show 0<B by omega);have a:(n/B+1)*B<=B^(aw B (n/B)).length*B:=kc B this;rw[kw,j2 (n/B) B]at a;omega
theorem fc(b:2<=B):∀(k n:Nat),n<B^k->(aw B n).length<=k
 |0,n,h=>by
  have:n=0:=by simpa using h
  subst this;simp[qy]
 |k+1,n,h=>by
  by_cases a:n=0
  ·subst a;simp[qy]
  ·rw[xL b a,hU];have:=fc b k (n/B) (by
    rw[j3 o_,<-j7];exact h)
   omega
theorem Pc(a:2<=B){k n:Nat}(h:B^k<=n):k<(aw B n).length:=by
 have:=cU a n;exact(nc (by omega:1<B)).1 (kb h this)
def fE:List Nat->List Nat
 |[]=>[]
 |d::l=>match fE l with
  |[]=>if d=0 then[]else[d]
  |t=>d::t
theorem HA(a:2<=B):∀{l:List Nat},(∀d∈l,d<B)->aw B (kJ B l)=fE l
 |[],_=>by simp[kJ,qy,fE]
 |d::l,h=>by
  have c:=HA a (l:=l) fun x hx=>h x (List.mem_cons_of_mem _ hx);have f:=h d List.mem_cons_self;simp only[fE,kJ]
  by_cases b:d+B*kJ B l=0
  ·have k:d=0:=by omega
   have m:kJ B l=0:=by
    rcases Nat.mul_eq_zero.1 (show B*kJ B l=0 by omega)with e|e
    ·omega
    ·exact e
   rw[b,qy,<-c,m,qy];simp[k]
  ·rw[xL a b];have e1:(d+B*kJ B l)% B=d:=by rw[l1,j4 f]
   have e2:(d+B*kJ B l)/B=kJ B l:=by
    rw[kW _ _ o_,ko f,ls]
   rw[e1,e2,c]
   split
   ·rename_i g;have i:=c;rw[g,j a]at i;rw[if_neg (by rw[i]at b;simpa using b),g]
   ·rfl
where j (a:2<=B) {n:Nat}:(aw B n=[])=(n=0):=by
        apply propext;constructor
        ·intro h;rw[<-Qk a n,h];rfl
        ·rintro rfl;exact qy
def row(B m n:Nat):List Nat:=(hD m).map (ag B n)
theorem RJ{m n:Nat}:(row B m n).length=m:=by simp[row]
theorem avb(m n:Nat):row B (m+1) n=n% B::row B m (n/B):=by
 rw[row,List.range_succ_eq_map,hJ,h9];congr 1
 ·simp[ag]
 ·rw[row];apply hQ;intro i _;simp only[Function.comp,ag,j9,j7];rw[j2]
theorem RI(a:2<=B):∀(m n:Nat),kJ B (row B m n)=n% B^m
 |0,n=>by simp[row,kJ,lz]
 |m+1,n=>by
  rw[avb,kJ,RI a m,j7,j2 (B^m),m8]
theorem l8(a:2<=B){m n:Nat}(h:n<B^m):fE (row B m n)=aw B n:=by
 rw[<-HA a (l:=row B m n),RI a,j4 h];intro d b;simp only[row,hV]at b;obtain⟨i,_,rfl⟩:=b;exact kf _ o_
theorem aLB(b:2<=B)(n:Nat):aw B n=row B (aw B n).length n:=by
 apply hN (by simp[row]);intro i a c;rw[fI b a];simp[row]
end
section
variable{B:Nat}
theorem mod_pow_succ(n i:Nat):n% B^(i+1)=n% B^i+B^i*ag B n i:=by
 rw[j7,m8,ag]
def dM(B a b i:Nat):Nat:=(a% B^i+b% B^i)/B^i
theorem CB(a b:Nat):dM B a b 0=0:=by simp[dM,lz]
theorem pf(f:2<=B)(a b i:Nat):dM B a b i<=1:=by
 have c:0<B^i:=j8 o_;have d:=kf a c;have e:=kf b c;rw[dM];have:(a% B^i+b% B^i)/B^i<2:=by rw[j3 c];omega
 omega
theorem uP(e:2<=B)(a b i:Nat):(ag B a i+ag B b i+dM B a b i)% B=ag B (a+b) i/\(ag B a i+ag B b i+dM B a b i)/B=dM B a b (i+1):=by
 have c:0<B^i:=j8 o_;constructor
 ·have d:(a+b)/B^i=dM B a b i+(a/B^i+b/B^i):=by
   rw[dM]
   conv=>lhs;rw[<-kH a (B^i),<-kH b (B^i)]
   rw[show a% B^i+B^i*(a/B^i)+(b% B^i+B^i*(b/B^i))=(a% B^i+b% B^i)+B^i*(a/B^i+b/B^i)by rw[li];omega];rw[kW _ _ c]
  rw[ag,ag,ag,d,m9,<-m9 (a/B^i),<-m9,kX]
 ·conv=>rhs;rw[dM,mod_pow_succ,mod_pow_succ,j7,<-j9]
  rw[show a% B^i+B^i*ag B a i+(b% B^i+B^i*ag B b i)=(a% B^i+b% B^i)+B^i*(ag B a i+ag B b i)by rw[li];omega];rw[kW _ _ c,dM,kX ((a% B^i+b% B^i)/B^i)]
theorem l7{n i:Nat}(h:n<B^i):ag B n i=0:=by
 rw[ag,ko h,np]
theorem cX(a:2<=B)(n i:Nat):ag B n i<B:=kf _ o_
def gu(B a b i:Nat):Nat:=if a% B^i<b% B^i then 1 else 0
theorem F8(a b:Nat):gu B a b 0=0:=by simp[gu,lz]
theorem Qr(d:2<=B){a b:Nat}(k:b<=a)(i:Nat):
 (ag B a i<ag B b i+gu B a b i/\gu B a b (i+1)=1/\ag B a i+B=ag B (a-b) i+(ag B b i+gu B a b i))\/
 (ag B b i+gu B a b i<=ag B a i/\gu B a b (i+1)=0/\ag B a i=ag B (a-b) i+(ag B b i+gu B a b i)):=by
 have g:0<B^i:=j8 o_;obtain⟨c,rfl⟩:=Nat.le.dest k;have j:=uP d b c i;rw[show b+c-b=c by omega];have hc:∀i,gu B (b+c) b i=dM B b c i:=by
  intro i;have g:0<B^i:=j8 o_;have l:=kf b g;have m:=kf c g;rw[gu,dM,m9]
  by_cases h:b% B^i+c% B^i<B^i
  ·rw[j4 h,ko h,if_neg (n1.2 (Nat.le_add_right _ _))]
  ·have e1:(b% B^i+c% B^i)/B^i=1:=by
    rw[show b% B^i+c% B^i=(b% B^i+c% B^i-B^i)+B^i*1 by omega,kW _ _ g,ko o_]
   have e2:(b% B^i+c% B^i)% B^i=b% B^i+c% B^i-B^i:=by
    rw[Nat.mod_eq_sub_mod o_,j4 o_]
   rw[e1,e2,if_pos o_]
 rw[hc,hc];have n:=cX d b i;have o:=cX d c i;have p:=pf d b c i;have f:=kH (ag B b i+ag B c i+dM B b c i) B;rw[j.1,j.2]at f;have q:=pf d b c (i+1);have r:=cX d (b+c) i;rcases(show dM B b c (i+1)=0\/dM B b c (i+1)=1 by omega)with e|e
 ·right;rw[e]at f⊢;simp at f;exact⟨o_,rfl,o_⟩
 ·left;rw[e]at f⊢;simp at f;exact⟨o_,rfl,o_⟩
def kt(B a b i j:Nat):Nat:=(a% B^i)*b+ag B a i*(b% B^j)*B^i
def dP(B a b i j k:Nat):Nat:=if k<i+j then ag B (kt B a b i j) k else ag B ((a% B^i)*b) k
def mulC(B a b i j:Nat):Nat:=kt B a b i j/B^(i+j)-(a% B^i)*b/B^(i+j)
theorem aOE(a b i j:Nat):(a% B^i)*b<=kt B a b i j:=by rw[kt];omega
theorem Pw(a b i:Nat):kt B a b i 0=(a% B^i)*b:=by simp[kt,lz]
theorem Gt(a b i:Nat):mulC B a b i 0=0:=by simp[mulC,Pw]
theorem Py(a b i j:Nat):kt B a b i (j+1)=kt B a b i j+ag B a i*ag B b j*B^(i+j):=by
 rw[kt,kt,mod_pow_succ,li,kw,kx];have:ag B a i*(B^j*ag B b j)*B^i=ag B a i*ag B b j*(B^i*B^j):=by
  rw[j2 (B^j),<-kp,kp,j2 (B^j)]
 omega
theorem QV(a b i:Nat){n:Nat}(h:b<B^n):kt B a b i n=(a% B^(i+1))*b:=by
 rw[kt,j4 h,mod_pow_succ,kw];congr 1;rw[ll,j2 (ag B a i)]
theorem Cn(n k:Nat):n/B^(k+1)=n/B^k/B:=by rw[j7,j9]
theorem G9(g:2<=B)(a b i j:Nat):
 (ag B a i*ag B b j+dP B a b i j (i+j)+mulC B a b i j)% B=ag B (kt B a b i (j+1)) (i+j)/\
 (ag B a i*ag B b j+dP B a b i j (i+j)+mulC B a b i j)/B=mulC B a b i (j+1):=by
 have f:0<B^(i+j):=j8 o_;have d:kt B a b i (j+1)/B^(i+j)=kt B a b i j/B^(i+j)+ag B a i*ag B b j:=by
  rw[Py,lk _ _ f]
 have h:(a% B^i)*b/B^(i+j)<=kt B a b i j/B^(i+j):=m2 (aOE a b i j);have c:dP B a b i j (i+j)=(a% B^i)*b/B^(i+j)% B:=by rw[dP,if_neg o_,ag]
 have e:ag B a i*ag B b j+dP B a b i j (i+j)+mulC B a b i j+B*((a% B^i)*b/B^(i+j)/B)=kt B a b i (j+1)/B^(i+j):=by
  rw[d,c,mulC];have:=kH ((a% B^i)*b/B^(i+j)) B;omega
 constructor
 ·conv=>rhs;rw[ag,<-e]
  rw[l1]
 ·conv=>rhs;rw[mulC,show i+(j+1)=i+j+1 from rfl,Cn,Cn,<-e,kW _ _ o_]
  rw[kF]
theorem Pz(f:2<=B){a b i j k:Nat}(hk:k≠i+j):dP B a b i (j+1) k=dP B a b i j k:=by
 rw[dP,dP]
 by_cases h:k<i+j
 ·rw[if_pos o_,if_pos h,Py];have e:0<B^k:=j8 o_;obtain⟨d,c⟩:∃d,i+j=k+1+d:=⟨i+j-(k+1),by
   have:k+1<=i+j:=h;rw[Nat.add_sub_cancel' this]⟩
  rw[c,kx,j7];generalize ag B a i*ag B b j=x;rw[ag,ag,show x*(B^k*B*B^d)=x*B^d*B*B^k by simp only[kp,j2,m5]];rw[lk _ _ e,kO]
 ·rw[if_neg o_,if_neg h]
theorem QW(a b i j:Nat):dP B a b i (j+1) (i+j)=ag B (kt B a b i (j+1)) (i+j):=by
 rw[dP,if_pos o_]
theorem An(d:2<=B)(a:Nat){b n:Nat}(i:Nat)(h:b<B^n):(a% B^i)*b<B^(i+n):=by
 have c:0<B^i:=j8 o_;rw[kx];exact kL (kf _ c) h
theorem Ow(c:2<=B){a b i n:Nat}(h:b<B^n):mulC B a b i n=ag B ((a% B^(i+1))*b) (i+n):=by
 have h1:=An c a i h;have d:=An c a (i+1) h;rw[mulC,QV a b i h,ko h1,ns];refine(j4 ?_).symm;rw[j3 (j8 o_),j2 B,<-j7,show(i+n).succ=i+1+n by omega];exact d
theorem tu(a b i k:Nat):dP B a b i 0 k=ag B ((a% B^i)*b) k:=by
 rw[dP,Pw];split<;>rfl
theorem QX(c:2<=B){a b i n k:Nat}(h:b<B^n)(hk:k≠i+n):dP B a b i n k=ag B ((a% B^(i+1))*b) k:=by
 rw[dP]
 split
 ·rw[QV a b i h]
 ·rename_i h1;have e1:(a% B^i)*b<B^k:=j5 (An c a i h) (j6 o_ o_);have e2:(a% B^(i+1))*b<B^k:=j5 (An c a (i+1) h) (j6 o_ o_);rw[l7 e1,l7 e2]
theorem xJ(d:2<=B)(a b i:Nat):∀j,mulC B a b i j<B
 |0=>by rw[Gt];omega
 |j+1=>by
  have h:=(G9 d a b i j).2;have f:=xJ d a b i j;have g:dP B a b i j (i+j)<B:=by rw[dP];split<;>exact cX d _ _
  have e:ag B a i*ag B b j<=(B-1)*(B-1):=m1 (by have:=cX d a i;omega) (by have:=cX d b j;omega);rw[<-h,j3 o_];obtain⟨c,rfl⟩:∃c,B=c+1:=⟨B-1,o_⟩
  simp only[kF]at e;rw[kw,li];omega
end
section
variable{B:Nat}
theorem O9{V W d:Nat}(a:0<V/d):W/V<=W/d/(V/d):=by
 have e:0<d:=by
  rcases kD d with h|h
  ·subst h;simp at a
  ·exact h
 have f:0<V:=by
  rcases kD V with h|h
  ·subst h;simp at a
  ·exact h
 rw[kP a,kP e];have b:W/V*V<=W:=la W V;have c:V/d*d<=V:=la V d
 calc W/V*(V/d)*d=W/V*(V/d*d):=kp _ _ _
  _<=W/V*V:=kk _ c
  _<=W:=b
theorem att{V W d q:Nat}(f:0<d)(e:0<V)(h:W/d<q*(V/d)):W/V<q:=by
 rw[j3 e];have b:W<(W/d+1)*d:=by
  have:=m4 (a:=W) f;rw[kw];omega
 have c:V/d*d<=V:=la V d
 calc W<(W/d+1)*d:=b
  _<=q*(V/d)*d:=kc _ h
  _=q*(V/d*d):=kp _ _ _
  _<=q*V:=kk _ c
theorem aqS{V W d q:Nat}(c:0<d)(i:q*d<=V)(b:0<V)(h:q*(V/d)<=W/d):q<=W/V+1:=by
 rcases kD q with hq|hq
 ·subst hq;exact mp _
 have:q-1<=W/V:=by
  rw[kP b,Nat.sub_mul,lc];have a:V<=V/d*d+d:=oc (m4 c);have e:W/d*d<=W:=la W d;have f:q*V<=q*(V/d)*d+q*d:=by
   calc q*V<=q*(V/d*d+d):=kk _ a
    _=q*(V/d)*d+q*d:=by rw[li,kp]
  have g:q*(V/d)*d<=W/d*d:=kc _ h;omega
 omega
theorem GX{q b c T a r:Nat}(d:q*b+r=T):q*(b*B+c)<=T*B+a↔q*c<=r*B+a:=by
 subst d;rw[li,kw,kp];omega
theorem wV(n k:Nat):n/B^k=n/B^(k+1)*B+ag B n k:=by
 rw[Cn,ag,j2];exact(km _ _).symm
theorem u5(n j i:Nat):ag B (n/B^j) i=ag B n (j+i):=by
 rw[ag,ag,j9,kx]
theorem HC{n m i:Nat}(h:i<m):ag B (n% B^m) i=ag B n i:=by
 obtain⟨d,rfl⟩:∃d,m=i+(d+1):=⟨m-i-1,o_⟩
 rw[ag,ag,kx,l0,j7,j2 (B^d),lv]
theorem Cv{n c m i:Nat}(h:i<m):ag B (n+c*B^m) i=ag B n i:=by
 rw[<-HC (n:=n+c*B^m) h,kO,HC h]
def V6(B W V q n:Nat):Nat:=W+B^(n+1)-q*V
theorem aPB{W V q n:Nat}(h:q*V<=W){i:Nat}(hi:i<n+1):ag B (V6 B W V q n) i=ag B (W-q*V) i:=by
 rw[V6,show W+B^(n+1)-q*V=(W-q*V)+1*B^(n+1)by omega,Cv hi]
theorem PB(b:2<=B){R d j:Nat}(k:Nat):ag B (R% B^j+d*B^j) k=if k<j then ag B R k else ag B d (k-j):=by
 have a:0<B^j:=j8 o_
 split
 ·rename_i h;rw[Cv h,HC h]
 ·rename_i h;obtain⟨e,rfl⟩:∃e,k=j+e:=⟨k-j,o_⟩
  rw[<-u5,lk _ _ a,ko (kf _ a),ls,l3]
theorem CG{R V j:Nat}:R% (V*B^j)=R% B^j+(R/B^j% V)*B^j/\R/(V*B^j)=R/B^j/V:=by
 constructor
 ·rw[j2 V,m8,j2 (B^j)]
 ·rw[j2 V,j9]
end
section
variable{c v1 v0 T u1 q r:Nat}
def hq(c b a T u1:Nat):Nat:=(T*c+u1)/(b*c+a)
theorem UA(a:T<v1*c+v0)(b:u1<c):hq c v1 v0 T u1<c:=by
 rw[hq,j3 o_]
 calc T*c+u1<T*c+c:=by omega
  _=(T+1)*c:=by rw[kw,lc]
  _<=(v1*c+v0)*c:=kc _ a
  _=c*(v1*c+v0):=j2 _ _
theorem R7(e:0<v1)(g:v0<c)(f:u1<c):hq c v1 v0 T u1<=T/v1:=by
 have hc:0<c:=o_
 have a:(v1*c+v0)/c=v1:=by rw[j2,oa hc,ko g,lW]
 have b:(T*c+u1)/c=T:=by rw[j2,oa hc,ko f,lW]
 have h:=O9 (V:=v1*c+v0) (W:=T*c+u1) (d:=c) (by rw[a];exact e)
 rwa [a,b]at h
theorem Hw(a:0<v1)(hc:0<c)(d:q*v1+r=T)(f:hq c v1 v0 T u1<=q)(e:q*v0<=c*r+u1):q=hq c v1 v0 T u1:=by
 have b:0<v1*c+v0:=by have:=ms a hc;omega
 have h:q*(v1*c+v0)<=T*c+u1:=(GX d).2 (by rw[j2 r];exact e);have:q<=hq c v1 v0 T u1:=by rw[hq,kP b];exact h
 omega
theorem Tu(b:0<v1)(hc:0<c)(f:q*v1+r=T)(i:hq c v1 v0 T u1<=q)(a:c<=q/\hq c v1 v0 T u1<c\/c*r+u1<q*v0):hq c v1 v0 T u1<=q-1:=by
 rcases a with⟨a,g⟩|a
 ·omega
 ·have d:0<v1*c+v0:=by have:=ms b hc;omega
  have h:¬q*(v1*c+v0)<=T*c+u1:=fun e=>by
   have:=(GX f).1 e;rw[j2 r]at this;omega
  have:hq c v1 v0 T u1<q:=by rw[hq,j3 d];omega
  omega
theorem av0(a:T<v1*c+v0)(e:v0<c)(b:q*v1+r=T)(d:c<=r):q<c:=by
 rcases kz q c with h|h
 ·exact h
 ·have:c*v1<=q*v1:=kc _ h;rw[j2 c]at this;omega
theorem Rg(b:0<v1)(d:T<v1*c+v0)(g:v0<c)(a:q*v1+r=T)(f:c<=r)(e:hq c v1 v0 T u1<=q):q=hq c v1 v0 T u1:=by
 have j:=av0 d g a f;refine Hw b o_ a e ?_;have h:q*v0<=c*v0:=kc _ o_;have i:c*v0<=c*r:=kk _ o_;omega
theorem Uz(a:0<v1)(b:T<v1*c+v0)(hn:c<=2*v1)(d:v0<c):T/v1<=c+1:=by
 have:T/v1<c+2:=by
  rw[j3 a,kw,j2 c];omega
 omega
theorem R6:T*c+u1-hq c v1 v0 T u1*(v1*c+v0)=(T*c+u1)% (v1*c+v0):=by
 rw[hq];generalize T*c+u1=A;generalize v1*c+v0=V;have:=km A V;rw[j2 (A/V)];omega
theorem aMq{Y U c:Nat}(hY:0<Y):U/Y=U/c/Y*c+((U/c% Y)*c+U% c)/Y/\U% Y=((U/c% Y)*c+U% c)% Y:=by
 have e:U=(U/c% Y*c+U% c)+(U/c/Y*c)*Y:=by
  have a:=km U c;have b:=km (U/c) Y;have d:(Y*(U/c/Y)+U/c% Y)*c=U/c*c:=by rw[b]
  rw[kw,j2 Y,ll]at d;rw[j2 c]at a;omega
 constructor
 ·conv=>lhs;rw[e]
  rw[lk _ _ hY,kX]
 ·conv=>lhs;rw[e]
  rw[kO]
end
section
variable{B W V n q r:Nat}
theorem aQK(b:2<=B)(hn:2<=n)(a:V<B^n):V/B^(n-2)=ag B V (n-1)*B+ag B V (n-2):=by
 obtain⟨k,rfl⟩:∃k,n=k+2:=⟨n-2,o_⟩
 have e1:k+2-2=k:=o_
 have e2:k+2-1=k+1:=o_
 rw[e1,e2,wV];have:V/B^(k+1)=ag B V (k+1):=by
  rw[ag,j4];rw[j3 (j8 o_),j2,<-j7];exact a
 rw[this]
theorem aQG(c:2<=B)(hn:2<=n)(a:B^(n-1)<=V)(b:V<B^n):V/B^(n-1)=ag B V (n-1)/\0<ag B V (n-1):=by
 obtain⟨k,rfl⟩:∃k,n=k+1:=⟨n-1,o_⟩
 have e2:k+1-1=k:=o_
 rw[e2]at*;have:V/B^k=ag B V k:=by
  rw[ag,j4];rw[j3 (j8 o_),j2,<-j7];exact b
 exact⟨this,by rw[<-this];exact l2 a (j8 o_)⟩
theorem GW(b:2<=B)(hn:2<=n)(a:B^(n-1)<=V):0<V:=j5 (j8 o_) a
theorem Sa(c:2<=B)(hn:2<=n)(d:B^(n-1)<=V)(e:V<B^n):W/V<=W/B^(n-1)/ag B V (n-1):=by
 obtain⟨a,b⟩:=aQG c hn d e;rw[<-a];exact O9 (by rw[a];exact b)
theorem Tv(a:2<=B)(hn:2<=n)(b:V<B^n)(c:q*ag B V (n-1)+r=W/B^(n-1)):
 q*(V/B^(n-2))<=W/B^(n-2)↔q*ag B V (n-2)<=r*B+ag B W (n-2):=by
 rw[aQK a hn b,wV,show n-2+1=n-1 by omega];exact GX c
theorem IQ(b:2<=B)(hn:2<=n)(a:B^(n-1)<=V)(c:V<B^n)(f:q*ag B V (n-1)+r=W/B^(n-1))(hq:q<B)(g:q*ag B V (n-2)<=r*B+ag B W (n-2)):q<=W/V+1:=by
 have d:0<B^(n-2):=j8 o_;refine aqS d ?_ (GW b hn a) ((Tv b hn c f).2 g);have e:n-1=n-2+1:=o_
 rw[e,j7,j2]at a;exact lu (kc _ o_) a
theorem Tw(a:2<=B)(hn:2<=n)(b:B^(n-1)<=V)(c:V<B^n)(e:q*ag B V (n-1)+r=W/B^(n-1))(f:r*B+ag B W (n-2)<q*ag B V (n-2)):W/V<q:=by
 have d:0<B^(n-2):=j8 o_;refine att d (GW a hn b) ?_;rcases kz (W/B^(n-2)) (q*(V/B^(n-2)))with h|h
 ·exact h
 ·have:=(Tv a hn c e).1 h;omega
theorem R9(a:2<=B)(b:B<=r)(hq:q<B):q*ag B V (n-2)<=r*B+ag B W (n-2):=by
 have e:ag B V (n-2)<B:=cX a _ _;have c:q*ag B V (n-2)<=B*B:=m1 o_ o_;have d:B*B<=r*B:=kc _ b;omega
theorem Hx(e:2<=B)(hn:1<=n)(c:V<B^n)(a:W<V*B):W/B^n<=ag B V (n-1)/\W/V<B:=by
 obtain⟨k,rfl⟩:∃k,n=k+1:=⟨n-1,o_⟩
 have e2:k+1-1=k:=o_
 rw[e2];have hk:0<B^k:=j8 o_;have b:V/B^k=ag B V k:=by
  rw[ag,j4];rw[j3 hk,j2,<-j7];exact c
 refine⟨?_,?_⟩
 ·rw[<-b,j7,j2,<-j9];refine m2 ?_;have:W/B<V:=by rw[j3 o_];exact a
  omega
 ·have d:0<V:=by
   rcases kD V with h|h
   ·subst h;simp at a
   ·exact h
  rw[j3 d,j2];exact a
def jQ(B V q i:Nat):Nat:=q*(V% B^i)/B^i
theorem ase:jQ B V q 0=0:=by simp[jQ,lz]
theorem avd(b:2<=B)(i:Nat):(q*ag B V i+jQ B V q i)% B=ag B (q*V) i/\(q*ag B V i+jQ B V q i)/B=jQ B V q (i+1):=by
 have a:0<B^i:=j8 o_;have e:q*(V% B^(i+1))/B^i=q*ag B V i+jQ B V q i:=by
  rw[mod_pow_succ,li,m5,kW _ _ a,jQ,kX]
 rw[<-e];constructor
 ·have e2:q*V=q*(V% B^(i+1))+q*(V/B^(i+1))*B^(i+1):=by
   have:=kH V (B^(i+1))
   conv=>lhs;rw[<-this]
   rw[li,j2 (B^(i+1)),kp]
  conv=>rhs;rw[e2,Cv o_]
  rfl
 ·rw[jQ,Cn]
theorem aPJ(b:2<=B)(hq:q<B)(i:Nat):jQ B V q i<B:=by
 have a:0<B^i:=j8 o_;rw[jQ,j3 a];exact kL hq (kf _ a)
theorem avf(c:2<=B)(hq:q<B)(a:V<B^n):jQ B V q n=ag B (q*V) n:=by
 have b:0<B^n:=j8 o_;rw[jQ,j4 a,ag];refine(j4 ?_).symm;rw[j3 b];exact kL hq a
theorem aqA(hq:q<B)(a:V<B^n):q*V<B^(n+1):=by
 rw[j7,j2 (B^n)];exact kL hq a
theorem Ag{m i:Nat}(hi:i<m):ag B (W+B^m) i=ag B W i:=by
 have:=Cv (B:=B) (n:=W) (c:=1) hi
 rwa [lc]at this
theorem anO(b:W<B^(n+1))(a:q*V<B^(n+1)):gu B (W+B^(n+1)) (q*V) (n+1)=if W<q*V then 1 else 0:=by
 rw[gu,n4,j4 b,j4 a]
theorem aPC(h:q*V<=W)(b:q<=W/V+1)(a:0<V)(c:W/V<=q):q=W/V/\W-q*V=W% V:=by
 have e:q=W/V:=by
  have:=(kP a).2 h;omega
 refine⟨e,?_⟩;have:=km W V;rw[e,j2];omega
theorem avj(h:W<q*V)(b:q<=W/V+1)(a:0<V)(c:W/V<=q):q=W/V+1/\∀M,q*V<=W+M->W+M-q*V+V=W% V+M:=by
 have e:q=W/V+1:=by
  have:¬q<=W/V:=fun e=>by
   have:=(kP a).1 e;omega
  omega
 refine⟨e,fun M d=>?_⟩;have:=km W V;have e2:q*V=V*(W/V)+V:=by rw[e,kw,lc,j2]
 omega
end
section
variable{S T:Nat}
theorem Oi{x0 x1:Nat}(h:x0<S)(c:0<T):(x0+S*x1)% (S*T)=x0+S*(x1% T):=by
 have d:0<S:=o_
 have e:x1=x1% T+T*(x1/T):=(kH x1 T).symm
 conv=>lhs;rw[e,li,<-kp,<-nk,l1]
 refine j4 ?_;have a:x1% T+1<=T:=kf _ c;have b:S*(x1% T+1)<=S*T:=kk _ a;rw[li,mx]at b;omega
theorem au6(w:Nat):ag (S*T) (w*S) 0=(ag (S*T) w 0*S)% (S*T):=by
 simp only[ag,kC,lq];rw[Nat.mod_mul_mod]
theorem au7(b:0<S)(a:0<T)(w i:Nat):ag (S*T) (w*S) (i+1)=(ag (S*T) w (i+1)*S)% (S*T)+ag (S*T) w i/T:=by
 have d:0<S*T:=ms b a;have e0:w*S/(S*T)^(i+1)=w/(S*T)^i/T:=by
  rw[j7,j2 S T,<-kp,mm _ _ b,j9]
 have e1:w/(S*T)^(i+1)=w/(S*T)^i/(S*T):=by rw[j7,j9]
 simp only[ag];rw[e0,e1];generalize w/(S*T)^i=x;have e2:x/T=x% (S*T)/T+S*(x/(S*T)):=by
  conv=>lhs;rw[<-kH x (S*T)]
  rw[show S*T*(x/(S*T))=T*(S*(x/(S*T)))by rw[j2 S T,kp],kW _ _ a]
 have c:x% (S*T)/T<S:=by rw[j3 a];exact kf _ d
 rw[e2,Oi c a];have e3:x/(S*T)% (S*T)*S% (S*T)=S*(x/(S*T)% T):=by
  rw[j2 _ S,lw,j2 S T,lv]
 rw[e3,kX]
theorem aQj(a:0<S)(e:0<T)(R i:Nat):ag (S*T) (R/S) i=ag (S*T) R i/S+(ag (S*T) R (i+1)*T)% (S*T):=by
 have d:0<S*T:=ms a e;have e0:R/S/(S*T)^i=R/(S*T)^i/S:=by rw[j9,j2,j9]
 have e1:R/(S*T)^(i+1)=R/(S*T)^i/(S*T):=by rw[j7,j9]
 simp only[ag];rw[e0,e1];generalize R/(S*T)^i=x;have e2:x/S=x% (S*T)/S+T*(x/(S*T)):=by
  conv=>lhs;rw[<-kH x (S*T)]
  rw[kp,kW _ _ a]
 have c:x% (S*T)/S<T:=by rw[j3 a,j2 T];exact kf _ d
 have b:=Oi (S:=T) (T:=S) (x0:=x% (S*T)/S) (x1:=x/(S*T)) c a;rw[j2 T S]at b;rw[e2,b];have e3:x/(S*T)% (S*T)*T% (S*T)=T*(x/(S*T)% S):=by
  rw[j2 _ T,j2 S T,lw,j2 T S,lv]
 rw[e3]
end
theorem H4{a b s:Nat}(c:b<2^s):a*2^s|||b=a*2^s+b:=by
 have:=Nat.shiftLeft_add_eq_or_of_lt c a;rw[Nat.shiftLeft_eq]at this;exact this.symm
def eW(l:List Nat):List PV:=l.map fun x:Nat=>.int .u64 x
theorem Wi(w:List Nat):gP prog 1 (w.map (AV.p∘fun x:Nat=>PV.int .u64 x)):=by
 rw[zQ];intro v a;obtain⟨x,_,rfl⟩:=hV.1 a;simp[aa,aP,bZ]
theorem F9:∀l:List Nat,fE (l++[0])=fE l
 |[]=>by simp[fE]
 |d::l=>by rw[hO,fE,F9 l,fE]
theorem zK:∀(l:List Nat)(d:Nat),d≠0->fE (l++[d])=l++[d]
 |[],d,h=>by simp[fE,h]
 |x::l,d,h=>by
  rw[hO,fE,zK l d h]
  split
  ·rename_i e;simp at e
  ·rfl
theorem xN(w:List Nat)(h:w.length<=1048576):al prog 289 [.seq (eW w)] (.seq (eW (fE w))):=by
 refine gA_ nf func289 mix ?_;simp only[eW];simp[f289];refine lp (α:=Nat) (fun i=>⟨[(3,.p (.int .i64 i)),(0,.p (.seq (w.map fun x:Nat=>.int .u64 x)))],[]⟩) (fun i=>i<=w.length/\fE w=fE (w.take i)) (fun i=>i) w.length s_ ?_;rintro i ⟨k1,k2⟩
 by_cases hi:0<i
 ·obtain⟨j,rfl⟩:∃j,i=j+1:=⟨i-1,o_⟩
  have c:dq.wrap (j:Int)=j:=aU _ o_ o_;have a:j<w.length:=o_
  have b:(0:Int)<(j:Int)+1:=o_
  have k3:=k2;rw[hX a]at k2
  by_cases hz:w[j]=0
  ·rw[hz,F9]at k2;have d:((w[j]:Nat):Int)=0:=by omega
   simp[b,c,a,hz];exact rd j ⟨o_,k2⟩
  ·rw[zK _ _ hz,<-hX a]at k2;simp[b,c,a,hz];refine⟨⟨o_,o_,Wi w⟩,?_⟩;rw[k2,h8];exact ch.refl _
 ·obtain rfl:i=0:=by omega
  simp[fE]at k2;simp[k2];exact Wi w
def eN(n:Nat):PV:=.seq ((aw wB n).map fun x:Nat=>.int .u64 x)
theorem bB:2<=wB:=d_
def ie(a b:Nat):Int:=if a<b then -1 else if b<a then 1 else 0
theorem OM{a b:Nat}(h:(aw wB a).length<(aw wB b).length):a<b:=by
 have d:=cU bB a;rcases kz a b with c|c
 ·exact c
 ·have:=fc bB (aw wB a).length b (kb c d);omega
theorem Qc{a b i:Nat}(h:a/wB^(i+1)=b/wB^(i+1))(e:ag wB a i<ag wB b i):a<b:=by
 rw[j7,<-j9,<-j9]at h;have e1:=km (a/wB^i) wB;have e2:=km (b/wB^i) wB;rw[ag,ag]at e;rw[h]at e1;rcases kz a b with d|d
 ·exact d
 ·have:=m2 (c:=wB^i) d;omega
theorem awk{a b i:Nat}(h:a/wB^(i+1)=b/wB^(i+1))(c:ag wB a i=ag wB b i):a/wB^i=b/wB^i:=by
 rw[j7,<-j9,<-j9]at h;have e1:=km (a/wB^i) wB;have e2:=km (b/wB^i) wB;rw[ag,ag]at c;rw[h]at e1;omega
theorem N7(a b:Nat)(z:(aw wB a).length<=1048576)(A:(aw wB b).length<=1048576):al prog 296 [eN a,eN b] (.int .i64 (ie a b)):=by
 refine gA_ nf func296 mix ?_
 by_cases g:(aw wB a).length=(aw wB b).length
 case neg=>
  have n:¬((aw wB a).length:Int)=(aw wB b).length:=o_
  by_cases u:(aw wB a).length<(aw wB b).length
  ·have k:((aw wB a).length:Int)<(aw wB b).length:=by omega
   have:=OM u;have hc:ie a b= -1:=if_pos this;simp[f296,eN,n,k,hc]
  ·have k:¬((aw wB a).length:Int)<(aw wB b).length:=by omega
   have:=OM (a:=b) (b:=a) o_;have hc:ie a b=1:=by rw[ie,if_neg o_,if_pos this]
   simp[f296,eN,n,k,hc]
 have r:∀i(h:i<(aw wB a).length),(aw wB a)[i]=ag wB a i:=fun i h=>fI bB h;have s:∀i(h:i<(aw wB b).length),(aw wB b)[i]=ag wB b i:=fun i h=>fI bB h;have q:=cU bB a;have m:=cU bB b;rw[<-g]at m;have t:a/wB^(aw wB a).length=b/wB^(aw wB a).length:=by rw[ko q,ko m]
 have B:a=b\/a≠b:=o_
 simp only[eN];generalize aw wB a=x,aw wB b=y at*;have w:dq.wrap ((y.length:Int)-1)=y.length-1:=aU _ o_ o_;simp[f296,g,w];refine lp (α:=Nat) (fun i=>⟨[(5,.p (.int .i64 ((i:Int)-1))),(1,.p (.seq (y.map fun x:Nat=>.int .u64 x))),(0,.p (.seq (x.map fun x:Nat=>.int .u64 x)))],[]⟩) (fun i=>i<=y.length/\a/wB^i=b/wB^i) (fun i=>i) y.length ⟨kv _,by rw[<-g];exact t⟩ ?_;rintro i ⟨k1,k2⟩
 by_cases hi:0<i
 ·obtain⟨j,rfl⟩:∃j,i=j+1:=⟨i-1,o_⟩
  have c:j<x.length:=o_
  have d:j<y.length:=o_
  have v:dq.wrap ((j:Int)-1)=j-1:=aU _ o_ o_;have e:=r j c;have f:=s j d
  by_cases hq:ag wB a j=ag wB b j
  ·simp[c,d,e,f,hq,v];exact rd j ⟨o_,awk k2 hq⟩
  ·have o:¬(ag wB a j:Int)=ag wB b j:=by omega
   by_cases l:ag wB a j<ag wB b j
   ·have:=Qc k2 l;have hc:ie a b= -1:=if_pos this;simp[c,d,e,f,o,l,hc]
   ·have:=Qc k2.symm (show ag wB b j<ag wB a j by omega);have hc:ie a b=1:=by rw[ie,if_neg o_,if_pos this]
    simp[c,d,e,f,o,l,hc]
 ·obtain rfl:i=0:=by omega
  rw[kC,lq,lq]at k2;have hc:ie a b=0:=by rw[ie,if_neg o_,if_neg o_]
  simp[hc]
@[simp] theorem PZ{α:Type}{f:α->PV}:∀{l:List α},fy (l.map (AV.p∘f))=some (l.map f)
 |[]=>rfl
 |x::l=>by simp only[hJ,Function.comp,fy];rw[show(l.map (AV.p∘f))=l.map (fun x=>AV.p (f x))from rfl]at*;have:=@PZ α f l;rw[show(l.map (AV.p∘f))=l.map (fun x=>AV.p (f x))from rfl]at this;simp[this]
def uA(x:Nat):AV:=.p (.int .u64 x)
def iU(n i:Nat)(f:Nat->Nat):List AV:=(hD n).map fun j=>uA (if j<i then f j else 0)
theorem HJ(n i:Nat)(f:Nat->Nat):(iU n i f).length=n:=by simp[iU]
theorem QY(n:Nat)(f:Nat->Nat):hM n (AV.p (.int .u64 0))=iU n 0 f:=by
 apply hN (by simp[iU]);intro i a b;simp[iU,uA]
theorem HI{n i:Nat}(f:Nat->Nat)(h:i<n):(iU n i f).set i (.p (.int .u64 (f i)))=iU n (i+1) f:=by
 apply hN (by simp[iU]);intro j h1 c;simp only[iU,h4,ik]at c;rw[ix];simp only[iU,iA,ii,uA]
 by_cases a:i=j
 ·subst a;rw[if_pos rfl,if_pos o_]
 ·rw[if_neg a]
  by_cases b:j<i
  ·rw[if_pos b,if_pos o_]
  ·rw[if_neg b,if_neg o_]
theorem QZ(n:Nat)(f:Nat->Nat):iU n n f=((hD n).map f).map (AV.p∘fun x:Nat=>PV.int .u64 x):=by
 rw[iU,h9];apply hQ;intro j a;rw[if_pos (h7.1 a)];rfl
@[simp] theorem aUc{N:Nat×Nat->Prop}{n i:Nat}{f:Nat->Nat}:bk N (iU n i f)=True:=by
 rw[eQ,eq_iff_iff,iff_true];intro v a;simp only[iU,hV]at a;obtain⟨x,_,rfl⟩:=a;trivial
theorem Ak{n i j:Nat}(f:Nat->Nat)(h:j<n):(iU n i f)[j]?=some (uA (if j<i then f j else 0)):=by
 rw[iU,ip,ih h];rfl
theorem aq3{A C n:Nat}(a:A<wB^n)(b:C<wB^n):dM wB A C n=ag wB (A+C) n:=by
 have c:0<wB^n:=j8 d_;have:=pf bB A C n;rw[dM,j4 a,j4 b]at*;rw[ag,j4];exact kb this d_
theorem HB{n i:Nat}(h:(aw wB n).length<=i):ag wB n i=0:=l7 (j5 (cU bB n) (j6 d_ h))
theorem aq7(a b:Nat)(D:(aw wB a).length<=1000000)(E:(aw wB b).length<=1000000):al prog 295 [eN a,eN b] (eN (a+b)):=by
 refine gA_ nf func295 mix ?_;simp[f295,-ba];rw[ba];simp[-ba];refine join (fun s=>∃A C,A+C=a+b/\(aw wB C).length<=(aw wB A).length/\(aw wB A).length<=1000000/\aV s.env 0=.p (eN A)/\aV s.env 1=.p (eN C)/\s.heap=[]) ?_ ?_
 ·by_cases R:(aw wB a).length<(aw wB b).length
  ·have g:((aw wB a).length:Int)<(aw wB b).length:=by omega
   simp[eN,g];exact⟨b,a,o_,o_,E,rfl,rfl⟩
  ·have g:¬((aw wB a).length:Int)<(aw wB b).length:=by omega
   simp[eN,g];exact⟨a,b,rfl,o_,D,rfl,rfl⟩
 rintro⟨O,Q⟩ ⟨A,C,hs,J,S,f0,f1,w⟩;dsimp only at f0 f1 w;subst w;rw[<-hs];simp only[eN]at f0 f1⊢;have F:∀i(h:i<(aw wB A).length),(aw wB A)[i]=ag wB A i:=fun i h=>fI bB h;have G:∀i(h:i<(aw wB C).length),(aw wB C)[i]=ag wB C i:=fun i h=>fI bB h;have H:=cU bB A;have I:=j5 (cU bB C) (j6 (show 0<wB by decide) J);have r:=aq3 H I;have K:=@HB C;have L:fE ((hD ((aw wB A).length+1)).map (ag wB (A+C)))=aw wB (A+C):=l8 bB (by
  have P:2*wB^(aw wB A).length<=wB^((aw wB A).length+1):=by rw[j7,j2];exact kk _ bB
  omega)
 have c:=xN ((hD ((aw wB A).length+1)).map (ag wB (A+C))) (by simp;omega);rw[L]at c;generalize aw wB (A+C)=z,aw wB A=x,aw wB C=y at*;obtain⟨n,hn⟩:∃n,x.length=n:=⟨_,rfl⟩
 obtain⟨m,k⟩:∃m,y.length=m:=⟨_,rfl⟩
 rw[hn]at r c;have t:=QZ (n+1) (ag wB (A+C));have j:((hD (n+1)).map (ag wB (A+C))).length=n+1:=s_
 generalize (hD (n+1)).map (ag wB (A+C))=l at c t j;have T:n<=1000000:=o_
 have U:m<=n:=o_
 have M:dq.wrap ((n:Int)+1)=n+1:=b8 o_;simp[f0,f1,hn,M];refine⟨⟨o_,by simp only[dA];omega⟩,?_⟩;rw[QY (n+1) (ag wB (A+C))];refine lp (α:=Nat) (fun i=>⟨[(22,.p (.int .i64 i)),(21,.p (.int .i64 n)),(6,.p (.int .u64 (dM wB A C i:Nat))),(5,.sl 0 0 1 0 (n+1)),(1,.p (.seq (y.map fun x:Nat=>.int .u64 x))),(0,.p (.seq (x.map fun x:Nat=>.int .u64 x)))],[.arr .exact 0 1 (iU (n+1) i (ag wB (A+C)))]⟩)
  (fun i=>i<=n) (fun i=>n-i) 0 s_ ?_ (he:=by simp[f0,f1,CB])
 intro i k1;have B:=b8 (i:=i) o_
 by_cases hi:i<n
 ·have f:i<x.length:=by rw[hn];exact hi
  have hx:=F i f;have d:=vg (ag wB A i) (ag wB C i) (dM wB A C i) (pf bB A C i);obtain⟨g1,g2⟩:=uP bB A C i;rw[g1,g2]at d;have aY:=HI (n:=n+1) (ag wB (A+C)) (show i<n+1 by omega);have aA:i<(iU (n+1) i (ag wB (A+C))).length:=by rw[HJ];omega
  have v:(iU (n+1) i (ag wB (A+C))).length=n+1:=HJ _ _ _;have V:iU (n+1) i (ag wB (A+C))≠[]:=by intro h;rw[h]at v;simp at v
  have e:i<n+1:=o_
  by_cases o:i<m
  ·have u:i<y.length:=by rw[k];exact o
   have N:=G i u;have q:(i:Int)<m:=o_
   simp[hn,k,hi,o,q,hx,N,f,u];refine c3 d ?_;simp[e,aY,B,Ak _ e,aa,aP,bZ,uA];exact rd (i+1) (show i+1<=n by omega)
  ·have q:¬(i:Int)<m:=by omega
   have hz:=K (i:=i) o_;rw[hz]at d;simp[hn,k,hi,o,q,hx,f];refine c3 d ?_;simp[e,aY,B,Ak _ e,aa,aP,bZ,uA];exact rd (i+1) (show i+1<=n by omega)
 have:i=n:=o_
 subst this;simp[hn,r,Ak _ (n5 i),HI _ (n5 i),t,aa,aP,bZ,uA];refine cp c (by simp[j];exact⟨rfl,rfl⟩) ?_ (h1:=by simp[eW,hG,j]);simp;exact ch.refl _
end Go.ae
namespace Go.ae
open Go.Proofs
theorem au0{x y c d:Nat}(h:x+wB=d+(y+c))(a:d<wB):(x+wB-y-c)% wB=d:=by rw[show x+wB-y-c=d by omega];exact j4 a
theorem auZ{x y c d:Nat}(h:x=d+(y+c))(a:d<wB):(x+wB-y-c)% wB=d:=by rw[show x+wB-y-c=d+wB by omega,n4];exact j4 a
theorem Ta{A C:Nat}(h:C<=A)(i:Nat):al prog 334 [.int .u64 (ag wB A i),.int .u64 (ag wB C i),.int .u64 (gu wB A C i)] (.aE [.int .u64 (ag wB (A-C) i),.int .u64 (gu wB A C (i+1))]):=by
 have c:gu wB A C i<=1:=by rw[gu];split<;>omega
 have a:=aK3 (ag wB A i) (ag wB C i) (gu wB A C i) c;have b:=cX bB (A-C) i;have e:=cX bB A i;have f:=cX bB C i;have d:wB=18446744073709551616:=rfl;rcases Qr bB h i with⟨e1,e2,e3⟩|⟨e1,e2,e3⟩
 ·rw[if_pos e1,au0 e3 b]at a;rw[e2];exact a
 ·rw[if_neg o_,auZ e3 b]at a;rw[e2];exact a
theorem OT(A C:Nat)(j:C<=A)(w:(aw wB A).length<=1000000):al prog 297 [eN A,eN C] (eN (A-C)):=by
 refine gA_ nf func297 mix ?_;have D:(aw wB C).length<=(aw wB A).length:=fc bB _ _ (kb j (cU bB A));have r:∀i(h:i<(aw wB A).length),(aw wB A)[i]=ag wB A i:=fun i h=>fI bB h;have s:∀i(h:i<(aw wB C).length),(aw wB C)[i]=ag wB C i:=fun i h=>fI bB h;have t:=@HB C;have u:fE ((hD (aw wB A).length).map (ag wB (A-C)))=aw wB (A-C):=l8 bB (kb (Nat.sub_le A C) (cU bB A));have a:=xN ((hD (aw wB A).length).map (ag wB (A-C))) (by simp;omega);rw[u]at a;simp only[eN];generalize aw wB (A-C)=z,aw wB A=x,aw wB C=y at*;obtain⟨n,hn⟩:∃n,x.length=n:=⟨_,rfl⟩
 obtain⟨m,e⟩:∃m,y.length=m:=⟨_,rfl⟩
 rw[hn]at a;have k:=QZ n (ag wB (A-C));have d:((hD n).map (ag wB (A-C))).length=n:=s_
 generalize (hD n).map (ag wB (A-C))=l at a k d;have B:n<=1000000:=o_
 have F:m<=n:=o_
 simp[f297,hn];refine⟨by simp only[dA];omega,?_⟩;rw[QY n (ag wB (A-C))];refine lp (α:=Nat) (fun i=>⟨[(14,.p (.int .i64 i)),(13,.p (.int .i64 n)),(6,.p (.int .u64 (gu wB A C i:Nat))),(5,.sl 0 0 1 0 n),(1,.p (.seq (y.map fun x:Nat=>.int .u64 x))),(0,.p (.seq (x.map fun x:Nat=>.int .u64 x)))],[.arr .exact 0 1 (iU n i (ag wB (A-C)))]⟩)
  (fun i=>i<=n) (fun i=>n-i) 0 s_ ?_ (he:=by simp[F8])
 intro i k1;have q:=b8 (i:=i) o_
 by_cases hi:i<n
 ·have c:i<x.length:=by rw[hn];exact hi
  have hx:=r i c;have b:=Ta j i;have aY:=HI (n:=n) (ag wB (A-C)) hi;have E:(iU n i (ag wB (A-C))).length=n:=HJ _ _ _
  by_cases f:i<m
  ·have o:i<y.length:=by rw[e];exact f
   have v:=s i o;have g:(i:Int)<m:=o_
   simp[hn,e,hi,f,g,hx,v,c,o];refine c3 b ?_;simp[hi,aY,q,Ak _ hi,aa,aP,bZ,uA];exact rd (i+1) (show i+1<=n by omega)
  ·have g:¬(i:Int)<m:=by omega
   have hz:=t (i:=i) o_;rw[hz]at b;simp[hn,e,hi,f,g,hx,c];refine c3 b ?_;simp[hi,aY,q,Ak _ hi,aa,aP,bZ,uA];exact rd (i+1) (show i+1<=n by omega)
 have:i=n:=o_
 subst this;simp[hn,k,aa,aP,bZ,uA];refine cp a (by simp[d];exact⟨rfl,rfl⟩) ?_ (h1:=by simp[eW,hG,d]);simp;exact ch.refl _
end Go.ae
namespace Go.Proofs
open Go.Shelf
def Tryz.anK:gb:=⟨fun|134=>323|129=>298|n=>n,fun|53=>295|3=>3|4=>4|46=>350|5=>5|9=>9|n=>n,fun|n=>n⟩
theorem Tryz.aOv:fd prog anK:={
 mixed:=k_
 f129:=func298.trans (congrArg some k_)
 f134:=func323.trans (congrArg some k_)
 t3:=underlying3
 a3:=isAgg3
 z3:=sizeOf3
 v3:=zeroValue3
 t4:=underlying4
 a4:=isAgg4
 z4:=sizeOf4
 v4:=zeroValue4
 t5:=underlying5
 a5:=isAgg5
 z5:=sizeOf5
 v5:=zeroValue5
 t9:=underlying9
 a9:=isAgg9
 z9:=sizeOf9
 v9:=zeroValue9
 t46:=underlying350
 a46:=isAgg350
 z46:=sizeOf350
 v46:=zeroValue350
 t53:=underlying295
 a53:=isAgg295
 z53:=sizeOf295
 v53:=zeroValue295}
theorem Tryz.bits_LeadingZeros64(x:Int)(w:cy)(a:0<=x)(h1:x<=18446744073709551615):
 c6 prog 323 #[.int .u64 x] w fun e w'=>e=.returned (.int .i64 (64-(dy x.toNat:Int)))/\w'=w:=Any.bits_LeadingZeros64 aOv x w a h1
def Tryz.anL:gb:=⟨fun|129=>298|n=>n,fun|53=>295|3=>3|4=>4|46=>350|5=>5|9=>9|n=>n,fun|n=>n⟩
theorem Tryz.aOu:fi prog anL:={
 mixed:=k_
 f129:=func298.trans (congrArg some k_)
 t3:=underlying3
 a3:=isAgg3
 z3:=sizeOf3
 v3:=zeroValue3
 t4:=underlying4
 a4:=isAgg4
 z4:=sizeOf4
 v4:=zeroValue4
 t5:=underlying5
 a5:=isAgg5
 z5:=sizeOf5
 v5:=zeroValue5
 t9:=underlying9
 a9:=isAgg9
 z9:=sizeOf9
 v9:=zeroValue9
 t46:=underlying350
 a46:=isAgg350
 z46:=sizeOf350
 v46:=zeroValue350
 t53:=underlying295
 a53:=isAgg295
 z53:=sizeOf295
 v53:=zeroValue295}
theorem Tryz.bits_Len64(x:Int)(w:cy)(a:0<=x)(h1:x<=18446744073709551615):
 c6 prog 298 #[.int .u64 x] w fun e w'=>e=.returned (.int .i64 (dy x.toNat))/\w'=w:=Any.bits_Len64 aOu x w a h1
def Tryz.anI:gb:=⟨fun|264=>235|n=>n,fun|53=>295|46=>350|n=>n,fun|n=>n⟩
theorem Tryz.aOx:e9 prog anI:={
 mixed:=k_
 f264:=func235.trans (congrArg some k_)
 t46:=underlying350
 a46:=isAgg350
 z46:=sizeOf350
 v46:=zeroValue350
 t53:=underlying295
 a53:=isAgg295
 z53:=sizeOf295
 v53:=zeroValue295}
open Go.RowKit Go.Lib in
theorem Tryz.bits_Mul64(x y:Nat)(hx:x<18446744073709551616)(hy:y<18446744073709551616)(w:cy):
 c6 prog 235 #[.int .u64 x,.int .u64 y] w fun e w'=>e=.returned (.tuple #[.int .u64 ((x*y/18446744073709551616:Nat):Int),.int .u64 ((x*y% 18446744073709551616:Nat):Int)])/\w'=w:=Any.bits_Mul64 aOx x y hx hy w
end Go.Proofs
namespace Go.ae
open Go.Proofs
section
variable[Gl]{P:dd}
theorem mV{f:dg}{fn:Func}(h:P.funcs[f]?=some fn)(hs:(fn.body.isSome&&(fn.name != "runtime.NumGoroutine"))=true):Enters P f:=by
 intro args w;simp only[b1,bne_iff_ne]at hs;cases a:fn.body with
 |none=>rw[a]at hs;simp at hs
 |some c=>simp[callFunc,h,hs.2,a]
theorem o8{f:dg}{args:List PV}{v:PV}(j:Enters P f)
 (h:∀(w:cy)(ad:Nat->Prop)(a:List db),(∀k,ad k->k<w.heap.size)->qG P w ad->bY P w ad args a->
  c6 P f a.toArray w fun e w'=>∃cv,e=.returned cv/\(w.heap.size<=w'.heap.size/\(∀k,k<w.heap.size->w'.heap[k]?=w.heap[k]?)/\w'.os=w.os/\w'.output=w.output)/\∀(w:cy)(ad:Nat->Prop),aH P w ad v cv):al P f args v:=by
 refine .inl ⟨j,fun w ad a c l i=>(h w ad a c l i).mono ?_⟩;rintro e w' ⟨cv,rfl,⟨b,d,m⟩,g⟩;exact⟨cv,ad,rfl,fun _ x=>x,fun _ x=>.inl x,fun k hk=>j5 (c k hk) b,b,d,m,g _ _⟩
theorem uR{w:cy}{ad:Nat->Prop}{a b:PV}{cs:List db}(h:bY P w ad [a,b] cs):∃x y,cs=[x,y]/\aH P w ad a x/\aH P w ad b y:=by
 simp only[bY]at h;obtain⟨x,xs,rfl,c,y,e,rfl,d,rfl⟩:=h;exact⟨x,y,rfl,c,d⟩
theorem C8{w:cy}{ad:Nat->Prop}{a:PV}{cs:List db}(h:bY P w ad [a] cs):∃x,cs=[x]/\aH P w ad a x:=by
 simp only[bY]at h;obtain⟨x,xs,rfl,b,rfl⟩:=h;exact⟨x,rfl,b⟩
end
theorem Dr(x y:Nat)(hx:x<18446744073709551616)(g:y<18446744073709551616):al prog 235 [.int .u64 x,.int .u64 y] (.aE [.int .u64 ((x*y/18446744073709551616:Nat):Int),.int .u64 ((x*y% 18446744073709551616:Nat):Int)]):=by
 refine o8 (mV func235 k_) fun w ad h _ _ f=>?_;obtain⟨a,b,rfl,c,d⟩:=uR f;simp only[aH]at c d;subst c d;refine(bits_Mul64 x y hx g w).mono ?_;rintro e w' ⟨rfl,rfl⟩;refine⟨_,rfl,⟨kv _,fun _ _=>rfl,rfl,rfl⟩,fun w ad=>?_⟩;simp only[aH,bY];exact⟨[_,_],⟨_,_,rfl,rfl,_,_,rfl,rfl,rfl⟩,rfl⟩
theorem Tc(x:Nat)(hx:x<18446744073709551616):al prog 323 [.int .u64 x] (.int .i64 (64-(dy x:Int))):=by
 refine o8 (mV func323 k_) fun w ad d _ _ c=>?_;obtain⟨a,rfl,b⟩:=C8 c;simp only[aH]at b;subst b;refine(bits_LeadingZeros64 x w o_ o_).mono ?_;rintro e w' ⟨rfl,rfl⟩;refine⟨_,rfl,⟨kv _,fun _ _=>rfl,rfl,rfl⟩,fun w ad=>?_⟩;simp only[aH];rfl
end Go.ae
namespace Go.ae
open Go.Proofs
theorem gM(n:Int)(h:0<=n)(a:n<wB):dp.wrap n=n:=IntWalk.u64_in n ⟨h,by simp only[wB]at a;omega⟩
def cS(n:Nat)(f:Nat->Nat):List AV:=(hD n).map fun j=>uA (f j)
theorem RC(n:Nat)(f:Nat->Nat):(cS n f).length=n:=by simp[cS]
theorem qw{n j:Nat}(f:Nat->Nat)(h:j<n):(cS n f)[j]?=some (.p (.int .u64 (f j))):=by
 rw[cS,ip,ih h];rfl
theorem Hc{n:Nat}{f:Nat->Nat}(h:∀j,f j=0):hM n (AV.p (.int .u64 0))=cS n f:=by
 apply hN (by simp[cS]);intro i a b;simp[cS,uA,h]
theorem tH{n i v:Nat}{f g:Nat->Nat}(d:g i=v)(c:∀k,k≠i->g k=f k):(cS n f).set i (.p (.int .u64 v))=cS n g:=by
 apply hN (by simp[cS]);intro j e b;simp only[cS,h4,ik]at b;rw[ix];simp only[cS,iA,ii,uA]
 by_cases a:i=j
 ·subst a;rw[if_pos rfl,d]
 ·rw[if_neg a,c j o_]
theorem Hd(n:Nat)(f:Nat->Nat):cS n f=((hD n).map f).map (AV.p∘fun x:Nat=>PV.int .u64 x):=by
 rw[cS,h9];rfl
theorem Gu{n:Nat}{f g:Nat->Nat}(h:∀k,f k=g k):cS n f=cS n g:=by rw[show f=g from funext h]
@[simp] theorem aUb{N:Nat×Nat->Prop}{n:Nat}{f:Nat->Nat}:bk N (cS n f)=True:=by
 rw[eQ,eq_iff_iff,iff_true];intro v a;simp only[cS,hV]at a;obtain⟨x,_,rfl⟩:=a;trivial
@[simp] theorem aUe{σ:Nat->Nat}{n:Nat}{f:Nat->Nat}:dw σ (cS n f)=cS n f:=by
 have:∀l:List Nat,dw σ (l.map fun j=>uA (f j))=l.map fun j=>uA (f j):=by
  intro l
  induction l with
  |nil=>rfl
  |cons a r b=>simp only[hJ,dw,b];rfl
 exact this _
theorem mul_two(P o k:Nat)(h:(P+o+k)/wB<wB)(a:o<wB)(hk:k<wB):
 ((P% wB+o+0)% wB+k+0)% wB=(P+o+k)% wB/\P/wB+(P% wB+o+0)/wB+((P% wB+o+0)% wB+k+0)/wB=(P+o+k)/wB/\P/wB+(P% wB+o+0)/wB<wB:=by
 simp only[wB]at*;omega
theorem aq5(a b:Nat)(C:(aw wB a).length+(aw wB b).length<=1000000):al prog 239 [eN a,eN b] (eN (a*b)):=by
 refine gA_ nf func239 mix ?_;have N:∀i(h:i<(aw wB a).length),(aw wB a)[i]=ag wB a i:=fun i h=>fI bB h;have O:∀i(h:i<(aw wB b).length),(aw wB b)[i]=ag wB b i:=fun i h=>fI bB h;have s:=cU bB a;have o:=cU bB b;have S:fE ((hD ((aw wB a).length+(aw wB b).length)).map (ag wB (a*b)))=aw wB (a*b):=l8 bB (by
  rw[kx];exact kL s o)
 have d:=xN ((hD ((aw wB a).length+(aw wB b).length)).map (ag wB (a*b))) (by simp;omega);rw[S]at d;simp only[eN];generalize aw wB (a*b)=z,aw wB a=x,aw wB b=y at*;obtain⟨n,hn⟩:∃n,x.length=n:=⟨_,rfl⟩
 obtain⟨m,c⟩:∃m,y.length=m:=⟨_,rfl⟩
 rw[hn]at s d C;rw[c]at o d C;have D:=Hd (n+m) (ag wB (a*b));have t:((hD (n+m)).map (ag wB (a*b))).length=n+m:=s_
 generalize (hD (n+m)).map (ag wB (a*b))=l at d D t;have ad:dq.wrap ((n:Int)+m)=((n+m:Nat):Int):=by rw[aU _ o_ o_];omega
 have R:((n:Int)+m).toNat=n+m:=o_
 have Q:0<=(n:Int)+m:=o_
 have V:dq.wrap ((n:Int)+m)=(n:Int)+m:=aU _ o_ o_;simp[f239,hn,c,V,R,Q];refine⟨by simp only[dA];omega,?_⟩;rw[Hc (f:=dP wB a b 0 0) (by intro j;simp[tu,lz,ag])];refine lp (α:=Nat) (fun i=>⟨[(22,.p (.int .i64 i)),(21,.p (.int .i64 n)),(20,.p (.seq (x.map fun x:Nat=>.int .u64 x))),(5,.sl 0 0 1 0 (n+m)),(1,.p (.seq (y.map fun x:Nat=>.int .u64 x)))],[.arr .exact 0 1 (cS (n+m) (dP wB a b i 0))]⟩)
  (fun i=>i<=n) (fun i=>n-i) 0 s_ ?_ (he:=s_)
 intro i k1;have T:=b8 (i:=i) o_
 by_cases hi:i<n
 ·have E:i<x.length:=by rw[hn];exact hi
  have hx:=N i E;simp[hn,c,hi,E,hx];refine lp (α:=Nat) (fun j=>⟨[(29,.p (.int .i64 j)),(28,.p (.int .i64 m)),(27,.p (.seq (y.map fun x:Nat=>.int .u64 x))),(8,.p (.int .u64 (mulC wB a b i j:Nat))),(7,.p (.int .u64 (ag wB a i:Nat))),(6,.p (.int .i64 i)),(22,.p (.int .i64 i)),(21,.p (.int .i64 n)),(20,.p (.seq (x.map fun x:Nat=>.int .u64 x))),(5,.sl 0 0 1 0 (n+m)),(1,.p (.seq (y.map fun x:Nat=>.int .u64 x)))],[.arr .exact 0 1 (cS (n+m) (dP wB a b i j))]⟩)
   (fun j=>j<=m) (fun j=>m-j) 0 s_ ?_ (he:=by simp[Gt])
  intro j k2;have U:=b8 (i:=j) o_;have w:((i:Int)+j).toNat=i+j:=o_
  have u:0<=(i:Int)+j:=o_
  have H:dq.wrap ((i:Int)+j)=(i:Int)+j:=aU _ o_ o_
  by_cases F:j<m
  ·have G:j<y.length:=by rw[c];exact F
   have X:=O j G;have r:i+j<n+m:=o_
   have e:=qw (dP wB a b i j) r;have q:=G9 bB a b i j;have K:=xJ bB a b i j;have L:=xJ bB a b i (j+1);have M:dP wB a b i j (i+j)<wB:=by rw[dP];split<;>exact cX bB _ _
   obtain⟨e1,e2,e3⟩:=mul_two (ag wB a i*ag wB b j) (dP wB a b i j (i+j)) (mulC wB a b i j) (by rw[q.2];exact L) M K;rw[q.1]at e1;rw[q.2]at e2;have I:=Dr (ag wB a i) (ag wB b j) (cX bB _ _) (cX bB _ _);rw[show(18446744073709551616:Nat)=wB from rfl]at I;have Y:=vg (ag wB a i*ag wB b j% wB) (dP wB a b i j (i+j)) 0 o_;have J:=vg ((ag wB a i*ag wB b j% wB+dP wB a b i j (i+j)+0)% wB) (mulC wB a b i j) 0 o_;rw[e1]at J;have hs:=tH (n:=n+m) (i:=i+j) (f:=dP wB a b i j) (g:=dP wB a b i (j+1)) (QW a b i j) (fun k hk=>Pz bB hk);generalize ag wB a i*ag wB b j% wB=r1,ag wB a i*ag wB b j/wB=A at*;generalize (r1+dP wB a b i j (i+j)+0)% wB=Z,(r1+dP wB a b i j (i+j)+0)/wB=B at*;generalize (Z+mulC wB a b i j+0)/wB=ab at*;have w1:dp.wrap ((A:Int)+B)=((A+B:Nat):Int):=by rw[gM _ o_ o_];omega
   have ac:dp.wrap ((A:Int)+B+ab)=(mulC wB a b i (j+1):Nat):=by rw[gM _ o_ o_];omega
   simp[hn,c,F,G,X];refine c2 I ?_;simp[H,w,u,r,e,aa,aP,bZ];refine c3 Y ?_;simp[w1];refine c3 J ?_;simp[H,w,u,r,e,hs,w1,ac,U,aa,aP,bZ];exact rd (j+1) (show j+1<=m by omega)
  have:j=m:=o_
  subst this;have W:dq.wrap ((i:Int)+j)=(i:Int)+j:=aU _ o_ o_;have aA:i+j<n+j:=o_
  have e:=qw (dP wB a b i j) aA;have hs:=tH (n:=n+j) (i:=i+j) (f:=dP wB a b i j) (g:=dP wB a b (i+1) 0) (v:=mulC wB a b i j) (by rw[tu,Ow bB o]) (fun k hk=>by rw[tu,QX bB o hk]);simp[c,W,w,u,hi,aA,e,hs,T,aa,aP,bZ];exact rd (i+1) (show i+1<=n by omega)
 have:i=n:=o_
 subst this;have P:cS (i+m) (dP wB a b i 0)=cS (i+m) (ag wB (a*b)):=Gu fun k=>by rw[tu,j4 s]
 simp[hn,P,D];refine cp d (by simp[t];exact⟨rfl,rfl⟩) ?_ (h1:=by simp[eW,hG,t]);simp;exact ch.refl _
theorem Dl(n:Nat):dp.wrap (n:Int)=(n% wB:Nat):=by
 rw[show dp.wrap (n:Int)=(n:Int)% 18446744073709551616 from rfl];rfl
theorem BB(x s:Nat)(hs:s<64):dp.wrap ((x:Int)*2^(min s dp.bits))=(x*2^s% wB:Nat):=by
 rw[show dp.bits=64 from rfl,nb o_,<-Dl];congr 1
theorem yF(x s:Nat)(hs:s<=64):(x:Int).fdiv (2^(min s dp.bits))=(x/2^s:Nat):=by
 rw[show dp.bits=64 from rfl,nb hs,show(2:Int)^s=((2^s:Nat):Int)by push_cast;rfl,hb _ (Int.natCast_nonneg _)];rfl
theorem Jk(a b:Nat)(c:a<wB)(d:b<wB):dp.wrap ((a% 2^dp.bits|||b% 2^dp.bits:Nat):Int)=(a|||b:Nat):=by
 rw[show(2^dp.bits:Nat)=wB from rfl,j4 c,j4 d,Dl,j4];exact Nat.or_lt_two_pow (n:=64) c d
def cu(a s i:Nat):Nat:=if i=0 then 0 else ag wB a (i-1)/2^(64-s)
def iM(a s i k:Nat):Nat:=if k<i then ag wB (a*2^s) k else if k=i then cu a s i else 0
theorem DJ{s:Nat}(hs:s<64):2^s*2^(64-s)=wB:=by rw[<-kx,show s+(64-s)=64 by omega];rfl
theorem Ru(a s i:Nat)(hs:s<64):cu a s i|||(ag wB a i*2^s% wB)=ag wB (a*2^s) i:=by
 have c:0<2^s:=j8 d_;have d:0<2^(64-s):=j8 d_;have b:=DJ hs;have hc:cu a s i<2^s:=by
  rw[cu];split
  ·exact c
  ·rw[j3 d,b];exact cX bB _ _
 have e:ag wB a i*2^s% wB=ag wB a i% 2^(64-s)*2^s:=by
  rw[<-b,j2,lw,j2]
 rw[oi,e,H4 hc,<-e];cases i with
 |zero=>rw[cu,if_pos rfl,lW,<-b];exact(au6 a).symm
 |succ i=>rw[cu,if_neg o_,kF,<-b];exact(au7 c d a i).symm
theorem Gg{n:Nat}{f g:Nat->Nat}(h:∀k,k<n->f k=g k):cS n f=cS n g:=by
 rw[cS,cS];exact hQ fun k hk=>by rw[h k (h7.1 hk)]
theorem aLm(a s n:Nat)(hs:s<64)(h:ag wB a n=0):cu a s n=ag wB (a*2^s) n:=by
 rw[<-Ru a s n hs,h,l4,np,Nat.or_zero]
theorem P7(a s:Nat)(hs:s<64)(z:(aw wB a).length<=1000000):c8 prog 324 [] [.p (eN a),.p (.int .i64 s)] [.arr .exact 0 1 (cS ((aw wB a).length+1) (ag wB (a*2^s)))] (.sl 0 0 1 0 ((aw wB a).length+1)):=by
 refine gz nf (i_ func324) mix (by simp[f324]) ?_;have B:∀i(h:i<(aw wB a).length),(aw wB a)[i]=ag wB a i:=fun i h=>fI bB h;have E:=@HB a;simp only[eN];generalize aw wB a=x at*;obtain⟨n,hn⟩:∃n,x.length=n:=⟨_,rfl⟩
 rw[hn]at z;have I:dq.wrap ((n:Int)+1)=(n:Int)+1:=b8 o_;simp[f324,hn,I];refine⟨⟨o_,by simp only[dA];omega⟩,?_⟩;rw[Hc (f:=iM a s 0) (by intro j;simp[iM,cu])];refine lp (α:=Nat) (fun i=>⟨[(14,.p (.int .i64 i)),(13,.p (.int .i64 n)),(12,.p (.seq (x.map fun x:Nat=>.int .u64 x))),(5,.sl 0 0 1 0 (n+1)),(1,.p (.int .i64 s))],[.arr .exact 0 1 (cS (n+1) (iM a s i))]⟩)
  (fun i=>i<=n) (fun i=>n-i) 0 s_ ?_ (he:=s_)
 intro i k1;have u:=b8 (i:=i) o_
 by_cases hi:i<n
 ·have e:i<x.length:=by rw[hn];exact hi
  have hx:=B i e;have d:i<n+1:=o_
  have m:=qw (iM a s i) d;have D:ag wB a i*2^s% wB<wB:=kf _ d_;have A:iM a s i i<wB:=by
   rw[iM,if_neg o_,if_pos rfl,cu];split
   ·decide
   ·exact kb (lm _ _) (cX bB _ _)
  have e1:=BB (ag wB a i) s hs;have e2:=Jk (iM a s i i) (ag wB a i*2^s% wB) A D;have e3:iM a s i i|||(ag wB a i*2^s% wB)=ag wB (a*2^s) i:=by rw[<-Ru a s i hs,iM,if_neg o_,if_pos rfl]
  rw[e3]at e2;have w:dq.wrap (64-(s:Int))=((64-s:Nat):Int):=by rw[aU _ o_ o_];omega
  have e4:=yF (ag wB a i) (64-s) o_;have q:i+1<n+1:=o_
  have r:=tH (n:=n+1) (i:=i) (f:=iM a s i) (g:=fun k=>if k=i then ag wB (a*2^s) i else iM a s i k) (if_pos rfl) (fun k hk=>if_neg hk);have F:=tH (n:=n+1) (i:=i+1) (v:=ag wB a i/2^(64-s)) (f:=fun k=>if k=i then ag wB (a*2^s) i else iM a s i k) (g:=iM a s (i+1)) (by
   simp[iM,cu]) (fun k hk=>by
   by_cases c:k=i
   ·subst c;simp[iM]
   ·simp only[iM,c,if_false]
    by_cases b:k<i
    ·rw[if_pos o_,if_pos b]
    ·rw[if_neg o_,if_neg hk,if_neg b])
  have C:=qw (n:=n+1) (fun k=>if k=i then ag wB (a*2^s) i else iM a s i k) q;have G:s=0->cS (n+1) (fun k=>if k=i then ag wB (a*2^s) i else iM a s i k)=cS (n+1) (iM a s (i+1)):=fun h=>by
   have hz:ag wB a i/2^(64-s)=0:=by rw[h];exact ko (cX bB _ _)
   refine Gu fun k=>?_
   by_cases c:k=i
   ·subst c;simp[iM]
   ·simp only[iM,c,if_false]
    by_cases b:k<i
    ·rw[if_pos b,if_pos o_]
    ·by_cases o:k=i+1
     ·rw[o,if_neg o_,if_neg o_,if_pos rfl,cu,if_neg o_,kF,hz]
     ·rw[if_neg b,if_neg o_,if_neg o]
  generalize ag wB a i*2^s% wB=r1,ag wB a i/2^(64-s)=J,(fun k=>if k=i then ag wB (a*2^s) i else iM a s i k)=g1 at*;obtain⟨t,H⟩:∃t,t=64-s:=⟨_,rfl⟩
  rw[<-H]at w e4
  by_cases l:0<s
  ·simp[hn,hi,d,e,hx,m,e1,e2,l,w,e4,u,r,q,C,F,aa,aP,bZ];refine⟨⟨by rfl,by rfl,by rfl⟩,?_⟩;refine⟨o_,?_⟩;exact rd (i+1) (show i+1<=n by omega)
  ·have y:s=0:=by omega
   simp[hn,hi,d,e,hx,m,e1,e2,l,u,r,G y,aa,aP,bZ];refine⟨⟨by rfl,by rfl,by rfl⟩,?_⟩;exact rd (i+1) (show i+1<=n by omega)
 have:i=n:=o_
 subst this;simp[hn];refine .inl (Gg fun k hk=>?_);rw[iM]
 by_cases b:k<i
 ·rw[if_pos b]
 ·obtain rfl:k=i:=by omega
  rw[if_neg b,if_pos rfl,aLm a s k hs (E o_)]
theorem CI:∀(n x:Nat),x<=n->0<x->x<2^64->1<=dy x/\2^(dy x-1)<=x/\x<2^dy x
 |0,x,h,a,_=>by omega
 |n+1,x,h,a,c=>by
  have d:=Lib.bitLen_half x o_ c
  by_cases b:x=1
  ·subst b;decide
  ·obtain⟨i1,i2,i3⟩:=CI n (x/2) o_ o_ o_;rw[d];generalize dy (x/2)=L at*;obtain⟨k,rfl⟩:∃k,L=k+1:=⟨L-1,o_⟩
   rw[show 1+(k+1)=k+2 by omega,show k+2-1=k+1 by omega,j7,j7];rw[j7]at i3;simp only[kF]at i2;omega
theorem Ua{x:Nat}(a:0<x)(h:x<2^64):dy x<=64:=by
 obtain⟨_,b,_⟩:=CI x x (kv _) a h;have:=(nc (show 1<2 by decide)).1 (kb b h);omega
def wH:Nat:=4294967296
theorem wHH:wH*wH=wB:=rfl
theorem QU{y:Nat}(a:0<y)(h:y<2^64):∃s,s<64/\dy y+s=64/\wB<=2*(y*2^s)/\y*2^s<wB:=by
 obtain⟨d,b,c⟩:=CI y y (kv _) a h;have e:=Ua a h;refine⟨64-dy y,o_,o_,?_,?_⟩
 ·have:=kc (2^(64-dy y)) b;rw[<-kx,show dy y-1+(64-dy y)=63 by omega]at this;simp only[wB];omega
 ·have:=lb c (j8 (show 0<2 by decide) (n:=64-dy y));rw[<-kx,show dy y+(64-dy y)=64 by omega]at this;simp only[wB];omega
structure WC(hi lo y s:Nat) where
 Y:Nat
 v1:Nat
 v0:Nat
 T:Nat
 u:Nat
 u1:Nat
 u0:Nat
 q1:Nat
 R:Nat
 q0:Nat
 hY:Y=y*2^s
 eY:Y=v1*wH+v0
 EX:v1<wH
 oI:v0<wH
 yL:wH<=2*v1
 BH:T<Y
 EF:hi*2^s<wB
 Jl:hi*2^s|||lo/2^(64-s)=T
 eu:u=lo*2^s% wB
 IK:u1=u/wH
 IJ:u0=u% wH
 EV:u1<wH
 EU:u0<wH
 sM:q1=hq wH v1 v0 T u1
 EO:q1<wH
 eR:R=T*wH+u1-q1*Y
 BF:R<Y
 V5:q1*Y<=T*wH+u1
 Bn:q0=hq wH v1 v0 R u0
 EN:q0<wH
 V4:q0*Y<=R*wH+u0
 HG:q1*wH+q0=(hi*wB+lo)/y
 rem:(R*wH+u0-q0*Y)/2^s=(hi*wB+lo)% y
theorem aLE{hi lo y:Nat}(o:hi<y)(F:y<wB)(z:lo<wB):∃s,s<64/\dy y+s=64/\Nonempty (WC hi lo y s):=by
 obtain⟨s,hs,t,H,m⟩:=QU (y:=y) o_ F;have g:=DJ hs;have a:0<2^s:=j8 d_;have v:0<2^(64-s):=j8 d_;refine⟨s,hs,t,⟨?_⟩⟩;have e0:y*2^s=y*2^s/wH*wH+y*2^s% wH:=by rw[j2 _ wH,km]
 have C:y*2^s% wH<wH:=kf _ d_;have D:y*2^s/wH<wH:=by rw[j3 d_];exact m
 have E:wH<=2*(y*2^s/wH):=by simp only[wH,wB]at*;omega
 have x:lo/2^(64-s)<2^s:=by rw[j3 v,g];exact z
 have r:hi*2^s<wB:=l5 (lb o a) m;have h:hi*2^s+lo/2^(64-s)<y*2^s:=by
  have:=kc (2^s) (show hi+1<=y from o);rw[kw,lc]at this;omega
 have A:hi*2^s|||lo/2^(64-s)=hi*2^s+lo/2^(64-s):=H4 x
 have n:lo*2^s% wB/wH<wH:=by rw[j3 d_];exact kf _ d_
 have b:lo*2^s% wB% wH<wH:=kf _ d_;have i:(hi*wB+lo)*2^s=((hi*2^s+lo/2^(64-s))*wH+lo*2^s% wB/wH)*wH+lo*2^s% wB% wH:=by
  have e1:lo*2^s=lo/2^(64-s)*wB+lo*2^s% wB:=by
   have e2:lo*2^s/wB=lo/2^(64-s):=by
    rw[<-g,j2 lo,Nat.mul_div_mul_left _ _ a]
   rw[<-e2,j2 _ wB,km]
  have e3:lo*2^s% wB=lo*2^s% wB/wH*wH+lo*2^s% wB% wH:=by rw[j2 _ wH,km]
  rw[kw,ll,e1,kw (_*wH),kp (_+_) wH wH,wHH,kw];generalize hi*2^s*wB=G;rw[<-e1];generalize lo*2^s% wB=a2,lo/2^(64-s)*wB=a3 at*;omega
 have l:0<y*2^s:=o_
 obtain⟨e,d⟩:=aMq (Y:=y*2^s) (U:=(hi*wB+lo)*2^s) (c:=wH) l;have j:(hi*wB+lo)*2^s/wH=(hi*2^s+lo/2^(64-s))*wH+lo*2^s% wB/wH:=by
  rw[i,kX,lk _ _ d_,ko b,ls]
 have k:(hi*wB+lo)*2^s% wH=lo*2^s% wB% wH:=by
  rw[i,kX,kO,j4 b]
 rw[j,k,mm _ _ a]at e;rw[j,k,j2 _ (2^s),j2 y,lw]at d;rw[j2 (2^s) y]at d;generalize w:y*2^s=Y,hi*2^s+lo/2^(64-s)=T,B:lo*2^s% wB=u at*;have r1:=R6 (T:=T) (c:=wH) (u1:=u/wH) (v1:=Y/wH) (v0:=Y% wH);rw[<-e0]at r1;have r0:=R6 (T:=(T*wH+u/wH)% Y) (c:=wH) (u1:=u% wH) (v1:=Y/wH) (v0:=Y% wH);rw[<-e0]at r0;have q:hq wH (Y/wH) (Y% wH) T (u/wH)=(T*wH+u/wH)/Y:=by rw[hq,<-e0]
 have p:hq wH (Y/wH) (Y% wH) ((T*wH+u/wH)% Y) (u% wH)=((T*wH+u/wH)% Y*wH+u% wH)/Y:=by rw[hq,<-e0]
 have f:(T*wH+u/wH)% Y<Y:=kf _ l;exact{
  Y:=Y,v1:=Y/wH,v0:=Y% wH,T:=T,u:=u,u1:=u/wH,u0:=u% wH
  q1:=hq wH (Y/wH) (Y% wH) T (u/wH),R:=(T*wH+u/wH)% Y,q0:=hq wH (Y/wH) (Y% wH) ((T*wH+u/wH)% Y) (u% wH)
  hY:=w.symm,eY:=e0,EX:=D,oI:=C,yL:=E,BH:=h,EF:=r,Jl:=A,eu:=B.symm,IK:=rfl,IJ:=rfl,EV:=n,EU:=b
  sM:=rfl,EO:=UA (by rw[<-e0];exact h) n,eR:=r1.symm,BF:=f
  V5:=by rw[q];exact la _ _
  Bn:=rfl,EN:=UA (by rw[<-e0];exact f) b
  V4:=by rw[p];exact la _ _
  HG:=by rw[q,p,<-e]
  rem:=by rw[r0,<-d,Nat.mul_div_cancel_left _ a]}
section
variable[Gl]{P:dd}{aq:dg->Bool}{q:Nat×Nat}
theorem vO{b:Code}{Q:bL->St->Prop}{s:St}{id:Nat}(R:St->Prop)(f:fT P aq q (.loop b) (vo id (vw R (fun _ _=>False))) s)(c:∀s',R s'->Q .normal s'):fT P aq q (.loop b) (vo id Q) s:=by
 refine rH _ (fun e s a=>?_) f;cases e with
 |normal=>exact c s a
 |exit i=>
  simp only[vo,tL]at a⊢
  by_cases d:i=id
  ·simp[d,vw]at a⊢;exact c s a
  ·simp[d,vw]at a
 |ret=>exact a.elim
end
theorem Qd(a:Nat)(b:a<wB):dp.wrap ((a% 2^dp.bits&&&4294967295% 2^dp.bits:Nat):Int)=(a% wH:Nat):=by
 rw[show(2^dp.bits:Nat)=wB from rfl,j4 b,show 4294967295% wB=2^32-1 from rfl,m6,Dl];rw[show(2:Nat)^32=wH from rfl,j4 (j5 (kf _ d_) (show wH<=wB by decide))]
theorem WA{a b c:Int}{R:Nat}(h:a+b-c=R)(hR:R<wB):dp.wrap (dp.wrap (dp.wrap a+b)-dp.wrap c)=R:=by
 show(((a% 18446744073709551616+b)% 18446744073709551616)-c% 18446744073709551616)% 18446744073709551616=R;have:R<18446744073709551616:=hR;omega
theorem Sm(hi lo y:Nat)(aB:hi<y)(ai:y<wB)(ag:lo<wB):al prog 322 [.int .u64 hi,.int .u64 lo,.int .u64 y] (.aE [.int .u64 ((hi*wB+lo)/y:Nat),.int .u64 ((hi*wB+lo)% y:Nat)]):=by
 refine gA_ nf func322 mix ?_;have G:¬(y:Int)=0:=o_
 have M:¬(y:Int)<=hi:=o_
 have ae:¬y<=hi:=o_
 have ad:¬y=0:=o_
 by_cases ac:hi=0
 ·subst ac;have af:dp.wrap ((lo:Int)/y)=(lo:Int)/y:=gM _ (gx o_ o_) (gy (g7 _ o_) o_);have aw:(lo:Int).tmod y=(lo:Int)% y:=Int.tmod_eq_emod_of_nonneg o_;simp[f322,G,M,ad,ae,af,aw]
 obtain⟨s,hs,aP,⟨Y,b,v0,T,u,u1,u0,q1,R,q0,ab,eY,EX,oI,yL,BH,EF,Jl,eu,IK,IJ,EV,EU,sM,EO,eR,BF,V5,Bn,EN,V4,HG,rem⟩⟩:=aLE aB ai ag;have az:=Tc y ai;obtain⟨t,ah⟩:∃t,t=64-s:=⟨_,rfl⟩
 have N:wH=4294967296:=rfl;have ax:wB=18446744073709551616:=rfl;have W:Y<wB:=by
  rw[N]at EX oI eY;rw[ax];omega
 have av:dp.wrap (64-((dy y:Nat):Int))=s:=by rw[gM _ o_ o_];omega
 have f2:dp.wrap (64-(s:Int))=t:=by rw[gM _ o_ o_];omega
 have f3:dp.wrap ((y:Int)*2^(min s dp.bits))=Y:=by rw[BB y s hs,<-ab,j4 W]
 have f4:(Y:Int).fdiv (2^(min 32 dp.bits))=b:=by
  rw[yF Y 32 o_];rw[N]at oI eY;congr 1;omega
 have f5:dp.wrap ((hi:Int)*2^(min s dp.bits))=(hi*2^s:Nat):=by rw[BB hi s hs,j4 EF]
 have f6:(lo:Int).fdiv (2^(min t dp.bits))=(lo/2^t:Nat):=yF lo t o_;have f7:=Jk (hi*2^s) (lo/2^t) EF (kb (lm _ _) ag);rw[ah,Jl,<-ah]at f7;have f8:dp.wrap ((lo:Int)*2^(min s dp.bits))=u:=by rw[BB lo s hs,<-eu]
 have aM:u<wB:=by rw[eu];exact kf _ d_
 have f9:(u:Int).fdiv (2^(min 32 dp.bits))=u1:=by
  rw[yF u 32 o_];congr 1;rw[IK];rfl
 have d:0<b:=by rw[N]at yL;omega
 have am:¬b=0:=o_
 have an:¬(b:Int)=0:=o_
 have aN:T<wB:=o_
 generalize hi*2^s=aO,lo/2^t=aQ at*;have aF:T/b<=wH+1:=Uz d (by rw[<-eY];exact BH) yL oI;have aK:T/b*b+T% b=T:=by rw[j2,km]
 have aR:T% b<b:=kf _ d;have aI:=R7 (T:=T) (u1:=u1) d oI EV;have g1:dp.wrap ((T:Int)/b)=(T/b:Nat):=by rw[gM _ (gx o_ o_) (gy (g7 _ o_) o_)];rfl
 generalize T/b=J,T% b=aj at*;have g2:dp.wrap ((T:Int)-dp.wrap ((J:Int)*b))=aj:=by
  have e:((J*b:Nat):Int)=(J:Int)*b:=by push_cast;rfl
  rw[gM ((J:Int)*b) o_ o_,gM _ o_ o_];omega
 have X:=Qd Y W;have aa:=Qd u aM;rw[show Y% wH=v0 by rw[eY,kX,kO,j4 oI]]at X;rw[<-IJ]at aa;have aY:b<4294967296:=EX;have aW:v0<4294967296:=oI;have aU:u1<4294967296:=EV;have aT:u0<4294967296:=EU;have aX:4294967296<=2*b:=yL;have aH:R/b<=wH+1:=Uz d (by rw[<-eY];exact BF) yL oI;have aL:R/b*b+R% b=R:=by rw[j2,km]
 have aS:R% b<b:=kf _ d;have aq:R<wB:=o_
 have aJ:=R7 (T:=R) (u1:=u0) d oI EU;have aC:dp.wrap ((R:Int)/b)=(R/b:Nat):=by rw[gM _ (gx o_ o_) (gy (g7 _ o_) o_)];rfl
 generalize R/b=K,R% b=ak at*;have aD:dp.wrap ((R:Int)-dp.wrap ((K:Int)*b))=ak:=by
  have e:((K*b:Nat):Int)=(K:Int)*b:=by push_cast;rfl
  rw[gM ((K:Int)*b) o_ o_,gM _ o_ o_];omega
 have ao:dp.wrap (dp.wrap (dp.wrap ((T:Int)*4294967296)+u1)-dp.wrap ((q1:Int)*Y))=R:=by
  refine WA (h:=?_) (hR:=aq);have e1:((T*wH:Nat):Int)=(T:Int)*4294967296:=by push_cast;rfl
  have e2:((q1*Y:Nat):Int)=(q1:Int)*Y:=by push_cast;rfl
  omega
 have M2:dp.wrap (dp.wrap ((q1:Int)*4294967296)+q0)=((q1*wH+q0:Nat):Int):=by
  have G:q1*4294967296+q0<18446744073709551616:=by
   have M:q1<4294967296:=EO;have af:q0<4294967296:=EN;omega
  rw[gM ((q1:Int)*4294967296) o_ o_,gM _ o_ o_];push_cast;rfl
 obtain⟨Z,O⟩:∃Z,Z=R*wH+u0-q0*Y:=⟨_,rfl⟩
 have ar:Z<wB:=by
  have G:Z/2^s<y:=by rw[O,rem];exact kf _ o_
  rw[j3 (j8 d_),<-ab]at G;omega
 have ap:dp.wrap (dp.wrap (dp.wrap ((R:Int)*4294967296)+u0)-dp.wrap ((q0:Int)*Y))=Z:=by
  refine WA (h:=?_) (hR:=ar);have e1:((R*wH:Nat):Int)=(R:Int)*4294967296:=by push_cast;rfl
  have e2:((q0*Y:Nat):Int)=(q0:Int)*Y:=by push_cast;rfl
  omega
 have L:=yF Z s o_;rw[O,rem]at L;rw[<-O]at L;rw[HG]at M2;simp[f322,G,M,ad,ae,ac];refine c1 az ?_;simp[av,f2,f3,f4,f5,f6,f7,f8,f9,am,an,g1,g2,X,aa];refine vO (fun s'=>aV s'.env 15=.p (.int .u64 q1)/\aV s'.env 14=.p (.int .u64 u0)/\aV s'.env 13=.p (.int .u64 u1)/\aV s'.env 11=.p (.int .u64 T)/\aV s'.env 10=.p (.int .u64 v0)/\aV s'.env 9=.p (.int .u64 b)/\aV s'.env 8=.p (.int .u64 s)/\aV s'.env 2=.p (.int .u64 Y)/\s'.heap=[]) ?_ ?_
 ·refine lp (α:=Nat×Nat) (fun a=>⟨[(16,.p (.int .u64 a.2)),(15,.p (.int .u64 a.1)),(14,.p (.int .u64 u0)),(13,.p (.int .u64 u1)),(11,.p (.int .u64 T)),(10,.p (.int .u64 v0)),(9,.p (.int .u64 b)),(8,.p (.int .u64 s)),(2,.p (.int .u64 Y))],[]⟩) (fun a=>a.1*b+a.2=T/\hq wH b v0 T u1<=a.1/\a.2<wH/\a.1<=wH+1) (fun a=>a.1) (J,aj) ⟨aK,aI,o_,aF⟩ ?_;rintro⟨x,r⟩ ⟨k1,k2,k3,k4⟩;dsimp only at k1 k2 k3 k4;have aE:r<4294967296:=k3;have V:x<=4294967297:=k4;have g:dp.wrap ((x:Int)*v0)=(x*v0:Nat):=by
   have:=m1 V (show v0<=4294967295 by omega);rw[gM _ (by rw[<-gm];omega) (by rw[<-gm];omega)];push_cast;rfl
  have q:dp.wrap (4294967296*(r:Int))=4294967296*r:=gM _ o_ o_;have v:dp.wrap (4294967296*(r:Int)+u1)=4294967296*r+u1:=gM _ o_ o_;have l:dp.wrap ((r:Int)+b)=r+b:=gM _ o_ o_
  by_cases i:4294967296<=x\/4294967296*r+u1<x*v0
  ·have kd:=Tu d (show 0<wH by decide) k1 k2 (i.imp (fun h=>⟨h,by rw[<-sM];exact EO⟩) id);obtain⟨k,rfl⟩:∃k,x=k+1:=⟨x-1,by
    rcases i with h|h
    ·omega
    ·rcases kD x with e|e
     ·rw[e]at h;omega
     ·omega⟩
   have j:dp.wrap (k:Int)=k:=gM _ o_ o_;have k5:k*b+(r+b)=T:=by rw[<-k1,kw];omega
   rw[kF]at kd;have kB:k<=wH+1:=o_
   by_cases P:4294967296<=r+b
   ·have hq:=Rg d (by rw[<-eY];exact BH) oI k5 P kd;have f:(4294967296:Int)<=(r:Int)+b:=by omega
    rw[<-sM]at hq;subst hq;rcases kz (k+1) 4294967296 with hc|hc
    ·have m:((k:Int)+1<4294967296):=by omega
     have c:¬((4294967296:Int)<=(k:Int)+1):=o_
     have n:(4294967296*(r:Int)+u1<((k+1)*v0:Nat)):=o_
     have o:4294967296*r+u1<(k+1)*v0:=o_
     generalize (k+1)*v0=I at*;push_cast at g;simp[g,q,v,j,l,m,c,n,o,f]
    ·have c:((4294967296:Int)<=(k:Int)+1):=by omega
     simp[j,l,c,f]
   ·have f:¬(4294967296:Int)<=(r:Int)+b:=by omega
    rcases kz (k+1) 4294967296 with hc|hc
    ·have m:((k:Int)+1<4294967296):=by omega
     have c:¬((4294967296:Int)<=(k:Int)+1):=o_
     have n:(4294967296*(r:Int)+u1<((k+1)*v0:Nat)):=o_
     have o:4294967296*r+u1<(k+1)*v0:=o_
     generalize (k+1)*v0=I at*;push_cast at g;simp[g,q,v,j,l,m,c,n,o,f];exact rd (k,r+b) ⟨k5,kd,show r+b<4294967296 by omega,kB⟩
    ·have c:((4294967296:Int)<=(k:Int)+1):=by omega
     simp[j,l,c,f];exact rd (k,r+b) ⟨k5,kd,show r+b<4294967296 by omega,kB⟩
  ·have aA:¬4294967296<=x:=fun h=>i (.inl h);have S:¬4294967296*r+u1<x*v0:=fun h=>i (.inr h);have hq:=Hw d (show 0<wH by decide) k1 k2 (n1.1 S);rw[<-sM]at hq;subst hq;have Q:¬(4294967296:Int)<=x:=by omega
   have U:¬(4294967296*(r:Int)+u1<(x*v0:Nat)):=o_
   generalize x*v0=I at*;simp[g,q,v,Q,U]
 rintro⟨au,ay⟩ ⟨w,z,A,B,C,D,E,F,H⟩;dsimp only at w z A B C D E F H;subst H;simp[w,z,A,B,C,D,E,F,ao,am,an,aC,aD];refine vO (fun s'=>aV s'.env 18=.p (.int .u64 q0)/\aV s'.env 15=.p (.int .u64 q1)/\aV s'.env 17=.p (.int .u64 R)/\aV s'.env 14=.p (.int .u64 u0)/\aV s'.env 10=.p (.int .u64 v0)/\aV s'.env 9=.p (.int .u64 b)/\aV s'.env 8=.p (.int .u64 s)/\aV s'.env 2=.p (.int .u64 Y)/\s'.heap=[]) ?_ ?_
 ·refine lp (α:=Nat×Nat) (fun a=>⟨[(16,.p (.int .u64 a.2)),(18,.p (.int .u64 a.1)),(15,.p (.int .u64 q1)),(17,.p (.int .u64 R)),(14,.p (.int .u64 u0)),(10,.p (.int .u64 v0)),(9,.p (.int .u64 b)),(8,.p (.int .u64 s)),(2,.p (.int .u64 Y))],[]⟩) (fun a=>a.1*b+a.2=R/\hq wH b v0 R u0<=a.1/\a.2<wH/\a.1<=wH+1) (fun a=>a.1) (K,ak) ⟨aL,aJ,o_,aH⟩ ?_ (he:=by simp[w,z,A,B,C,D,E,F]);rintro⟨x,r⟩ ⟨k1,k2,k3,k4⟩;dsimp only at k1 k2 k3 k4;have aE:r<4294967296:=k3;have V:x<=4294967297:=k4;have g:dp.wrap ((x:Int)*v0)=(x*v0:Nat):=by
   have:=m1 V (show v0<=4294967295 by omega);rw[gM _ (by rw[<-gm];omega) (by rw[<-gm];omega)];push_cast;rfl
  have q:dp.wrap (4294967296*(r:Int))=4294967296*r:=gM _ o_ o_;have v:dp.wrap (4294967296*(r:Int)+u0)=4294967296*r+u0:=gM _ o_ o_;have l:dp.wrap ((r:Int)+b)=r+b:=gM _ o_ o_
  by_cases i:4294967296<=x\/4294967296*r+u0<x*v0
  ·have kd:=Tu d (show 0<wH by decide) k1 k2 (i.imp (fun h=>⟨h,by rw[<-Bn];exact EN⟩) id);obtain⟨k,rfl⟩:∃k,x=k+1:=⟨x-1,by
    rcases i with h|h
    ·omega
    ·rcases kD x with e|e
     ·rw[e]at h;omega
     ·omega⟩
   have j:dp.wrap (k:Int)=k:=gM _ o_ o_;have k5:k*b+(r+b)=R:=by rw[<-k1,kw];omega
   rw[kF]at kd;have kB:k<=wH+1:=o_
   by_cases P:4294967296<=r+b
   ·have hq:=Rg d (by rw[<-eY];exact BF) oI k5 P kd;have f:(4294967296:Int)<=(r:Int)+b:=by omega
    rw[<-Bn]at hq;subst hq;rcases kz (k+1) 4294967296 with hc|hc
    ·have m:((k:Int)+1<4294967296):=by omega
     have c:¬((4294967296:Int)<=(k:Int)+1):=o_
     have n:(4294967296*(r:Int)+u0<((k+1)*v0:Nat)):=o_
     have o:4294967296*r+u0<(k+1)*v0:=o_
     generalize (k+1)*v0=I at*;push_cast at g;simp[g,q,v,j,l,m,c,n,o,f]
    ·have c:((4294967296:Int)<=(k:Int)+1):=by omega
     simp[j,l,c,f]
   ·have f:¬(4294967296:Int)<=(r:Int)+b:=by omega
    rcases kz (k+1) 4294967296 with hc|hc
    ·have m:((k:Int)+1<4294967296):=by omega
     have c:¬((4294967296:Int)<=(k:Int)+1):=o_
     have n:(4294967296*(r:Int)+u0<((k+1)*v0:Nat)):=o_
     have o:4294967296*r+u0<(k+1)*v0:=o_
     generalize (k+1)*v0=I at*;push_cast at g;simp[g,q,v,j,l,m,c,n,o,f];exact rd (k,r+b) ⟨k5,kd,show r+b<4294967296 by omega,kB⟩
    ·have c:((4294967296:Int)<=(k:Int)+1):=by omega
     simp[j,l,c,f];exact rd (k,r+b) ⟨k5,kd,show r+b<4294967296 by omega,kB⟩
  ·have aA:¬4294967296<=x:=fun h=>i (.inl h);have S:¬4294967296*r+u0<x*v0:=fun h=>i (.inr h);have hq:=Hw d (show 0<wH by decide) k1 k2 (n1.1 S);rw[<-Bn]at hq;subst hq;have Q:¬(4294967296:Int)<=x:=by omega
   have U:¬(4294967296*(r:Int)+u0<(x*v0:Nat)):=o_
   generalize x*v0=I at*;simp[g,q,v,Q,U]
 rintro⟨au,ay⟩ ⟨w,z,A,B,C,D,E,F,H⟩;dsimp only at w z A B C D E F H;subst H;simp[w,z,A,B,C,D,E,F,M2,ap,L]
def eD(j n:Nat)(g f:Nat->Nat)(k:Nat):Nat:=if j<=k/\k<j+n then f (k-j)else g k
theorem xl{j:Nat}{g f:Nat->Nat}:eD j 0 g f=g:=by
 funext k;rw[eD,if_neg o_]
theorem CX{m j i:Nat}{g f:Nat->Nat}{v:Nat}(a:f i=v):(cS m (eD j i g f)).set (j+i) (.p (.int .u64 v))=cS m (eD j (i+1) g f):=by
 refine tH ?_ fun k hk=>?_
 ·rw[eD,if_pos o_,l3,a]
 ·rw[eD,eD]
  by_cases h:j<=k/\k<j+i
  ·rw[if_pos h,if_pos o_]
  ·rw[if_neg h,if_neg o_]
theorem CY{m j i:Nat}{g f:Nat->Nat}(h:j+i<m):(cS m (eD j i g f))[j+i]?=some (.p (.int .u64 (g (j+i)))):=by
 rw[qw _ h,eD,if_neg o_]
theorem avJ{j n:Nat}{g f a:Nat->Nat}:eD j n (eD j n g f) a=eD j n g a:=by
 funext k;rw[eD,eD,eD];split<;>rfl
theorem aMb(X V m j n:Nat)(hn:(aw wB V).length=n)(F:2<=n)(bi:j+n+1<=m)(bl:m<=1000002)(aN:X<V*wB^(j+1)):
 c8 prog 325 [.arr .exact 0 1 (cS m (ag wB X))] [.sl 0 0 1 j (n+1),.p (eN V)] [.arr .exact 0 1 (cS m (ag wB (X% (V*wB^j))))] (.p (.int .u64 (X/(V*wB^j):Nat))):=by
 refine gz nf (i_ func325) mix (by simp[f325]) ?_;have l:=cU bB V;have H:wB^(n-1)<=V:=by
  rcases kz V (wB^(n-1))with h|h
  ·have:=fc bB (n-1) V h;omega
  ·exact h
 rw[hn]at l;have T:∀i(h:i<(aw wB V).length),(aw wB V)[i]=ag wB V i:=fun i h=>fI bB h;have aB:0<V:=GW bB F H;obtain⟨W,v⟩:∃W,X/wB^j=W:=⟨_,rfl⟩
 have ad:W<V*wB:=by
  rw[<-v,j3 (j8 d_),kp,j2 wB,<-j7];exact aN
 have S:W<wB^(n+1):=l5 ad (by rw[j7];exact lb l d_);have ai:∀i,i<n+1->(cS m (ag wB X))[j+i]?=some (.p (.int .u64 (ag wB W i))):=fun i hi=>by rw[qw _ o_,<-v,u5]
 have aQ:X/(V*wB^j)=W/V:=by rw[CG.2,v]
 have aE:∀f:Nat->Nat,(∀i,i<n+1->f i=ag wB (W% V) i)->cS m (eD j (n+1) (ag wB X) f)=cS m (ag wB (X% (V*wB^j))):=fun f hf=>Gg fun k hk=>by
  rw[CG.1,v,PB bB,eD]
  by_cases t:k<j
  ·rw[if_neg o_,if_pos t]
  ·rw[if_neg t]
   by_cases G:k<j+(n+1)
   ·rw[if_pos o_,hf _ o_]
   ·have e1:ag wB X k=0:=by
     obtain⟨e,rfl⟩:∃e,k=j+e:=⟨k-j,o_⟩
     rw[<-u5,v];exact l7 (j5 S (j6 d_ o_))
    have e2:ag wB (W% V) (k-j)=0:=l7 (j5 (kb (oj _ _) S) (j6 d_ o_));rw[if_neg o_,e1,e2]
 rw[aQ];simp only[eN];generalize aw wB V=x at*;have ay:∀i,i<n->i<x.length:=fun i h=>by omega
 have e1:dq.wrap ((n:Int)-1)=((n-1:Nat):Int):=by rw[aU _ o_ o_];omega
 have e2:dq.wrap ((n:Int)-2)=((n-2:Nat):Int):=by rw[aU _ o_ o_];omega
 obtain⟨b,C⟩:∃b,b=n-1:=⟨_,rfl⟩
 obtain⟨d,ak⟩:∃d,d=n-2:=⟨_,rfl⟩
 rw[<-C]at e1;rw[<-ak]at e2;have E:=T b o_;have aG:=T d o_;have a9:b<x.length:=o_
 have bb:d<x.length:=o_
 have K:x[b]?=some (ag wB V b):=by rw[hE a9,E]
 have a8:x[d]?=some (ag wB V d):=by rw[hE bb,aG]
 have N:b<n:=o_
 have U:d<n:=o_
 have O:b<n+1:=o_
 have Y:d<n+1:=o_
 have ar:=ai n o_;have g1:=ai b o_;have g2:=ai d o_;have aX:n=b+1:=o_
 have ax:W/wB^n=ag wB W n:=by
  rw[ag,j4];rw[j3 (j8 d_),j2,<-j7];exact S
 have ae:W/wB^b=ag wB W n*wB+ag wB W b:=by rw[wV,<-aX,ax]
 simp[f325,-ba,hn];rw[ba];simp[-ba,hn];rw[ba];simp[-ba,hn];rw[ba];simp[-ba,hn];rw[ba];simp[-ba,hn];refine join (fun s=>∃q r o:Nat,q*ag wB V b+(r+o*wB)=W/wB^b/\W/V<=q/\q<wB/\r<wB/\o<=1/\aV s.env 0=.sl 0 0 1 j (n+1)/\aV s.env 1=.p (.seq (x.map fun x:Nat=>.int .u64 x))/\aV s.env 5=.p (.int .i64 n)/\aV s.env 6=.p (.int .u64 q)/\aV s.env 7=.p (.int .u64 r)/\aV s.env 8=.p (.int .u64 o)/\s.heap=[.arr .exact 0 1 (cS m (ag wB X))]) ?_ ?_
 ·by_cases hc:ag wB V b<=ag wB W n
  ·have af:(ag wB V b:Int)<=ag wB W n:=by omega
   simp[e1,e2,E,K,N,O,ar,g1,af,hn,aa,aP,bZ];refine e3 (vg (ag wB W b) (ag wB V b) 0 o_) ?_;simp;have aI:=cX bB W b;have aq:=cX bB V b;have aJ:ag wB W n=ag wB V b:=by
    have:=(Hx bB o_ l ad).1;rw[ax,<-C]at this;omega
   refine⟨18446744073709551615,(ag wB W b+ag wB V b)% wB,(ag wB W b+ag wB V b)/wB,?_,?_,d_,kf _ d_,?_,rfl,rfl,rfl⟩
   ·rw[ae,aJ];simp only[wB];omega
   ·have:=(Hx bB o_ l ad).2;simp only[wB]at this;omega
   ·simp only[wB]at*;omega
  ·have af:¬(ag wB V b:Int)<=ag wB W n:=by omega
   simp[e1,e2,E,K,N,O,ar,g1,af,hn,aa,aP,bZ];refine e3 (Sm (ag wB W n) (ag wB W b) (ag wB V b) o_ (cX bB _ _) (cX bB _ _)) ?_;simp;have aI:=cX bB W b;have aq:=cX bB V b;refine⟨(ag wB W n*wB+ag wB W b)/ag wB V b,(ag wB W n*wB+ag wB W b)% ag wB V b,0,?_,?_,?_,?_,o_,rfl,rfl,rfl⟩
   ·rw[ae,l4,lW,j2,km]
   ·rw[<-ae,C];exact Sa bB F H l
   ·rw[j3 o_];have:=kc wB (show ag wB W n+1<=ag wB V b by omega);rw[kw,lc]at this;rw[j2 wB];omega
   ·exact l5 (kf _ o_) aq
 rintro⟨aK,aS⟩ ⟨q,r,o,k1,k2,k3,k4,k5,w,y,z,A,an,ao,J⟩;dsimp only at w y z A an ao J;subst J;simp[w,y,z,A,an,ao];refine vO (fun s=>∃q:Nat,W/V<=q/\q<=W/V+1/\q<wB/\aV s.env 0=.sl 0 0 1 j (n+1)/\aV s.env 1=.p (.seq (x.map fun x:Nat=>.int .u64 x))/\aV s.env 5=.p (.int .i64 n)/\aV s.env 6=.p (.int .u64 q)/\s.heap=[.arr .exact 0 1 (cS m (ag wB X))]) ?_ ?_
 ·have a0:q*ag wB V b+(r+o*wB)=W/wB^b/\W/V<=q/\q<wB/\r<wB/\o<=1:=⟨k1,k2,k3,k4,k5⟩
  clear k1 k2 k3 k4 k5;refine lp (α:=Nat×Nat×Nat) (fun a=>⟨[(8,.p (.int .u64 a.2.2)),(7,.p (.int .u64 a.2.1)),(6,.p (.int .u64 a.1)),(5,.p (.int .i64 n)),(1,.p (.seq (x.map fun x:Nat=>.int .u64 x))),(0,.sl 0 0 1 j (n+1))],[.arr .exact 0 1 (cS m (ag wB X))]⟩)
   (fun a=>a.1*ag wB V b+(a.2.1+a.2.2*wB)=W/wB^b/\W/V<=a.1/\a.1<wB/\a.2.1<wB/\a.2.2<=1) (fun a=>a.1) (q,r,o) a0 ?_ (he:=by simp[w,y,z,A,an,ao])
  rintro⟨q,r,o⟩ ⟨k1,k2,k3,k4,k5⟩;dsimp only at k1 k2 k3 k4 k5
  by_cases aY:o=0
  ·subst aY;rw[l4,lW]at k1;have R:=Dr q (ag wB V d) k3 (cX bB _ _);rw[show(18446744073709551616:Nat)=wB from rfl]at R;have be:=km (q*ag wB V d) wB;have bf:q*ag wB V d% wB<wB:=kf _ d_;have av:=fun h=>IQ bB F H l (by rw[<-C];exact k1) k3 (by rw[<-ak];exact h);have au:=fun h=>Tw (q:=q) (r:=r) bB F H l (by rw[<-C];exact k1) (by rw[<-ak];exact h);have bg:=cX bB W d;generalize q*ag wB V d% wB=lo,q*ag wB V d/wB=hi at*;generalize q*ag wB V d=P at*;have u:=vg r (ag wB V b) 0 o_;simp[e1,e2,E,K,aG,a8,N,O,U,Y,hn];refine c2 R ?_;rcases Nat.lt_trichotomy hi r with h|h|h
   ·have hI:(hi:Int)<r:=by omega
    simp[hI];refine⟨q,k2,av (by
     have:=kk wB (show hi+1<=r by omega);rw[li,mx,j2 wB r]at this;omega),k3,rfl⟩
   ·subst h
    by_cases bj:lo<=ag wB W d
    ·have hI:(lo:Int)<=ag wB W d:=by omega
     simp[hI,e2,g2,U,Y];exact⟨q,k2,av (by rw[j2 hi];omega),k3,rfl⟩
    ·have hI:¬(lo:Int)<=ag wB W d:=by omega
     have I:=au (by rw[j2 hi];omega);have a1:0<q:=kb (mp _) I;obtain⟨k,rfl⟩:∃k,q=k+1:=⟨q-1,o_⟩
     have w1:dp.wrap (k:Int)=k:=gM _ o_ o_;simp[hI,e1,e2,g2,N,O,U,Y,E,K,w1,aa,aP,bZ];refine c3 u ?_;simp;have z1:=kH (hi+ag wB V b) wB;have z2:k*ag wB V b+((hi+ag wB V b)% wB+(hi+ag wB V b)/wB*wB)=W/wB^b:=by
      rw[j2 _ wB,z1,<-k1,kw,lc,nk,kX hi]
     have z3:=cX bB V b;have z4:(hi+ag wB V b)/wB<=1:=by
      have z5:=k4;simp only[wB]at z3 z5⊢;omega
     exact rd (k,(hi+ag wB V b)% wB,(hi+ag wB V b)/wB) ⟨z2,ob.1 I,n2 k3,kf _ d_,z4⟩
   ·have hI:¬(hi:Int)<r:=by omega
    have aM:¬(hi:Int)=r:=o_
    have aO:=kk wB (show r+1<=hi by omega);rw[li,mx,j2 wB r]at aO;have I:=au o_;have a1:0<q:=kb (mp _) I;obtain⟨k,rfl⟩:∃k,q=k+1:=⟨q-1,o_⟩
    have w1:dp.wrap (k:Int)=k:=gM _ o_ o_;simp[hI,aM,e1,e2,g2,N,O,U,Y,E,K,w1,aa,aP,bZ];refine c3 u ?_;simp;have z1:=kH (r+ag wB V b) wB;have z2:k*ag wB V b+((r+ag wB V b)% wB+(r+ag wB V b)/wB*wB)=W/wB^b:=by
     rw[j2 _ wB,z1,<-k1,kw,lc,nk,kX r]
    have z3:=cX bB V b;have z4:(r+ag wB V b)/wB<=1:=by
     have z5:=k4;simp only[wB]at z3 z5⊢;omega
    exact rd (k,(r+ag wB V b)% wB,(r+ag wB V b)/wB) ⟨z2,ob.1 I,n2 k3,kf _ d_,z4⟩
  ·have aZ:o=1:=by omega
   subst aZ;simp;exact⟨q,k2,IQ bB F H l (by rw[<-C];exact k1) k3 (R9 bB o_ k3),k3,rfl⟩
 rintro⟨aK,aS⟩ ⟨q,k2,k3,k4,w,y,z,A,J⟩;dsimp only at w y z A J;subst J;have a2:q*V<wB^(n+1):=aqA k4 l;have aC:q*V<=W+wB^(n+1):=o_
 obtain⟨D,ac⟩:∃D,D=W+wB^(n+1)-q*V:=⟨_,rfl⟩
 have aF:∀i,i<n+1->al prog 334 [.int .u64 (ag wB W i),.int .u64 (ag wB (q*V) i),.int .u64 (gu wB (W+wB^(n+1)) (q*V) i)] (.aE [.int .u64 (ag wB D i),.int .u64 (gu wB (W+wB^(n+1)) (q*V) (i+1))]):=fun i hi=>by
  have h:=Ta aC i;rw[<-ac,Ag hi]at h;exact h
 have a4:∀i,(q*ag wB V i% wB+jQ wB V q i+0)% wB=ag wB (q*V) i/\dp.wrap (((q*ag wB V i/wB:Nat):Int)+((q*ag wB V i% wB+jQ wB V q i+0)/wB:Nat))=(jQ wB V q (i+1):Nat):=fun i=>by
  obtain⟨t,G⟩:=avd (q:=q) (V:=V) bB i;have aL:=aPJ (V:=V) bB k4 (i+1);rw[<-t,<-G];rw[<-G]at aL;generalize q*ag wB V i=P,jQ wB V q i=c at*;have e:P/wB+(P% wB+c+0)/wB=(P+c)/wB:=by simp only[wB];omega
  refine⟨by simp only[wB];omega,?_⟩;rw[gM _ o_ o_];omega
 have aR:=anO (V:=V) (q:=q) S a2;have a3:=avf bB k4 l;have bk:(cS m (ag wB X)).length=m:=RC _ _;simp[w,y,z,A];refine lp (α:=Nat) (fun i=>⟨[(105,.p (.int .i64 i)),(104,.p (.int .i64 n)),(12,.p (.int .u64 (jQ wB V q i:Nat))),(11,.p (.int .u64 (gu wB (W+wB^(n+1)) (q*V) i:Nat))),(6,.p (.int .u64 q)),(5,.p (.int .i64 n)),(1,.p (.seq (x.map fun x:Nat=>.int .u64 x))),(0,.sl 0 0 1 j (n+1))],[.arr .exact 0 1 (cS m (eD j i (ag wB X) (ag wB D)))]⟩)
  (fun i=>i<=n) (fun i=>n-i) 0 s_ ?_ (hn:=by simp[xl]) (he:=by simp[w,y,z,A,ase,F8]) (hh:=by simp[xl])
 intro i k5;have a6:=b8 (i:=i) o_
 by_cases hi:i<n
 ·have M:i<x.length:=ay i hi;have L:=T i M;have am:x[i]?=some (ag wB V i):=by rw[hE M,L]
  have R:=Dr q (ag wB V i) k4 (cX bB _ _);rw[show(18446744073709551616:Nat)=wB from rfl]at R;have u:=vg (q*ag wB V i% wB) (jQ wB V q i) 0 o_;obtain⟨r1,bc⟩:=a4 i;have Z:=aF i o_;rw[r1]at u;generalize q*ag wB V i% wB=lo,q*ag wB V i/wB=bh at*;generalize (lo+jQ wB V q i+0)/wB=c' at*;have aA:i<n+1:=o_
  have B:(cS m (eD j i (ag wB X) (ag wB D)))[j+i]?=some (.p (.int .u64 (ag wB W i))):=by rw[CY o_,<-v,u5]
  have ab:=CX (m:=m) (j:=j) (i:=i) (g:=ag wB X) (f:=ag wB D) rfl;simp[hn,hi,L,am];refine c2 R ?_;simp;refine c3 u ?_;simp[bc,aA,B];refine c3 Z ?_;simp[aA,B,ab,a6,aa,aP,bZ];exact rd (i+1) (show i+1<=n by omega)
 have aT:i=n:=o_
 subst aT;have B:(cS m (eD j i (ag wB X) (ag wB D)))[j+i]?=some (.p (.int .u64 (ag wB W i))):=by rw[CY o_,<-v,u5]
 have ab:=CX (m:=m) (j:=j) (i:=i) (g:=ag wB X) (f:=ag wB D) rfl;have Z:=aF i o_;rw[<-a3]at Z;simp[B];refine c3 Z ?_;rw[aR]
 by_cases aD:q*V<=W
 ·obtain⟨y1,y2⟩:=aPC aD k3 aB k2;have ah:=aE (ag wB D) fun k hk=>by rw[ac,<-y2];exact aPB aD hk
  have ap:(q:Int)=(W:Int)/V:=by rw[y1];rfl
  have aj:(if W<q*V then 1 else 0:Nat)=0:=if_neg o_;rw[aj];simp[B,ab,ah,<-ap,aa,aP,bZ]
 ·obtain⟨y1,y2⟩:=avj o_ k3 aB k2;have y3:=y2 (wB^(i+1)) aC;rw[<-ac]at y3;have ah:=aE (ag wB (D+V)) fun k hk=>by rw[y3,Ag hk]
  have aj:(if W<q*V then 1 else 0:Nat)=1:=if_pos o_;have ap:dp.wrap ((q:Int)-1)=(W:Int)/V:=by
   have e:((W/V:Nat):Int)=(W:Int)/V:=rfl;rw[<-e];generalize W/V=Q at*;rw[gM _ o_ o_];omega
  rw[aj];simp[B,ab,aa,aP,bZ];refine lp (α:=Nat) (fun k=>⟨[(157,.p (.int .i64 k)),(156,.p (.int .i64 i)),(17,.p (.int .u64 (dM wB D V k:Nat))),(6,.p (.int .u64 q)),(5,.p (.int .i64 i)),(1,.p (.seq (x.map fun x:Nat=>.int .u64 x))),(0,.sl 0 0 1 j (i+1))],[.arr .exact 0 1 (cS m (eD j k (eD j (i+1) (ag wB X) (ag wB D)) (ag wB (D+V))))]⟩)
   (fun k=>k<=i) (fun k=>i-k) 0 s_ ?_ (hn:=by simp[xl]) (he:=by simp[CB]) (hh:=by simp[xl])
  intro k k6;have a7:=b8 (i:=k) o_;have gk:(cS m (eD j k (eD j (i+1) (ag wB X) (ag wB D)) (ag wB (D+V))))[j+k]?=some (.p (.int .u64 (ag wB D k))):=by rw[CY o_,eD,if_pos o_,l3]
  have aH:=CX (m:=m) (j:=j) (i:=k) (g:=eD j (i+1) (ag wB X) (ag wB D)) (f:=ag wB (D+V)) rfl;obtain⟨t,G⟩:=uP bB D V k
  by_cases hk:k<i
  ·have M:k<x.length:=ay k hk;have L:=T k M;have am:x[k]?=some (ag wB V k):=by rw[hE M,L]
   have u:=vg (ag wB D k) (ag wB V k) (dM wB D V k) (pf bB _ _ _);rw[t,G]at u;have az:k<i+1:=o_
   simp[hn,hk,az,L,am,gk,aa,aP,bZ];refine e3 u ?_;simp[az,gk,aH,a7,aa,aP,bZ];refine⟨⟨by rfl,by rfl,by rfl⟩,?_⟩;exact rd (k+1) (show k+1<=i by omega)
  have aW:k=i:=o_
  subst aW;have a5:ag wB V k=0:=l7 l;rw[a5,lW]at t;have bd:dp.wrap ((ag wB D k:Int)+(dM wB D V k:Nat))=(ag wB (D+V) k:Nat):=by rw[<-hr,Dl,t]
  simp[gk,aH,bd,ap,ah,avJ,aa,aP,bZ]
theorem avG{a b i:Nat}(c:0<b):(a/wB^(i+1)% b*wB+ag wB a i)/b=ag wB (a/b) i/\(a/wB^(i+1)% b*wB+ag wB a i)% b=a/wB^i% b:=by
 have e:=wV (B:=wB) a i;have g:=km (a/wB^(i+1)) b;have f:a/wB^i=(a/wB^(i+1)% b*wB+ag wB a i)+a/wB^(i+1)/b*wB*b:=by
  rw[e];generalize ag wB a i=d;generalize a/wB^(i+1)/b=Q,a/wB^(i+1)% b=R at*;rw[<-g,kw,j2 b,ll Q b wB];omega
 have j:(a/wB^(i+1)% b*wB+ag wB a i)/b<wB:=by
  rw[j3 c];have k:=cX bB a i;have h:=kc wB (show a/wB^(i+1)% b+1<=b from kf _ c);rw[kw,lc]at h;rw[j2 wB];omega
 constructor
 ·conv=>rhs;rw[ag,j9,j2 b,<-j9,f,lk _ _ c,kO,j4 j]
 ·rw[f,kO]
def qF(Q i k:Nat):Nat:=if i<=k then ag wB Q k else 0
theorem Su{m Q i:Nat}:(cS m (qF Q (i+1))).set i (.p (.int .u64 (ag wB Q i)))=cS m (qF Q i):=by
 refine tH ?_ fun k hk=>?_
 ·rw[qF,if_pos (kv _)]
 ·rw[qF,qF]
  by_cases h:i<=k
  ·rw[if_pos h,if_pos o_]
  ·rw[if_neg h,if_neg o_]
theorem RP{m Q:Nat}:cS m (qF Q 0)=cS m (ag wB Q):=Gu fun k=>by rw[qF,if_pos (mp _)]
theorem RQ{m Q:Nat}:hM m (AV.p (.int .u64 0))=cS m (qF Q m):=by
 rw[Hc (f:=fun _=>0) (fun _=>rfl)];exact Gg fun k hk=>by rw[qF,if_neg o_]
theorem HK{m N:Nat}(h:N<wB^m)(b:m<=1048576):∃l:List Nat,l.length=m/\cS m (ag wB N)=l.map (AV.p∘fun x:Nat=>PV.int .u64 x)/\al prog 289 [.seq (eW l)] (eN N):=by
 refine⟨(hD m).map (ag wB N),s_,Hd m _,?_⟩;have a:=xN ((hD m).map (ag wB N)) (by simp;omega);rw[show fE ((hD m).map (ag wB N))=aw wB N from l8 bB h]at a;exact a
theorem tK{a b:Nat}:ie a b<0↔a<b:=by
 rw[ie];split
 ·simp[*]
 ·split<;>simp[*]
theorem aqn(r:Nat):((r:Int)% 2^dp.bits).toNat=r% 2^dp.bits:=by
 rw[show dp.bits=64 from rfl];omega
theorem aLI{b d n a s V:Nat}(g:b/wB^a=d)(h:n=a+1)(hs:s<64)(o:wB<=2*(d*2^s))(i:d*2^s<wB)(f:V=b*2^s):V<wB^n/\wB^n<=2*V:=by
 have m:0<wB^a:=j8 d_;have j:0<2^s:=j8 d_;have k:b<(d+1)*wB^a:=by
  rw[<-g,kw,lc];exact m4 m
 have l:(d+1)*2^s<=wB:=by
  have c:=DJ hs;have e:d<2^(64-s):=by
   rw[<-c,j2 d]at i;exact Nat.lt_of_mul_lt_mul_left i
  rw[<-c,j2];exact kk _ e
 constructor
 ·rw[f,h,j7,j2 _ wB];refine j5 (lb k j) ?_;rw[ll];exact kc _ l
 ·rw[f,h,j7,j2 _ wB];refine lu (kc _ o) ?_;have c:d*wB^a<=b:=by rw[<-g];exact la _ _
  have e:=kc (2^s) c;rw[kp 2,ll d];exact kk _ e
theorem av8{a n b s V:Nat}(f:a<wB^b)(hs:s<64)(e:wB^n<=2*V)(i:n<=b):a*2^s<V*wB^(b-n+1):=by
 have d:2*2^s<=wB:=by
  have c:2^(s+1)<=2^64:=j6 d_ hs;rw[j7,j2]at c;exact c
 have g:=kc (wB^(b-n+1)) e;rw[<-kx,show n+(b-n+1)=b+1 by omega,j7,kp]at g;have c:=kk a d;have h:=lb f (show 0<wB by decide);rw[m5]at c;generalize wB^b*wB=z1,V*wB^(b-n+1)=z2,a*2^s=z3,a*wB=z4 at*;clear d e f;omega
theorem aLJ{a b n d c:Nat}(h:a<wB^c)(f:0<b)(i:n=d+1)(g:wB^d<=b)(j:n<=c):a/b<wB^(c-n+1):=by
 rw[j3 f];refine j5 h ?_;have e:=kk (wB^(c-n+1)) g;rw[<-kx,show c-n+1+d=c by omega]at e;exact e
theorem av9{a b s k:Nat}(c:0<2^s):a*2^s% (b*2^s*wB^(k+1))/(b*2^s*wB^k)=ag wB (a/b) k:=by
 rw[j7,<-kp,l0,<-j9,mm _ _ c,ag]
theorem RD{n N:Nat}{f g:Nat->Nat}(hn:n<=N)(h:∀k,k<n->f k=g k):((hD N).map f).take n=(hD n).map g:=by
 rw[<-h8,List.take_range,nb hn];exact hQ fun k hk=>h k (h7.1 hk)
theorem G4(a b:Nat)(w:0<b)(a9:(aw wB a).length<=1000000)(bG:(aw wB b).length<=1000000):al prog 282 [eN a,eN b] (.aE [eN (a/b),eN (a% b)]):=by
 refine gA_ nf func282 mix ?_;have bc:=N7 a b o_ o_;simp[f282];refine c2 bc ?_
 by_cases G:a<b
 ·have E:=tK.2 G;simp[E,ko G,j4 G,eN,aw,qP]
 have E:¬ie a b<0:=fun h=>G (tK.1 h);have bf:∀i(h:i<(aw wB a).length),(aw wB a)[i]=ag wB a i:=fun i h=>fI bB h;have S:∀i(h:i<(aw wB b).length),(aw wB b)[i]=ag wB b i:=fun i h=>fI bB h;have z:=cU bB a;have q:=cU bB b
 by_cases I:(aw wB b).length=1
 ·rw[I,lt]at q;have T:((aw wB b).length:Int)=1:=by omega
  obtain⟨l,A,J,u⟩:=HK (m:=(aw wB a).length) (N:=a/b) (kb (lm _ _) z) o_;have aq:=xN [a% b] s_;have be:fE [a% b]=aw wB (a% b):=by
   have K:a% b<wB:=l5 (kf _ w) q;have:=l8 bB (m:=1) (n:=a% b) (by rw[lt];exact K);rw[<-this,row,i8,hJ,jp,ag,kC,lq,j4 K]
  rw[be]at aq;have ba:(aw wB b)[0]?=some b:=by
   rw[hE o_,S 0 o_,ag,kC,lq,j4 q]
  have bb:∀h:0<(aw wB b).length,(aw wB b)[0]'h=b:=fun h=>by rw[S 0 h,ag,kC,lq,j4 q]
  have aC:a/wB^(aw wB a).length% b=0:=by rw[ko z,np]
  simp only[eN]at u⊢;generalize aw wB (a/b)=bz,aw wB (a% b)=aQ,aw wB a=x,aw wB b=y at*;obtain⟨n,hn⟩:∃n,x.length=n:=⟨_,rfl⟩
  rw[hn]at A J aC a9;have e1:dq.wrap ((n:Int)-1)=n-1:=aU _ o_ o_;simp[E,I,T,hn,e1];refine⟨by simp only[dA];omega,?_⟩;rw[RQ (Q:=a/b)];refine lp (α:=Nat) (fun i=>⟨[(8,.p (.int .i64 ((i:Int)-1))),(7,.p (.int .u64 (a/wB^i% b:Nat))),(6,.sl 0 0 1 0 n),(1,.p (.seq (y.map fun x:Nat=>.int .u64 x))),(0,.p (.seq (x.map fun x:Nat=>.int .u64 x)))],[.arr .exact 0 1 (cS n (qF (a/b) i))]⟩)
   (fun i=>i<=n) (fun i=>i) n (kv _) ?_ (he:=by simp[aC])
  intro i k1
  by_cases hi:0<i
  ·obtain⟨k,rfl⟩:∃k,i=k+1:=⟨i-1,o_⟩
   have e2:dq.wrap ((k:Int)-1)=k-1:=aU _ o_ o_;have aN:k<x.length:=o_
   have hx:=bf k aN;have ab:x[k]?=some (ag wB a k):=by rw[hE aN,hx]
   have ap:=Sm (a/wB^(k+1)% b) (ag wB a k) b (kf _ w) q (cX bB _ _);obtain⟨r1,ad⟩:=avG (a:=a) (i:=k) w;rw[r1,ad]at ap;have aY:=Su (m:=n) (Q:=a/b) (i:=k);have gk:=qw (n:=n) (qF (a/b) (k+1)) (show k<n by omega);have aE:k<n:=o_
   generalize a/wB^(k+1)% b=bA at*;simp[hn,e2,hx,ab,ba,bb,I,aE,aa,aP,bZ];refine e3 ap ?_;simp[aY,gk,e2,aE,aa,aP,bZ];refine⟨by rfl,?_⟩;exact rd k (show k<=n by omega)
  ·obtain rfl:i=0:=by omega
   simp[RP,J];refine cp u (by simp[A];exact⟨rfl,rfl⟩) ?_ (h1:=by simp[eW,hG,A]);simp;refine cp aq (by simp;exact⟨rfl,rfl⟩) ?_ (h1:=by simp[eW]);simp;exact ch.refl _
 have bJ:2<=(aw wB b).length:=by
  rcases kz (aw wB b).length 1 with h|h
  ·have e:(aw wB b).length=0:=by omega
   rw[e,kC]at q;omega
  ·omega
 have T:¬((aw wB b).length:Int)=1:=o_
 obtain⟨n,hn⟩:∃n,(aw wB b).length=n:=⟨_,rfl⟩
 obtain⟨c,U⟩:∃c,(aw wB a).length=c:=⟨_,rfl⟩
 obtain⟨o,W⟩:∃o,n=o+1:=⟨n-1,o_⟩
 have az:wB^o<=b:=by
  rcases kz b (wB^o)with h|h
  ·have:=fc bB o b h;omega
  ·exact h
 obtain⟨d,H⟩:∃d,d=ag wB b o:=⟨_,rfl⟩
 have aB:d<wB:=by rw[H];exact cX bB _ _
 have ay:b/wB^o=d:=by
  rw[H,ag,j4];rw[j3 (j8 d_),j2,<-j7,show o.succ=n from W.symm,<-hn];exact q
 have bd:0<d:=by rw[<-ay];exact l2 az (j8 d_)
 obtain⟨s,hs,bF,bq,br⟩:=QU bd aB;have aI:=Tc d aB;obtain⟨V,C⟩:∃V,V=b*2^s:=⟨_,rfl⟩
 have B:0<2^s:=j8 d_;have a7:b<=V:=by rw[C];exact nm _ B
 have a6:0<V:=j5 w a7;obtain⟨av,a8⟩:=aLI ay W hs bq br C;have au:(aw wB V).length=n:=by
  have r:=fc bB n V av;rcases kz (aw wB V).length n with h|h
  ·have an:=j5 (cU bB V) (j6 (show 0<wB by decide) (show(aw wB V).length<=o by omega));omega
  ·omega
 have u:=HK (m:=n+1) (N:=V) (j5 av (j6 d_ o_)) o_;obtain⟨l,A,J,u⟩:=u;have Z:=P7 b s hs o_;have Y:=P7 a s hs o_;have ac:o<(aw wB b).length:=o_
 have hx:=S o ac;have ab:(aw wB b)[o]?=some d:=by rw[hE ac,hx,H]
 rw[hn,<-C]at Z;rw[U]at Y;have aK:n<=c:=by
  rcases kz c n with h|h
  ·have:=j5 z (j6 (show 0<wB by decide) (show(aw wB a).length<=o by omega));omega
  ·exact h
 rw[U]at z;have aZ:=av8 (n:=n) z hs a8 aK;have a1:=aLJ (n:=n) z w W az aK;have a2:a% b<wB^n:=l5 (kf _ w) (by rw[hn]at q;exact q);have bt:fE ((hD n).map (ag wB (a% b)))=aw wB (a% b):=l8 bB a2;have jg:∀X j,j+n+1<=c+1->X<V*wB^(j+1)->_:=fun X j r an=>aMb X V (c+1) j n au o_ r o_ an;simp only[eN]at u⊢Y Z jg;generalize aw wB V=bx,bu:aw wB (a/b)=bz,bK:aw wB (a% b)=aQ,aw wB a=x,aw wB b=y at*;have e1:dq.wrap ((n:Int)-1)=o:=by rw[aU _ o_ o_];omega
 have bp:(64:Int)-(dy d:Nat)=s:=o_
 rw[bp]at aI;rw[<-H]at hx;have bj:¬(n:Int)=1:=o_
 have bk:¬n=1:=o_
 simp[E,I,T,bj,bk,hn,e1,hx,ab,ac,aa,aP,bZ];refine c1 aI ?_;simp;refine Uj Z ?_;simp[J];refine cp u (by simp[A];exact⟨rfl,rfl⟩) ?_ (h1:=by simp[eW,hG,A]);simp;refine Uj Y ?_;obtain⟨m,aJ⟩:∃m,m=c-n:=⟨_,rfl⟩
 have e2:dq.wrap ((c:Int)-n)=m:=by rw[aU _ o_ o_];omega
 have e3:dq.wrap ((m:Int)+1)=m+1:=b8 o_;simp[au,U,e2,e3];refine⟨⟨o_,by simp only[dA];omega⟩,?_⟩;have ao:a*2^s% (V*wB^(m+1))=a*2^s:=j4 (by rw[aJ];exact aZ);rw[RQ (Q:=a/b)];refine vO (fun s'=>aV s'.env 9=.p (.int .i64 s)/\aV s'.env 11=.sl 1 0 1 0 (c+1)/\aV s'.env 12=.p (.int .i64 n)/\aV s'.env 13=.sl 2 0 1 0 (m+1)/\s'.heap=[.arr .frozen 0 1 (l.map (AV.p∘fun x:Nat=>PV.int .u64 x)),.arr .exact 0 1 (cS (c+1) (ag wB (a% b*2^s))),.arr .exact 0 1 (cS (m+1) (ag wB (a/b)))]) ?_ ?_
 ·refine lp (α:=Nat) (fun j=>⟨[(14,.p (.int .i64 ((j:Int)-1))),(13,.sl 2 0 1 0 (m+1)),(12,.p (.int .i64 n)),(11,.sl 1 0 1 0 (c+1)),(10,.p (.seq (bx.map fun x:Nat=>.int .u64 x))),(9,.p (.int .i64 s))],[.arr .frozen 0 1 (l.map (AV.p∘fun x:Nat=>PV.int .u64 x)),.arr .exact 0 1 (cS (c+1) (ag wB (a*2^s% (V*wB^j)))),.arr .exact 0 1 (cS (m+1) (qF (a/b) j))]⟩)
   (fun j=>j<=m+1) (fun j=>j) (m+1) (kv _) ?_ (hn:=by simp[ao]) (hh:=by simp[ao])
  intro j k1
  by_cases bI:0<j
  ·obtain⟨k,rfl⟩:∃k,j=k+1:=⟨j-1,o_⟩
   have e4:dq.wrap ((k:Int)-1)=k-1:=aU _ o_ o_;have e5:dq.wrap ((k:Int)+n)=k+n:=aU _ o_ o_;have e6:dq.wrap ((k:Int)+n+1)=k+n+1:=aU _ o_ o_;have aY:=jg (a*2^s% (V*wB^(k+1))) k o_ (kf _ (ms a6 (j8 d_)));have hq:a*2^s% (V*wB^(k+1))/(V*wB^k)=ag wB (a/b) k:=by
    rw[C];exact av9 B
   have K:a*2^s% (V*wB^(k+1))% (V*wB^k)=a*2^s% (V*wB^k):=by
    rw[j7,<-kp,lv]
   rw[hq,K]at aY;generalize a*2^s% (V*wB^(k+1))=X,ax:a*2^s% (V*wB^k)=bC at*;have aX:((k:Int)+n+1).toNat=k+n+1:=o_
   have f2:(0:Int)<=(k:Int)+n+1:=o_
   have f3:(k:Int)+n+1<=(c:Int)+1:=o_
   have f4:k<=k+n+1:=o_
   have f5:¬k=k+n+1:=o_
   have f6:k+n+1-k=n+1:=o_
   have f7:k<m+1:=o_
   have gk:=qw (n:=m+1) (qF (a/b) (k+1)) f7;have bw:=Su (m:=m+1) (Q:=a/b) (i:=k);simp[e4,e5,e6,RC,aX,f2,f3,f4,f5,f6];rw[show(if k=0 then({v:=.sl 1 0 1 0 (k+n+1),aA:=[(1,.arr .exact 0 1 (cS (c+1) (ag wB X)))]}:bg)else{v:=.sl 1 0 1 k (n+1),aA:=[(1,.arr .exact 0 1 (cS (c+1) (ag wB X)))]})={v:=.sl 1 0 1 k (n+1),aA:=[(1,.arr .exact 0 1 (cS (c+1) (ag wB X)))]}by split<;>simp[*]];simp;refine⟨o_,?_⟩;refine cf aY [1] ?_;simp[gk,bw,e4,f7,aa,aP,bZ];exact rd k (show k<=m+1 by omega) (hn:=by simp[ax]) (hh:=by simp[ax])
  ·obtain rfl:j=0:=by omega
   have a0:a*2^s% V=a% b*2^s:=by rw[C,n0]
   simp[RP,a0]
 rintro⟨bD,bH⟩ ⟨ae,af,ah,ai,aL⟩;dsimp only at ae af ah ai aL;subst aL;obtain⟨R,F⟩:∃R,R=a% b*2^s:=⟨_,rfl⟩
 rw[<-F];simp[ae,af,ah,ai];refine lp (α:=Nat) (fun i=>⟨[(97,.p (.int .i64 i)),(96,.p (.int .i64 n)),(13,.sl 2 0 1 0 (m+1)),(12,.p (.int .i64 n)),(11,.sl 1 0 1 0 (c+1)),(9,.p (.int .i64 s))],[.arr .frozen 0 1 (l.map (AV.p∘fun x:Nat=>PV.int .u64 x)),.arr .exact 0 1 (cS (c+1) (eD 0 i (ag wB R) (ag wB (a% b)))),.arr .exact 0 1 (cS (m+1) (ag wB (a/b)))]⟩)
  (fun i=>i<=n) (fun i=>n-i) 0 (mp _) ?_ (hn:=by simp[xl]) (he:=by simp[ae,af,ah,ai]) (hh:=by simp[xl])
 intro i k1;have L:=b8 (i:=i) o_
 by_cases hi:i<n
 ·have D:i<c+1:=by omega
  have aD:i+1<c+1:=o_
  have ak:(cS (c+1) (eD 0 i (ag wB R) (ag wB (a% b))))[i]?=some (.p (.int .u64 (ag wB R i))):=by
   have:=CY (m:=c+1) (j:=0) (i:=i) (g:=ag wB R) (f:=ag wB (a% b)) o_
   rwa [ls]at this
  have aj:=yF (ag wB R i) s o_;have bi:i<c:=o_
  by_cases am:0<s
  ·obtain⟨t,bs⟩:∃t,t=64-s:=⟨_,rfl⟩
   have aT:dq.wrap (64-(s:Int))=(t:Int):=by rw[aU _ o_ o_];omega
   have aW:=BB (ag wB R (i+1)) t o_;have aY:=DJ hs;rw[<-bs]at aY;have a4:0<2^t:=j8 d_;have bo:ag wB R i/2^s<2^t:=by rw[j3 B,j2,aY];exact cX bB _ _
   have aM:ag wB R (i+1)*2^t% wB=ag wB R (i+1)% 2^s*2^t:=by rw[<-aY,n0]
   have bn:ag wB R i/2^s|||(ag wB R (i+1)*2^t% wB)=ag wB (a% b) i:=by
    have r:=aQj B a4 R i;rw[aY,F,Nat.mul_div_cancel _ B,<-F]at r;rw[oi,aM,H4 bo,<-aM,r,kX]
   have P:=Jk (ag wB R i/2^s) (ag wB R (i+1)*2^t% wB) (kb (lm _ _) (cX bB _ _)) (kf _ d_);rw[bn]at P;generalize ag wB R i/2^s=r1,ag wB R (i+1)*2^t% wB=ad at*;have aR:dp.wrap ((r1% 2^dp.bits|||((ad:Int)% 2^dp.bits).toNat:Nat):Int)=(ag wB (a% b) i:Nat):=by
    rw[aqn];exact P
   have O:=tH (n:=c+1) (i:=i) (v:=r1) (f:=eD 0 i (ag wB R) (ag wB (a% b))) (g:=fun k=>if k=i then r1 else eD 0 i (ag wB R) (ag wB (a% b)) k) (if_pos rfl) (fun k hk=>if_neg hk);have g2:=qw (n:=c+1) (fun k=>if k=i then r1 else eD 0 i (ag wB R) (ag wB (a% b)) k) D;have g3:=qw (n:=c+1) (fun k=>if k=i then r1 else eD 0 i (ag wB R) (ag wB (a% b)) k) aD;rw[if_pos rfl]at g2;rw[if_neg o_,eD,if_neg o_]at g3;have bv:=tH (n:=c+1) (i:=i) (v:=ag wB (a% b) i) (f:=fun k=>if k=i then r1 else eD 0 i (ag wB R) (ag wB (a% b)) k) (g:=eD 0 (i+1) (ag wB R) (ag wB (a% b))) (by rw[eD,if_pos o_,ns]) (fun k hk=>by
    rw[if_neg hk,eD,eD]
    by_cases h:k<i
    ·rw[if_pos o_,if_pos o_]
    ·rw[if_neg o_,if_neg o_])
   generalize (fun k=>if k=i then r1 else eD 0 i (ag wB R) (ag wB (a% b)) k)=bE at*;simp[hi,D,ak,aj,am,L,O,aa,aP,bZ];simp[D,aD,bi,aT,L,g2,g3,aa,aP,bZ];simp[aW,P,aR,D,L,bv,g2,aa,aP,bZ];refine⟨o_,⟨by rfl,by rfl,by rfl,by rfl,by rfl⟩,?_⟩;exact rd (i+1) (show i+1<=n by omega)
  ·have aO:s=0:=by omega
   have a3:ag wB R i=ag wB (a% b) i:=by rw[F,aO,kC,mx]
   have O:=CX (m:=c+1) (j:=0) (i:=i) (g:=ag wB R) (f:=ag wB (a% b)) (v:=ag wB R i) a3.symm;rw[ls]at O;have aS:(ag wB R i:Int).fdiv (2^(min s dp.bits))=(ag wB R i:Nat):=by rw[aj,aO,kC,lq]
   simp[hi,D,ak,am,L,O,aS,aa,aP,bZ];exact rd (i+1) (show i+1<=n by omega)
 obtain rfl:i=n:=o_
 obtain⟨bL,aF,bl,ar⟩:=HK (m:=m+1) (N:=a/b) (by rw[aJ];exact a1) o_;obtain⟨M,aH,bm,a5⟩:∃M:List Nat,M.length=c+1/\cS (c+1) (eD 0 i (ag wB R) (ag wB (a% b)))=M.map (AV.p∘fun x:Nat=>PV.int .u64 x)/\al prog 289 [.seq (eW (M.take i))] (.seq (aQ.map fun x:Nat=>.int .u64 x)):=by
  refine⟨(hD (c+1)).map (eD 0 i (ag wB R) (ag wB (a% b))),s_,Hd _ _,?_⟩;have e:((hD (c+1)).map (eD 0 i (ag wB R) (ag wB (a% b)))).take i=(hD i).map (ag wB (a% b)):=by
   exact RD o_ fun k hk=>by rw[eD,if_pos o_,ns]
  rw[e];have r:=xN ((hD i).map (ag wB (a% b))) (by simp;omega);rw[bt]at r;exact r
 simp only[eN,bu]at ar;simp[bl,bm];refine ep ar (by simp[aF];exact⟨rfl,rfl⟩) (by simp;exact⟨rfl,rfl⟩) ?_ (h1:=by simp[eW,hG,aF]);simp[aH];refine⟨o_,?_⟩;have bh:i<=c+1:=o_
 refine ep a5 (by simp[aH,bh];exact⟨rfl,rfl⟩) (by simp;exact⟨rfl,rfl⟩) ?_ (h1:=by simp[eW,h8]);simp;rfl
def aL(k:Nat)(q:Rat):Prop:=q.num.natAbs<2^k/\q.den<2^k
theorem aL.mono{k l:Nat}{q:Rat}(h:aL k q)(a:k<=l):aL l q:=
 ⟨j5 h.1 (j6 o_ a),j5 h.2 (j6 o_ a)⟩
theorem o9{n:Int}{d:Nat}(h:d≠0):(ol n d).num=n/(mb n.natAbs d:Nat)/\(ol n d).den=d/mb n.natAbs d:=by
 have:ol n d=Rat.normalize n d h:=by
  rw[om];rfl
 rw[this,Rat.normalize_eq h];exact⟨rfl,rfl⟩
theorem Dv{n:Int}{d k:Nat}(h:d≠0)(a:n.natAbs<2^k)(b:d<2^k):aL k (ol n d):=by
 obtain⟨e1,e2⟩:=o9 (n:=n) h;refine⟨?_,?_⟩
 ·rw[e1];refine kb ?_ a;rw[Int.natAbs_ediv_of_dvd (hl.2 (n6 _ _))];exact lm _ _
 ·rw[e2];exact kb (lm _ _) b
theorem jK{a b:Nat}{x y:Rat}(h:aL a x)(c:aL b y):aL (a+b+1) (x+y):=by
 have e:x+y=ol (x.num*y.den+y.num*x.den) ((x.den*y.den:Nat):Int):=by rw[ot];rfl
 rw[e];have e1:2^(a+b+1)=2^a*2^b+2^a*2^b:=by rw[j7,kx];omega
 refine Dv (n7 x.den_nz y.den_nz) ?_ ?_
 ·rw[e1];refine kb (hp _ _) ?_;rw[gg,gg,gi,gi];have g1:=kL h.1 c.2;have g2:=kL c.1 h.2;rw[j2 (2^b)]at g2;omega
 ·have:=kL h.2 c.2;rw[e1];omega
theorem j0{a:Nat}{x:Rat}(h:aL a x):aL a (-x):=by
 refine⟨by rw[ou,ha];exact h.1,by rw[ov];exact h.2⟩
theorem gl{a b:Nat}{x y:Rat}(h:aL a x)(c:aL b y):aL (a+b+1) (x-y):=by
 rw[oq];exact jK h (j0 c)
theorem bh{a b:Nat}{x y:Rat}(h:aL a x)(c:aL b y):aL (a+b) (x*y):=by
 have e:x*y=ol (x.num*y.num) ((x.den*y.den:Nat):Int):=by
  rw[ox,om];rfl
 rw[e];refine Dv (n7 x.den_nz y.den_nz) ?_ ?_
 ·rw[gg,kx];exact kL h.1 c.1
 ·rw[kx];exact kL h.2 c.2
theorem atn{x:Rat}(h:x≠0):(x⁻¹).num=x.num.sign*x.den/\(x⁻¹).den=x.num.natAbs:=by
 have hn:x.num≠0:=fun e=>h (oo.1 e);have e:x⁻¹=ol (x.num.sign*x.den) (x.num.natAbs:Nat):=by
  rw[oz];rcases gt x.num 0 with h|h|h
  ·have e1:x.num.sign= -1:=Int.sign_eq_neg_one_of_neg h;have e2:((x.num.natAbs:Nat):Int)= -x.num:=by omega
   rw[e1,e2,show(-1*(x.den:Int))= -(x.den:Int)by omega,Rat.divInt_neg',Int.neg_neg]
  ·exact(hn h).elim
  ·have e1:x.num.sign=1:=Int.sign_eq_one_of_pos h;have e2:((x.num.natAbs:Nat):Int)=x.num:=by omega
   rw[e1,e2,Int.one_mul]
 have a:mb (x.num.sign*x.den).natAbs x.num.natAbs=1:=by
  rw[gg,g9 hn,lc,gi,nJ];exact x.reduced
 obtain⟨e1,e2⟩:=o9 (n:=x.num.sign*x.den) (d:=x.num.natAbs) o_;rw[e,e1,e2,a];simp
theorem lL{a:Nat}{x:Rat}(h:aL a x):aL a x⁻¹:=by
 by_cases b:x=0
 ·subst b;have:(0:Rat)⁻¹=0:=Rat.inv_zero;rw[this];exact h
 ·obtain⟨e1,e2⟩:=atn b;have hn:x.num≠0:=fun e=>b (oo.1 e);refine⟨?_,by rw[e2];exact h.1⟩;rw[e1,gg,g9 hn,lc,gi];exact h.2
theorem iq{a b:Nat}{x y:Rat}(h:aL a x)(c:aL b y):aL (a+b) (x/y):=by
 rw[oA];exact bh h (lL c)
theorem ke{k:Nat}{n:Int}(h:n.natAbs<2^k)(hk:0<k):aL k (n:Rat):=by
 refine⟨h,?_⟩;show(1:Nat)<2^k;exact Nat.one_lt_two_pow o_
structure NI where
 v:Int
 m:Bool
def NI.sm(a:NI):Bool:=decide (-9223372036854775808<a.v/\a.v<9223372036854775808)||(decide (a.v= -9223372036854775808)&&a.m)
def NI.of(n:Int):NI:=⟨n,true⟩
def NI.mk'(n:Int):NI:=⟨n,false⟩
def NI.neg(a:NI):NI:=.mk' (-a.v)
def NI.abs(a:NI):NI:=if a.v<0 then .mk' (-a.v)else a
def NI.add(a b:NI):NI:=⟨a.v+b.v,a.sm&&b.sm⟩
def NI.sub(a b:NI):NI:=a.add b.neg
def NI.mul(a b:NI):NI:=.mk' (a.v*b.v)
def NI.div(a b:NI):NI:=⟨a.v/b.v,decide (a.v% b.v≠0)⟩
def NI.mod(a b:NI):NI:=.mk' (a.v% b.v)
structure NF where
 q:Rat
 m:Bool
def NF.num(a:NF):NI:=⟨a.q.num,a.m⟩
def NF.den(a:NF):NI:=.mk' a.q.den
def NF.whole(a:NI):NF:=⟨a.v,a.m⟩
def NF.int(n:Int):NF:=⟨n,true⟩
def NF.gQ(a:NF):Bool:=decide (a.q.den=1)
def NF.add(a b:NF):NF:=⟨a.q+b.q,a.gQ&&b.gQ&&(a.num.sm&&b.num.sm)⟩
def NF.neg(a:NF):NF:=⟨-a.q,false⟩
def NF.sub(a b:NF):NF:=a.add b.neg
def NF.mul(a b:NF):NF:=⟨a.q*b.q,false⟩
def NF.inv(a:NF):NF:=⟨a.q⁻¹,false⟩
def NF.div(a b:NF):NF:=⟨a.q/b.q,false⟩
@[simp] theorem NI.vC(a b:NI):(a.add b).v=a.v+b.v:=rfl
@[simp] theorem NI.pF(a b:NI):(a.mul b).v=a.v*b.v:=rfl
@[simp] theorem NI.Jd(a:NI):a.neg.v= -a.v:=rfl
@[simp] theorem NI.Wl(a b:NI):(a.sub b).v=a.v-b.v:=by show a.v+-b.v=_;omega
@[simp] theorem NF.F1(a b:NF):(a.add b).q=a.q+b.q:=rfl
@[simp] theorem NF.aUd(a:NF):a.neg.q= -a.q:=rfl
@[simp] theorem NF.dJ(a b:NF):(a.sub b).q=a.q-b.q:=by show a.q+-b.q=_;rw[oq]
@[simp] theorem NF.Jc(a b:NF):(a.mul b).q=a.q*b.q:=rfl
@[simp] theorem NF.aTk(a:NF):a.inv.q=a.q⁻¹:=rfl
@[simp] theorem NF.aSg(a b:NF):(a.div b).q=a.q/b.q:=rfl
@[simp] theorem NF.aTj(n:Int):(NF.int n).q=n:=rfl
def gq(z:Int):PV:=.st 98 [.int .i64 z,.aM]
def nj(z:Int):PV:=.st 98 [.int .i64 (if z<0 then -1 else 1),eN z.natAbs]
def I4(p:PV)(z:Int):Prop:=(p=gq z/\-9223372036854775808<=z/\z<=9223372036854775807)\/(p=nj z/\9223372036854775808<=z.natAbs)
theorem Uo(a:NI):∃p,p=if a.sm=true then gq a.v else nj a.v:=⟨_,rfl⟩
noncomputable def eI(a:NI):PV:=ck (Uo a)
theorem lK(a:NI):eI a=if a.sm=true then gq a.v else nj a.v:=cd (Uo a)
theorem NI.D0{a:NI}(h:-9223372036854775808<a.v)(b:a.v<9223372036854775808):a.sm=true:=by
 simp[NI.sm,h,b]
theorem NI.tM{a:NI}(h:a.sm=true):-9223372036854775808<=a.v/\a.v<=9223372036854775807:=by
 simp only[NI.sm,b2,decide_eq_true_eq,b1]at h;omega
theorem NI.DM{a:NI}(h:¬a.sm=true):9223372036854775808<=a.v.natAbs:=by
 simp only[NI.sm,b2,decide_eq_true_eq,b1,not_or,not_and]at h;omega
theorem NI.VJ(z:Int):(NI.mk' z).sm=decide (-9223372036854775808<z/\z<9223372036854775808):=by
 rw[NI.sm,NI.mk',b4,Bool.or_false]
theorem NI.jP(z:Int):(NI.mk' z).v=z:=rfl
theorem pK(a:NI):I4 (eI a) a.v:=by
 rw[lK]
 by_cases h:a.sm=true
 ·rw[if_pos h];have:=NI.tM h;exact .inl ⟨rfl,this⟩
 ·rw[if_neg h];exact .inr ⟨rfl,NI.DM h⟩
theorem sA{z:Int}(h:-9223372036854775808<z)(a:z<9223372036854775808):eI (.mk' z)=gq z:=by
 rw[lK,NI.VJ,if_pos (by simp[h,a]),NI.jP]
theorem Un{z:Int}(h:9223372036854775808<=z.natAbs):eI (.mk' z)=nj z:=by
 rw[lK,NI.VJ,if_neg (by simp;omega),NI.jP]
theorem yc{z:Int}(h:-9223372036854775808<=z)(c:z<=9223372036854775807):eI (.of z)=gq z:=by
 rw[lK,if_pos]
 ·rfl
 ·by_cases b:z= -9223372036854775808
  ·subst b;rfl
  ·exact NI.D0 (a:=.of z) (by show _<z;omega) (by show z<_;omega)
@[simp] theorem bxN(u:dl)(h:¬u=345):(Gl.bx u:Option dl)=none:=by
 have a:m3 u 345=false:=by
  cases a:m3 u 345
  ·rfl
  ·exact(h (mo a)).elim
 show(bif m3 u 345 then some 346 else none)=none;rw[a];rfl
@[simp] theorem aRZ:(Gl.bx 345:Option dl)=some 346:=(rfl)
theorem nU:aw wB 0=[]:=by simp[aw,qP]
theorem xM{n:Nat}(a:0<n)(h:n<wB):aw wB n=[n]:=by
 have h1:=l8 bB (m:=1) (n:=n) (by rw[lt];exact h);rw[<-h1,row,i8,hJ,jp,ag,kC,lq,j4 h];have:=zK [] n o_
 rwa [iB]at this
theorem vM(n:Int):al prog 164 [.int .i64 n] (gq n):=by
 refine gA_ nf func164 mix ?_;simp[f164,gq]
theorem Ik(n:Int)(h:-9223372036854775808<=n)(a:n<=9223372036854775807):al prog 236 [.int .i64 n] (.int .u64 (n.natAbs:Nat)):=by
 refine gA_ nf func236 mix ?_
 by_cases hn:n<0
 ·have e:dp.wrap (dq.wrap (-n))=(n.natAbs:Nat):=by
   by_cases hm:n= -9223372036854775808
   ·subst hm;rfl
   ·rw[aU _ o_ o_,gM _ o_ (by simp only[wB];omega)];omega
  simp[f236,hn,e]
 ·have e:dp.wrap n=(n.natAbs:Nat):=by rw[gM _ o_ (by simp only[wB];omega)];omega
  simp[f236,hn,e]
theorem rT(p:PV)(z:Int)(h:I4 p z):al prog 237 [p] (.aE [.bool (decide (z<0)),eN z.natAbs]):=by
 refine gA_ nf func237 mix ?_;rcases h with⟨rfl,b,d⟩|⟨rfl,b⟩
 ·have hs:=Ik z b d
  by_cases a:z=0
  ·subst a;simp[f237,gq,eN,nU,eh,dC]
  ·simp[f237,gq,a,eh,dC];refine e1 hs ?_;simp[eN,xM (n:=z.natAbs) o_ (by simp only[wB];omega)]
   done
 ·have e:aw wB z.natAbs≠[]:=fun h=>by
   have:=cU bB z.natAbs;rw[h,hP,kC]at this;omega
  simp only[nj,eN];obtain⟨c,cs,hc⟩:=hK e;rw[hc];have hz:decide ((if z<0 then(-1:Int)else 1)<0)=decide (z<0):=by split<;>simp[*]
  generalize (if z<0 then(-1:Int)else 1)=f at*;simp[f237,eh,dC,hz]
theorem AN(neg:Bool)(n:Nat)(hn:(aw wB n).length<=1048576):al prog 238 [.bool neg,eN n] (eI (.mk' (if neg then -(n:Int)else n))):=by
 by_cases g:n=0
 ·subst g;rw[show(if neg=true then -((0:Nat):Int)else((0:Nat):Int))=0 by simp,sA d_ d_];refine gA_ nf func238 mix ?_;simp[f238,gq,eN,nU,eh,dC]
 by_cases o:n<=9223372036854775807
 ·have d:=xM (n:=n) o_ (by simp only[wB];omega);have hI:(n:Int)<=9223372036854775807:=by omega
  have w1:dq.wrap (n:Int)=n:=aU _ o_ o_;have f:dq.wrap (-(n:Int))= -n:=aU _ o_ o_;cases neg
  ·rw[if_neg d_,sA o_ o_];refine gA_ nf func238 mix ?_;simp[f238,gq,eN,d,hI,w1,f,eh,dC]
  ·rw[if_pos rfl,sA o_ o_];refine gA_ nf func238 mix ?_;simp[f238,gq,eN,d,hI,w1,f,eh,dC]
 ·have j:aw wB n≠[]:=fun h=>by
   have:=cU bB n;rw[h,hP,kC]at this;omega
  have e:(aw wB n).length=1->(aw wB n)[0]?=some n:=fun h=>by
   have a:=cU bB n;rw[h,lt]at a;rw[xM o_ a];rfl
  have hI:¬(n:Int)<=9223372036854775807:=o_
  have b:(if neg then -(n:Int)else n).natAbs=n:=by cases neg<;>simp
  have k:(if(if neg then -(n:Int)else n)<0 then(-1:Int)else 1)=if neg then -1 else 1:=by
   cases neg
   ·simp only[Bool.false_eq_true,if_false];rw[if_neg o_]
   ·simp only[if_true];rw[if_pos o_]
  rw[Un (by rw[b];omega)];refine gA_ nf func238 mix ?_;rw[nj,b,k];simp only[eN];obtain⟨c,cs,hc⟩:=hK j;rw[hc]at e⊢;rw[hc]at hn;cases cs with
  |nil=>
   have i:c=n:=by simpa using e rfl
   subst i;cases neg<;>simp[f238,hI,eh,dC]
  |cons c2 cs=>
   have l:¬((cs.length:Int)+1+1=1):=o_
   have m:¬((cs.length:Int)+1+1=0):=o_
   cases neg<;>simp[f238,l,m,eh,dC]
def okW(z:Int):Prop:=(aw wB z.natAbs).length<=900000
theorem aN3{p:PV}{z:Int}(h:I4 p z):∃a b,p=.st 98 [a,b]:=by
 rcases h with⟨rfl,_⟩|⟨rfl,_⟩
 ·exact⟨_,_,rfl⟩
 ·exact⟨_,_,rfl⟩
theorem AB(a:NI):∃x y,eI a=.st 98 [x,y]:=aN3 (pK a)
theorem xY(a:NI)(hz:okW a.v):al prog 231 [eI a] (eI a.neg):=by
 have h:=pK a;have d:=rT (eI a) a.v h;have b:=AN (!decide (a.v<0)) a.v.natAbs (by rw[okW]at hz;omega);have k:(if(!decide (a.v<0))=true then -((a.v.natAbs:Nat):Int)else a.v.natAbs)= -a.v:=by
  by_cases e:a.v<0
  ·simp[e];omega
  ·simp[e];omega
 rw[k]at b;rw[show a.neg=.mk' (-a.v)from rfl];generalize a.v=z,m:eI a=p at*;obtain⟨n,o,g⟩:=AB (.mk' (-z));rcases h with⟨rfl,i,l⟩|⟨rfl,i⟩
 ·by_cases f:z= -9223372036854775808
  ·rw[g]at b⊢;refine gA_ nf func231 mix ?_;subst f;simp only[gq]at d⊢;simp[f231,eh,dC];refine c1 d ?_;simp[eN]at b⊢;simp[aa,aP,bZ,c2 b]
  ·rw[sA o_ o_];have w:dq.wrap (-z)= -z:=aU _ o_ o_;refine gA_ nf func231 mix ?_;simp[f231,gq,f,w,eh,dC]
 ·rw[g]at b⊢;refine gA_ nf func231 mix ?_;have j:aw wB z.natAbs≠[]:=fun h=>by
   have:=cU bB z.natAbs;rw[h,hP,kC]at this;omega
  simp only[nj,eN]at d b⊢;obtain⟨c,cs,hc⟩:=hK j;rw[hc]at d b⊢;generalize (if z<0 then(-1:Int)else 1)=q at*;simp[f231,eh,dC];refine c1 d ?_;simp at b⊢;simp[aa,aP,bZ,c2 b]
theorem xQ(a:NI):al prog 241 [eI a] (.int .i64 (if a.v<0 then -1 else if a.v=0 then 0 else 1)):=by
 have h:=pK a;generalize a.v=z,eI a=p at*;refine gA_ nf func241 mix ?_;rcases h with⟨rfl,b,c⟩|⟨rfl,b⟩
 ·simp[f241,gq];rcases gt z 0 with h|h|h
  ·have e:z<1:=by omega
   simp[h,e];omega
  ·subst h;simp
  ·have e1:¬z<0:=by omega
   have e2:¬z=0:=o_
   have e3:¬z<1:=o_
   simp[e1,e2,e3]
 ·simp[f241,nj,eN]
  by_cases h:z<0
  ·simp[h]
  ·have e2:¬z=0:=by omega
   simp[h,e2]
theorem ark{z:Int}(h:-18446744073709551616<=z)(a:z<=18446744073709551614):dq.wrap z=if z< -9223372036854775808 then z+18446744073709551616 else if 9223372036854775807<z then z-18446744073709551616 else z:=by
 rw[dx]
 split
 ·omega
 ·split<;>omega
theorem rQ{z:Int}(h:okW z):(aw wB z.natAbs).length<=900000:=h
theorem an1{a b L:Nat}(c:(aw wB a).length<=L)(d:(aw wB b).length<=L):(aw wB (a+b)).length<=L+1:=by
 refine fc bB _ _ ?_;have e:=j5 (cU bB a) (j6 (show 0<wB by decide) c);have f:=j5 (cU bB b) (j6 (show 0<wB by decide) d);have g:2*wB^L<=wB^(L+1):=by rw[j7,j2];exact kk _ bB
 omega
theorem Y9{a b:Int}(i:okW a)(j:okW b):
 ((decide (a<0)=decide (b<0)/\al prog 238 [.bool (decide (a<0)),eN (a.natAbs+b.natAbs)] (eI (.mk' (a+b))))\/
  (decide (a<0)≠decide (b<0)/\b.natAbs<=a.natAbs/\al prog 238 [.bool (decide (a<0)),eN (a.natAbs-b.natAbs)] (eI (.mk' (a+b))))\/
  (decide (a<0)≠decide (b<0)/\a.natAbs<b.natAbs/\al prog 238 [.bool (decide (b<0)),eN (b.natAbs-a.natAbs)] (eI (.mk' (a+b))))):=by
 have m:=an1 (a:=a.natAbs) (b:=b.natAbs) i j;have l:∀n,n<=a.natAbs+b.natAbs->(aw wB n).length<=1048576:=fun n h=>by
  have:=fc bB _ _ (kb h (cU bB (a.natAbs+b.natAbs)));omega
 have f:∀(neg:Bool)(n:Nat),n<=a.natAbs+b.natAbs->(if neg then -(n:Int)else n)=a+b->al prog 238 [.bool neg,eN n] (eI (.mk' (a+b))):=fun neg n h e=>by
  have g:=AN neg n (l n h);rw[e]at g;exact g
 by_cases d:decide (a<0)=decide (b<0)
 ·have c:=f (decide (a<0)) (a.natAbs+b.natAbs) (kv _) (by
   by_cases h:a<0
   ·have:b<0:=by simpa[h]using d
    simp[h];omega
   ·have:¬b<0:=by simpa[h]using d
    simp[h];omega)
  exact .inl ⟨d,c⟩
 ·by_cases k:b.natAbs<=a.natAbs
  ·have c:=f (decide (a<0)) (a.natAbs-b.natAbs) o_ (by
    by_cases h:a<0
    ·have:¬b<0:=by simpa[h]using d
     simp[h];omega
    ·have:b<0:=by simpa[h]using d
     simp[h];omega)
   exact .inr (.inl ⟨d,k,c⟩)
  ·have c:=f (decide (b<0)) (b.natAbs-a.natAbs) o_ (by
    by_cases h:b<0
    ·have:¬a<0:=fun c=>d (by simp[h,c]);simp[h];omega
    ·have:a<0:=by
      by_cases c:a<0
      ·exact c
      ·exact(d (by simp[h,c])).elim
     simp[h];omega)
   exact .inr (.inr ⟨d,o_,c⟩)
theorem Ib(a:NI):(eI a=gq a.v/\a.sm=true/\-9223372036854775808<=a.v/\a.v<=9223372036854775807)\/(a.sm=false/\∃d c cs,eI a=.st 98 [.int .i64 d,.seq (c::cs)]):=by
 by_cases h:a.sm=true
 ·left;exact⟨by rw[lK,if_pos h],h,NI.tM h⟩
 ·right;refine⟨by simpa using h,?_⟩;have e:=NI.DM h;have b:aw wB a.v.natAbs≠[]:=fun h=>by
   have:=cU bB a.v.natAbs;rw[h,hP,kC]at this;omega
  obtain⟨c,cs,hc⟩:=hK b;rw[lK,if_neg h,nj,eN,hc];exact⟨_,_,_,rfl⟩
theorem A9(a b:NI)(B:okW a.v)(D:okW b.v):al prog 251 [eI a,eI b] (eI (a.add b)):=by
 have o:=rT (eI a) a.v (pK a);have q:=rT (eI b) b.v (pK b);have U:=rQ B;have V:=rQ D;have t:=N7 a.v.natAbs b.v.natAbs o_ o_;have C:=aq7 a.v.natAbs b.v.natAbs o_ o_;have y:=Y9 B D;have yH:=Ib a;have G:=Ib b
 by_cases u:(a.sm=true/\b.sm=true)/\-9223372036854775808<=a.v+b.v/\a.v+b.v<=9223372036854775807
 ·obtain⟨⟨g,k⟩,d,i⟩:=u;rw[show eI a=gq a.v by rw[lK,if_pos g],show eI b=gq b.v by rw[lK,if_pos k],show a.add b=.of (a.v+b.v)by rw[NI.add,g,k];rfl,yc d i];generalize a.v=a,b.v=b at*;refine gA_ nf func251 mix ?_;have w:=aU (a+b) d i;have e:(decide (a<a+b)==decide (0<b))=true:=by
   have:a<a+b↔0<b:=o_
   simp[this]
  simp[f251,gq,w,eh,dC,e]
 have F:eI (a.add b)=eI (.mk' (a.v+b.v)):=by
  by_cases h:-9223372036854775808<a.v+b.v/\a.v+b.v<9223372036854775808
  ·rw[sA h.1 h.2,lK,if_pos (NI.D0 h.1 h.2)];rfl
  ·by_cases i:(a.sm&&b.sm)=true
   ·have H:a.sm=true/\b.sm=true:=by simpa using i
    have I:¬(-9223372036854775808<=a.v+b.v/\a.v+b.v<=9223372036854775807):=fun h=>u ⟨H,h⟩;rw[Un o_,lK,if_neg,NI.vC];intro g;have:=NI.tM g;rw[NI.vC]at this;omega
   ·rw[NI.add,NI.mk'];rw[show(a.sm&&b.sm)=false by simpa using i]
 rw[F];clear F;obtain⟨M,N,J⟩:=AB a;obtain⟨O,P,K⟩:=AB b;obtain⟨Y,Z,L⟩:=AB (.mk' (a.v+b.v));rw[L]at y⊢;rw[J]at o yH⊢;rw[K]at q G⊢;generalize a.v=f,b.v=bv at*;refine gA_ nf func251 mix ?_;simp[f251,-ba];rw[ba];simp[-ba];refine join (fun s=>aV s.env 2=.ptr 0 []/\aV s.env 3=.ptr 1 []/\aV s.env 4=.ptr 2 []/\s.heap=[.box false (.p (.st 98 [M,N])),.box false (.p (.st 98 [O,P])),.box false (.p (.st 98 [.int .i64 0,.aM]))]) ?_ ?_
 ·clear y t C o q;rcases yH with⟨d,j,i,g⟩|⟨j,Q,c,cs,d⟩
  ·simp only[gq,PV.st.injEq,j1,and_true,true_and]at d;obtain⟨rfl,rfl⟩:=d;rcases G with⟨k,A,S,T⟩|⟨A,Q,c,cs,k⟩
   ·simp only[gq,PV.st.injEq,j1,and_true,true_and]at k;obtain⟨rfl,rfl⟩:=k;have I:¬(-9223372036854775808<=f+bv/\f+bv<=9223372036854775807):=fun h=>u ⟨⟨j,A⟩,h⟩;have w:=ark (z:=f+bv) o_ o_;have e:¬(f<dq.wrap (f+bv)↔0<bv):=by
     rw[w]
     by_cases W:0<bv
     ·rw[if_neg o_,if_pos o_];omega
     ·rw[if_pos o_];omega
    simp[eh,dC,e]
   ·simp only[PV.st.injEq,j1,and_true,true_and]at k;obtain⟨rfl,rfl⟩:=k;simp[eh,dC]
  ·simp only[PV.st.injEq,j1,and_true,true_and]at d;obtain⟨rfl,rfl⟩:=d;simp[eh,dC]
 rintro⟨R,X⟩ ⟨l,m,n,E⟩;dsimp only at l m n E;subst E;simp[l,m,n];refine c1 o ?_;simp[l,m,n,aa,aP,bZ];refine c1 q ?_;rcases y with⟨d,g⟩|⟨d,i,g⟩|⟨d,i,g⟩
 ·have j:(f<0↔bv<0):=by simpa using d
  rw[d]at g;simp(maxDischargeDepth:=99) [l,m,n,j,aa,aP,bZ,c2 C,c2 g]
 ·have j:¬(f<0↔bv<0):=by simpa using d
  have r:0<=ie f.natAbs bv.natAbs:=by
   have h:=mt tK.1 (show¬f.natAbs<bv.natAbs by omega);omega
  have x:=OT f.natAbs bv.natAbs i o_;simp(maxDischargeDepth:=99) [l,m,n,j,aa,aP,bZ,r,c2 t,c2 x,c2 g]
 ·have j:¬(f<0↔bv<0):=by simpa using d
  have r:¬0<=ie f.natAbs bv.natAbs:=by have:=tK.2 i;omega
  have x:=OT bv.natAbs f.natAbs o_ o_;simp(maxDischargeDepth:=99) [l,m,n,j,aa,aP,bZ,r,c2 t,c2 x,c2 g]
@[simp] theorem aUy(a:NI):aP (eI a)=.agg 98:=by
 obtain⟨x,y,h⟩:=AB a;rw[h];rfl
theorem Wc(a:NI):∃z:Int,z=if a.sm=true then a.v else if a.v<0 then -1 else 1:=⟨_,rfl⟩
noncomputable def sI(a:NI):Int:=ck (Wc a)
theorem DN(a:NI):sI a=if a.sm=true then a.v else if a.v<0 then -1 else 1:=cd (Wc a)
theorem Wz(a:NI):∃p:PV,p=if a.sm=true then .aM else eN a.v.natAbs:=⟨_,rfl⟩
noncomputable def wI(a:NI):PV:=ck (Wz a)
theorem H3(a:NI):wI a=if a.sm=true then .aM else eN a.v.natAbs:=cd (Wz a)
@[simp] theorem aLY(a:NI):cz (eI a)=[.int .i64 (sI a),wI a]:=by
 by_cases h:a.sm=true
 ·rw[lK,DN,H3,if_pos h,if_pos h,if_pos h];rfl
 ·rw[lK,DN,H3,if_neg h,if_neg h,if_neg h];rfl
theorem Wd(a:NI):sI a<0↔a.v<0:=by
 rw[DN];split
 ·exact Iff.rfl
 ·split<;>omega
theorem pG{a:NI}(h:a.sm=true):wI a=.aM:=by rw[H3,if_pos h]
theorem so{a:NI}(h:a.sm=false):∃c cs,wI a=.seq (c::cs):=by
 rcases Ib a with⟨_,b,_⟩|⟨_,e,c,cs,d⟩
 ·rw[h]at b;exact absurd b d_
 ·refine⟨c,cs,?_⟩;have:=aLY a;rw[d]at this;simp[cz]at this;exact this.2.symm
theorem qI{a:NI}(h:a.sm=true):sI a=a.v:=by rw[DN,if_pos h]
theorem IC(a b:NI)(d:okW a.v)(c:okW b.v):al prog 240 [eI a,eI b] (eI (a.sub b)):=by
 refine gA_ nf func240 mix ?_;have e:okW b.neg.v:=by simpa[okW]using c
 simp[f240];refine e1 (xY b c) ?_;simp;refine e2 (A9 a b.neg d e) ?_;simp[aa];exact Wk.refl _
theorem Ub(a:NI)(c:okW a.v):al prog 319 [eI a] (eI a.abs):=by
 refine gA_ nf func319 mix ?_
 by_cases h:a.v<0
 ·have b:=(Wd a).2 h;have e:a.abs=a.neg:=by rw[NI.abs,if_pos h];rfl
  simp[f319,aa,b,aa,e,c1 (xY a c)]
 ·have b:=mt (Wd a).1 h;have e:a.abs=a:=by rw[NI.abs,if_neg h]
  simp[f319,aa,b,e]
def mM(x y:Int):Int:=if x<y then -1 else if x=y then 0 else 1
theorem Uc(a b:NI)(l:okW a.v)(m:okW b.v):al prog 142 [eI a,eI b] (.int .i64 (mM a.v b.v)):=by
 refine gA_ nf func142 mix ?_;have o:(a.sm=true/\b.sm=true)\/¬(a.sm=true/\b.sm=true):=cx _;rcases o with⟨d,k⟩|d
 ·have w1:=pG d;have f:=pG k;have i:=qI d;have j:=qI k;rcases gt a.v b.v with h|h|h
  ·have e:mM a.v b.v= -1:=by rw[mM,if_pos h]
   simp[f142,aa,w1,f,i,j,h,e,eh,dC]
  ·have e:mM b.v b.v=0:=by rw[mM,if_neg o_,if_pos rfl]
   have d:¬a.v<b.v:=o_
   simp[f142,aa,w1,f,i,j,h,e,eh,dC]
  ·have e:mM a.v b.v=1:=by rw[mM,if_neg o_,if_neg o_]
   have d:¬a.v<b.v:=o_
   simp[f142,aa,w1,f,i,j,h,d,e,eh,dC]
 ·have e:(if(a.sub b).v<0 then(-1:Int)else if(a.sub b).v=0 then 0 else 1)=mM a.v b.v:=by
   rw[NI.Wl,mM];rcases gt a.v b.v with h|h|h
   ·rw[if_pos o_,if_pos h]
   ·rw[if_neg o_,if_pos o_,if_neg o_,if_pos h]
   ·rw[if_neg o_,if_neg o_,if_neg o_,if_neg o_]
  have g:=xQ (a.sub b);rw[e]at g;rcases hs:a.sm with _|_
  ·obtain⟨c,cs,w1⟩:=so hs;simp[f142,aa,w1,eh,dC,c2 (IC a b l m),c1 g]
  ·have w1:=pG hs;obtain⟨c,cs,f⟩:=so (a:=b) (by cases n:b.sm with|false=>rfl|true=>exact(d ⟨hs,n⟩).elim);simp[f142,aa,w1,f,eh,dC,c2 (IC a b l m),c1 g]
theorem an0{a b L M:Nat}(e:(aw wB a).length<=L)(f:(aw wB b).length<=M):(aw wB (a*b)).length<=L+M:=by
 refine fc bB _ _ ?_;have c:=j5 (cU bB a) (j6 (show 0<wB by decide) e);have d:=j5 (cU bB b) (j6 (show 0<wB by decide) f);rw[kx];exact kL c d
theorem Eb(a b:NI)(F:(aw wB a.v.natAbs).length+(aw wB b.v.natAbs).length<=900000):al prog 141 [eI a,eI b] (eI (a.mul b)):=by
 have D:=rT (eI a) a.v (pK a);have hq:=rT (eI b) b.v (pK b);have C:=aq5 a.v.natAbs b.v.natAbs o_;have G:=an0 (kv (aw wB a.v.natAbs).length) (kv (aw wB b.v.natAbs).length);have w:=AN (decide (a.v<0)!=decide (b.v<0)) (a.v.natAbs*b.v.natAbs) o_;have e:(if(decide (a.v<0)!=decide (b.v<0))=true then -((a.v.natAbs*b.v.natAbs:Nat):Int)else(a.v.natAbs*b.v.natAbs:Nat))=a.v*b.v:=by
  rw[<-gg];rcases g5 a.v 0 with f|f
  ·rcases g5 b.v 0 with d|d
   ·have:=Int.mul_nonneg_of_nonpos_of_nonpos (g6 f) (g6 d);simp[f,d];omega
   ·have:=Int.mul_nonpos_of_nonpos_of_nonneg (g6 f) d;have l:¬b.v<0:=by omega
    simp[f,l];omega
  ·have l:¬a.v<0:=by omega
   rcases g5 b.v 0 with d|d
   ·have:=Int.mul_nonpos_of_nonneg_of_nonpos f (g6 d);simp[l,d];omega
   ·have:=Int.mul_nonneg f d;have A:¬b.v<0:=by omega
    simp[l,A];omega
 rw[e]at w;rw[show a.mul b=.mk' (a.v*b.v)from rfl];refine gA_ nf func141 mix ?_;simp[f141,-ba];rw[ba];simp[-ba];refine join (fun s=>aV s.env 2=.ptr 0 []/\aV s.env 3=.ptr 1 []/\aV s.env 4=.ptr 2 []/\s.heap=[.box false (.p (eI a)),.box false (.p (eI b)),.box false (.p (.st 98 [.int .i64 0,.aM]))]) ?_ ?_
 ·rcases hs:a.sm with _|_
  ·obtain⟨c,cs,w1⟩:=so hs;simp[aa,w1,eh,dC]
  ·have w1:=pG hs;rcases m:b.sm with _|_
   ·obtain⟨c,cs,g⟩:=so m;simp[aa,w1,g,eh,dC]
   ·have g:=pG m;have n:=qI hs;have o:=qI m;have r1:=NI.tM hs;have y:=NI.tM m;have z1:=Ik a.v r1.1 r1.2;have z2:=Ik b.v y.1 y.2;have M:=Dr a.v.natAbs b.v.natAbs o_ o_;obtain⟨H,t⟩:∃H,H=a.v.natAbs*b.v.natAbs/18446744073709551616:=⟨_,rfl⟩
    obtain⟨L,q⟩:∃L,L=a.v.natAbs*b.v.natAbs% 18446744073709551616:=⟨_,rfl⟩
    rw[<-t,<-q]at M;have B:a.v.natAbs*b.v.natAbs=H*18446744073709551616+L:=o_
    clear t q
    by_cases c1:H=0/\L<=9223372036854775807
    ·obtain⟨rfl,q⟩:=c1;have u:(L:Int)<=9223372036854775807:=by omega
     have r:dq.wrap (L:Int)=L:=aU _ o_ o_;have z:dq.wrap (-(L:Int))= -L:=aU _ o_ o_;rw[B]at e;simp only[l4,ls]at e;rw[sA (by rw[<-e];split<;>omega) (by rw[<-e];split<;>omega),gq]
     by_cases c2:a.v<0↔b.v<0
     ·rw[if_neg (by simp[c2])]at e;rw[<-e];simp(maxDischargeDepth:=99) [aa,w1,g,n,o,eh,dC,u,c2,r,e1 z1,e1 z2,e2 M]
     ·rw[if_pos (by simp[c2])]at e;rw[<-e];simp(maxDischargeDepth:=99) [aa,w1,g,n,o,eh,dC,u,c2,r,z,e1 z1,e1 z2,e2 M]
    ·simp[aa,w1,g,n,o,eh,dC];refine e1 z1 ?_;simp[n,o];refine e1 z2 ?_;simp;refine e2 M ?_
     by_cases c2:H=0
     ·have c3:¬(L:Int)<=9223372036854775807:=fun h=>c1 ⟨c2,o_⟩;simp[c2,c3]
     ·have c3:¬(H:Int)=0:=by omega
      simp[c2,c3]
 ·rintro⟨E,I⟩ ⟨i,j,k,x⟩;dsimp only at i j k x;subst x;simp[i,j,k];refine c1 D ?_;simp[i,j,k];refine c1 hq ?_;simp[i,j,k];refine c2 C ?_;simp;refine c2 w ?_;simp[i,j,k,aa]
  done
theorem qK{a b:NI}(h:a.v=b.v)(d:a.v= -9223372036854775808->a.m=b.m):eI a=eI b:=by
 by_cases c:a.v= -9223372036854775808
 ·have:=d c;cases a;cases b;dsimp only at h this;subst h this;rfl
 ·have e:a.sm=b.sm:=by
   simp only[NI.sm,h];rw[h]at c;simp[c]
  rw[lK,lK,e,h]
theorem awa{a b:Int}(c:0<b):(a.tdiv b=a/b/\a.tmod b=a% b/\¬a.tmod b<0)\/(a.tdiv b-1=a/b/\a.tmod b+b=a% b/\a.tmod b<0/\a/b<0):=by
 have f:=Int.tmod_add_mul_tdiv a b;have g:=ho a c;have i:=hg a c
 by_cases h:a.tmod b<0
 ·right;have e:=(gj (a:=a) (r:=a.tmod b+b) (q:=a.tdiv b-1) c).2 ⟨by rw[hB];omega,o_,o_⟩;have j:a<0:=by
   rcases g5 a 0 with d|d
   ·exact d
   ·have:=Int.tmod_nonneg b d;omega
  have d:a/b<0:=hd c o_;omega
 ·left;have e:=(gj (a:=a) (r:=a.tmod b) (q:=a.tdiv b) c).2 ⟨o_,o_,o_⟩;omega
theorem aLF{a b:Int}(c:0<b):((if a<0 then -((a.natAbs% b.natAbs:Nat):Int)else(a.natAbs% b.natAbs:Nat))<0/\a/b=(if a<0 then -((a.natAbs/b.natAbs:Nat):Int)else(a.natAbs/b.natAbs:Nat))-1/\a% b=(if a<0 then -((a.natAbs% b.natAbs:Nat):Int)else(a.natAbs% b.natAbs:Nat))+b)\/
 (¬(if a<0 then -((a.natAbs% b.natAbs:Nat):Int)else(a.natAbs% b.natAbs:Nat))<0/\a/b=(if a<0 then -((a.natAbs/b.natAbs:Nat):Int)else(a.natAbs/b.natAbs:Nat))/\a% b=(if a<0 then -((a.natAbs% b.natAbs:Nat):Int)else(a.natAbs% b.natAbs:Nat))):=by
 have e:((b.natAbs:Nat):Int)=b:=o_
 have f:=kH a.natAbs b.natAbs;have g:=kf a.natAbs (show 0<b.natAbs by omega);have i:((a.natAbs% b.natAbs:Nat):Int)+b*(a.natAbs/b.natAbs:Nat)=(a.natAbs:Nat):=by
  rw[<-e,<-gm,<-hr,e,f]
 generalize a.natAbs% b.natAbs=r,a.natAbs/b.natAbs=q at*
 by_cases h:a<0
 ·simp only[if_pos h]
  by_cases j:r=0
  ·right;have d:=(gj (a:=a) (r:=0) (q:=-(q:Int)) c).2 ⟨by rw[hC];omega,o_,o_⟩;omega
  ·left;have d:=(gj (a:=a) (r:=-(r:Int)+b) (q:=-(q:Int)-1) c).2 ⟨by rw[hB,hC];omega,o_,o_⟩;omega
 ·simp only[if_neg h];right;have d:=(gj (a:=a) (r:=(r:Int)) (q:=(q:Int)) c).2 ⟨o_,o_,o_⟩;omega
theorem QB(a b:NI)(i:0<b.v)(J:okW a.v)(w:okW b.v):al prog 320 [eI a,eI b] (.aE [eI (a.div b),eI (a.mod b)]):=by
 have S:=rT (eI a) a.v (pK a);have hq:=rT (eI b) b.v (pK b);have ac:=rQ J;have ad:=rQ w;have L:=G4 a.v.natAbs b.v.natAbs o_ o_ o_;refine gA_ nf func320 mix ?_;simp[f320,-ba];rw[ba];simp[-ba];refine join (fun s=>aV s.env 2=.ptr 0 []/\aV s.env 3=.ptr 1 []/\aV s.env 4=.ptr 2 []/\aV s.env 5=.ptr 3 []/\s.heap=[.box false (.p (eI a)),.box false (.p (eI b)),.box false (.p (.st 98 [.int .i64 0,.aM])),.box false (.p (.st 98 [.int .i64 0,.aM]))]) ?_ ?_
 ·rcases hs:a.sm with _|_
  ·obtain⟨c,cs,w1⟩:=so hs;simp[aa,w1,eh,dC]
  ·have w1:=pG hs;rcases m:b.sm with _|_
   ·obtain⟨c,cs,l⟩:=so m;simp[aa,w1,l,eh,dC]
   ·have l:=pG m;have q:=qI hs;have r:=qI m;have r1:=NI.tM hs;have ai:=NI.tM m
    by_cases o:a.v= -9223372036854775808
    ·simp[aa,w1,l,q,r,o,eh,dC]
    ·have n:¬b.v=0:=by omega
     have B:-9223372036854775808<a.v/b.v:=by
      have:=Int.le_ediv_of_mul_le (a:=-9223372036854775807) (b:=a.v) i o_;omega
     have C:a.v/b.v<9223372036854775808:=hd i o_;have D:=g0 a.v i;have E:=g8 a.v n;have G:eI (a.div b)=gq (a.v/b.v):=by rw[lK,if_pos (NI.D0 B C)];rfl
     have f2:eI (a.mod b)=gq (a.v% b.v):=sA o_ o_;rw[G,f2];have ag:=ho a.v i;have af:=hg a.v i;rcases awa (a:=a.v) i with⟨d1,d2,d3⟩|⟨d1,d2,d3,d4⟩
     ·have q1:dq.wrap (a.v.tdiv b.v)=a.v/b.v:=by rw[d1];exact aU _ o_ o_
      simp[aa,w1,l,q,r,o,n,eh,dC,gq,d3,q1];exact d2.symm
     ·have q1:dq.wrap (dq.wrap (a.v.tdiv b.v)-1)=a.v/b.v:=by rw[aU (a.v.tdiv b.v) o_ o_,d1];exact aU _ o_ o_
      have W:dq.wrap (a.v.tmod b.v+b.v)=a.v% b.v:=by rw[d2];exact aU _ o_ o_
      simp[aa,w1,l,q,r,o,n,eh,dC,gq,d3,q1,W]
 ·rintro⟨X,ae⟩ ⟨d,e,f,g,x⟩;dsimp only at d e f g x;subst x;have N:(aw wB (a.v.natAbs/b.v.natAbs)).length<=900000:=by
   have:=fc bB _ _ (kb (lm a.v.natAbs b.v.natAbs) (cU bB a.v.natAbs));omega
  have O:(aw wB (a.v.natAbs% b.v.natAbs)).length<=900000:=by
   have:=fc bB _ _ (kb (oj a.v.natAbs b.v.natAbs) (cU bB a.v.natAbs));omega
  have z:=AN (decide (a.v<0)) (a.v.natAbs/b.v.natAbs) o_;have A:=AN (decide (a.v<0)) (a.v.natAbs% b.v.natAbs) o_;have M:=aLF (a:=a.v) i;simp only[decide_eq_true_eq]at z A;have ah:=kf a.v.natAbs (show 0<b.v.natAbs by omega);generalize a.v.natAbs/b.v.natAbs=k,a.v.natAbs% b.v.natAbs=j at*;have ab:-b.v<(if a.v<0 then -(j:Int)else(j:Int)):=by split<;>omega
  have I:a.v<0->(if a.v<0 then -(j:Int)else(j:Int))<=0:=fun h=>by rw[if_pos h];omega
  have U:okW (if a.v<0 then -(k:Int)else(k:Int)):=by rw[okW];split<;>simpa using N
  have V:okW (if a.v<0 then -(j:Int)else(j:Int)):=by rw[okW];split<;>simpa using O
  have T:(if a.v<0 then -(k:Int)else(k:Int))= -9223372036854775808->a.v<0:=by split<;>omega
  generalize (if a.v<0 then -(k:Int)else(k:Int))=Q,(if a.v<0 then -(j:Int)else(j:Int))=R at*;have u:=xQ (.mk' R);simp only[NI.jP]at u;have D:=g0 a.v i;have E:=g8 a.v (show b.v≠0 by omega);simp[d,e,f,g];refine c1 S ?_;simp[d,e,f,g];refine c1 hq ?_;simp[d,e,f,g];refine c2 L ?_;simp;refine c2 z ?_;simp;refine c2 A ?_;simp[d,e,f,g,aa];refine c1 u ?_;rcases M with⟨d1,d2,d3⟩|⟨d1,d2,d3⟩
  ·have y:=IC (.mk' Q) (.of 1) U (by rw[okW];decide);have K:=A9 (.mk' R) b V w;rw[yc d_ d_]at y;have g1:eI (a.div b)=eI ((NI.mk' Q).sub (.of 1)):=by
    refine qK (by rw[NI.Wl];exact d2) (fun h=>?_);have F:Q= -9223372036854775807:=by have:a.v/b.v= -9223372036854775808:=h;omega
    have P:¬a.v% b.v=0:=o_
    subst F;show decide (a.v% b.v≠0)=_;simp[P];rfl
   have g2:eI (a.mod b)=eI ((NI.mk' R).add b):=qK (by rw[NI.vC];exact d3) (fun h=>by have:a.v% b.v= -9223372036854775808:=h;omega);rw[g1,g2];simp[d,e,f,g,aa,d1];refine e1 (vM 1) ?_;simp[d,e,f,g,aa];refine e2 y ?_;simp[d,e,f,g,aa];refine e2 K ?_;simp[d,e,f,g,aa];exact⟨rfl,rfl⟩
  ·have g1:eI (a.div b)=eI (.mk' Q):=by
    refine qK d2 (fun h=>?_);have Y:a.v/b.v= -9223372036854775808:=h;have Z:=I (T o_);have H:a.v% b.v=0:=o_
    show decide (a.v% b.v≠0)=false;simp[H]
   have g2:eI (a.mod b)=eI (.mk' R):=qK d3 (fun h=>by have:a.v% b.v= -9223372036854775808:=h;omega);rw[g1,g2]
   by_cases t:R=0
   ·simp[d,e,f,g,aa,t]
   ·simp[d,e,f,g,aa,d1,t]
theorem u6{a b:Int}(h:okW b)(c:a.natAbs<=b.natAbs):okW a:=by
 have:=fc bB _ _ (kb c (cU bB b.natAbs));have:=rQ h;rw[okW];omega
theorem Ue(a b:NI)(e:0<b.v)(d:okW a.v)(f:okW b.v):al prog 280 [eI a,eI b] (eI (a.div b)):=by
 have c:=xQ b;rw[if_neg o_,if_neg o_]at c;refine gA_ nf func280 mix ?_;simp[f280];refine c1 c ?_;simp;refine c2 (QB a b e d f) ?_;simp[aa]
 done
theorem NI.Ds(a:NI):a.abs.v.natAbs=a.v.natAbs:=by
 rw[NI.abs];split
 ·rw[NI.jP,ha]
 ·rfl
theorem NI.T4(a:NI):0<=a.abs.v:=by
 rw[NI.abs];split
 ·rw[NI.jP];omega
 ·omega
def fM(a b:Int):Int:=(mb a.natAbs b.natAbs:Nat)
theorem Ud(a b:NI)(j:okW a.v)(k:okW b.v):al prog 279 [eI a,eI b] (eI (.mk' (fM a.v b.v))):=by
 refine gA_ nf func279 mix ?_;simp[f279];refine e1 (Ub a j) ?_;simp;refine e1 (Ub b k) ?_;simp[aa];refine⟨⟨rfl,rfl⟩,?_⟩;have n:fM a.abs.v b.abs.v=fM a.v b.v:=by rw[fM,fM,NI.Ds,NI.Ds]
 refine lp (α:=NI×NI) (fun x=>⟨[(4,.ptr 2 []),(3,.ptr 1 []),(2,.ptr 0 [])],[.box false (.p (eI x.1)),.box false (.p (eI x.2)),.box false (.p (.st 98 [.int .i64 0,.aM]))]⟩)
  (fun x=>0<=x.1.v/\0<=x.2.v/\okW x.1.v/\okW x.2.v/\fM x.1.v x.2.v=fM a.v b.v) (fun x=>x.2.v.toNat) (a.abs,b.abs) ⟨NI.T4 a,NI.T4 b,u6 j (nF (NI.Ds a)),u6 k (nF (NI.Ds b)),n⟩ ?_
 rintro⟨x,y⟩ ⟨l,g,i,c,f⟩;dsimp only at l g i c f;have d:=xQ y
 by_cases e:y.v=0
 ·rw[if_neg o_,if_pos e]at d;have hx:eI (.mk' (fM a.v b.v))=eI x:=by
   refine qK ?_ (fun h=>?_)
   ·rw[NI.jP,<-f,e,fM];simp;omega
   ·rw[NI.jP,fM]at h;omega
  rw[hx];simp[aa,c1 d]
 ·rw[if_neg o_,if_neg e]at d;have q:=g0 x.v (show 0<y.v by omega);have o:=g8 x.v e;have m:(x.v% y.v).natAbs=x.v.natAbs% y.v.natAbs:=by
   have e1:(x.v.natAbs:Int)=x.v:=o_
   have e2:(y.v.natAbs:Int)=y.v:=o_
   have e3:((x.v.natAbs% y.v.natAbs:Nat):Int)=x.v% y.v:=by rw[Int.natCast_emod,e1,e2]
   omega
  simp;refine c1 d ?_;simp[aa];refine c2 (QB x y o_ i c) ?_;simp[aa];refine⟨rfl,?_⟩;refine rd (y,x.mod y) ⟨g,o,c,u6 c (by show(x.v% y.v).natAbs<=_;omega),?_⟩ (by show(x.v% y.v).toNat<y.v.toNat;omega);show fM y.v (x.v% y.v)=_;rw[<-f,fM,fM,m,nJ y.v.natAbs,<-Nat.gcd_rec,nJ]
theorem aPq{o x k A:Nat}(hx:1<=x)(d:1<=o)(h:o*x^k=A)(hk:1<=k):o*x<=A/\(2<=k->x*x<=A):=by
 have a:x<=x^k:=by
  calc x=x^1:=(lt x).symm
   _<=x^k:=j6 hx hk
 refine⟨by rw[<-h];exact kk _ a,fun b=>?_⟩;have c:x*x<=x^k:=by
  calc x*x=x^2:=by rw[oe]
   _<=x^k:=j6 hx b
 rw[<-h];exact lu c (nI _ d)
theorem aDb(a:NI)(n A:Nat)(E:1<=a.v)(q:A=a.v.natAbs^n)(J:(aw wB A).length<=400000)(F:(aw wB a.v.natAbs).length<=400000)(hn:n<=1000000):al prog 265 [eI a,.int .i64 n] (eI (.mk' A)):=by
 refine gA_ nf func265 mix ?_;simp[f265];refine c1 (vM 1) ?_;rw[show gq 1=eI (.of 1)from(yc d_ d_).symm];simp[aa];refine lp (α:=Nat×NI×NI) (fun s=>⟨[(1,.p (.int .i64 s.1)),(5,.ptr 2 []),(4,.ptr 1 []),(2,.ptr 0 [])],[.box false (.p (eI s.2.1)),.box false (.p (.st 98 [.int .i64 0,.aM])),.box false (.p (eI s.2.2))]⟩)
  (fun s=>s.1<=n/\1<=s.2.1.v/\1<=s.2.2.v/\(0<s.1->s.2.2.v.natAbs*s.2.1.v.natAbs^s.1=A)/\(s.1=0->s.2.2.v.natAbs=A)/\(aw wB s.2.1.v.natAbs).length<=400000) (fun s=>s.1) (n,a,.of 1) ⟨kv _,E,(by decide:(1:Int)<=1),fun _=>by rw[q];show(1:Int).natAbs*_=_;simp,fun h=>by have h:n=0:=h;rw[q,h,kC];rfl,F⟩ ?_
 rintro⟨k,x,o⟩ ⟨C,c,i,b,l,m⟩;dsimp only at C c i b l m
 by_cases k0:k=0
 ·subst k0;have e:eI (.mk' A)=eI o:=by
   refine qK ?_ (fun h=>?_)
   ·rw[NI.jP,<-l rfl];omega
   ·rw[NI.jP]at h;omega
  rw[e];simp[aa]
 have b:=b o_;have r:=aPq (o:=o.v.natAbs) (x:=x.v.natAbs) o_ o_ b o_;have d:dq.wrap (k% 2^dq.bits&&&1% 2^dq.bits:Nat)=(k% 2:Nat):=by
  rw[show(2^dq.bits:Nat)=18446744073709551616 from rfl,j4 (show k<18446744073709551616 by omega),show 1% 18446744073709551616=2^1-1 from rfl,m6];exact aU _ o_ o_
 have hs:(k:Int).fdiv (2^min 1 dq.bits)=(k/2:Nat):=by
  rw[show((2:Int)^min 1 dq.bits)=2 from rfl,hb _ d_];omega
 have j:0<k:=o_
 have K:(aw wB o.v.natAbs).length<=400000:=by
  have D:o.v.natAbs<=A:=lu (nm _ (show 0<x.v.natAbs by omega)) r.1;have:=fc bB _ _ (kb D (cU bB A));omega
 have z:2<=k->(aw wB (x.v*x.v).natAbs).length<=400000:=fun h=>by
  have:=fc bB _ _ (kb (r.2 h) (cU bB A));rw[gg];omega
 have y:(1:Int)<=o.v*x.v:=by
  have:=hv i c d_ o_;omega
 have B:(1:Int)<=x.v*x.v:=by
  have:=hv c c d_ o_;omega
 have u:=Eb o x o_;have w:=Eb x x o_;have g:x.v.natAbs^k=(x.v*x.v).natAbs^(k/2)*x.v.natAbs^(k% 2):=by
  rw[gg,<-oe,<-m7,<-kx,km]
 by_cases H:k% 2=1
 ·rw[H,lt]at g;have t:((k% 2:Nat):Int)=1:=by omega
  rw[t]at d
  by_cases k1:1<k
  ·have f:(1:Int)<k:=by omega
   simp[j,d];refine c2 u ?_;simp[aa,f];refine c2 w ?_;simp[aa,hs];refine rd (k/2,x.mul x,o.mul x) ⟨o_,B,y,fun _=>?_,fun h=>by dsimp only at h;omega,z k1⟩ (by dsimp only;omega);rw[g]at b;show(o.v*x.v).natAbs*(x.v*x.v).natAbs^(k/2)=A;rw[<-b,gg o.v,j2 ((x.v*x.v).natAbs^(k/2)),kp]
  ·have f:¬(1:Int)<k:=by omega
   have G:k=1:=o_
   simp[j,d];refine c2 u ?_;simp[aa,f,hs];refine rd (k/2,x,o.mul x) ⟨o_,c,y,fun h=>by dsimp only at h;omega,fun _=>?_,m⟩ (by dsimp only;omega);subst G;rw[lt]at b;show(o.v*x.v).natAbs=A;rw[<-b,gg]
 ·have I:k% 2=0:=by omega
  rw[I,kC,mx]at g;have t:¬((k% 2:Nat):Int)=1:=o_
  rw[show((k% 2:Nat):Int)=0 by omega]at d;have f:(1:Int)<k:=o_
  simp[j,d,f];refine c2 w ?_;simp[aa,hs];refine rd (k/2,x.mul x,o) ⟨o_,B,i,fun _=>?_,fun h=>by dsimp only at h;omega,z o_⟩ (by dsimp only;omega);show o.v.natAbs*(x.v*x.v).natAbs^(k/2)=A;rw[<-g,b]
theorem aKO(x:Nat)(hx:x<18446744073709551616):al prog 298 [.int .u64 x] (.int .i64 (dy x:Nat)):=by
 refine o8 (mV func298 k_) fun w ad d _ _ c=>?_;obtain⟨a,rfl,b⟩:=C8 c;simp only[aH]at b;subst b;refine(bits_Len64 x w o_ o_).mono ?_;rintro e w' ⟨rfl,rfl⟩;refine⟨_,rfl,⟨kv _,fun _ _=>rfl,rfl,rfl⟩,fun w ad=>?_⟩;simp only[aH];rfl
def sB(n:Nat):Nat:=if n=0 then 0 else 64*((aw wB n).length-1)+dy (ag wB n ((aw wB n).length-1))
theorem xc{n:Nat}:aw wB n=[]↔n=0:=by
 constructor
 ·intro h;have:=cU bB n;rw[h,hP,kC]at this;omega
 ·rintro rfl;exact nU
theorem QG(n:Nat):n<2^sB n:=by
 by_cases b:n=0
 ·subst b;exact j8 d_
 ·rw[sB,if_neg b];have e:=cU bB n;have j:0<(aw wB n).length:=by
   rcases kD (aw wB n).length with h|h
   ·exact(b (xc.1 (hT.1 h))).elim
   ·exact h
  obtain⟨m,i⟩:∃m,(aw wB n).length=m+1:=⟨(aw wB n).length-1,o_⟩
  rw[i]at e⊢;rw[kF];have d:n/wB^m<wB:=by
   rw[j3 (j8 d_),j2,<-j7];exact e
  have f:ag wB n m=n/wB^m:=by rw[ag,j4 d]
  have g:0<n/wB^m:=by
   rcases kD (n/wB^m)with h|h
   ·have c:n<wB^m:=by
     rcases kz n (wB^m)with a|a
     ·exact a
     ·have:=l2 a (j8 (show 0<wB by decide));omega
    have:=fc bB m n c;omega
   ·exact h
  have c:=CI (n/wB^m) (n/wB^m) (kv _) g d;rw[f,kx,m7];show n<wB^m*_;have a:n<(n/wB^m+1)*wB^m:=by
   rw[<-j3 (j8 d_)];omega
  rw[j2]at a;exact j5 a (kk _ c.2.2)
theorem aAP(a:NI)(l:okW a.v):al prog 252 [eI a] (.int .i64 (sB a.v.natAbs:Nat)):=by
 have b:=rT (eI a) a.v (pK a);refine gA_ nf func252 mix ?_;have o:=rQ l;have q:∀i(h:i<(aw wB a.v.natAbs).length),(aw wB a.v.natAbs)[i]=ag wB a.v.natAbs i:=fun i h=>fI bB h;have f:=cX (B:=wB) bB a.v.natAbs ((aw wB a.v.natAbs).length-1);have j:=aKO _ f;have z:=QG a.v.natAbs;have s:=xc (n:=a.v.natAbs)
 by_cases e:a.v.natAbs=0
 ·rw[e]at b⊢;simp only[eN,nU]at b;simp[f252,sB,c1 b]
 ·have k:=mt s.1 e;rw[sB,if_neg e];have p:dy (ag wB a.v.natAbs ((aw wB a.v.natAbs).length-1))<=64:=by
   rcases kD (ag wB a.v.natAbs ((aw wB a.v.natAbs).length-1))with h|h
   ·rw[h];decide
   ·exact Ua h f
  simp only[eN]at b;generalize aw wB a.v.natAbs=x at*;obtain⟨m,d⟩:∃m,x.length=m+1:=⟨x.length-1,by cases x with|nil=>exact(k rfl).elim|cons c cs=>simp⟩
  rw[d,kF]at j p f;rw[d,kF];rw[d]at o;have hx:=q m o_;have t:x[m]?=some (ag wB a.v.natAbs m):=by rw[hE o_,hx]
  have w1:dq.wrap (m:Int)=m:=aU _ o_ o_;have u:dq.wrap (64*(m:Int))=64*m:=aU _ o_ o_;have w:dq.wrap (64*(m:Int)+(dy (ag wB a.v.natAbs m):Nat))=(64*m+dy (ag wB a.v.natAbs m):Nat):=by rw[aU _ o_ o_];push_cast;rfl
  generalize dy (ag wB a.v.natAbs m)=g at*;have y:dq.wrap (64*(m:Int)+g)=64*m+g:=by rw[w];push_cast;rfl
  simp[f252];refine c1 b ?_;have r:¬((m:Int)+1=0):=o_
  simp[k,d,w1,u,t,hx,r,y,c1 j]
noncomputable def eF(a:NF):PV:=.st 100 [eI a.num,eI a.den]
@[simp] theorem aUw(a:NF):aP (eF a)=.agg 100:=rfl
@[simp] theorem aSS(a:NF):cz (eF a)=[eI a.num,eI a.den]:=rfl
@[simp] theorem aUZ(n:Int):aP (gq n)=.agg 98:=rfl
@[simp] theorem aR2:prog.cellsOf 98=2:=k_
@[simp] theorem aR3:prog.cellsOf 100=4:=k_
theorem Ry:gq 1=eI (.mk' 1):=(sA d_ d_).symm
def kB:Nat:=100000
theorem ug:kB<=3*kB:=nI _ d_
theorem CZ{n k:Nat}(h:n<2^k):(aw wB n).length<=k/64+1:=by
 refine fc bB _ _ (j5 h ?_);rw[show wB=2^64 from rfl,<-m7];exact j6 d_ o_
theorem ju{z:Int}{k:Nat}(h:z.natAbs<2^k)(hk:k<=3*kB):okW z:=by
 have:=CZ h;have a:kB=100000:=rfl;rw[okW];omega
def NF.make(n d:NI):NF:=⟨ol n.v d.v,n.m&&decide (d.v=1)⟩
theorem GJ(a:NF):al prog 232 [eF a] (.bool a.gQ):=by
 refine gA_ nf func232 mix ?_;have e:a.den.v=a.q.den:=rfl;have g:=a.q.den_pos;rcases hs:a.den.sm with _|_
 ·obtain⟨c,cs,w1⟩:=so hs;have f:=NI.DM (a:=a.den) (by rw[hs];decide);have b:a.gQ=false:=by rw[NF.gQ,decide_eq_false_iff_not];omega
  simp[f232,aa,w1,eh,dC,b]
 ·have w1:=pG hs;have d:=qI hs;rw[e]at d;have b:a.gQ=decide ((a.q.den:Int)=1):=by rw[NF.gQ,decide_eq_decide];omega
  simp[f232,aa,w1,d,eh,dC,b];rfl
theorem HN(a:NI):al prog 163 [eI a] (eF (.whole a)):=by
 refine gA_ nf func163 mix ?_;simp[f163];refine e1 (vM 1) ?_;have b:(NF.whole a).num=a:=by cases a;rfl
 have c:(NF.whole a).den=.mk' 1:=rfl;simp[aa,eF,b,c,Ry]
theorem jx(n:Int)(h:-9223372036854775808<=n)(b:n<=9223372036854775807):al prog 87 [.int .i64 n] (eF (.int n)):=by
 have a:=HN (.of n);rw[yc h b]at a;refine gA_ nf func87 mix ?_;simp[f87];refine c1 (vM n) ?_;simp;refine c1 a ?_;simp[aa];exact Wk.refl _
theorem H6(q:Rat):(if q<0 then(-1:Int)else if q=0 then 0 else 1)=if q.num<0 then -1 else if q.num=0 then 0 else 1:=by
 have a:q<0↔q.num<0:=by rw[<-Rat.not_le,<-Rat.num_nonneg];omega
 have b:q=0↔q.num=0:=oo.symm;simp only[a,b]
theorem mC(a:NF):al prog 144 [eF a] (.int .i64 (if a.q<0 then -1 else if a.q=0 then 0 else 1)):=by
 have b:=xQ a.num;refine gA_ nf func144 mix ?_;simp[f144,aa];refine c1 b ?_;simp;exact H6 a.q
theorem pN(a:NF)(h:aL kB a.q):al prog 137 [eF a] (eF a.neg):=by
 have d:=xY a.num (ju h.1 ug);refine gA_ nf func137 mix ?_;simp[f137,aa];refine e1 d ?_;have b:a.neg.num=a.num.neg:=by show(⟨(-a.q).num,false⟩:NI)=⟨-a.q.num,false⟩;rw[ou]
 have c:a.neg.den=a.den:=by show(⟨((-a.q).den:Int),false⟩:NI)=⟨a.q.den,false⟩;rw[ov]
 simp[aa,eF,b,c]
theorem aqK{n d:NI}(j:0<d.v):(NI.mk' (fM n.v d.v)).v≠0/\0<fM n.v d.v/\(¬d.v=1->eI (n.div (.mk' (fM n.v d.v)))=eI (NF.make n d).num)/\eI (d.div (.mk' (fM n.v d.v)))=eI (NF.make n d).den:=by
 obtain⟨dn,e⟩:∃dn:Nat,d.v=dn:=⟨d.v.toNat,o_⟩
 have f:dn≠0:=o_
 obtain⟨e1,e2⟩:=o9 (n:=n.v) f;have c:fM n.v d.v=(mb n.v.natAbs dn:Nat):=by rw[fM,e];rfl
 have k:0<mb n.v.natAbs dn:=Nat.gcd_pos_of_pos_right _ o_;have i:(mb n.v.natAbs dn:Int)∣n.v:=hl.2 (n6 _ _);refine⟨by rw[NI.jP,c];omega,by rw[c];omega,fun g=>?_,?_⟩
 ·refine qK ?_ (fun _=>?_)
  ·show n.v/fM n.v d.v=(ol n.v d.v).num;rw[c,e,e1]
  ·show decide (n.v% fM n.v d.v≠0)=(n.m&&decide (d.v=1))
   rw[c,Int.emod_eq_zero_of_dvd i];simp[g]
 ·refine qK ?_ (fun h=>?_)
  ·show d.v/fM n.v d.v=((ol n.v d.v).den:Int)
   rw[c,e,e2];exact(Int.natCast_ediv _ _).symm
  ·have:d.v/fM n.v d.v= -9223372036854775808:=h;have:=gx (a:=d.v) (b:=fM n.v d.v) o_ (by rw[c];omega);omega
theorem avL{n d:NI}(a:d.v<0):NF.make n.neg d.neg=NF.make n d:=by
 rw[NF.make,NF.make];have e1:ol n.neg.v d.neg.v=ol n.v d.v:=Rat.neg_divInt_neg _ _;have e2:(n.neg.m&&decide (d.neg.v=1))=(n.m&&decide (d.v=1)):=by
  rw[show n.neg.m=false from rfl,cb,decide_eq_false o_,b4]
 rw[e1,e2]
theorem OJ(n:Int):(ol n 1).num=n/\(ol n 1).den=1:=by
 obtain⟨e1,e2⟩:=o9 (n:=n) (show 1≠0 by decide);rw[n3]at e1 e2;refine⟨?_,?_⟩
 ·exact e1.trans (hA n)
 ·exact e2
theorem Io(n d:NI)(u:d.v≠0)(hn:okW n.v)(l:okW d.v):al prog 230 [eI n,eI d] (eF (.make n d)):=by
 have i:=xQ d;refine gA_ nf func230 mix ?_;simp[f230,-ba];rw[ba];simp[-ba];refine join (fun s=>∃a d':NI,0<d'.v/\okW a.v/\okW d'.v/\NF.make a d'=NF.make n d/\aV s.env 2=.ptr 0 []/\aV s.env 3=.ptr 1 []/\aV s.env 4=.ptr 2 []/\s.heap=[.box false (.p (eI a)),.box false (.p (eI d')),.box false (.p (.st 100 [.st 98 [.int .i64 0,.aM],.st 98 [.int .i64 0,.aM]]))]) ?_ ?_
 ·by_cases k:d.v<0
  ·rw[if_pos k]at i;simp;refine c1 i ?_;simp;refine e1 (xY n hn) ?_;simp;refine e1 (xY d l) ?_;simp[aa];exact⟨⟨rfl,rfl⟩,n.neg,d.neg,by rw[NI.Jd];omega,u6 hn (by rw[NI.Jd];omega),u6 l (by rw[NI.Jd];omega),avL k,rfl,rfl⟩
  ·rw[if_neg k,if_neg u]at i;simp;refine c1 i ?_;simp;exact⟨n,d,o_,hn,l,rfl,rfl,rfl⟩
 ·rintro⟨z,A⟩ ⟨a,d',y1,y2,y3,y4,b,e,f,q⟩;dsimp only at b e f q;subst q;rw[<-y4];clear y4 i;have o:=Ud a d' y2 y3;obtain⟨g1,g2,g3,g4⟩:=aqK (n:=a) y1;have og:okW (fM a.v d'.v):=by
   refine u6 y3 ?_;rw[fM];exact lu (nF (gi _)) (Nat.gcd_le_right _ o_)
  have r:=Ue a (.mk' (fM a.v d'.v)) g2 y2 og;have t:=Ue d' (.mk' (fM a.v d'.v)) g2 y3 og
  by_cases hs:d'.v=1
  ·have g:d'.sm=true:=NI.D0 o_ o_;have w1:=pG g;have j:=qI g;rw[hs]at j;have x:eF (.make a d')=.st 100 [eI a,eI d']:=by
    rw[eF];have r1:(NF.make a d').num=a:=by
     show(⟨(ol a.v d'.v).num,a.m&&decide (d'.v=1)⟩:NI)=a;rw[hs,(OJ _).1];simp
    have y:eI (NF.make a d').den=eI d':=by
     refine qK ?_ (fun h=>?_)
     ·show((ol a.v d'.v).den:Int)=d'.v;rw[hs,(OJ _).2];rfl
     ·have:((ol a.v d'.v).den:Int)= -9223372036854775808:=h;omega
    rw[r1,y]
   rw[x];simp[b,e,f,aa,w1,j,eh,dC]
   done
  ·rw[eF,<-g3 hs,<-g4];have w:(wI d'=.aM/\¬sI d'=1)\/∃c cs,wI d'=.seq (c::cs):=by
    rcases g:d'.sm with _|_
    ·exact .inr (so g)
    ·exact .inl ⟨pG g,by rw[qI g];exact hs⟩
   rcases w with⟨w1,j⟩|⟨c,cs,w1⟩
   ·simp[b,e,f,aa,w1,j,eh,dC];refine c2 o ?_;simp[b,e,f,aa];refine e2 r ?_;simp[b,e,f,aa];refine e2 t ?_;simp[b,e,f,aa]
    done
   ·simp[b,e,f,aa,w1,eh,dC];refine c2 o ?_;simp[b,e,f,aa];refine e2 r ?_;simp[b,e,f,aa];refine e2 t ?_;simp[b,e,f,aa]
    done
theorem nS(a:NF):a.num.v=a.q.num:=rfl
theorem ma(a:NF):a.den.v=a.q.den:=rfl
theorem mU(a:NF):a.den.v.natAbs=a.q.den:=by rw[ma,gi]
theorem vA{x y:NI}{k l:Nat}(hx:x.v.natAbs<2^k)(a:y.v.natAbs<2^l)(h:k+l<=4*kB):al prog 141 [eI x,eI y] (eI (x.mul y)):=by
 have b:=CZ hx;have c:=CZ a;have d:kB=100000:=rfl;exact Eb x y o_
theorem tq{x y:Int}{k l:Nat}(hx:x.natAbs<2^k)(a:y.natAbs<2^l):(x*y).natAbs<2^(k+l):=by
 rw[gg,kx];exact kL hx a
theorem Ht{n d:NI}{q:Rat}(m:Bool)(hq:ol n.v d.v=q)(a:(n.m&&decide (d.v=1))=m):NF.make n d=⟨q,m⟩:=by rw[NF.make,hq,a]
theorem avI(a b:NF):NF.make (a.num.mul b.num) (a.den.mul b.den)=a.mul b:=by
 refine Ht _ ?_ rfl;rw[NI.pF,NI.pF,nS,nS,ma,ma,ox,om];rfl
theorem fF(a b:NF)(c:aL kB a.q)(d:aL kB b.q):al prog 143 [eF a,eF b] (eF (a.mul b)):=by
 have f:=vA (x:=a.num) (y:=b.num) c.1 d.1 o_;have g:=vA (x:=a.den) (y:=b.den) (by rw[mU];exact c.2) (by rw[mU];exact d.2) o_;have e:=Io (a.num.mul b.num) (a.den.mul b.den) (by rw[NI.pF,ma,ma];have:=a.q.den_nz;have:=b.q.den_nz;exact ht o_ o_) (ju (tq c.1 d.1) o_) (ju (tq (x:=a.den.v) (y:=b.den.v) (by rw[mU];exact c.2) (by rw[mU];exact d.2)) o_);rw[avI]at e;refine gA_ nf func143 mix ?_;simp(maxDischargeDepth:=99) [f143,aa,aa,e2 f,e2 g,e2 e]
theorem avZ(a:NF)(h:a.q≠0):NF.make a.den a.num=a.inv:=by
 refine Ht _ ?_ rfl;rw[nS,ma];show ol a.q.den a.q.num=a.q⁻¹;rw[oz]
theorem xX(a:NF)(c:aL kB a.q)(b:a.q≠0):al prog 136 [eF a] (eF a.inv):=by
 have d:=Io a.den a.num (by rw[nS];exact mt oo.1 b) (ju (by rw[mU];exact c.2) ug) (ju c.1 ug);rw[avZ a b]at d;refine gA_ nf func136 mix ?_;simp[f136,aa,aa,c2 d]
theorem yl(a b:NF)(g:aL kB a.q)(c:aL kB b.q)(f:b.q≠0):al prog 88 [eF a,eF b] (eF (a.div b)):=by
 have h:=xX b c f;have d:=fF a b.inv g (lL c);have e:a.mul b.inv=a.div b:=by
  rw[NF.mul,NF.div,NF.inv,oA]
 rw[e]at d;refine gA_ nf func88 mix ?_;simp(maxDischargeDepth:=99) [f88,aa,aa,e1 h,e2 d]
theorem awN(a b:NF)(h:¬(a.gQ=true/\b.gQ=true)):NF.make ((a.num.mul b.den).add (b.num.mul a.den)) (a.den.mul b.den)=a.add b:=by
 have g:(a.gQ&&b.gQ)=false:=by simpa using h
 refine Ht _ ?_ ?_
 ·rw[NI.vC,NI.pF,NI.pF,NI.pF,nS,nS,ma,ma,ot];rfl
 ·rw[g,cb];have:¬(a.den.mul b.den).v=1:=by
   intro c;rw[NI.pF,ma,ma]at c;have d:a.q.den*b.q.den=1:=by exact_mod_cast c
   have e:=Nat.eq_one_of_mul_eq_one_right d;have f:=Nat.eq_one_of_mul_eq_one_left d;exact h ⟨by rw[NF.gQ];simp[e,f],by rw[NF.gQ];simp[e,f]⟩
  rw[decide_eq_false this,b4]
theorem Rz{q:Rat}(h:q.den=1):(q.num:Rat)=q:=by
 apply Rat.ext
 ·rw[Rat.num_intCast]
 ·rw[Rat.den_intCast,h]
theorem pP(a b:NF)(i:aL kB a.q)(j:aL kB b.q):al prog 160 [eF a,eF b] (eF (a.add b)):=by
 have w1:=GJ a;have l:=GJ b;refine gA_ nf func160 mix ?_
 by_cases hw:a.gQ=true/\b.gQ=true
 ·rw[hw.1]at w1;rw[hw.2]at l;have k:=A9 a.num b.num (ju i.1 ug) (ju j.1 ug);have f:=HN (a.num.add b.num);have c:a.q.den=1:=by simpa[NF.gQ]using hw.1
  have d:b.q.den=1:=by simpa[NF.gQ]using hw.2
  have e:NF.whole (a.num.add b.num)=a.add b:=by
   rw[NF.whole,NF.add];have e1:(((a.num.add b.num).v:Int):Rat)=a.q+b.q:=by
    rw[NI.vC,nS,nS,Rat.intCast_add,Rz c,Rz d]
   have e2:(a.num.add b.num).m=(a.gQ&&b.gQ&&(a.num.sm&&b.num.sm)):=by rw[hw.1,hw.2];rfl
   rw[e1,e2]
  rw[e]at f;simp(maxDischargeDepth:=99) [f160,aa,aa,c1 w1,c1 l,c2 k,c1 f]
 ·have g:a.den.v.natAbs<2^kB:=by rw[mU];exact i.2
  have h:b.den.v.natAbs<2^kB:=by rw[mU];exact j.2
  have k:=vA (x:=a.num) (y:=b.den) i.1 h o_;have f:=vA (x:=b.num) (y:=a.den) j.1 g o_;have r:(a.num.mul b.den).v.natAbs<2^(kB+kB):=tq i.1 h;have s:(b.num.mul a.den).v.natAbs<2^(kB+kB):=tq j.1 g;have o:=A9 _ _ (ju r o_) (ju s o_);have p:=vA (x:=a.den) (y:=b.den) g h o_;have t:((a.num.mul b.den).add (b.num.mul a.den)).v.natAbs<2^(kB+kB+1):=by
   rw[NI.vC,j7];exact kb (hp _ _) o_
  have u:kB=100000:=rfl;have n:=Io ((a.num.mul b.den).add (b.num.mul a.den)) (a.den.mul b.den) (by rw[NI.pF,ma,ma];have:=a.q.den_nz;have:=b.q.den_nz;exact ht o_ o_) (ju t o_) (ju (tq (x:=a.den.v) (y:=b.den.v) g h) o_);rw[awN a b hw]at n;have hc:a.gQ=false\/(a.gQ=true/\b.gQ=false):=by
   rcases c:a.gQ with _|_
   ·exact .inl rfl
   ·exact .inr ⟨rfl,by rcases d:b.gQ with _|_;rfl;exact(hw ⟨c,d⟩).elim⟩
  rcases hc with c|⟨c,d⟩
  ·rw[c]at w1;simp(maxDischargeDepth:=99) [f160,aa,aa,c1 w1,e2 k,e2 f,e2 o,e2 p,e2 n]
  ·rw[c]at w1;rw[d]at l;simp(maxDischargeDepth:=99) [f160,aa,aa,c1 w1,c1 l,e2 k,e2 f,e2 o,e2 p,e2 n]
theorem nW(a b:NF)(d:aL kB a.q)(c:aL kB b.q):al prog 140 [eF a,eF b] (eF (a.sub b)):=by
 have e:=pN b c;have f:=pP a b.neg d (j0 c);refine gA_ nf func140 mix ?_;simp[f140,aa];refine e1 e ?_;simp[aa];refine e2 f ?_;simp[aa];exact Wk.refl _
def cr(x y:Rat):Int:=if x<y then -1 else if x=y then 0 else 1
theorem aO5(a b:Rat):mM (a.num*b.den) (b.num*a.den)=cr a b:=by
 have c:a<b↔a.num*b.den<b.num*a.den:=oD _ _;have f:a=b↔a.num*b.den=b.num*a.den:=by
  constructor
  ·rintro rfl;rfl
  ·intro h
   by_cases d:a<b
   ·rw[c]at d;omega
   ·by_cases e:b<a
    ·have g:=(oD b a).1 e;omega
    ·exact Rat.le_antisymm (oB.1 e) (oB.1 d)
 simp only[mM,cr,c,f]
theorem nX(a b:NF)(c:aL kB a.q)(d:aL kB b.q):al prog 69 [eF a,eF b] (.int .i64 (cr a.q b.q)):=by
 have e:a.den.v.natAbs<2^kB:=by rw[mU];exact c.2
 have f:b.den.v.natAbs<2^kB:=by rw[mU];exact d.2
 have j:=vA (x:=a.num) (y:=b.den) c.1 f o_;have k:=vA (x:=b.num) (y:=a.den) d.1 e o_;have h:(a.num.mul b.den).v.natAbs<2^(kB+kB):=tq c.1 f;have i:(b.num.mul a.den).v.natAbs<2^(kB+kB):=tq d.1 e;have g:=Uc _ _ (ju h o_) (ju i o_);rw[NI.pF,NI.pF,nS,nS,ma,ma,aO5]at g;refine gA_ nf func69 mix ?_;simp(maxDischargeDepth:=99) [f69,aa,aa,e2 j,e2 k,e2 g]
def low:Nat->Nat->List Nat
 |0,_=>[]
 |i+1,n=>(48+n/10^i% 10)::low i n
def nd(n:Nat):Nat:=if h:n=0 then 0 else nd (n/10)+1
 decreasing_by omega
theorem qN:∀(i n:Nat),i<nd n↔10^i<=n
 |0,n=>by
  rw[nd];split
  ·subst n;simp
  ·simp;omega
 |i+1,n=>by
  rw[nd];split
  ·rename_i h;subst h;have:=j8 (n:=i+1) (show 0<10 by omega);constructor
   ·intro h;omega
   ·intro h;omega
  ·have:=qN i (n/10);rw[kP o_,<-j7]at this;rw[<-this];omega
theorem vc(b n:Nat):∀a,low (a+b) n=low a (n/10^b)++low b n
 |0=>by simp[low]
 |a+1=>by
  rw[show a+1+b=(a+b)+1 by omega,low,low,vc b n a,j9,<-kx,kX b a];rfl
theorem Hu(n k:Nat):∀b,b<=k->low b (n% 10^k)=low b n
 |0,_=>rfl
 |b+1,h=>by
  have e:k=b+(k-b-1+1):=o_
  have a:n% 10^k/10^b=n/10^b% 10^(k-b-1+1):=by
   conv=>lhs;rw[e,kx]
   rw[l0]
  rw[low,low,Hu n k b o_,a,Nat.mod_mod_of_dvd _ (Nat.pow_dvd_pow 10 (show 1<=k-b-1+1 by omega)|>fun h=>by simpa using h)]
theorem aOF{n m:Nat}(h:∀i,i<nd n↔i<m):nd n=m:=by
 have a:=h m;have b:=h (nd n);omega
theorem H7{n k:Nat}(h:10^k<=n):nd n=nd (n/10^k)+k:=by
 refine aOF fun i=>?_;rw[qN]
 by_cases hi:i<k
 ·have:=j6 (show 0<10 by omega) (oc hi);constructor
  ·intro _;omega
  ·intro _;omega
 ·obtain⟨j,rfl⟩:∃j,i=j+k:=⟨i-k,o_⟩
  rw[kx,<-kP (j8 o_),<-qN];omega
theorem vB{n k:Nat}(h:n<10^k):nd n<=k:=by
 rcases kz k (nd n)with a|a
 ·rw[qN]at a;omega
 ·exact a
theorem A0{n:Nat}(h:0<n):0<nd n:=by rw[qN,kC];exact h
theorem avM{M:Nat}(h:10^9<=M):low (nd M) M=low (nd (M/10^9)) (M/10^9)++low 9 (M% 10^9):=by
 rw[H7 h,vc,Hu _ _ _ (kv 9)]
theorem u9(n:Nat):∀i,(low i n).length=i
 |0=>rfl
 |i+1=>by simp[low,u9 n i]
def bn(n:Nat):List Nat:=low (max 1 (nd n)) n
def b6(z:Int):List Nat:=if z<0 then 45::bn z.natAbs else bn z.natAbs
def aN(q:Rat):List Nat:=if q.den=1 then b6 q.num else b6 q.num++47::bn q.den
def br(s:List Nat):Nat:=s.foldl (fun n c=>n*10+(c-48)) 0
def cT(c:Nat):Bool:=decide (48<=c)&&decide (c<=57)
theorem CL(s:List Nat)(c:Nat):br (s++[c])=br s*10+(c-48):=by simp[br]
theorem xq(i n:Nat):low (i+1) n=low i (n/10)++[48+n% 10]:=by
 have:=vc 1 n i;rw[this];simp[low]
theorem VI:∀(i n:Nat),(low i n).all cT=true
 |0,n=>rfl
 |i+1,n=>by
  rw[low,hS,VI i n];have:=kf (n/10^i) (show 0<10 by omega);simp[cT];omega
theorem Qi:∀(i n:Nat),br (low i n)=n% 10^i
 |0,n=>by simp[low,br,lz]
 |i+1,n=>by
  rw[xq,CL,Qi i,j7,j2 (10^i),m8];omega
theorem Dx(n:Nat):n<10^nd n:=by
 rcases kz n (10^nd n)with h|h
 ·exact h
 ·have:=(qN (nd n) n).2 h;omega
theorem tP(n:Nat):br (bn n)=n:=by
 rw[bn,Qi];refine j4 (j5 (Dx n) (j6 o_ o_))
theorem E3{a b:Nat}(h:bn a=bn b):a=b:=by rw[<-tP a,h,tP]
theorem tA(n:Nat):(bn n).length=max 1 (nd n):=u9 _ _
theorem sD(n:Nat):(bn n).all cT=true:=VI _ _
theorem qz:bn 0=[48]:=by
 have:nd 0=0:=by rw[nd,dif_pos rfl]
 rw[bn,this];rfl
theorem WT{n:Nat}(h:0<n):(bn n).head?=some (48+n/10^(nd n-1))/\0<n/10^(nd n-1)/\n/10^(nd n-1)<10:=by
 have d:=A0 h;obtain⟨k,hk⟩:∃k,nd n=k+1:=⟨nd n-1,o_⟩
 have e:max 1 (nd n)=k+1:=o_
 have c:=(qN k n).1 o_;have a:=Dx n;rw[hk]at a;have b:n/10^k<10:=by rw[j3 (j8 o_),j2,<-j7];exact a
 rw[bn,e,hk,kF];exact⟨by rw[low,h5,j4 b],l2 c (j8 o_),b⟩
def eA(s:List Nat):Bool:=!s.isEmpty&&s.all cT&&(decide (s.head?≠some 48)||decide (s=[48]))
theorem JL(n:Nat):eA (bn n)=true:=by
 rcases kD n with rfl|h
 ·rw[qz];rfl
 ·obtain⟨b,f,g⟩:=WT h;have d:(bn n).isEmpty=false:=by
   have:=tA n;cases he:bn n with
   |nil=>rw[he]at this;simp at this;omega
   |cons a l=>rfl
  have c:¬(some (48+n/10^(nd n-1))=some 48):=by intro e;injection e with e;omega
  simp only[eA,d,sD,b,Bool.not_false,cc,ne_eq,c,not_false_eq_true,decide_true,Bool.true_or]
theorem lZ:∀(k:Nat)(s:List Nat),s.length=k->s.all cT=true->br s<10^k
 |0,s,h,_=>by
            have:s=[]:=hT.1 h
            subst this;simp[br]
 |n+1,s,h,a=>by
  have b:s≠[]:=by intro e;subst e;simp at h
  obtain⟨t,c,rfl⟩:∃t c,s=t++[c]:=⟨s.dropLast,s.getLast b,(h6 b).symm⟩
  simp only[i7,hS,js,b5,b1]at a;have d:=lZ n t (by simpa using h) a.1;have hc:=a.2;simp only[cT,b1,decide_eq_true_eq]at hc;rw[CL,j7];omega
theorem Q1:∀(k:Nat)(s:List Nat),s.length=k->s.all cT=true->low k (br s)=s
 |0,s,h,_=>by
            have:s=[]:=hT.1 h
            subst this;rfl
 |n+1,s,h,a=>by
  have b:s≠[]:=by intro e;subst e;simp at h
  obtain⟨t,c,rfl⟩:∃t c,s=t++[c]:=⟨s.dropLast,s.getLast b,(h6 b).symm⟩
  simp only[i7,hS,js,b5,b1]at a;have d:=Q1 n t (by simpa using h) a.1;have hc:=a.2;simp only[cT,b1,decide_eq_true_eq]at hc;rw[xq,CL];have e1:(br t*10+(c-48))/10=br t:=o_
  have e2:(br t*10+(c-48))% 10=c-48:=o_
  rw[e1,e2,d];congr 2;omega
theorem Zt(c:Nat)(s:List Nat)(h:49<=c):10^s.length<=br (c::s):=by
 have key:∀(s:List Nat)(a:Nat),a*10^s.length<=s.foldl (fun n c=>n*10+(c-48)) a:=by
  intro s
  induction s with
  |nil=>intro a;simp
  |cons x r b=>
   intro a;rw[i6,hU];refine lu ?_ (b _);rw[j7,j2 (10^r.length),<-kp];exact kc _ o_
 have:=key s (c-48);rw[br,i6,l4,ls];refine lu ?_ this;have:1*10^s.length<=(c-48)*10^s.length:=kc _ o_;omega
theorem AE{s:List Nat}(h:eA s=true):bn (br s)=s:=by
 simp only[eA,b1,b2,decide_eq_true_eq,b3]at h;obtain⟨⟨f,a⟩,b⟩:=h;rcases b with b|rfl
 ·cases s with
  |nil=>simp at f
  |cons c r=>
   have hc:cT c=true:=by simpa using(hS.symm.trans a|>fun h=>by simpa using h:cT c=true/\r.all cT=true).1
   simp only[cT,b1,decide_eq_true_eq]at hc;have i:49<=c:=by
    have:c≠48:=fun e=>b (by rw[e];rfl);omega
   have g:=lZ _ _ rfl a;have j:=Zt c r i;have hn:nd (br (c::r))=r.length+1:=by
    have k:=(qN r.length _).2 j;have d:=vB g;rw[hU]at d;omega
   rw[bn,hn,show max 1 (r.length+1)=r.length+1 by omega];exact Q1 _ _ rfl a
 ·have:br [48]=0:=rfl;rw[this,qz]
def cH(c:Nat):List Nat->List Nat×List Nat×Bool
 |[]=>([],[],false)
 |x::r=>if x=c then([],r,true)else(x::(cH c r).1,(cH c r).2.1,(cH c r).2.2)
theorem G0(c:Nat):∀(a b:List Nat),c∉a->cH c (a++c::b)=(a,b,true)
 |[],b,_=>by simp[cH]
 |x::a,b,h=>by
  simp only[hW,not_or]at h;rw[hO,cH,if_neg (fun e=>h.1 e.symm),G0 c a b h.2]
theorem GI(c:Nat):∀(a:List Nat),c∉a->cH c a=(a,[],false)
 |[],_=>rfl
 |x::a,h=>by
  simp only[hW,not_or]at h;rw[cH,if_neg (fun e=>h.1 e.symm),GI c a h.2]
theorem tJ(c:Nat):∀(s:List Nat),((cH c s).2.2=true/\s=(cH c s).1++c::(cH c s).2.1)\/((cH c s).2.2=false/\(cH c s).1=s/\(cH c s).2.1=[])
 |[]=>by simp[cH]
 |x::s=>by
  rw[cH]
  by_cases h:x=c
  ·subst h;simp
  ·rw[if_neg h];rcases tJ c s with⟨a,b⟩|⟨a,b,d⟩
   ·left;exact⟨a,by dsimp only;rw[hO,<-b]⟩
   ·right;exact⟨a,by dsimp only;rw[b],d⟩
def cE(s:List Nat):Bool:=decide (s.head?=some 45)
def dI(s:List Nat):List Nat:=if cE s=true then s.tail else s
def bR(s:List Nat):List Nat:=(cH 47 (dI s)).1
def b7(s:List Nat):List Nat:=(cH 47 (dI s)).2.1
def fG(s:List Nat):Bool:=(cH 47 (dI s)).2.2
def nV(s:List Nat):Bool:=eA (bR s)&&!(cE s&&decide (bR s=[48]))&&(!fG s||(eA (b7 s)&&decide (b7 s≠[48])&&decide (b7 s≠[49])))
def cm(s:List Nat):Int:=
 if nV s=false then 1
 else if 600<(bR s).length\/600<(b7 s).length then 4
 else if fG s=true/\mb (br (bR s)) (br (b7 s))≠1 then 1 else 0
def aO(s:List Nat):Rat:=ol (if cE s=true then -(br (bR s):Int)else br (bR s)) (if fG s=true then br (b7 s)else 1:Nat)
theorem EZ{s:List Nat}(h:s.all cT=true){c:Nat}(hc:cT c=false):c∉s:=by
 intro a;rw[h3]at h;rw[h c a]at hc;cases hc
theorem mz{s:List Nat}(h:eA s=true):s.all cT=true:=by
 simp only[eA,b1]at h;exact h.1.2
theorem zJ(n:Nat):b6 (n:Int)=bn n:=by
 rw[b6,if_neg o_];rfl
theorem aQL{n:Nat}(h:0<n):b6 (-(n:Int))=45::bn n:=by
 rw[b6,if_pos o_];congr 1;rw[ha];rfl
theorem C2{s:List Nat}(h:eA s=true)(a:s≠[48]):0<br s:=by
 rcases kD (br s)with e|e
 ·have:=AE h;rw[e,qz]at this;exact(a this.symm).elim
 ·exact e
theorem ia{s:List Nat}(h:cm s=0):aN (aO s)=s/\(aO s).num=(if cE s=true then -(br (bR s):Int)else br (bR s))/\(aO s).den=(if fG s=true then br (b7 s)else 1:Nat):=by
 unfold cm at h
 split at h
 ·cases h
 rename_i a
 split at h
 ·cases h
 split at h
 ·cases h
 rename_i f;have a:nV s=true:=by simpa using a
 simp only[nV,b1,b3,ca,decide_eq_false_iff_not,b2,decide_eq_true_eq]at a;obtain⟨⟨b,a2⟩,a3⟩:=a;have hs:s=(if cE s=true then[45]else[])++dI s:=by
  rw[dI]
  by_cases hn:cE s=true
  ·rw[if_pos hn,if_pos hn];simp only[cE,decide_eq_true_eq]at hn;cases s with
   |nil=>simp at hn
   |cons c r=>simp at hn;subst hn;rfl
  ·rw[if_neg hn,if_neg hn];rfl
 have g:(if fG s=true then br (b7 s)else 1:Nat)≠0:=by
  split
  ·rename_i hf;rcases a3 with a3|a3
   ·rw[hf]at a3;cases a3
   ·have:=C2 a3.1.1 a3.1.2;omega
  ·omega
 have i:mb (if cE s=true then -(br (bR s):Int)else br (bR s)).natAbs (if fG s=true then br (b7 s)else 1:Nat)=1:=by
  have e:(if cE s=true then -(br (bR s):Int)else br (bR s)).natAbs=br (bR s):=by split<;>omega
  rw[e]
  by_cases hf:fG s=true
  ·rw[if_pos hf];exact Decidable.not_not.1 fun e=>f ⟨hf,e⟩
  ·rw[if_neg hf,n3]
 obtain⟨e1,e2⟩:=o9 (n:=if cE s=true then -(br (bR s):Int)else br (bR s)) g;rw[i]at e1 e2;simp only[lq]at e2;have e1:(aO s).num=(if cE s=true then -(br (bR s):Int)else br (bR s)):=by rw[aO,e1];exact hA _
 have e2:(aO s).den=(if fG s=true then br (b7 s)else 1:Nat):=e2;refine⟨?_,e1,e2⟩;have hI:b6 (aO s).num=(if cE s=true then[45]else[])++bR s:=by
  rw[e1]
  by_cases hn:cE s=true
  ·rw[if_pos hn,if_pos hn,aQL,AE b];·rfl
   refine C2 b ?_;rcases a2 with a2|a2
   ·rw[hn]at a2;cases a2
   ·exact a2
  ·rw[if_neg hn,if_neg hn,zJ,AE b];rfl
 rw[aN,hI,e2]
 by_cases hf:fG s=true
 ·have d:eA (b7 s)=true/\b7 s≠[48]/\b7 s≠[49]:=by
   rcases a3 with a3|a3
   ·rw[hf]at a3;cases a3
   ·exact⟨a3.1.1,a3.1.2,a3.2⟩
  have j:br (b7 s)≠1:=by
   intro e;have:=AE d.1;rw[e]at this;have a:nd 1=1:=by rw[nd,dif_neg o_,nd,dif_pos o_]
   have:bn 1=[49]:=by rw[bn,a];rfl
   exact d.2.2 (by rw[<-this];assumption|>Eq.symm)
  rw[if_pos hf,if_neg j,AE d.1]
  conv=>rhs;rw[hs]
  rw[List.append_assoc];congr 1;rcases tJ 47 (dI s)with⟨g1,g2⟩|⟨g1,_⟩
  ·exact g2.symm
  ·rw[fG,g1]at hf;cases hf
 ·rw[if_neg hf,if_pos rfl]
  conv=>rhs;rw[hs]
  congr 1;rcases tJ 47 (dI s)with⟨g1,g2⟩|⟨g1,g2,_⟩
  ·exact(hf g1).elim
  ·exact g2
theorem CM(z:Int)(r:List Nat):cE (b6 z++r)=decide (z<0)/\dI (b6 z++r)=bn z.natAbs++r:=by
 by_cases h:z<0
 ·have:b6 z=45::bn z.natAbs:=by rw[b6,if_pos h]
  rw[this];simp[cE,dI,h]
 ·have e:b6 z=bn z.natAbs:=by rw[b6,if_neg h]
  have a:=sD z.natAbs;have b:=tA z.natAbs;rw[e];have hn:cE (bn z.natAbs++r)=false:=by
   cases d:bn z.natAbs with
   |nil=>rw[d]at b;simp at b;omega
   |cons c t=>
    rw[d]at a;simp only[hS,b1]at a;have hc:=a.1;simp only[cT,b1,decide_eq_true_eq]at hc;have:¬(some c=some 45):=by intro e;injection e with e;omega
    simp only[cE,hO,h5,this,decide_false]
  exact⟨by rw[hn];simp[h],by rw[dI,hn];simp⟩
theorem xG(q:Rat):cE (aN q)=decide (q.num<0)/\bR (aN q)=bn q.num.natAbs/\fG (aN q)=decide (q.den≠1)/\b7 (aN q)=if q.den=1 then[]else bn q.den:=by
 have d:47∉bn q.num.natAbs:=EZ (sD _) rfl
 by_cases h:q.den=1
 ·have e:aN q=b6 q.num++[]:=by rw[aN,if_pos h,hL]
  obtain⟨c,b⟩:=CM q.num [];rw[hL,hL]at b;have a:=GI 47 _ d;rw[<-b]at a;rw[e];refine⟨c,?_,?_,?_⟩
  ·rw[hL,bR,a,b]
  ·rw[hL,fG,a,h];rfl
  ·rw[hL,b7,a,if_pos h]
 ·have e:aN q=b6 q.num++47::bn q.den:=by rw[aN,if_neg h]
  obtain⟨c,b⟩:=CM q.num (47::bn q.den);have a:=G0 47 _ (bn q.den) d;rw[<-b]at a;rw[e];refine⟨c,?_,?_,?_⟩
  ·rw[bR,a]
  ·rw[fG,a];simp[h]
  ·rw[b7,a,if_neg h]
theorem xW(q:Rat):aO (aN q)=q:=by
 obtain⟨a,b,c,d⟩:=xG q;have e1:(if cE (aN q)=true then -(br (bR (aN q)):Int)else br (bR (aN q)))=q.num:=by
  rw[a,b,tP]
  by_cases h:q.num<0
  ·simp[h];omega
  ·simp[h];omega
 have e2:(if fG (aN q)=true then br (b7 (aN q))else 1:Nat)=q.den:=by
  rw[c,d]
  by_cases h:q.den=1
  ·simp[h]
  ·simp[h,tP]
 rw[aO,e1,e2,Rat.num_divInt_den]
theorem E0{a b:Rat}(h:aN a=aN b):a=b:=by rw[<-xW a,h,xW]
theorem JK:bn 1=[49]:=by
 have a:nd 1=1:=by rw[nd,dif_neg o_,nd,dif_pos o_]
 rw[bn,a];rfl
theorem aLh{q:Rat}(f:(bn q.num.natAbs).length<=600)(g:(bn q.den).length<=600):cm (aN q)=0:=by
 obtain⟨g1,g2,g3,g4⟩:=xG q;have hf:nV (aN q)=true:=by
  simp only[nV,g1,g2,g3,g4,JL,cc,b1,b2,b3,ca,decide_eq_false_iff_not,decide_eq_true_eq];refine⟨?_,?_⟩
  ·by_cases h:q.num<0
   ·right;intro e;have:=E3 (b:=0) (e.trans qz.symm);omega
   ·exact .inl h
  ·by_cases h:q.den=1
   ·left;simp[h]
   ·right;rw[if_neg h];have hz:=q.den_nz;refine⟨⟨JL _,fun e=>?_⟩,fun e=>?_⟩
    ·exact hz (E3 (e.trans qz.symm))
    ·exact h (E3 (e.trans JK.symm))
 rw[cm,hf,if_neg s_,g2,g3,g4];rw[if_neg (by
  intro h;rcases h with h|h
  ·omega
  ·split at h
   ·simp at h
   ·omega)]
 rw[if_neg];rintro⟨c,a⟩;have d:¬q.den=1:=by simpa using c
 rw[if_neg d,tP,tP]at a;exact a q.reduced
theorem zI{n k:Nat}(h:n<10^k)(hk:1<=k):(bn n).length<=k:=by
 rw[tA];have:=vB h;omega
theorem Sp{n k:Nat}(h:(bn n).length<=k):n<10^k:=by
 rw[tA]at h;exact j5 (Dx n) (j6 o_ o_)
theorem Hp(z:Int):(b6 z).length<=(bn z.natAbs).length+1:=by
 rw[b6];split<;>simp
theorem JJ(q:Rat):(aN q).length<=(bn q.num.natAbs).length+(bn q.den).length+2:=by
 have:=Hp q.num;rw[aN];split<;>simp<;>omega
theorem WW(q:Rat):∀c∈aN q,c<58:=by
 have a:∀n,∀c∈bn n,c<58:=fun n c hc=>by
  have:=h3.1 (sD n) c hc;simp only[cT,b1,decide_eq_true_eq]at this;omega
 have hI:∀z,∀c∈b6 z,c<58:=fun z c hc=>by
  rw[b6]at hc
  split at hc
  ·rcases hW.1 hc with rfl|hc
   ·omega
   ·exact a _ c hc
  ·exact a _ c hc
 intro c hc;rw[aN]at hc
 split at hc
 ·exact hI _ c hc
 ·rcases List.mem_append.1 hc with hc|hc
  ·exact hI _ c hc
  ·rcases hW.1 hc with rfl|hc
   ·omega
   ·exact a _ c hc
theorem anb(k:Nat):2^(3*k)<=10^k:=by
 rw[m7];exact Nat.pow_le_pow_left o_ k
theorem O0{n k:Nat}(h:n<2^(3*k))(hk:1<=k):(bn n).length<=k:=zI (j5 h (anb k)) hk
theorem Be{n k K:Nat}(h:n<2^K)(a:K<=3*k)(hk:1<=k):(bn n).length<=k:=O0 (j5 h (j6 d_ a)) hk
def mD:Nat:=600
theorem KJ{s:List Nat}(h:cm s=0):(aO s).num.natAbs<10^mD/\(aO s).den<10^mD:=by
 obtain⟨k,f,g⟩:=ia h;unfold cm at h
 split at h
 ·cases h
 rename_i a
 split at h
 ·cases h
 rename_i l;have a:nV s=true:=by simpa using a
 simp only[nV,b1,b2,decide_eq_true_eq]at a;obtain⟨⟨b,_⟩,a3⟩:=a;have c:=lZ _ _ rfl (mz b);have i:10^(bR s).length<=10^mD:=j6 o_ (by rw[mD];omega);refine⟨?_,?_⟩
 ·rw[f];have e:(if cE s=true then -(br (bR s):Int)else br (bR s)).natAbs=br (bR s):=by split<;>omega
  rw[e];exact j5 c i
 ·rw[g]
  by_cases hf:fG s=true
  ·rw[if_pos hf];rcases a3 with a3|a3
   ·rw[hf]at a3;cases a3
   ·have d:=lZ _ _ rfl (mz a3.1.1);have j:10^(b7 s).length<=10^mD:=j6 o_ (by rw[mD];omega);exact j5 d j
  ·rw[if_neg hf];exact Nat.one_lt_pow d_ o_
open Go
def fD(l:List UInt8):List Nat:=l.map (·.toNat)
theorem ant(l:List UInt8):(fD l).map oG=l:=by
 induction l with
 |nil=>rfl
 |cons a r b=>simp only[fD,hJ]at b⊢;rw[b];simp
def sO(c:Nat):List Nat->Nat->Int
 |[],_=>-1
 |x::r,i=>bif m3 x c then(i:Int)else sO c r (i+1)
theorem Re(c:UInt8):∀(l:List UInt8)(i:Nat),sO c.toNat (fD l) i=if eb l c= -1 then -1 else eb l c+i
 |[],i=>by simp[sO,fD,eb]
 |x::r,i=>by
  have b:=Re c r (i+1);simp only[fD]at b;simp only[fD,hJ,sO,eb]
  by_cases hx:x=c
  ·subst hx;simp
  ·have hn:m3 x.toNat c.toNat=false:=by
    cases d:m3 x.toNat c.toNat
    ·rfl
    ·exact(hx (oF.1 (mo d))).elim
   have e:=Lib.indexByte_ge r c;simp only[hn,cond_false,b,beq_iff_eq,hx,if_false]
   by_cases a:eb r c= -1
   ·simp[a]
   ·rw[if_neg a,if_neg a];rw[if_neg o_];omega
theorem Rf(c:Nat):∀(s:List Nat)(k:Nat),((cH c s).2.2=false/\sO c s k= -1/\cH c s=(s,[],false))\/
 ∃i,i<s.length/\sO c s k=((k+i:Nat):Int)/\cH c s=(s.take i,s.drop (i+1),true)
 |[],k=>by simp[cH,sO]
 |x::r,k=>by
  rw[cH,sO]
  by_cases h:x=c
  ·subst h;right;refine⟨0,s_,?_,?_⟩
   ·simp
   ·simp
  ·have d:m3 x c=false:=by
    cases d:m3 x c
    ·rfl
    ·exact(h (mo d)).elim
   rw[d,if_neg h,cond_false];rcases Rf c r (k+1)with⟨e,a,b⟩|⟨i,e,a,b⟩
   ·left;exact⟨e,a,by rw[b]⟩
   ·right;refine⟨i+1,by simp;omega,?_,?_⟩
    ·rw[a];congr 1;omega
    ·rw[b];simp
theorem Ic(n:Nat):fD (dz n)=bn n:=by
 induction n using na with
 |ind n a=>
  rw[dz]
  by_cases h:n<10
  ·rw[dif_pos h,bn];have c:nd n<=1:=vB o_;rw[show max 1 (nd n)=1 by omega];rw[show(1:Nat)=0+1 from rfl,xq,low,iB,j4 h];simp[fD,oH];omega
  ·rw[dif_neg h];have b:=a (n/10) o_;have e:nd n=nd (n/10)+1:=by
    have:=H7 (n:=n) (k:=1) o_;rw[lt]at this;exact this
   have d:0<nd (n/10):=A0 o_;rw[bn,e,show max 1 (nd (n/10)+1)=max 1 (nd (n/10))+1 by omega,xq];have:fD (dz (n/10)++[oG (48+n% 10)])=fD (dz (n/10))++[48+n% 10]:=by
    simp[fD,oH];omega
   rw[this,b,bn]
theorem aN6(z:Int):fD (ew z)=b6 z:=by
 rw[ew,b6]
 by_cases h:z<0
 ·rw[if_pos h,if_pos h];show 45::fD _=_;rw[Ic]
 ·rw[if_neg h,if_neg h,Ic];congr 1;omega
def wo(s:List Nat):Nat->List Nat
 |0=>[]
 |n+1=>s++wo s n
theorem Qx(s:List UInt8):∀n,wo (fD s) n=fD (eq s n)
 |0=>by simp[wo,eq,fD]
 |n+1=>by
  have a:=Qx s n;simp only[fD]at a;simp[wo,eq,fD,a]
theorem GR(c:Nat):∀n,wo [c] n=hM n c
 |0=>rfl
 |n+1=>by rw[wo,GR c n];rfl
theorem Gn(l:List UInt8):ee l [45]=cE (fD l):=by
 cases l with
 |nil=>rfl
 |cons c r=>
  rw[ee,cE];simp only[fD,hJ,List.isPrefixOf,h5,b5,Option.some.injEq]
  by_cases h:c=45
  ·subst h;rfl
  ·have a:¬c.toNat=45:=fun e=>h (oF.1 e);have b:((45:UInt8)==c)=false:=by simpa using fun e=>h e.symm
   rw[b];simp[a]
theorem Oz(l:List UInt8):fD (ed l [45])=dI (fD l):=by
 rw[ed,Gn,dI];cases h:cE (fD l)
 ·simp
 ·cases l with
  |nil=>simp[fD,cE]at h
  |cons c r=>simp[fD]
def nR(s:List Nat):List Nat:=s.dropWhile cT
def kZ(s:List Nat):List Nat:=(s.reverse.dropWhile cT).reverse
theorem Cj{p:Nat->Bool}:∀{s:List Nat},s.dropWhile p=[]↔s.all p=true
 |[]=>by simp
 |x::r=>by
  rw[List.dropWhile_cons];cases h:p x
  ·simp[h]
  ·simp[h,Cj]
theorem aql(s:List Nat):nR (kZ s)=[]↔s.all cT=true:=by
 rw[nR,Cj,kZ];constructor
 ·intro h
  by_cases a:s.reverse.dropWhile cT=[]
  ·rw[Cj,hZ]at a;exact a
  ·have b:=List.head_dropWhile_not cT a;rw[hZ,h3]at h;rw[h _ (List.head_mem a)]at b;cases b
 ·intro h;have:s.reverse.dropWhile cT=[]:=by rw[Cj,hZ];exact h
  rw[this];rfl
end Go.ae
namespace Go.Proofs
open Go.Shelf
def Tryz.anM:gb:=⟨fun|103=>290|210=>332|206=>305|n=>n,fun|9=>9|4=>4|24=>353|3=>3|n=>n,fun|n=>n⟩
theorem Tryz.aOs:fm prog anM:={
 mixed:=k_
 f103:=func290.trans (congrArg some k_)
 f206:=func305.trans (congrArg some k_)
 f210:=func332.trans (congrArg some k_)
 t3:=underlying3
 a3:=isAgg3
 z3:=sizeOf3
 v3:=zeroValue3
 t4:=underlying4
 a4:=isAgg4
 z4:=sizeOf4
 v4:=zeroValue4
 t9:=underlying9
 a9:=isAgg9
 z9:=sizeOf9
 v9:=zeroValue9
 t24:=underlying353
 a24:=isAgg353
 z24:=sizeOf353
 v24:=zeroValue353}
open Go.RowKit in
theorem Tryz.strings_CutPrefix(s p:ByteArray)(w:cy):
 c6 prog 290 #[.string s,.string p] w fun e w'=>e=.returned (.tuple #[.string ⟨(ed s.data.toList p.data.toList).toArray⟩,.bool (ee s.data.toList p.data.toList)])/\w'=w:=Any.strings_CutPrefix aOs s p w
def Tryz.anH:gb:=⟨fun|283=>347|n=>n,fun|3=>3|9=>9|4=>4|n=>n,fun|n=>n⟩
theorem Tryz.aOy:e8 prog anH:={
 mixed:=k_
 f283:=func347.trans (congrArg some k_)
 t3:=underlying3
 a3:=isAgg3
 z3:=sizeOf3
 v3:=zeroValue3
 t4:=underlying4
 a4:=isAgg4
 z4:=sizeOf4
 v4:=zeroValue4
 t9:=underlying9
 a9:=isAgg9
 z9:=sizeOf9
 v9:=zeroValue9}
open Go.Lib in
theorem Tryz.internal_strconv_small(i:Nat)(h:i<100)(w:cy):
 c6 prog 347 #[.int .i64 i] w fun e w'=>e=.returned (.string ⟨(dz i).toArray⟩)/\w'=w:=Any.internal_strconv_small aOy i h w
def Tryz.ZS:gb:=⟨fun|284=>348|129=>298|317=>366|318=>367|n=>n,fun|53=>295|3=>3|212=>413|0=>0|4=>4|46=>350|5=>5|9=>9|n=>n,fun|17=>5|n=>n⟩
theorem Tryz.avR:Go.Proofs.LaysM.n284 prog ZS:={
 mixed:=k_
 f129:=func298.trans (congrArg some k_)
 f284:=func348.trans (congrArg some k_)
 f317:=func366.trans (congrArg some k_)
 f318:=func367.trans (congrArg some k_)
 t0:=underlying0
 a0:=isAgg0
 z0:=sizeOf0
 v0:=zeroValue0
 t3:=underlying3
 a3:=isAgg3
 z3:=sizeOf3
 v3:=zeroValue3
 t4:=underlying4
 a4:=isAgg4
 z4:=sizeOf4
 v4:=zeroValue4
 t5:=underlying5
 a5:=isAgg5
 z5:=sizeOf5
 v5:=zeroValue5
 t9:=underlying9
 a9:=isAgg9
 z9:=sizeOf9
 v9:=zeroValue9
 t46:=underlying350
 a46:=isAgg350
 z46:=sizeOf350
 v46:=zeroValue350
 t53:=underlying295
 a53:=isAgg295
 z53:=sizeOf295
 v53:=zeroValue295
 t212:=underlying413
 a212:=isAgg413
 z212:=sizeOf413
 v212:=zeroValue413
 g17:=k_
 i0:=k_
 i3:=k_
 i4:=k_
 i5:=k_
 i9:=k_
 i46:=k_
 i53:=k_
 i212:=k_
 m17:=k_}
open Go.Lib in
theorem Tryz.internal_strconv_numDigits(u:Nat)(h1:1<=u)(h2:u<18446744073709551616)(w:cy)(htab:ej prog w "internal/strconv.uint64pow10" .u64 ei):
 c6 prog 348 #[.int .u64 u] w fun e w'=>e=.returned (.int .i64 (ea u))/\w'=w:=Any.internal_strconv_numDigits avR u h1 h2 w htab
def Tryz.anG:gb:=⟨fun|285=>349|n=>n,fun|37=>344|53=>295|3=>3|4=>4|51=>393|9=>9|5=>5|0=>0|n=>n,fun|n=>n⟩
theorem Tryz.aOz:e7 prog anG:={
 mixed:=k_
 f285:=func349.trans (congrArg some k_)
 t0:=underlying0
 a0:=isAgg0
 z0:=sizeOf0
 v0:=zeroValue0
 t3:=underlying3
 a3:=isAgg3
 z3:=sizeOf3
 v3:=zeroValue3
 t4:=underlying4
 a4:=isAgg4
 z4:=sizeOf4
 v4:=zeroValue4
 t5:=underlying5
 a5:=isAgg5
 z5:=sizeOf5
 v5:=zeroValue5
 t9:=underlying9
 a9:=isAgg9
 z9:=sizeOf9
 v9:=zeroValue9
 t37:=underlying344
 a37:=isAgg344
 z37:=sizeOf344
 v37:=zeroValue344
 t51:=underlying393
 a51:=isAgg393
 z51:=sizeOf393
 v51:=zeroValue393
 t53:=underlying295
 a53:=isAgg295
 z53:=sizeOf295
 v53:=zeroValue295}
open Go.RowKit Go.Sort Go.Lib in
theorem Tryz.internal_strconv_formatBase10(az off cap:Nat)(u:Nat)(d:Array UInt8)(w:cy)(hH:Holds (fun(b:UInt8)=>ge .u8 (b.toNat:Int)) w az off d)(hu:u<10^d.size)(hu64:u<18446744073709551616)(hsz:d.size<4611686018427387904):
 c6 prog 349 #[.slice (some ⟨az,off,none⟩) d.size cap,.int .u64 u] w fun e w'=>
  e=.returned (.tuple #[])/\∃(n v':Nat)(dk:Array UInt8),w'=(putRow (fun(b:UInt8)=>ge .u8 (b.toNat:Int)) w az off dk).drewN n/\FmtInv d.size u 0 v' dk:=Any.internal_strconv_formatBase10 aOz az off cap u d w hH hu hu64 hsz
def Tryz.ZG:gb:=⟨fun|171=>281|243=>321|246=>346|283=>347|284=>348|285=>349|286=>350|129=>298|317=>366|318=>367|319=>368|320=>369|337=>377|338=>378|n=>n,fun|3=>3|9=>9|2=>2|4=>4|171=>389|0=>0|53=>295|37=>344|5=>5|173=>391|212=>413|51=>393|20=>20|213=>414|46=>350|232=>427|233=>428|n=>n,fun|17=>5|18=>6|19=>7|n=>n⟩
theorem Tryz.avS:Go.Proofs.LaysM.n171 prog ZG:={
 mixed:=k_
 f129:=func298.trans (congrArg some k_)
 f171:=func281.trans (congrArg some k_)
 f243:=func321.trans (congrArg some k_)
 f246:=func346.trans (congrArg some k_)
 f283:=func347.trans (congrArg some k_)
 f284:=func348.trans (congrArg some k_)
 f285:=func349.trans (congrArg some k_)
 f286:=func350.trans (congrArg some k_)
 f317:=func366.trans (congrArg some k_)
 f318:=func367.trans (congrArg some k_)
 f319:=func368.trans (congrArg some k_)
 f320:=func369.trans (congrArg some k_)
 f337:=func377.trans (congrArg some k_)
 f338:=func378.trans (congrArg some k_)
 t0:=underlying0
 a0:=isAgg0
 z0:=sizeOf0
 v0:=zeroValue0
 t2:=underlying2
 a2:=isAgg2
 z2:=sizeOf2
 v2:=zeroValue2
 t3:=underlying3
 a3:=isAgg3
 z3:=sizeOf3
 v3:=zeroValue3
 t4:=underlying4
 a4:=isAgg4
 z4:=sizeOf4
 v4:=zeroValue4
 t5:=underlying5
 a5:=isAgg5
 z5:=sizeOf5
 v5:=zeroValue5
 t9:=underlying9
 a9:=isAgg9
 z9:=sizeOf9
 v9:=zeroValue9
 t20:=underlying20
 a20:=isAgg20
 z20:=sizeOf20
 v20:=zeroValue20
 t37:=underlying344
 a37:=isAgg344
 z37:=sizeOf344
 v37:=zeroValue344
 t46:=underlying350
 a46:=isAgg350
 z46:=sizeOf350
 v46:=zeroValue350
 t51:=underlying393
 a51:=isAgg393
 z51:=sizeOf393
 v51:=zeroValue393
 t53:=underlying295
 a53:=isAgg295
 z53:=sizeOf295
 v53:=zeroValue295
 t171:=underlying389
 a171:=isAgg389
 z171:=sizeOf389
 v171:=zeroValue389
 t173:=underlying391
 a173:=isAgg391
 z173:=sizeOf391
 v173:=zeroValue391
 t212:=underlying413
 a212:=isAgg413
 z212:=sizeOf413
 v212:=zeroValue413
 t213:=underlying414
 a213:=isAgg414
 z213:=sizeOf414
 t232:=underlying427
 a232:=isAgg427
 z232:=sizeOf427
 v232:=zeroValue427
 t233:=underlying428
 a233:=isAgg428
 z233:=sizeOf428
 v233:=zeroValue428
 g17:=k_
 g18:=k_
 g19:=k_
 i0:=k_
 i2:=k_
 i3:=k_
 i4:=k_
 i5:=k_
 i9:=k_
 i20:=k_
 i37:=k_
 i46:=k_
 i51:=k_
 i53:=k_
 i171:=k_
 i173:=k_
 i212:=k_
 i232:=k_
 i233:=k_
 m17:=k_
 m18:=k_
 m19:=k_}
open Go.RowKit Go.Sort Go.Lib in
theorem Tryz.strconv_Itoa(n:Int)(h0: -9223372036854775808<=n)(h1:n<=9223372036854775807)(w:cy)(htab:ej prog w "internal/strconv.uint64pow10" .u64 ei):
 c6 prog 281 #[.int .i64 n] w fun e w'=>e=.returned (.string ⟨(ew n).toArray⟩)/\∃k os,w'=grow (w.drewN k) os:=Any.strconv_Itoa avS n h0 h1 w htab
def Tryz.ZH:gb:=⟨fun|172=>264|244=>306|245=>307|247=>340|279=>341|280=>342|281=>343|282=>344|287=>363|316=>364|171=>281|205=>365|321=>375|322=>376|243=>321|246=>346|283=>347|284=>348|285=>349|286=>350|129=>298|317=>366|318=>367|319=>368|320=>369|337=>377|338=>378|n=>n,fun|9=>9|3=>3|75=>323|76=>324|4=>4|5=>5|167=>381|37=>344|0=>0|85=>382|2=>2|168=>384|53=>295|175=>406|46=>350|210=>410|127=>377|145=>424|143=>422|21=>21|171=>389|173=>391|212=>413|51=>393|20=>20|213=>414|232=>427|233=>428|80=>292|n=>n,fun|15=>3|16=>4|17=>5|18=>6|19=>7|n=>n⟩
theorem Tryz.avT:Go.Proofs.LaysC.n172 prog ZH:={
 mixed:=k_
 f129:=func298.trans (congrArg some k_)
 f171:=func281.trans (congrArg some k_)
 f172:=func264.trans (congrArg some k_)
 f205:=func365.trans (congrArg some k_)
 f243:=func321.trans (congrArg some k_)
 f244:=func306.trans (congrArg some k_)
 f245:=func307.trans (congrArg some k_)
 f246:=func346.trans (congrArg some k_)
 f247:=func340.trans (congrArg some k_)
 f279:=func341.trans (congrArg some k_)
 f280:=func342.trans (congrArg some k_)
 f281:=func343.trans (congrArg some k_)
 f282:=func344.trans (congrArg some k_)
 f283:=func347.trans (congrArg some k_)
 f284:=func348.trans (congrArg some k_)
 f285:=func349.trans (congrArg some k_)
 f286:=func350.trans (congrArg some k_)
 f287:=func363.trans (congrArg some k_)
 f316:=func364.trans (congrArg some k_)
 f317:=func366.trans (congrArg some k_)
 f318:=func367.trans (congrArg some k_)
 f319:=func368.trans (congrArg some k_)
 f320:=func369.trans (congrArg some k_)
 f321:=func375.trans (congrArg some k_)
 f322:=func376.trans (congrArg some k_)
 f337:=func377.trans (congrArg some k_)
 f338:=func378.trans (congrArg some k_)
 t0:=underlying0
 a0:=isAgg0
 z0:=sizeOf0
 v0:=zeroValue0
 t2:=underlying2
 a2:=isAgg2
 z2:=sizeOf2
 v2:=zeroValue2
 t3:=underlying3
 a3:=isAgg3
 z3:=sizeOf3
 v3:=zeroValue3
 t4:=underlying4
 a4:=isAgg4
 z4:=sizeOf4
 v4:=zeroValue4
 t5:=underlying5
 a5:=isAgg5
 z5:=sizeOf5
 v5:=zeroValue5
 t9:=underlying9
 a9:=isAgg9
 z9:=sizeOf9
 v9:=zeroValue9
 t20:=underlying20
 a20:=isAgg20
 z20:=sizeOf20
 v20:=zeroValue20
 t21:=underlying21
 a21:=isAgg21
 z21:=sizeOf21
 v21:=zeroValue21
 t37:=underlying344
 a37:=isAgg344
 z37:=sizeOf344
 v37:=zeroValue344
 t46:=underlying350
 a46:=isAgg350
 z46:=sizeOf350
 v46:=zeroValue350
 t51:=underlying393
 a51:=isAgg393
 z51:=sizeOf393
 v51:=zeroValue393
 t53:=underlying295
 a53:=isAgg295
 z53:=sizeOf295
 v53:=zeroValue295
 t75:=underlying323
 a75:=isAgg323
 z75:=sizeOf323
 v75:=zeroValue323
 t76:=underlying324
 a76:=isAgg324
 z76:=sizeOf324
 v76:=zeroValue324
 t85:=underlying382
 a85:=isAgg382
 z85:=sizeOf382
 v85:=zeroValue382
 t127:=underlying377
 a127:=isAgg377
 z127:=sizeOf377
 v127:=zeroValue377
 t143:=underlying422
 a143:=isAgg422
 z143:=sizeOf422
 v143:=zeroValue422
 t145:=underlying424
 a145:=isAgg424
 z145:=sizeOf424
 v145:=zeroValue424
 t167:=underlying381
 a167:=isAgg381
 z167:=sizeOf381
 v167:=zeroValue381
 t168:=underlying384
 a168:=isAgg384
 z168:=sizeOf384
 v168:=zeroValue384
 t171:=underlying389
 a171:=isAgg389
 z171:=sizeOf389
 v171:=zeroValue389
 t173:=underlying391
 a173:=isAgg391
 z173:=sizeOf391
 v173:=zeroValue391
 t175:=underlying406
 a175:=isAgg406
 z175:=sizeOf406
 v175:=zeroValue406
 t210:=underlying410
 a210:=isAgg410
 z210:=sizeOf410
 v210:=zeroValue410
 t212:=underlying413
 a212:=isAgg413
 z212:=sizeOf413
 v212:=zeroValue413
 t213:=underlying414
 a213:=isAgg414
 z213:=sizeOf414
 t232:=underlying427
 a232:=isAgg427
 z232:=sizeOf427
 v232:=zeroValue427
 t233:=underlying428
 a233:=isAgg428
 z233:=sizeOf428
 v233:=zeroValue428
 g15:=k_
 g16:=k_
 g17:=k_
 g18:=k_
 g19:=k_
 t80:=underlying292
 a80:=isAgg292
 z80:=sizeOf292
 v80:=zeroValue292
 i0:=k_
 i2:=k_
 i3:=k_
 i4:=k_
 i5:=k_
 i9:=k_
 i20:=k_
 i21:=k_
 i37:=k_
 i46:=k_
 i51:=k_
 i53:=k_
 i75:=k_
 i76:=k_
 i80:=k_
 i85:=k_
 i127:=k_
 i143:=k_
 i145:=k_
 i167:=k_
 i168:=k_
 i171:=k_
 i173:=k_
 i175:=k_
 i210:=k_
 i212:=k_
 i232:=k_
 i233:=k_
 m15:=k_
 m16:=k_
 m17:=k_
 m18:=k_
 m19:=k_
 c0:=k_
 c2:=k_
 c3:=k_
 c4:=k_
 c5:=k_
 c9:=k_
 c20:=k_
 c21:=k_
 c37:=k_
 c46:=k_
 c51:=k_
 c53:=k_
 c75:=k_
 c76:=k_
 c80:=k_
 c85:=k_
 c127:=k_
 c143:=k_
 c145:=k_
 c167:=k_
 c168:=k_
 c171:=k_
 c173:=k_
 c175:=k_
 c210:=k_
 c212:=k_
 c213:=k_
 c232:=k_
 c233:=k_}
open Go.RowKit in
theorem Tryz.strconv_Atoi_ok(s:ByteArray)(hmax:s.size<=9223372036854775806)(v:Int)(h:ey s.data.toList= .ok v)(w:cy):
 c6 prog 264 #[.string s] w fun e w'=>e=.returned (.tuple #[.int .i64 v,.nilIface])/\(w'=w\/∃t,w'=Lib.bytesWorld w 5 t):=Any.strconv_Atoi_ok avT s hmax v h w
def Tryz.anJ:gb:=⟨fun|219=>304|217=>336|225=>337|224=>338|267=>339|266=>361|314=>362|n=>n,fun|9=>9|3=>3|4=>4|5=>5|46=>350|146=>394|51=>393|n=>n,fun|1=>0|n=>n⟩
theorem Tryz.aOw:fb prog anJ:={
 mixed:=k_
 f217:=func336.trans (congrArg some k_)
 f219:=func304.trans (congrArg some k_)
 f224:=func338.trans (congrArg some k_)
 f225:=func337.trans (congrArg some k_)
 f266:=func361.trans (congrArg some k_)
 f267:=func339.trans (congrArg some k_)
 f314:=func362.trans (congrArg some k_)
 t3:=underlying3
 a3:=isAgg3
 z3:=sizeOf3
 v3:=zeroValue3
 t4:=underlying4
 a4:=isAgg4
 z4:=sizeOf4
 v4:=zeroValue4
 t5:=underlying5
 a5:=isAgg5
 z5:=sizeOf5
 v5:=zeroValue5
 t9:=underlying9
 a9:=isAgg9
 z9:=sizeOf9
 v9:=zeroValue9
 t46:=underlying350
 a46:=isAgg350
 z46:=sizeOf350
 v46:=zeroValue350
 t51:=underlying393
 a51:=isAgg393
 z51:=sizeOf393
 v51:=zeroValue393
 t146:=underlying394
 a146:=isAgg394
 z146:=sizeOf394
 v146:=zeroValue394
 g1:=k_}
open Go.RowKit Go.Lib in
theorem Tryz.stringslite_Index_one(s:ByteArray)(c:UInt8)(w:cy):
 c6 prog 304 #[.string s,.string ⟨#[c]⟩] w fun e w'=>e=.returned (.int .i64 (eb s.data.toList c))/\w'=w:=Any.stringslite_Index_one aOw s c w
def Tryz.aqQ:gb:=⟨fun|99=>263|206=>305|n=>n,fun|9=>9|4=>4|3=>3|n=>n,fun|n=>n⟩
theorem Tryz.aOA:eP prog aqQ:={
 mixed:=k_
 f99:=func263.trans (congrArg some k_)
 f206:=func305.trans (congrArg some k_)
 t3:=underlying3
 a3:=isAgg3
 z3:=sizeOf3
 v3:=zeroValue3
 t4:=underlying4
 a4:=isAgg4
 z4:=sizeOf4
 v4:=zeroValue4
 t9:=underlying9
 a9:=isAgg9
 z9:=sizeOf9
 v9:=zeroValue9}
open Go.RowKit Go.Lib in
theorem Tryz.strings_HasPrefix(s p:ByteArray)(w:cy):
 c6 prog 263 #[.string s,.string p] w fun e w'=>e=.returned (.bool (ee s.data.toList p.data.toList))/\w'=w:=Any.strings_HasPrefix aOA s p w
def Tryz.anN:gb:=⟨fun|101=>253|208=>299|206=>305|n=>n,fun|9=>9|4=>4|3=>3|n=>n,fun|n=>n⟩
theorem Tryz.aOr:fv prog anN:={
 mixed:=k_
 f101:=func253.trans (congrArg some k_)
 f206:=func305.trans (congrArg some k_)
 f208:=func299.trans (congrArg some k_)
 t3:=underlying3
 a3:=isAgg3
 z3:=sizeOf3
 v3:=zeroValue3
 t4:=underlying4
 a4:=isAgg4
 z4:=sizeOf4
 v4:=zeroValue4
 t9:=underlying9
 a9:=isAgg9
 z9:=sizeOf9
 v9:=zeroValue9}
open Go.RowKit Go.Lib in
theorem Tryz.strings_TrimPrefix(s p:ByteArray)(w:cy):
 c6 prog 253 #[.string s,.string p] w fun e w'=>e=.returned (.string ⟨(ed s.data.toList p.data.toList).toArray⟩)/\w'=w:=Any.strings_TrimPrefix aOr s p w
def Tryz.Om:gb:=⟨fun|105=>284|212=>327|99=>263|165=>328|166=>285|170=>329|169=>286|263=>351|264=>235|206=>305|240=>330|241=>352|276=>353|277=>370|n=>n,fun|9=>9|3=>3|4=>4|20=>20|0=>0|46=>350|109=>374|5=>5|72=>346|76=>324|51=>393|146=>394|53=>295|148=>296|70=>343|37=>344|75=>323|127=>377|164=>396|80=>292|n=>n,fun|n=>n⟩
theorem Tryz.aOt:fl prog Om:={
 mixed:=k_
 f99:=func263.trans (congrArg some k_)
 f105:=func284.trans (congrArg some k_)
 f165:=func328.trans (congrArg some k_)
 f166:=func285.trans (congrArg some k_)
 f169:=func286.trans (congrArg some k_)
 f170:=func329.trans (congrArg some k_)
 f206:=func305.trans (congrArg some k_)
 f212:=func327.trans (congrArg some k_)
 f240:=func330.trans (congrArg some k_)
 f241:=func352.trans (congrArg some k_)
 f263:=func351.trans (congrArg some k_)
 f264:=func235.trans (congrArg some k_)
 f276:=func353.trans (congrArg some k_)
 f277:=func370.trans (congrArg some k_)
 t0:=underlying0
 a0:=isAgg0
 z0:=sizeOf0
 v0:=zeroValue0
 t3:=underlying3
 a3:=isAgg3
 z3:=sizeOf3
 v3:=zeroValue3
 t4:=underlying4
 a4:=isAgg4
 z4:=sizeOf4
 v4:=zeroValue4
 t5:=underlying5
 a5:=isAgg5
 z5:=sizeOf5
 v5:=zeroValue5
 t9:=underlying9
 a9:=isAgg9
 z9:=sizeOf9
 v9:=zeroValue9
 t20:=underlying20
 a20:=isAgg20
 z20:=sizeOf20
 v20:=zeroValue20
 t37:=underlying344
 a37:=isAgg344
 z37:=sizeOf344
 v37:=zeroValue344
 t46:=underlying350
 a46:=isAgg350
 z46:=sizeOf350
 v46:=zeroValue350
 t51:=underlying393
 a51:=isAgg393
 z51:=sizeOf393
 v51:=zeroValue393
 t53:=underlying295
 a53:=isAgg295
 z53:=sizeOf295
 v53:=zeroValue295
 t70:=underlying343
 a70:=isAgg343
 z70:=sizeOf343
 v70:=zeroValue343
 t72:=underlying346
 a72:=isAgg346
 z72:=sizeOf346
 v72:=zeroValue346
 t75:=underlying323
 a75:=isAgg323
 z75:=sizeOf323
 v75:=zeroValue323
 t76:=underlying324
 a76:=isAgg324
 z76:=sizeOf324
 v76:=zeroValue324
 t109:=underlying374
 a109:=isAgg374
 z109:=sizeOf374
 v109:=zeroValue374
 t127:=underlying377
 a127:=isAgg377
 z127:=sizeOf377
 v127:=zeroValue377
 t146:=underlying394
 a146:=isAgg394
 z146:=sizeOf394
 v146:=zeroValue394
 t148:=underlying296
 a148:=isAgg296
 z148:=sizeOf296
 v148:=zeroValue296
 t164:=underlying396
 a164:=isAgg396
 z164:=sizeOf396
 v164:=zeroValue396}
theorem Tryz.Ze:Builder.Extra prog Om:={
 sizeBuilder:=k_
 liesBuilder:=k_
 t5:=underlying5
 a5:=isAgg5
 z5:=sizeOf5
 v5:=zeroValue5
 infoByte:=k_
 cellsByte:=k_
 sizeByte:=k_
 neB5:=d_}
open Go.RowKit Go.Lib in
theorem Tryz.strings_Repeat(s:ByteArray)(c:Nat)(w:cy)(hc:c<=9223372036854775807)(hlen:s.size*c<=140737488355328):
 c6 prog 284 #[.string s,.int .i64 c] w fun e w'=>e=.returned (.string ⟨(eq s.data.toList c).toArray⟩)/\Below w.heap.size w w':=Any.strings_Repeat aOt Ze s c w hc hlen
end Go.Proofs
namespace Go.Proofs
open Go.Shelf Go.RowKit Go.Sort Go.Lib
set_option maxHeartbeats 6400000 in
set_option maxRecDepth 100000 in
theorem Tryz.Zb(u:Nat)(hu64:u<18446744073709551616)(w:cy)
 (htab:ej prog w "internal/strconv.uint64pow10" .u64 ei):
 c6 prog 326 #[.int .u64 u,.int .i64 10] w fun e w'=>e=.returned (.string ⟨(dz u).toArray⟩)/\∃k os,w'=grow (w.drewN k) os:=by
 have e347:∀args w,(callFunc 347 args).run prog w=.ok (.enter 347 args) w:=enters_of func347 k_ rfl;have e348:∀args w,(callFunc 348 args).run prog w=.ok (.enter 348 args) w:=enters_of func348 k_ rfl;have e349:∀args w,(callFunc 349 args).run prog w=.ok (.enter 349 args) w:=enters_of func349 k_ rfl
 by_cases hs:u<100
 ·go_enter func326,ntmps326
  go_wp2_with (go_at_fn 347;refine(internal_strconv_small u hs _).mono ?_;rintro e w' ⟨rfl,rfl⟩)
  go_ret
  exact⟨rfl,0,#[],by simp[World.drewN_zero]⟩
 ·have hu1:1<=u:=by omega
  have hnd20:ea u<=20:=by have:=Lib.numDigits_eq u hu1 hu64;split at this<;>omega
  have hb3:ea u<=24:=o_
  have hal:prog.arrayLen 389=24:=k_
  have hsl1:∀W,(Instr.sliceAt 389 (.pointer (some ⟨w.heap.size,0,none⟩)) none (some (.int .i64 (ea u:Int))) none).run prog W=.ok (.slice (some ⟨w.heap.size,0,none⟩) (ea u) 24) W:=fun W=>by
   rw[run_sliceAt_array_h W 389 ⟨w.heap.size,0,none⟩ k_ .i64 (ea u:Int) o_ (by rw[hal];omega)]
   go_simp
  have hH0:=Lib.holds_zero0 w 389 (ea u) hb3;have hfmt:=internal_strconv_formatBase10 w.heap.size 0 24 u (Array.replicate (ea u) 0) (w.alloc (.cells ec 389)) hH0 (by rw[bV];exact Lib.lt_pow_nDigits u) hu64 (by rw[bV];omega);rw[bV]at hfmt;have HH0:=Lib.hid hH0;clear hH0 hal
  go_enter func326,ntmps326
  go_wp2_with (first
   |(go_at_fn 348;refine(internal_strconv_numDigits u hu1 hu64 _ (Lib.tabIs_alloc htab _)).mono ?_;rintro e w' ⟨rfl,rfl⟩))
  go_at_fn 349
  refine hfmt.mono ?_;rintro e w' ⟨rfl,k,v',dk,rfl,hF⟩;have hcv:(convert 344 9 (.slice (some ⟨w.heap.size,0,none⟩) (ea u) 24)).run prog ((putRow (fun(b:UInt8)=>ge .u8 (b.toNat:Int)) (w.alloc (.cells ec 389)) w.heap.size 0 dk).drewN k)=.ok (.string ⟨(dz u).toArray⟩) ((putRow (fun(b:UInt8)=>ge .u8 (b.toNat:Int)) (w.alloc (.cells ec 389)) w.heap.size 0 dk).drewN k):=by
   have h:=run_convert_bytes_back (P:=prog) ((putRow (fun(b:UInt8)=>ge .u8 (b.toNat:Int)) (w.alloc (.cells ec 389)) w.heap.size 0 dk).drewN k) 344 9 5 ⟨w.heap.size,0,none⟩ 24 (dz u) k_ k_ k_ (fun j hj=>by
    rw[Lib.row_is_numeral hF j hj,Lib.add_plain,World.cell?_drewN];exact cell?_putRow (fun(b:UInt8)=>ge .u8 (b.toNat:Int)) _ w.heap.size 0 _ dk HH0.out (by rw[hF.size,bV]) j (by rw[hF.size];rw[er]at hj;exact hj))
   rw[er]at h;exact h
  go_wp2
  go_ret
  obtain⟨os,eo⟩:=Lib.fin_at w (.cells ec 389) dk k 0;exact⟨rfl,k,os,eo⟩
end Go.Proofs
namespace Go.ae
open Go.Proofs
theorem C9{P:dd}{w:cy}{ad:Nat->Prop}(l:List UInt8):aH P w ad (.str (fD l)) (.string ⟨l.toArray⟩):=by
 simp only[aH];exact⟨_,rfl,by simp[fD]⟩
theorem vm{P:dd}{w:cy}{ad:Nat->Prop}{s:List Nat}{v:db}(h:aH P w ad (.str s) v):∃bs:ByteArray,v=.string bs/\s=fD bs.data.toList:=by
 simp only[aH]at h;obtain⟨bs,rfl,rfl⟩:=h;exact⟨bs,rfl,rfl⟩
theorem QT{w:cy}{ad:Nat->Prop}{c:Nat}{v:db}(h:aH prog w ad (.str [c]) v):∃b:UInt8,v=.string ⟨#[b]⟩/\c=b.toNat:=by
 obtain⟨bs,rfl,f⟩:=vm h;clear h;have h:=f;clear f
 match e:bs.data.toList with
 |[]=>rw[e]at h;simp[fD]at h
 |[b]=>
  rw[e]at h;simp[fD]at h;refine⟨b,?_,h⟩;congr 1;cases bs with
  |mk d=>simp at e⊢;exact Array.ext' (by simpa using e)
 |a::b::r=>rw[e]at h;simp[fD]at h
theorem Ie{w:cy}{ad:Nat->Prop}{v:db}(h:aH prog w ad (.str [45]) v):v=.string ⟨#[45]⟩:=by
 obtain⟨b,rfl,a⟩:=QT h;have:b=45:=oF.1 a.symm;rw[this]
theorem aKM(s:List Nat)(c:Nat):al prog 304 [.str s,.str [c]] (.int .i64 (sO c s 0)):=by
 refine o8 (mV func304 k_) fun w ad g _ _ f=>?_;obtain⟨x,y,rfl,a,d⟩:=uR f;obtain⟨b,rfl,rfl⟩:=QT d;obtain⟨bs,rfl,rfl⟩:=vm a;refine(stringslite_Index_one bs b w).mono ?_;rintro e w' ⟨rfl,rfl⟩;refine⟨_,rfl,⟨kv _,fun _ _=>rfl,rfl,rfl⟩,fun w ad=>?_⟩;have e1:=Re b bs.data.toList 0;simp only[aH]at e1⊢;rw[e1]
 by_cases h:eb bs.data.toList b= -1<;>simp[h]
theorem aKE(s:List Nat)(c:Nat)(h:s.length<=1048576):al prog 262 [.str s,.str [c]] (.aE [.str (cH c s).1,.str (cH c s).2.1,.bool (cH c s).2.2]):=by
 refine gA_ nf func262 mix ?_;simp[f262];refine c2 (aKM s c) ?_;rcases Rf c s 0 with⟨_,a,b⟩|⟨i,d,a,b⟩
 ·simp[a,b]
 ·rw[ls]at a;have w:=b8 (i:=i) o_;have e1:((i:Int)+1).toNat=i+1:=by omega
  simp[a,b,w,e1];omega
theorem Uf(s:List Nat)(c:Nat)(h:s.length<=1048576):al prog 188 [.str s,.str [c]] (.aE [.str (cH c s).1,.str (cH c s).2.1,.bool (cH c s).2.2]):=by
 refine gA_ nf func188 mix ?_;simp[f188,c2 (aKE s c h)]
theorem awz(s:List Nat):al prog 263 [.str s,.str [45]] (.bool (cE s)):=by
 refine o8 (mV func263 k_) fun w ad d _ _ c=>?_;obtain⟨x,y,rfl,a,b⟩:=uR c;obtain rfl:=Ie b;obtain⟨bs,rfl,rfl⟩:=vm a;refine(strings_HasPrefix bs _ w).mono ?_;rintro e w' ⟨rfl,rfl⟩;exact⟨_,rfl,⟨kv _,fun _ _=>rfl,rfl,rfl⟩,fun w ad=>by rw[<-Gn];simp only[aH]⟩
theorem PT(s:List Nat):al prog 253 [.str s,.str [45]] (.str (dI s)):=by
 refine o8 (mV func253 k_) fun w ad d _ _ c=>?_;obtain⟨x,y,rfl,a,b⟩:=uR c;obtain rfl:=Ie b;obtain⟨bs,rfl,rfl⟩:=vm a;refine(strings_TrimPrefix bs _ w).mono ?_;rintro e w' ⟨rfl,rfl⟩;exact⟨_,rfl,⟨kv _,fun _ _=>rfl,rfl,rfl⟩,fun w ad=>by rw[<-Oz];exact C9 _⟩
theorem awB(s:List Nat):al prog 290 [.str s,.str [45]] (.aE [.str (dI s),.bool (cE s)]):=by
 refine o8 (mV func290 k_) fun w ad d _ _ c=>?_;obtain⟨x,y,rfl,a,b⟩:=uR c;obtain rfl:=Ie b;obtain⟨bs,rfl,rfl⟩:=vm a;refine(strings_CutPrefix bs _ w).mono ?_;rintro e w' ⟨rfl,rfl⟩;refine⟨_,rfl,⟨kv _,fun _ _=>rfl,rfl,rfl⟩,fun w ad=>?_⟩;rw[<-Oz,<-Gn];simp only[aH,bY];refine⟨[_,_],⟨_,_,rfl,?_,_,_,rfl,rfl,rfl⟩,rfl⟩;exact⟨_,rfl,by simp[fD]⟩
theorem Sq{w:cy}{ad:Nat->Prop}(b:qG prog w ad):ej prog w "internal/strconv.uint64pow10" .u64 ei:=by
 obtain⟨_,T,a⟩:=b.raw 5 _ rfl;have hn:prog.globalNamed "internal/strconv.uint64pow10" =some 5:=k_
 simp only[ej,World.var?,hn,Option.bind_some,a];rfl
theorem aKN(n:Int)(b:-9223372036854775808<=n)(c:n<=9223372036854775807):al prog 281 [.int .i64 n] (.str (b6 n)):=by
 refine o8 (mV func281 k_) fun w ad g _ f d=>?_;obtain⟨x,rfl,a⟩:=C8 d;simp only[aH]at a;subst a;refine(strconv_Itoa n b c w (Sq f)).mono ?_;rintro e w' ⟨rfl,k,os,rfl⟩;refine⟨_,rfl,⟨?_,fun k hk=>?_,rfl,rfl⟩,fun w ad=>?_⟩
 ·simp[gc,World.drewN]
 ·simp only[gc];exact b0 hk
 ·rw[<-aN6];exact C9 _
theorem aKI(u:Nat)(f:u<18446744073709551616):al prog 326 [.int .u64 u,.int .i64 10] (.str (bn u)):=by
 refine o8 (mV func326 k_) fun w ad g _ d c=>?_;obtain⟨x,y,rfl,a,b⟩:=uR c;simp only[aH]at a b;subst a b;refine(Zb u f w (Sq d)).mono ?_;rintro e w' ⟨rfl,k,os,rfl⟩;refine⟨_,rfl,⟨?_,fun k hk=>?_,rfl,rfl⟩,fun w ad=>?_⟩
 ·simp[gc,World.drewN]
 ·simp only[gc];exact b0 hk
 ·rw[<-Ic];exact C9 _
theorem Ug(u:Nat)(a:u<18446744073709551616):al prog 283 [.int .u64 u,.int .i64 10] (.str (bn u)):=by
 refine gA_ nf func283 mix ?_;simp[f283,c2 (aKI u a)]
theorem Uh(s:List Nat)(c:Nat)(hc:c<=9223372036854775807)(g:s.length*c<=140737488355328):al prog 284 [.str s,.int .i64 c] (.str (wo s c)):=by
 refine o8 (mV func284 k_) fun w ad h _ i f=>?_;obtain⟨x,y,rfl,d,b⟩:=uR f;obtain⟨bs,rfl,rfl⟩:=vm d;simp only[aH]at b;subst b;refine(strings_Repeat bs c w hc (by simpa[fD]using g)).mono ?_;rintro e w' ⟨rfl,a⟩;exact⟨_,rfl,⟨a.size,a.block,a.os,a.output⟩,fun w ad=>by
  rw[Qx];exact C9 _⟩
theorem aD3(s:List Nat)(v:Int)(h:ey (s.map oG)=.ok v)(d:s.length<=9223372036854775806):al prog 264 [.str s] (.aE [.int .i64 v,.iK]):=by
 refine o8 (mV func264 k_) fun w ad g _ i c=>?_;obtain⟨x,rfl,b⟩:=C8 c;obtain⟨bs,rfl,rfl⟩:=vm b;rw[ant]at h;refine(strconv_Atoi_ok bs (by simpa[fD]using d) v h w).mono ?_;rintro e w' ⟨rfl,f⟩;refine⟨_,rfl,?_,fun w ad=>by simp[aH,bY]⟩;rcases f with rfl|⟨t,rfl⟩
 ·exact⟨kv _,fun _ _=>rfl,rfl,rfl⟩
 ·have a:=Lib.bytesWorld_below w 5 t;exact⟨a.size,a.block,a.os,a.output⟩
def tB:Nat:=1000000000000000000
theorem HV:tB=10^18:=d_
theorem Q0:∀i,low i 0=hM i 48
 |0=>rfl
 |i+1=>by rw[xq,Nat.zero_div,Q0 i,List.replicate_succ']
theorem VW{r:Nat}(h:r<tB):hM (18-(bn r).length) 48++bn r=low 18 r:=by
 rw[tA,bn];have c:nd r<=18:=vB (by rw[<-HV];exact h);obtain⟨k,hk⟩:∃k,k=max 1 (nd r):=⟨_,rfl⟩
 have d:k<=18:=o_
 have b:r<10^k:=j5 (Dx r) (j6 d_ o_);rw[<-hk];have:=vc (18-k) r (a:=k);have e:low 18 r=low (18-k) (r/10^k)++low k r:=by
  have:=vc k r (18-k);rw[show 18-k+k=18 by omega]at this;exact this
 rw[e,ko b,Q0]
theorem HE{r:Nat}(h:r<tB):(bn r).length<=18:=by
 rw[tA];have a:nd r<=18:=vB (by rw[<-HV];exact h);omega
theorem auT{m:Nat}(h:tB<=m):bn m=bn (m/tB)++low 18 (m% tB):=by
 rw[HV]at h⊢;have e:=H7 (n:=m) (k:=18) h;have a:0<nd (m/10^18):=A0 (l2 h (j8 d_));rw[bn,bn,show max 1 (nd m)=max 1 (nd (m/10^18))+18 by omega,vc,Hu m 18 18 (kv _)]
def ml(m:Nat)(a:List (List Nat)):List Nat:=(if m=0 then[]else bn m)++a.reverse.flatten
def fJ(m:Nat):List Nat:=if m/tB=0 then bn m else low 18 (m% tB)
theorem Qm{m:Nat}(h:m≠0)(c:List (List Nat)):ml (m/tB) (c++[fJ m])=ml m c:=by
 rw[ml,ml,if_neg h,fJ,List.reverse_append]
 by_cases a:m/tB=0
 ·rw[if_pos a,if_pos a];simp
 ·rw[if_neg a,if_neg a];have:tB<=m:=by
   rcases kz m tB with b|b
   ·exact(a (ko b)).elim
   ·exact b
  rw[auT this];simp
theorem auV(a:List (List Nat)):ml 0 a=a.reverse.flatten:=by rw[ml,if_pos rfl];rfl
theorem Dm(n:Nat):0<(bn n).length:=by rw[tA];omega
theorem Pt(m:Nat):fJ m≠[]:=by
 intro h;have:(fJ m).length=0:=by rw[h];rfl
 rw[fJ]at this
 split at this
 ·have:=Dm m;omega
 ·rw[u9]at this;omega
theorem Pu(m:Nat):(fJ m).length<=18:=by
 rw[fJ]
 split
 ·rename_i h;have b:m<tB:=by
   rcases kz m tB with a|a
   ·exact a
   ·have:=l2 a (show 0<tB by decide);omega
  exact HE b
 ·rw[u9];exact kv _
theorem Rc{c:Nat}(h:cT c=true):c<256:=by
 simp only[cT,b1,decide_eq_true_eq]at h;omega
end Go.ae
namespace Go.Proofs
open Go.ae
theorem Tryz.FL:prog.underlying 343=some (.pointer 346):=k_
theorem Tryz.MU:prog.underlying 396=some .unsafePointer:=k_
theorem Tryz.L8:(prog.info? 346).map (·.size)=some 2:=k_
theorem Tryz.aOB:liesAt prog prog.depth 346 (2/prog.cellsOf 346) 0 346 1=true:=k_
set_option maxHeartbeats 1000000 in
set_option maxRecDepth 100000 in
theorem Tryz.Zk(b:Nat)(w:cy)(h0:w.cell? ⟨b,0,none⟩=some (.pointer (some ⟨b,0,none⟩))):
 c6 prog 330 #[.pointer (some ⟨b,0,none⟩)] w fun e w'=>e=.returned (.tuple #[])/\w'=w:=by
 obtain⟨j,hj,_⟩:=Option.map_eq_some_iff.1 L8
 go_enter func330,ntmps330
 go_wp2
 rw[Lib.run_neq_ptr_same w _ FL hj]
 go_wp2
 go_end0
 exact⟨rfl,rfl⟩
set_option maxHeartbeats 1000000 in
set_option maxRecDepth 100000 in
theorem Tryz.Zl(b:Nat)(w:cy)(h0:w.cell? ⟨b,0,none⟩=some (.pointer none))(hsh:w.shape? b=some (346,2))(hfz:w.frozen? ⟨b,0,none⟩=false):
 c6 prog 330 #[.pointer (some ⟨b,0,none⟩)] w fun e w'=>e=.returned (.tuple #[])/\w'=w.setCell ⟨b,0,none⟩ (.pointer (some ⟨b,0,none⟩)):=by
 obtain⟨j,hj,hjs⟩:=Option.map_eq_some_iff.1 L8
 go_enter func330,ntmps330
 go_wp2
 rw[Lib.run_to_unsafe w ⟨b,0,none⟩ FL MU hj (by rw[hjs];decide) hsh (Nat.zero_lt_succ 1)];simp only[fw];rw[eM]
 go_wp2
 rw[da func353 k_ k_ k_ (e:=Extern.AbiNoEscape.same) k_];rw[Lib.run_noEscape];simp only[fw];rw[eM]
 go_wp2
 rw[Lib.run_from_unsafe w ⟨b,0,none⟩ MU FL hj hsh aOB];simp only[fw];rw[eM]
 go_wp2
 go_end0
 exact⟨rfl,rfl⟩
end Go.Proofs
