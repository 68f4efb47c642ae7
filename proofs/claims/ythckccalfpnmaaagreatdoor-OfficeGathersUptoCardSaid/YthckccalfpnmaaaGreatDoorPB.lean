import Derived.Test.YthckccalfpnmaaaGreatDoorPA
import Derived.Shelf.Strings.OnBuilder
import Derived.Shelf.Strings.BuilderX
import Derived.Shelf.Small.Strs
import Derived.Shelf.Strconv.Itoa3
import Derived.Shelf.Strconv.AtoiAll
import Derived.Shelf.Strings.Search1
import Derived.Shelf.Strings.Search2
import Derived.Shelf.Strings.Search3
import Derived.Shelf.Strings.Count
import Derived.Shelf.Strings.Repeat
import Derived.Test.YthckccalfpnmaaaGreatDoorProg
import Derived.Shelf.LaysM
import Derived.Shelf.LaysC
import Derived.Lib.AtoiErrMem
import Derived.Test.YthckccalfpnmaaaGreatDoorThD
import Derived.Shelf.Sort.Plain
import Derived.Shelf.Slices.In.SortNone
/- Parts of a proof. -/
set_option linter.unusedSimpArgs false
set_option linter.unusedVariables false
set_option linter.unusedSectionVars false
namespace Go.Abs
open Go.Proofs
set_option maxHeartbeats 4000000
set_option maxRecDepth 100000
theorem c_own (l:List RowD) (h:l.length ≤ 1048576):GoodC Tryz.prog 29 [.seq (l.map eRow)] (.seq (l.map eRow)):=by
 refine good_fn nf isF29 mix (by simp [Tryz.f29]) ?_
 simp [Tryz.f29]
 refine lp (α:=Nat) (fun i=>⟨[(8,.p (.int .i64 i)),(7,.p (.int .i64 l.length)),(6,.p (.seq (l.map eRow))),(3,.sl 0 i 2 0 i)],[.arr .grow i 2 ((l.map fun r=>.p (eRow r)).take i)]⟩) (fun i=>i ≤ l.length) (fun i=>l.length - i) 0 (by simp) ?_
 rintro i k1
 by_cases hi:i < l.length
 · have hw:=wi1 (i:=i) (by omega)
   have ht:=take_next (fun r=>AV.p (eRow r)) hi
   simp [hi]
   refine ⟨⟨by omega,by simp [maxL]; omega⟩,?_⟩
   exact rd (i + 1) hi (he:=by simp [hw]) (hh:=by simp [ht]) (hr2:=by simp [ht])
 · have:i = l.length:=by omega
   subst this
   simp
theorem c_shortRows (l:List RowD) (n:Nat) (h:l.length ≤ 1048576) (hn:n ≤ 100):GoodC Tryz.prog 75 [.seq (l.map eRow),.int .i64 n] (.bool (shortRows l n)):=by
 refine good_fn nf isF75 mix (by simp [Tryz.f75]) ?_
 by_cases hs:(l.length ≤ n ∨ 256 < l.length) ∧ l.length ≤ 259
 · have e:shortRows l n = l.all shortRow:=by
    have a1:(decide (l.length ≤ n) || decide (256 < l.length)) = true:=by simpa using hs.1
    simp only [shortRows,a1,decide_eq_true hs.2,Bool.true_and]
   rw [e]
   have g3:¬ (259:Int) < l.length:=by omega
   have g4:(n:Int) < l.length ∧ ¬ (l.length:Int) ≤ 256 ∨ ¬ (n:Int) < l.length:=by omega
   rcases g4 with ⟨g1,g2⟩ | g1
   · simp [Tryz.f75,g1,g2,g3]
     refine lp (α:=Nat) (fun i=>⟨[(5,.p (.int .i64 i)),(0,.p (.seq (l.map eRow)))],[]⟩) (fun i=>i ≤ l.length ∧ (l.drop i).all shortRow = l.all shortRow) (fun i=>l.length - i) 0 (by simp) ?_
     rintro i ⟨k1,k2⟩
     by_cases hi:i < l.length
     · rw [all_drop hi] at k2
       have hw:=wi1 (i:=i) (by omega)
       by_cases q1:(60:Int) < l[i].key.length
       · have e2:l.all shortRow = false:=by
          rw [← k2]; have:shortRow l[i] = false:=by simp [shortRow]; omega
          rw [this]; rfl
         simp [hi,eRow,q1,e2]
       by_cases q2:(19:Int) < l[i].vals.length
       · have e2:l.all shortRow = false:=by
          rw [← k2]; have:shortRow l[i] = false:=by simp [shortRow]; omega
          rw [this]; rfl
         simp [hi,eRow,q1,q2,e2]
       · have:shortRow l[i] = true:=by simp [shortRow]; omega
         rw [this,Bool.true_and] at k2
         simp [hi,eRow,q1,q2,hw]
         exact rd (i + 1) ⟨hi,k2⟩
     · have:i = l.length:=by omega
       subst this
       rw [List.drop_length,List.all_nil] at k2
       simp [← k2]
   · simp [Tryz.f75,g1,g3]
     refine lp (α:=Nat) (fun i=>⟨[(5,.p (.int .i64 i)),(0,.p (.seq (l.map eRow)))],[]⟩) (fun i=>i ≤ l.length ∧ (l.drop i).all shortRow = l.all shortRow) (fun i=>l.length - i) 0 (by simp) ?_
     rintro i ⟨k1,k2⟩
     by_cases hi:i < l.length
     · rw [all_drop hi] at k2
       have hw:=wi1 (i:=i) (by omega)
       by_cases q1:(60:Int) < l[i].key.length
       · have e2:l.all shortRow = false:=by
          rw [← k2]; have:shortRow l[i] = false:=by simp [shortRow]; omega
          rw [this]; rfl
         simp [hi,eRow,q1,e2]
       by_cases q2:(19:Int) < l[i].vals.length
       · have e2:l.all shortRow = false:=by
          rw [← k2]; have:shortRow l[i] = false:=by simp [shortRow]; omega
          rw [this]; rfl
         simp [hi,eRow,q1,q2,e2]
       · have:shortRow l[i] = true:=by simp [shortRow]; omega
         rw [this,Bool.true_and] at k2
         simp [hi,eRow,q1,q2,hw]
         exact rd (i + 1) ⟨hi,k2⟩
     · have:i = l.length:=by omega
       subst this
       rw [List.drop_length,List.all_nil] at k2
       simp [← k2]
 · have e:shortRows l n = false:=by
    cases hc:shortRows l n
    · rfl
    · simp only [shortRows,Bool.and_eq_true,Bool.or_eq_true,decide_eq_true_eq] at hc; exact (hs hc.1).elim
   rw [e]
   rcases lt_cases n l.length with ⟨g1,g1'⟩ | ⟨g1,g1'⟩
   · by_cases g2:(l.length:Int) ≤ 256
     · simp [Tryz.f75,g1,g2]
     · have g3:(259:Int) < l.length:=by omega
       simp [Tryz.f75,g1,g2,g3]
   · exact (hs ⟨.inl (by omega),by omega⟩).elim
end Go.Abs
namespace Go.Abs
open Go.Proofs
set_option maxHeartbeats 4000000
set_option maxRecDepth 100000
theorem shp_map {α:Type} {sz:Nat} {f:α → AV} {l:List α} (h:∀ x,shpA (f x) ≠ .bad ∧ shpSize Tryz.prog (shpA (f x)) = sz):allShp Tryz.prog sz (l.map f):=by
 rw [allShp_iff]; intro v hv; simp only [List.mem_map] at hv; obtain ⟨x,_,rfl⟩:=hv; exact h x
theorem c_clone (l:List Int) (h:l.length ≤ 1048576):GoodC Tryz.prog 158 [.seq (l.map (.int .i64))] (.seq (l.map (.int .i64))):=by
 cases l with
 | nil =>
  refine .inl (goodP_seq_nil (pre:=[]) (post:=[]) ?_ ?_)
  · refine goodP_fn nf isF158 mix (by simp [Tryz.f158]) ?_
    simp [Tryz.f158]
  · refine goodP_fn nf isF158 mix (by simp [Tryz.f158]) ?_
    simp [Tryz.f158,maxL]
 | cons a r =>
  refine good_fn nf isF158 mix (by simp [Tryz.f158]) ?_
  simp at h
  simp [Tryz.f158]
  exact ⟨shp_map (by simp),by simp [maxL]; omega⟩
theorem c_copied (r:RowD) (h:rowB r):GoodC Tryz.prog 141 [eRow r] (eRow r):=by
 refine good_fn nf isF141 mix (by simp [Tryz.f141]) ?_
 simp [Tryz.f141,eRow]
 refine e1 (c_clone r.vals h.2) ?_
 simp
theorem known_iff {k:List Nat}:known k = true ↔ k = kKeep ∨ k = kDrop ∨ k = kAdd:=by simp [known,or_assoc]
end Go.Abs
namespace Go.Abs
open Go.Proofs
set_option maxHeartbeats 4000000
set_option maxRecDepth 100000
def patchGo:List RowD → List RowD → List EditD → Option (List RowD × List RowD)
 | rest,out,[]=>some (rest,out)
 | rest,out,e :: l =>
  if e.kind = kAdd then patchGo rest (out ++ [e.row]) l
  else match rest with
   | r :: rs=>if r = e.row then patchGo rs (if e.kind = kDrop then out else out ++ [e.row]) l else none
   | []=>none
end Go.Abs
namespace Go.Abs
open Go.Proofs
set_option maxHeartbeats 4000000
set_option maxRecDepth 100000
theorem first2 {x y:Int}:firstE [x,y] = 0 ↔ x = 0 ∧ y = 0:=by
 simp only [firstE]
 by_cases h:x = 0 <;> by_cases h2:y = 0 <;> simp [h,h2]
theorem short_rowsB {l:List RowD} {n:Nat} (h:shortRows l n = true):rowsB l ∧ l.length ≤ 259:=by
 simp only [shortRows,Bool.and_eq_true,decide_eq_true_eq,List.all_eq_true,shortRow] at h
 refine ⟨⟨by omega,fun r hr=>?_⟩,h.1.2⟩
 have:=h.2 r hr
 exact ⟨by omega,by omega⟩
end Go.Abs
namespace Go.Abs
open Go.Proofs
def okRow (r:RowD):Prop:=isName r.key = true ∧ chkVals r.vals = 0
theorem first3 {x y z:Int}:firstE [x,y,z] = 0 ↔ x = 0 ∧ y = 0 ∧ z = 0:=by
 simp only [firstE]; repeat' split
 all_goals (first | (constructor <;> (intro h; omega)) | omega)
theorem when0 {b:Bool} {e:Int} (he:e ≠ 0):whenE b e = 0 ↔ b = false:=by cases b <;> simp [whenE,he]
inductive Leads:List RowD → List EditD → List RowD → Nat → Prop
 | nil:Leads [] [] [] 0
 | keep {a l b n} (r:RowD) (h:Leads a l b n):Leads (r :: a) (⟨kKeep,r⟩ :: l) (r :: b) n
 | drop {a l b n} (r:RowD) (h:Leads a l b n):Leads (r :: a) (⟨kDrop,r⟩ :: l) b (n + 1)
 | add {a l b n} (r:RowD) (h:Leads a l b n):Leads a (⟨kAdd,r⟩ :: l) (r :: b) (n + 1)
theorem Leads.go {a l b n} (h:Leads a l b n):∀ out,patchGo a out l = some ([],out ++ b):=by
 induction h with
 | nil=>intro out; simp [patchGo]
 | keep r h ih=>intro out; simp [patchGo,kKeep,kAdd,kDrop,ih]
 | drop r h ih=>intro out; simp [patchGo,kAdd,kDrop,ih]
 | add r h ih=>intro out; simp [patchGo,ih]
theorem Leads.of:∀ {l:List EditD} {a out o:List RowD},(∀ e ∈ l,known e.kind = true) → patchGo a out l = some ([],o) → ∃ b n,o = out ++ b ∧ Leads a l b n
 | [],a,out,o,_,h=>by
  simp only [patchGo,Option.some.injEq,Prod.mk.injEq] at h
  obtain ⟨rfl,rfl⟩:=h
  exact ⟨[],0,by simp,.nil⟩
 | ⟨k,r⟩ :: l,a,out,o,hk,h=>by
  have hk':∀ e ∈ l,known e.kind = true:=fun e he=>hk e (List.mem_cons_of_mem _ he)
  rcases known_iff.1 (hk _ List.mem_cons_self) with h1 | h1 | h1 <;> simp only at h1 <;> subst h1
  · cases a with
    | nil=>simp [patchGo,kKeep,kAdd] at h
    | cons x a =>
     simp [patchGo,kKeep,kAdd,kDrop] at h
     obtain ⟨rfl,h⟩:=h
     obtain ⟨b,n,rfl,h2⟩:=Leads.of hk' h
     exact ⟨x :: b,n,by simp,.keep x h2⟩
  · cases a with
    | nil=>simp [patchGo,kDrop,kAdd] at h
    | cons x a =>
     simp [patchGo,kAdd,kDrop] at h
     obtain ⟨rfl,h⟩:=h
     obtain ⟨b,n,rfl,h2⟩:=Leads.of hk' h
     exact ⟨b,n + 1,by simp,.drop x h2⟩
  · simp [patchGo] at h
    obtain ⟨b,n,rfl,h2⟩:=Leads.of hk' h
    exact ⟨r :: b,n + 1,by simp,.add r h2⟩
end Go.Abs
namespace Go.Abs
open Go.Proofs
def look:List RowD → List Nat → Option (List Int)
 | [],_=>none
 | r :: l,k=>if r.key = k then some r.vals else look l k
def keysOf (l:List RowD):List (List Nat):=l.map (·.key)
theorem look_none {l:List RowD} {k:List Nat}:look l k = none ↔ k ∉ keysOf l:=by
 induction l with
 | nil=>simp [look,keysOf]
 | cons r l ih =>
  simp only [look,keysOf,List.map_cons,List.mem_cons,not_or] at *
  split
  · rename_i h; simp [h]
  · rename_i h; rw [ih]; simp [Ne.symm h]
theorem look_mem {l:List RowD} {k:List Nat} {v:List Int} (h:look l k = some v):(⟨k,v⟩:RowD) ∈ l:=by
 induction l with
 | nil=>simp [look] at h
 | cons r l ih =>
  simp only [look] at h
  split at h
  · rename_i h1; cases h; subst h1; exact List.mem_cons_self
  · exact List.mem_cons_of_mem _ (ih h)
def allK (a b:List RowD):List (List Nat):=keysOf a ++ (keysOf b).filter fun k=>!(keysOf a).contains k
def srcS (base a b:List RowD) (k:List Nat):List RowD:=if look a k ≠ look b k ∧ look a k = look base k then b else a
def confS (base a b:List RowD) (k:List Nat):Bool:=decide (look a k ≠ look b k ∧ look a k ≠ look base k ∧ look b k ≠ look base k)
def rowAt (l:List RowD) (k:List Nat):Option RowD:=(look l k).map fun v=>⟨k,v⟩
def outS (base a b:List RowD):List RowD:=(allK a b).filterMap fun k=>rowAt (srcS base a b k) k
def sLess:List Nat → List Nat → Bool
 | _,[]=>false
 | [],_ :: _=>true
 | a :: x,b :: y=>decide (a < b) || (a == b && sLess x y)
theorem sLess_irr:∀ (x:List Nat),sLess x x = false
 | []=>rfl
 | a :: x=>by simp [sLess,sLess_irr x]
theorem sLess_asym:∀ {x y:List Nat},sLess x y = true → sLess y x = false
 | [],[],h=>by simp [sLess] at h
 | [],b :: y,h=>rfl
 | a :: x,[],h=>by simp [sLess] at h
 | a :: x,b :: y,h=>by
  simp only [sLess,Bool.or_eq_true,decide_eq_true_eq,Bool.and_eq_true,beq_iff_eq] at h
  simp only [sLess,Bool.or_eq_false_iff,decide_eq_false_iff_not,Bool.and_eq_false_iff,beq_eq_false_iff_ne]
  rcases h with h | ⟨rfl,h⟩
  · exact ⟨by omega,.inl (by omega)⟩
  · exact ⟨by omega,.inr (sLess_asym h)⟩
theorem sLess_trans:∀ {x y z:List Nat},sLess x y = true → sLess y z = true → sLess x z = true
 | [],[],_,h,_=>by simp [sLess] at h
 | [],b :: y,[],_,h=>by simp [sLess] at h
 | [],b :: y,c :: z,_,_=>rfl
 | a :: x,[],z,h,_=>by simp [sLess] at h
 | a :: x,b :: y,[],_,h=>by simp [sLess] at h
 | a :: x,b :: y,c :: z,h1,h2=>by
  simp only [sLess,Bool.or_eq_true,decide_eq_true_eq,Bool.and_eq_true,beq_iff_eq] at *
  rcases h1 with h1 | ⟨rfl,h1⟩
  · rcases h2 with h2 | ⟨rfl,h2⟩
    · exact .inl (by omega)
    · exact .inl h1
  · rcases h2 with h2 | ⟨rfl,h2⟩
    · exact .inl h2
    · exact .inr ⟨rfl,sLess_trans h1 h2⟩
theorem sLess_tri:∀ {x y:List Nat},sLess x y = false → sLess y x = false → x = y
 | [],[],_,_=>rfl
 | [],b :: y,h,_=>by simp [sLess] at h
 | a :: x,[],_,h=>by simp [sLess] at h
 | a :: x,b :: y,h1,h2=>by
  simp only [sLess,Bool.or_eq_false_iff,decide_eq_false_iff_not,Bool.and_eq_false_iff,beq_eq_false_iff_ne] at *
  have:a = b:=by omega
  subst this
  have h3:sLess x y = false:=by simpa using h1.2
  have h4:sLess y x = false:=by simpa using h2.2
  rw [sLess_tri h3 h4]
def insS:List (List Nat) → List Nat → List (List Nat)
 | [],k=>[k]
 | x :: l,k=>if sLess x k then x :: insS l k else k :: x :: l
def Asc (l:List (List Nat)):Prop:=l.Pairwise fun x y=>sLess y x = false
theorem insS_mem {k y:List Nat}:∀ {l:List (List Nat)},y ∈ insS l k ↔ y = k ∨ y ∈ l
 | []=>by simp [insS]
 | x :: l=>by
  simp only [insS]; split
  · rw [List.mem_cons,insS_mem (l:=l),List.mem_cons]
    constructor
    · rintro (h | h | h)
      · exact .inr (.inl h)
      · exact .inl h
      · exact .inr (.inr h)
    · rintro (h | h | h)
      · exact .inr (.inl h)
      · exact .inl h
      · exact .inr (.inr h)
  · rw [List.mem_cons]
theorem insS_perm {k:List Nat}:∀ {l:List (List Nat)},(insS l k).Perm (k :: l)
 | []=>by simp [insS]
 | x :: l=>by
  simp only [insS]; split
  · exact (List.Perm.cons x insS_perm).trans (.swap k x l)
  · exact .refl _
theorem insS_asc {k:List Nat}:∀ {l:List (List Nat)},Asc l → Asc (insS l k)
 | [],_=>by simp [insS,Asc]
 | x :: l,h=>by
  simp only [Asc,List.pairwise_cons] at h
  simp only [insS]; split
  · rename_i hx
    refine List.pairwise_cons.2 ⟨fun y hy=>?_,insS_asc h.2⟩
    rcases insS_mem.1 hy with rfl | hy
    · exact sLess_asym hx
    · exact h.1 y hy
  · rename_i hx
    refine List.pairwise_cons.2 ⟨fun y hy=>?_,List.pairwise_cons.2 h⟩
    rcases List.mem_cons.1 hy with rfl | hy
    · simpa using hx
    · cases hyk:sLess y k with
      | false=>rfl
      | true =>
       have h1:=h.1 y hy
       cases hxy:sLess x y with
       | true=>rw [sLess_trans hxy hyk] at hx; exact (hx rfl).elim
       | false=>rw [sLess_tri hxy h1] at hx; exact (hx hyk).elim
theorem asc_unique:∀ {l m:List (List Nat)},Asc l → Asc m → l.Perm m → l = m
 | [],m,_,_,h=>by simpa using h.length_eq.symm
 | x :: l,[],_,_,h=>by simpa using h.length_eq
 | x :: l,y :: m,hl,hm,h=>by
  have hxy:x = y:=by
   simp only [Asc,List.pairwise_cons] at hl hm
   have h1:y ∈ x :: l:=h.mem_iff.2 List.mem_cons_self
   have h2:x ∈ y :: m:=h.mem_iff.1 List.mem_cons_self
   rcases List.mem_cons.1 h1 with e | h1
   · exact e.symm
   rcases List.mem_cons.1 h2 with e | h2
   · exact e
   exact sLess_tri (hm.1 x h2) (hl.1 y h1)
  subst hxy
  rw [asc_unique (List.pairwise_cons.1 hl).2 (List.pairwise_cons.1 hm).2 (List.Perm.cons_inv h)]
def sortS (l:List (List Nat)):List (List Nat):=l.foldl insS []
theorem foldl_ins_perm:∀ (l acc:List (List Nat)),(l.foldl insS acc).Perm (acc ++ l)
 | [],_=>by simp
 | _ :: l,_=>by
  rw [List.foldl_cons]
  refine (foldl_ins_perm l _).trans ?_
  refine (List.Perm.append_right l insS_perm).trans ?_
  exact List.perm_middle.symm
theorem foldl_ins_asc:∀ (l acc:List (List Nat)),Asc acc → Asc (l.foldl insS acc)
 | [],_,h=>h
 | x :: l,acc,h=>foldl_ins_asc l _ (insS_asc h)
theorem sortS_perm (l:List (List Nat)):(sortS l).Perm l:=foldl_ins_perm l []
theorem sortS_asc (l:List (List Nat)):Asc (sortS l):=foldl_ins_asc l [] (by simp [Asc])
theorem sortS_of {l m:List (List Nat)} (h:m.Perm l) (hm:Asc m):m = sortS l:=asc_unique hm (sortS_asc l) (h.trans (sortS_perm l).symm)
end Go.Abs
namespace Go.Abs
open Go.Proofs
theorem chkRowsFrom_iff:∀ {l:List RowD} {seen:List (List Nat)},chkRowsFrom seen l = 0 ↔ (∀ r ∈ l,okRow r) ∧ (keysOf l).Nodup ∧ ∀ k ∈ keysOf l,k ∉ seen
 | [],seen=>by simp [chkRowsFrom,keysOf]
 | x :: l,seen=>by
  simp only [chkRowsFrom]
  have key:firstE [whenE (!isName x.key) 8,whenE (seen.contains x.key) 9,chkVals x.vals] = 0 ↔ okRow x ∧ x.key ∉ seen:=by
   rw [first3,when0 (by omega),when0 (by omega),okRow]
   simp [and_assoc,and_comm]
  have ih:=chkRowsFrom_iff (l:=l) (seen:=seen ++ [x.key])
  by_cases h:firstE [whenE (!isName x.key) 8,whenE (seen.contains x.key) 9,chkVals x.vals] = 0
  · rw [if_pos h,ih]
    rw [key] at h
    simp only [keysOf,List.mem_cons,forall_eq_or_imp,List.map_cons,List.nodup_cons,List.mem_append,List.mem_singleton,not_or,List.not_mem_nil,or_false] at *
    constructor
    · rintro ⟨h1,h2,h3⟩
      exact ⟨⟨h.1,h1⟩,⟨fun hm=>(h3 _ hm).2 rfl,h2⟩,h.2,fun k hk=>(h3 k hk).1⟩
    · rintro ⟨⟨_,h1⟩,⟨h2,h3⟩,h4,h5⟩
      exact ⟨h1,h3,fun k hk=>⟨h5 k hk,fun e=>h2 (e ▸ hk)⟩⟩
  · rw [if_neg h]
    constructor
    · intro h2; exact (h h2).elim
    · rintro ⟨h1,_,h3⟩
      exact (h (key.2 ⟨h1 x List.mem_cons_self,h3 _ (by simp [keysOf])⟩)).elim
theorem chkRows_iff {l:List RowD}:chkRows l = 0 ↔ l.length ≤ 256 ∧ (∀ r ∈ l,okRow r) ∧ (keysOf l).Nodup:=by
 simp only [chkRows]
 split
 · constructor
   · intro h; omega
   · intro h; omega
 · rw [chkRowsFrom_iff]
   constructor
   · intro h; exact ⟨by omega,h.1,h.2.1⟩
   · intro h; exact ⟨h.2.1,h.2.2,fun k _=>by simp⟩
section merge
variable {base a b:List RowD}
theorem allK_nodup (ha:(keysOf a).Nodup) (hb:(keysOf b).Nodup):(allK a b).Nodup:=by
 rw [allK,List.nodup_append]
 refine ⟨ha,hb.filter _,fun x hx y hy e=>?_⟩
 subst e
 simp only [List.mem_filter,Bool.not_eq_true',List.contains_eq_mem,decide_eq_false_iff_not] at hy
 exact hy.2 hx
def confL (base a b:List RowD):List (List Nat):=sortS ((allK a b).filter (confS base a b))
theorem outS_keys (ha:(keysOf a).Nodup) (hb:(keysOf b).Nodup):(keysOf (outS base a b)).Nodup:=by
 have:(keysOf (outS base a b)).Sublist (allK a b):=by
  rw [outS]
  generalize allK a b = l
  induction l with
  | nil=>simp [keysOf]
  | cons x l ih =>
   rw [List.filterMap_cons]
   cases hx:look (srcS base a b x) x with
   | none=>simp only [rowAt,hx,Option.map_none]; simp only [rowAt] at ih; exact ih.cons _
   | some v=>simp only [rowAt,hx,Option.map_some]; simp only [rowAt] at ih; rw [keysOf,List.map_cons]; exact ih.cons_cons _
 exact this.nodup (allK_nodup ha hb)
theorem srcS_mem {k:List Nat} {r:RowD} (h:rowAt (srcS base a b k) k = some r):r.key = k ∧ (r ∈ a ∨ r ∈ b):=by
 simp only [rowAt,Option.map_eq_some_iff] at h
 obtain ⟨v,h,rfl⟩:=h
 refine ⟨rfl,?_⟩
 simp only [srcS] at h
 split at h
 · exact .inr (look_mem h)
 · exact .inl (look_mem h)
theorem outS_mem {r:RowD} (h:r ∈ outS base a b):r ∈ a ∨ r ∈ b:=by
 simp only [outS,List.mem_filterMap] at h
 obtain ⟨k,_,h⟩:=h
 exact (srcS_mem h).2
theorem outS_len:(outS base a b).length ≤ a.length + b.length:=by
 rw [outS]
 refine Nat.le_trans (List.length_filterMap_le _ _) ?_
 rw [allK,List.length_append]
 have:=List.length_filter_le (fun k=>!(keysOf a).contains k) (keysOf b)
 simp only [keysOf,List.length_map] at *
 omega
theorem outS_ok (ha:chkRows a = 0) (hb:chkRows b = 0) (hl:a.length + b.length ≤ 256):chkRows (outS base a b) = 0:=by
 rw [chkRows_iff] at *
 refine ⟨by have:=outS_len (base:=base) (a:=a) (b:=b); omega,fun r hr=>?_,outS_keys ha.2.2 hb.2.2⟩
 rcases outS_mem hr with h | h
 · exact ha.2.1 r h
 · exact hb.2.1 r h
end merge
end Go.Abs
namespace Go.Abs
open Go.Proofs
set_option maxHeartbeats 4000000
set_option maxRecDepth 100000
structure BookD where
 name:List Nat
 rows:List RowD
 deriving DecidableEq
def eBook (b:BookD):PV:=.st 23 [.str b.name,.seq (b.rows.map eRow)]
def rBook (b:BookD):PV:=.st 26 [.str b.name,.seq (b.rows.map eRow)]
def bookB (b:BookD):Prop:=b.name.length ≤ 1048576 ∧ rowsB b.rows
def chkBook (b:BookD):Int:=firstE [whenE (!isName b.name) 8,chkRows b.rows]
def shortBook (b:BookD) (n:Nat):Bool:=decide (b.name.length ≤ 60) && shortRows b.rows n
theorem c_book (b:BookD) (h:b.rows.length ≤ 1048576):GoodC Tryz.prog 15 [eBook b] (rBook b):=by
 refine good_fn nf isF15 mix (by simp [Tryz.f15]) ?_
 simp [Tryz.f15,eBook]
 refine e1 (c_own b.rows h) ?_
 simp [rBook]
theorem c_shortBook (b:BookD) (n:Nat) (h:b.rows.length ≤ 1048576) (hn:n ≤ 100):GoodC Tryz.prog 16 [rBook b,.int .i64 n] (.bool (shortBook b n)):=by
 refine good_fn nf isF16 mix (by simp [Tryz.f16]) ?_
 by_cases hl:(b.name.length:Int) ≤ 60
 · have hl':b.name.length ≤ 60:=by omega
   simp [Tryz.f16,rBook,hl]
   refine c2 (c_shortRows b.rows n h hn) ?_
   simp [shortBook,hl']
 · have hl':¬ b.name.length ≤ 60:=by omega
   simp [Tryz.f16,rBook,hl,shortBook,hl']
theorem c_checkBookR (b:BookD) (h:bookB b):GoodC Tryz.prog 18 [rBook b] (.int .i64 (chkBook b)):=by
 refine good_fn nf isF18 mix (by simp [Tryz.f18]) ?_
 simp [Tryz.f18,rBook]
 refine c1 (c_refIsName b.name h.1) ?_
 cases hn:isName b.name
 · simp [chkBook,hn,firstE,whenE]
 · simp
   refine c1 (c_checkRowsR b.rows h.2) ?_
   simp [chkBook,hn,firstE,whenE]
   by_cases h0:chkRows b.rows = 0 <;> simp [h0]
theorem c_checkBook (b:BookD) (h:bookB b):GoodC Tryz.prog 19 [eBook b] (.int .i64 (chkBook b)):=by
 refine good_fn nf isF19 mix (by simp [Tryz.f19]) ?_
 simp [Tryz.f19,eBook]
 refine e1 (c_named b.name h.1) ?_
 simp
 refine e1 (c_checkRows b.rows h.2) ?_
 simp
 refine ep (h1:=?g1) (c_first [whenE (!isName b.name) 8,chkRows b.rows] (by simp)) (by simp; exact ⟨rfl,rfl⟩) (by simp; exact ⟨rfl,rfl⟩) ?_
 case g1=>simp
 simp [chkBook]
 rfl
theorem c_sameBook (a b:BookD) (ha:bookB a) (hb:bookB b):GoodC Tryz.prog 24 [rBook a,rBook b] (.bool (decide (a = b))):=by
 have e:(a = b) ↔ (a.name = b.name ∧ a.rows = b.rows):=by cases a; cases b; simp
 refine good_fn nf isF24 mix (by simp [Tryz.f24]) ?_
 by_cases hn:a.name = b.name
 · simp [Tryz.f24,rBook,hn]
   refine c2 (c_sameRows a.rows b.rows ha.2 hb.2) ?_
   simp [e,hn]
 · simp [Tryz.f24,rBook,hn,e]
theorem c_sameWords (a b:List (List Nat)) (ha:a.length ≤ 1048576) (hb:b.length ≤ 1048576):GoodC Tryz.prog 28 [.seq (a.map .str),.seq (b.map .str)] (.bool (decide (a = b))):=by
 refine good_fn nf isF28 mix (by simp [Tryz.f28]) ?_
 by_cases hl:a.length = b.length
 case neg =>
  have hl':¬ (a.length:Int) = b.length:=by omega
  simp [Tryz.f28,hl,hl',len_ne hl]
 have hl':(a.length:Int) = b.length:=by omega
 simp [Tryz.f28,hl,hl']
 refine lp (α:=Nat) (fun i=>⟨[(5,.p (.int .i64 i)),(1,.p (.seq (b.map .str))),(0,.p (.seq (a.map .str)))],[]⟩) (fun i=>i ≤ a.length ∧ decide (a.drop i = b.drop i) = decide (a = b)) (fun i=>a.length - i) 0 (by simp) ?_
 rintro i ⟨k1,k2⟩
 by_cases hi:i < a.length
 · have hib:i < b.length:=by omega
   rw [beq_drop hi hib] at k2
   have hw:=wi1 (i:=i) (by omega)
   by_cases he:a[i] = b[i]
   · simp [he] at k2
     simp [hi,hib,he,hw]
     exact rd (i + 1) ⟨hi,by simpa using k2⟩
   · simp [he] at k2
     simp [hi,hib,he,k2]
 · have:i = a.length:=by omega
   subst this
   have hb0:b.drop a.length = []:=List.drop_eq_nil_of_le (by omega)
   simp [hb0] at k2
   simp [k2]
end Go.Abs
namespace Go.Abs
open Go.Proofs Go.Proofs.YthckccalfpnmaaaGreatDoor
set_option maxRecDepth 100000
section
variable {H:Type} {W:World} {Imm:Nat → Prop}
theorem two_of2 {P : Program} {n : Nat} {t : TypeId} {f0 f1 : Field} {k0 k1 : Nat} (ht : P.underlying t = some (.struct #[f0, f1])) (hs : szs P (P.underlyingId t) = some [k0, k1])
    {d:DataW H} {cs:List Value} (h:PVC P W Imm (toPV P (n + 1) t d) cs) :
    ∃ (x y:DataW H) (r:List (DataW H)) (c0 c1:List Value),d = .agg (x :: y :: r) ∧ toPV P (n + 1) t d = .st (P.underlyingId t) [toPV P n f0.type x,toPV P n f1.type y] ∧ PVC P W Imm (toPV P n f0.type x) c0 ∧ PVC P W Imm (toPV P n f1.type y) c1:=by
 cases d with
 | agg l =>
  simp only [toPV,ht,PVC] at h ⊢
  obtain ⟨l',css,h1,h2,_⟩:=h
  rw [hs] at h1; cases h1
  match l,h2 with
  | [],h2=>simp [PVCl] at h2
  | [x],h2=>simp [PVCl] at h2
  | x :: y :: r,h2 =>
   simp only [List.zip_cons_cons,List.map_cons,PVCl,List.zip_nil_left,List.map_nil] at h2 ⊢
   obtain ⟨c0,_,_,g1,_,c1,_,_,g2,_⟩:=h2
   exact ⟨x,y,r,c0,c1,rfl,rfl,g1,g2⟩
 | _=>simp only [toPV,ht,PVC] at h
theorem unBook:∃ f0 f1:Field,Tryz.prog.underlying 24 = some (.struct #[f0,f1]) ∧ f0.type = 9 ∧ f1.type = 22:=⟨_,_,Tryz.underlying24,rfl,rfl⟩
theorem uidBook:Tryz.prog.underlyingId 24 = 23:=by kernel_rfl
end
end Go.Abs
namespace Go.Abs
open Go.Proofs
noncomputable def tabL:List (Nat × Func):=[(17,Tryz.f17),(19,Tryz.f19),(20,Tryz.f20),(21,Tryz.f21),(25,Tryz.f25),(28,Tryz.f28),(29,Tryz.f29),(31,Tryz.f31),(36,Tryz.f36),(45,Tryz.f45),(46,Tryz.f46),(55,Tryz.f55),(56,Tryz.f56),(61,Tryz.f61),(63,Tryz.f63),(64,Tryz.f64),(66,Tryz.f66),(67,Tryz.f67),(72,Tryz.f72),(73,Tryz.f73),(77,Tryz.f77),(88,Tryz.f88),(89,Tryz.f89),(90,Tryz.f90),(91,Tryz.f91),(92,Tryz.f92),(93,Tryz.f93),(94,Tryz.f94),(95,Tryz.f95),(96,Tryz.f96),(97,Tryz.f97),(98,Tryz.f98),(99,Tryz.f99),(100,Tryz.f100),(101,Tryz.f101),(102,Tryz.f102),(103,Tryz.f103),(104,Tryz.f104),(105,Tryz.f105),(106,Tryz.f106),(107,Tryz.f107),(109,Tryz.f109),(110,Tryz.f110),(111,Tryz.f111),(115,Tryz.f115),(117,Tryz.f117),(118,Tryz.f118),(119,Tryz.f119),(124,Tryz.f124),(125,Tryz.f125),(126,Tryz.f126),(127,Tryz.f127),(128,Tryz.f128),(129,Tryz.f129),(130,Tryz.f130),(131,Tryz.f131),(132,Tryz.f132),(138,Tryz.f138),(139,Tryz.f139),(140,Tryz.f140),(141,Tryz.f141),(144,Tryz.f144),(145,Tryz.f145),(146,Tryz.f146),(148,Tryz.f148),(151,Tryz.f151),(152,Tryz.f152),(153,Tryz.f153),(154,Tryz.f154),(157,Tryz.f157),(158,Tryz.f158),(159,Tryz.f159),(160,Tryz.f160),(161,Tryz.f161),(163,Tryz.f163),(164,Tryz.f164),(165,Tryz.f165),(166,Tryz.f166),(167,Tryz.f167),(168,Tryz.f168),(169,Tryz.f169),(170,Tryz.f170),(171,Tryz.f171),(172,Tryz.f172),(177,Tryz.f177),(178,Tryz.f178),(179,Tryz.f179),(180,Tryz.f180),(181,Tryz.f181),(182,Tryz.f182),(183,Tryz.f183),(184,Tryz.f184),(185,Tryz.f185),(186,Tryz.f186),(187,Tryz.f187),(188,Tryz.f188),(189,Tryz.f189),(190,Tryz.f190),(191,Tryz.f191),(192,Tryz.f192),(193,Tryz.f193),(194,Tryz.f194),(195,Tryz.f195),(196,Tryz.f196),(197,Tryz.f197),(199,Tryz.f199),(200,Tryz.f200),(201,Tryz.f201),(202,Tryz.f202),(203,Tryz.f203),(204,Tryz.f204),(205,Tryz.f205),(206,Tryz.f206),(207,Tryz.f207),(208,Tryz.f208),(209,Tryz.f209),(210,Tryz.f210),(212,Tryz.f212),(213,Tryz.f213),(214,Tryz.f214),(215,Tryz.f215),(216,Tryz.f216),(217,Tryz.f217),(218,Tryz.f218),(221,Tryz.f221),(222,Tryz.f222),(223,Tryz.f223),(225,Tryz.f225),(226,Tryz.f226),(227,Tryz.f227),(228,Tryz.f228),(229,Tryz.f229),(230,Tryz.f230),(231,Tryz.f231),(232,Tryz.f232),(233,Tryz.f233),(234,Tryz.f234),(235,Tryz.f235),(237,Tryz.f237),(238,Tryz.f238),(239,Tryz.f239),(240,Tryz.f240),(241,Tryz.f241),(242,Tryz.f242),(243,Tryz.f243),(244,Tryz.f244),(245,Tryz.f245),(246,Tryz.f246),(247,Tryz.f247),(248,Tryz.f248),(249,Tryz.f249),(250,Tryz.f250),(251,Tryz.f251),(252,Tryz.f252),(255,Tryz.f255),(256,Tryz.f256),(257,Tryz.f257),(258,Tryz.f258),(259,Tryz.f259),(260,Tryz.f260),(261,Tryz.f261),(262,Tryz.f262),(263,Tryz.f263),(264,Tryz.f264),(265,Tryz.f265),(266,Tryz.f266),(267,Tryz.f267),(268,Tryz.f268),(269,Tryz.f269),(270,Tryz.f270),(271,Tryz.f271),(273,Tryz.f273),(275,Tryz.f275),(276,Tryz.f276),(277,Tryz.f277),(278,Tryz.f278),(279,Tryz.f279),(280,Tryz.f280),(281,Tryz.f281),(282,Tryz.f282),(283,Tryz.f283),(284,Tryz.f284),(285,Tryz.f285),(286,Tryz.f286),(287,Tryz.f287),(288,Tryz.f288),(289,Tryz.f289),(290,Tryz.f290),(291,Tryz.f291),(292,Tryz.f292),(293,Tryz.f293),(295,Tryz.f295),(296,Tryz.f296),(298,Tryz.f298),(299,Tryz.f299),(300,Tryz.f300),(301,Tryz.f301),(302,Tryz.f302),(303,Tryz.f303),(304,Tryz.f304),(305,Tryz.f305),(306,Tryz.f306),(307,Tryz.f307),(308,Tryz.f308),(309,Tryz.f309),(310,Tryz.f310),(311,Tryz.f311),(312,Tryz.f312),(313,Tryz.f313),(314,Tryz.f314),(315,Tryz.f315),(316,Tryz.f316),(317,Tryz.f317),(318,Tryz.f318),(319,Tryz.f319),(320,Tryz.f320),(321,Tryz.f321),(322,Tryz.f322),(323,Tryz.f323),(324,Tryz.f324),(325,Tryz.f325),(326,Tryz.f326),(327,Tryz.f327),(328,Tryz.f328),(329,Tryz.f329),(330,Tryz.f330),(331,Tryz.f331),(332,Tryz.f332),(333,Tryz.f333),(334,Tryz.f334),(335,Tryz.f335),(336,Tryz.f336)]
def lookT:List (Nat × Func) → Nat → Option Func
 | [],_=>none
 | (i,f) :: r,n=>bif Nat.beq n i then some f else lookT r n
def S (s:String):PV:=.str (s.toUTF8.data.toList.map (·.toNat))
end Go.Abs
namespace Go.Proofs
open Go.Shelf
def Tryz.lays156_ren:Go.Shelf.Ren:=⟨fun | 156=>159 | 165=>169 | 166=>97 | 169=>101 | 240=>180 | 241=>230 | 276=>236 | 277=>274 | n=>n,fun | 31=>44 | 9=>9 | 3=>3 | 4=>4 | 0=>0 | 20=>20 | 72=>162 | 76=>165 | 70=>160 | 37=>126 | 75=>164 | 127=>283 | 164=>326 | 5=>5 | 80=>111 | n=>n,fun | n=>n⟩
theorem Tryz.lays156:Go.Proofs.Lays.n156 Tryz.prog Tryz.lays156_ren:={
 mixed:=by kernel_rfl
 f156:=Tryz.func159.trans (congrArg some (by kernel_rfl))
 f165:=Tryz.func169.trans (congrArg some (by kernel_rfl))
 f166:=Tryz.func97.trans (congrArg some (by kernel_rfl))
 f169:=Tryz.func101.trans (congrArg some (by kernel_rfl))
 f240:=Tryz.func180.trans (congrArg some (by kernel_rfl))
 f241:=Tryz.func230.trans (congrArg some (by kernel_rfl))
 f276:=Tryz.func236.trans (congrArg some (by kernel_rfl))
 f277:=Tryz.func274.trans (congrArg some (by kernel_rfl))
 t0:=Tryz.underlying0
 a0:=Tryz.isAgg0
 z0:=Tryz.sizeOf0
 v0:=Tryz.zeroValue0
 t3:=Tryz.underlying3
 a3:=Tryz.isAgg3
 z3:=Tryz.sizeOf3
 v3:=Tryz.zeroValue3
 t4:=Tryz.underlying4
 a4:=Tryz.isAgg4
 z4:=Tryz.sizeOf4
 v4:=Tryz.zeroValue4
 t9:=Tryz.underlying9
 a9:=Tryz.isAgg9
 z9:=Tryz.sizeOf9
 v9:=Tryz.zeroValue9
 t20:=Tryz.underlying20
 a20:=Tryz.isAgg20
 z20:=Tryz.sizeOf20
 v20:=Tryz.zeroValue20
 t31:=Tryz.underlying44
 a31:=Tryz.isAgg44
 z31:=Tryz.sizeOf44
 v31:=Tryz.zeroValue44
 t37:=Tryz.underlying126
 a37:=Tryz.isAgg126
 z37:=Tryz.sizeOf126
 v37:=Tryz.zeroValue126
 t70:=Tryz.underlying160
 a70:=Tryz.isAgg160
 z70:=Tryz.sizeOf160
 v70:=Tryz.zeroValue160
 t72:=Tryz.underlying162
 a72:=Tryz.isAgg162
 z72:=Tryz.sizeOf162
 v72:=Tryz.zeroValue162
 t75:=Tryz.underlying164
 a75:=Tryz.isAgg164
 z75:=Tryz.sizeOf164
 v75:=Tryz.zeroValue164
 t76:=Tryz.underlying165
 a76:=Tryz.isAgg165
 z76:=Tryz.sizeOf165
 v76:=Tryz.zeroValue165
 t127:=Tryz.underlying283
 a127:=Tryz.isAgg283
 z127:=Tryz.sizeOf283
 v127:=Tryz.zeroValue283
 t164:=Tryz.underlying326
 a164:=Tryz.isAgg326
 z164:=Tryz.sizeOf326
 v164:=Tryz.zeroValue326 }
theorem Tryz.Builder_Extra_156:Builder.Extra Tryz.prog Tryz.lays156_ren:={
 sizeBuilder:=by kernel_rfl
 liesBuilder:=by kernel_rfl
 t5:=Tryz.underlying5
 a5:=Tryz.isAgg5
 z5:=Tryz.sizeOf5
 v5:=Tryz.zeroValue5
 infoByte:=by kernel_rfl
 cellsByte:=by kernel_rfl
 sizeByte:=by kernel_rfl
 neB5:=by decide }
open Go.RowKit in
theorem Tryz.strings_Join_none (a : Option Addr) (c : Nat) (sep : ByteArray) (w : World) :
    Calls Tryz.prog 159 #[.slice a 0 c,.string sep] w fun e w'=>e = .returned (.string ⟨#[]⟩) ∧ w' = w:=Any.strings_Join_none Tryz.lays156 Tryz.Builder_Extra_156 a c sep w
open Go.RowKit in
theorem Tryz.strings_Join (bk o c : Nat) (xs : List ByteArray) (sep : ByteArray) (w : World) (hcells : ∀ (j : Nat) x, xs[j]? = some x → w.cell? ⟨bk, o + j, none⟩ = some (.string x)) (hbk : bk < w.heap.size) (hN : xs.length ≤ 140737488355328) (hcap : xs.length ≤ c) (hlen : (Lib.join (xs.map (·.data.toList)) sep.data.toList).length ≤ 140737488355328) :
    Calls Tryz.prog 159 #[.slice (some ⟨bk,o,none⟩) xs.length c,.string sep] w fun e w'=>e = .returned (.string ⟨(Lib.join (xs.map (·.data.toList)) sep.data.toList).toArray⟩) ∧ Below w.heap.size w w':=Any.strings_Join Tryz.lays156 Tryz.Builder_Extra_156 bk o c xs sep w hcells hbk hN hcap hlen
def Tryz.laysM171_ren:Go.Shelf.Ren:=⟨fun | 171=>182 | 243=>237 | 246=>276 | 283=>305 | 284=>306 | 285=>307 | 286=>308 | 129=>271 | 317=>323 | 318=>324 | 319=>325 | 320=>326 | 337=>333 | 338=>334 | n=>n,fun | 3=>3 | 9=>9 | 2=>2 | 4=>4 | 171=>384 | 0=>0 | 53=>320 | 37=>126 | 5=>5 | 173=>386 | 212=>401 | 51=>317 | 20=>20 | 213=>402 | 46=>261 | 232=>418 | 233=>419 | n=>n,fun | 17=>1 | 18=>6 | 19=>7 | n=>n⟩
theorem Tryz.laysM171:Go.Proofs.LaysM.n171 Tryz.prog Tryz.laysM171_ren:={
 mixed:=by kernel_rfl
 f129:=Tryz.func271.trans (congrArg some (by kernel_rfl))
 f171:=Tryz.func182.trans (congrArg some (by kernel_rfl))
 f243:=Tryz.func237.trans (congrArg some (by kernel_rfl))
 f246:=Tryz.func276.trans (congrArg some (by kernel_rfl))
 f283:=Tryz.func305.trans (congrArg some (by kernel_rfl))
 f284:=Tryz.func306.trans (congrArg some (by kernel_rfl))
 f285:=Tryz.func307.trans (congrArg some (by kernel_rfl))
 f286:=Tryz.func308.trans (congrArg some (by kernel_rfl))
 f317:=Tryz.func323.trans (congrArg some (by kernel_rfl))
 f318:=Tryz.func324.trans (congrArg some (by kernel_rfl))
 f319:=Tryz.func325.trans (congrArg some (by kernel_rfl))
 f320:=Tryz.func326.trans (congrArg some (by kernel_rfl))
 f337:=Tryz.func333.trans (congrArg some (by kernel_rfl))
 f338:=Tryz.func334.trans (congrArg some (by kernel_rfl))
 t0:=Tryz.underlying0
 a0:=Tryz.isAgg0
 z0:=Tryz.sizeOf0
 v0:=Tryz.zeroValue0
 t2:=Tryz.underlying2
 a2:=Tryz.isAgg2
 z2:=Tryz.sizeOf2
 v2:=Tryz.zeroValue2
 t3:=Tryz.underlying3
 a3:=Tryz.isAgg3
 z3:=Tryz.sizeOf3
 v3:=Tryz.zeroValue3
 t4:=Tryz.underlying4
 a4:=Tryz.isAgg4
 z4:=Tryz.sizeOf4
 v4:=Tryz.zeroValue4
 t5:=Tryz.underlying5
 a5:=Tryz.isAgg5
 z5:=Tryz.sizeOf5
 v5:=Tryz.zeroValue5
 t9:=Tryz.underlying9
 a9:=Tryz.isAgg9
 z9:=Tryz.sizeOf9
 v9:=Tryz.zeroValue9
 t20:=Tryz.underlying20
 a20:=Tryz.isAgg20
 z20:=Tryz.sizeOf20
 v20:=Tryz.zeroValue20
 t37:=Tryz.underlying126
 a37:=Tryz.isAgg126
 z37:=Tryz.sizeOf126
 v37:=Tryz.zeroValue126
 t46:=Tryz.underlying261
 a46:=Tryz.isAgg261
 z46:=Tryz.sizeOf261
 v46:=Tryz.zeroValue261
 t51:=Tryz.underlying317
 a51:=Tryz.isAgg317
 z51:=Tryz.sizeOf317
 v51:=Tryz.zeroValue317
 t53:=Tryz.underlying320
 a53:=Tryz.isAgg320
 z53:=Tryz.sizeOf320
 v53:=Tryz.zeroValue320
 t171:=Tryz.underlying384
 a171:=Tryz.isAgg384
 z171:=Tryz.sizeOf384
 v171:=Tryz.zeroValue384
 t173:=Tryz.underlying386
 a173:=Tryz.isAgg386
 z173:=Tryz.sizeOf386
 v173:=Tryz.zeroValue386
 t212:=Tryz.underlying401
 a212:=Tryz.isAgg401
 z212:=Tryz.sizeOf401
 v212:=Tryz.zeroValue401
 t213:=Tryz.underlying402
 a213:=Tryz.isAgg402
 z213:=Tryz.sizeOf402
 t232:=Tryz.underlying418
 a232:=Tryz.isAgg418
 z232:=Tryz.sizeOf418
 v232:=Tryz.zeroValue418
 t233:=Tryz.underlying419
 a233:=Tryz.isAgg419
 z233:=Tryz.sizeOf419
 v233:=Tryz.zeroValue419
 g17:=by kernel_rfl
 g18:=by kernel_rfl
 g19:=by kernel_rfl
 i0:=by kernel_rfl
 i2:=by kernel_rfl
 i3:=by kernel_rfl
 i4:=by kernel_rfl
 i5:=by kernel_rfl
 i9:=by kernel_rfl
 i20:=by kernel_rfl
 i37:=by kernel_rfl
 i46:=by kernel_rfl
 i51:=by kernel_rfl
 i53:=by kernel_rfl
 i171:=by kernel_rfl
 i173:=by kernel_rfl
 i212:=by kernel_rfl
 i232:=by kernel_rfl
 i233:=by kernel_rfl
 m17:=by kernel_rfl
 m18:=by kernel_rfl
 m19:=by kernel_rfl }
open Go.RowKit Go.Sort Go.Lib in
theorem Tryz.strconv_Itoa (n : Int) (h0 : -9223372036854775808 ≤ n) (h1 : n ≤ 9223372036854775807) (w : World) (htab : Lib.TabIs Tryz.prog w "internal/strconv.uint64pow10" .u64 Lib.pow10Tab) :
    Calls Tryz.prog 182 #[.int .i64 n] w fun e w'=>e = .returned (.string ⟨(Lib.itoa n).toArray⟩) ∧ ∃ k os,w' = grow (w.drewN k) os:=Any.strconv_Itoa Tryz.laysM171 n h0 h1 w htab
def Tryz.laysC172_ren:Go.Shelf.Ren:=⟨fun | 172=>239 | 244=>278 | 245=>279 | 247=>309 | 279=>310 | 280=>311 | 281=>312 | 282=>313 | 287=>327 | 316=>328 | 171=>182 | 205=>329 | 321=>335 | 322=>336 | 243=>237 | 246=>276 | 283=>305 | 284=>306 | 285=>307 | 286=>308 | 129=>271 | 317=>323 | 318=>324 | 319=>325 | 320=>326 | 337=>333 | 338=>334 | n=>n,fun | 9=>9 | 3=>3 | 75=>164 | 76=>165 | 4=>4 | 5=>5 | 167=>388 | 37=>126 | 0=>0 | 85=>389 | 2=>2 | 168=>391 | 53=>320 | 175=>403 | 46=>261 | 210=>406 | 127=>283 | 145=>417 | 143=>415 | 21=>21 | 171=>384 | 173=>386 | 212=>401 | 51=>317 | 20=>20 | 213=>402 | 232=>418 | 233=>419 | 80=>111 | n=>n,fun | 15=>2 | 16=>3 | 17=>1 | 18=>6 | 19=>7 | n=>n⟩
theorem Tryz.laysC172:Go.Proofs.LaysC.n172 Tryz.prog Tryz.laysC172_ren:={
 mixed:=by kernel_rfl
 f129:=Tryz.func271.trans (congrArg some (by kernel_rfl))
 f171:=Tryz.func182.trans (congrArg some (by kernel_rfl))
 f172:=Tryz.func239.trans (congrArg some (by kernel_rfl))
 f205:=Tryz.func329.trans (congrArg some (by kernel_rfl))
 f243:=Tryz.func237.trans (congrArg some (by kernel_rfl))
 f244:=Tryz.func278.trans (congrArg some (by kernel_rfl))
 f245:=Tryz.func279.trans (congrArg some (by kernel_rfl))
 f246:=Tryz.func276.trans (congrArg some (by kernel_rfl))
 f247:=Tryz.func309.trans (congrArg some (by kernel_rfl))
 f279:=Tryz.func310.trans (congrArg some (by kernel_rfl))
 f280:=Tryz.func311.trans (congrArg some (by kernel_rfl))
 f281:=Tryz.func312.trans (congrArg some (by kernel_rfl))
 f282:=Tryz.func313.trans (congrArg some (by kernel_rfl))
 f283:=Tryz.func305.trans (congrArg some (by kernel_rfl))
 f284:=Tryz.func306.trans (congrArg some (by kernel_rfl))
 f285:=Tryz.func307.trans (congrArg some (by kernel_rfl))
 f286:=Tryz.func308.trans (congrArg some (by kernel_rfl))
 f287:=Tryz.func327.trans (congrArg some (by kernel_rfl))
 f316:=Tryz.func328.trans (congrArg some (by kernel_rfl))
 f317:=Tryz.func323.trans (congrArg some (by kernel_rfl))
 f318:=Tryz.func324.trans (congrArg some (by kernel_rfl))
 f319:=Tryz.func325.trans (congrArg some (by kernel_rfl))
 f320:=Tryz.func326.trans (congrArg some (by kernel_rfl))
 f321:=Tryz.func335.trans (congrArg some (by kernel_rfl))
 f322:=Tryz.func336.trans (congrArg some (by kernel_rfl))
 f337:=Tryz.func333.trans (congrArg some (by kernel_rfl))
 f338:=Tryz.func334.trans (congrArg some (by kernel_rfl))
 t0:=Tryz.underlying0
 a0:=Tryz.isAgg0
 z0:=Tryz.sizeOf0
 v0:=Tryz.zeroValue0
 t2:=Tryz.underlying2
 a2:=Tryz.isAgg2
 z2:=Tryz.sizeOf2
 v2:=Tryz.zeroValue2
 t3:=Tryz.underlying3
 a3:=Tryz.isAgg3
 z3:=Tryz.sizeOf3
 v3:=Tryz.zeroValue3
 t4:=Tryz.underlying4
 a4:=Tryz.isAgg4
 z4:=Tryz.sizeOf4
 v4:=Tryz.zeroValue4
 t5:=Tryz.underlying5
 a5:=Tryz.isAgg5
 z5:=Tryz.sizeOf5
 v5:=Tryz.zeroValue5
 t9:=Tryz.underlying9
 a9:=Tryz.isAgg9
 z9:=Tryz.sizeOf9
 v9:=Tryz.zeroValue9
 t20:=Tryz.underlying20
 a20:=Tryz.isAgg20
 z20:=Tryz.sizeOf20
 v20:=Tryz.zeroValue20
 t21:=Tryz.underlying21
 a21:=Tryz.isAgg21
 z21:=Tryz.sizeOf21
 v21:=Tryz.zeroValue21
 t37:=Tryz.underlying126
 a37:=Tryz.isAgg126
 z37:=Tryz.sizeOf126
 v37:=Tryz.zeroValue126
 t46:=Tryz.underlying261
 a46:=Tryz.isAgg261
 z46:=Tryz.sizeOf261
 v46:=Tryz.zeroValue261
 t51:=Tryz.underlying317
 a51:=Tryz.isAgg317
 z51:=Tryz.sizeOf317
 v51:=Tryz.zeroValue317
 t53:=Tryz.underlying320
 a53:=Tryz.isAgg320
 z53:=Tryz.sizeOf320
 v53:=Tryz.zeroValue320
 t75:=Tryz.underlying164
 a75:=Tryz.isAgg164
 z75:=Tryz.sizeOf164
 v75:=Tryz.zeroValue164
 t76:=Tryz.underlying165
 a76:=Tryz.isAgg165
 z76:=Tryz.sizeOf165
 v76:=Tryz.zeroValue165
 t85:=Tryz.underlying389
 a85:=Tryz.isAgg389
 z85:=Tryz.sizeOf389
 v85:=Tryz.zeroValue389
 t127:=Tryz.underlying283
 a127:=Tryz.isAgg283
 z127:=Tryz.sizeOf283
 v127:=Tryz.zeroValue283
 t143:=Tryz.underlying415
 a143:=Tryz.isAgg415
 z143:=Tryz.sizeOf415
 v143:=Tryz.zeroValue415
 t145:=Tryz.underlying417
 a145:=Tryz.isAgg417
 z145:=Tryz.sizeOf417
 v145:=Tryz.zeroValue417
 t167:=Tryz.underlying388
 a167:=Tryz.isAgg388
 z167:=Tryz.sizeOf388
 v167:=Tryz.zeroValue388
 t168:=Tryz.underlying391
 a168:=Tryz.isAgg391
 z168:=Tryz.sizeOf391
 v168:=Tryz.zeroValue391
 t171:=Tryz.underlying384
 a171:=Tryz.isAgg384
 z171:=Tryz.sizeOf384
 v171:=Tryz.zeroValue384
 t173:=Tryz.underlying386
 a173:=Tryz.isAgg386
 z173:=Tryz.sizeOf386
 v173:=Tryz.zeroValue386
 t175:=Tryz.underlying403
 a175:=Tryz.isAgg403
 z175:=Tryz.sizeOf403
 v175:=Tryz.zeroValue403
 t210:=Tryz.underlying406
 a210:=Tryz.isAgg406
 z210:=Tryz.sizeOf406
 v210:=Tryz.zeroValue406
 t212:=Tryz.underlying401
 a212:=Tryz.isAgg401
 z212:=Tryz.sizeOf401
 v212:=Tryz.zeroValue401
 t213:=Tryz.underlying402
 a213:=Tryz.isAgg402
 z213:=Tryz.sizeOf402
 t232:=Tryz.underlying418
 a232:=Tryz.isAgg418
 z232:=Tryz.sizeOf418
 v232:=Tryz.zeroValue418
 t233:=Tryz.underlying419
 a233:=Tryz.isAgg419
 z233:=Tryz.sizeOf419
 v233:=Tryz.zeroValue419
 g15:=by kernel_rfl
 g16:=by kernel_rfl
 g17:=by kernel_rfl
 g18:=by kernel_rfl
 g19:=by kernel_rfl
 t80:=Tryz.underlying111
 a80:=Tryz.isAgg111
 z80:=Tryz.sizeOf111
 v80:=Tryz.zeroValue111
 i0:=by kernel_rfl
 i2:=by kernel_rfl
 i3:=by kernel_rfl
 i4:=by kernel_rfl
 i5:=by kernel_rfl
 i9:=by kernel_rfl
 i20:=by kernel_rfl
 i21:=by kernel_rfl
 i37:=by kernel_rfl
 i46:=by kernel_rfl
 i51:=by kernel_rfl
 i53:=by kernel_rfl
 i75:=by kernel_rfl
 i76:=by kernel_rfl
 i80:=by kernel_rfl
 i85:=by kernel_rfl
 i127:=by kernel_rfl
 i143:=by kernel_rfl
 i145:=by kernel_rfl
 i167:=by kernel_rfl
 i168:=by kernel_rfl
 i171:=by kernel_rfl
 i173:=by kernel_rfl
 i175:=by kernel_rfl
 i210:=by kernel_rfl
 i212:=by kernel_rfl
 i232:=by kernel_rfl
 i233:=by kernel_rfl
 m15:=by kernel_rfl
 m16:=by kernel_rfl
 m17:=by kernel_rfl
 m18:=by kernel_rfl
 m19:=by kernel_rfl
 c0:=by kernel_rfl
 c2:=by kernel_rfl
 c3:=by kernel_rfl
 c4:=by kernel_rfl
 c5:=by kernel_rfl
 c9:=by kernel_rfl
 c20:=by kernel_rfl
 c21:=by kernel_rfl
 c37:=by kernel_rfl
 c46:=by kernel_rfl
 c51:=by kernel_rfl
 c53:=by kernel_rfl
 c75:=by kernel_rfl
 c76:=by kernel_rfl
 c80:=by kernel_rfl
 c85:=by kernel_rfl
 c127:=by kernel_rfl
 c143:=by kernel_rfl
 c145:=by kernel_rfl
 c167:=by kernel_rfl
 c168:=by kernel_rfl
 c171:=by kernel_rfl
 c173:=by kernel_rfl
 c175:=by kernel_rfl
 c210:=by kernel_rfl
 c212:=by kernel_rfl
 c213:=by kernel_rfl
 c232:=by kernel_rfl
 c233:=by kernel_rfl }
open Go.RowKit in
theorem Tryz.strconv_Atoi_ok (s : ByteArray) (hmax : s.size ≤ 9223372036854775806) (v : Int) (h : Lib.atoiAll s.data.toList = .ok v) (w : World) :
    Calls Tryz.prog 239 #[.string s] w fun e w'=>e = .returned (.tuple #[.int .i64 v,.nilIface]) ∧ (w' = w ∨ ∃ t,w' = Lib.bytesWorld w 5 t):=Any.strconv_Atoi_ok Tryz.laysC172 s hmax v h w
def Tryz.lays217_ren:Go.Shelf.Ren:=⟨fun | 217=>223 | 266=>272 | n=>n,fun | 9=>9 | 5=>5 | 3=>3 | n=>n,fun | n=>n⟩
theorem Tryz.lays217:Go.Proofs.Lays.n217 Tryz.prog Tryz.lays217_ren:={
 mixed:=by kernel_rfl
 f217:=Tryz.func223.trans (congrArg some (by kernel_rfl))
 f266:=Tryz.func272.trans (congrArg some (by kernel_rfl))
 t3:=Tryz.underlying3
 a3:=Tryz.isAgg3
 z3:=Tryz.sizeOf3
 v3:=Tryz.zeroValue3
 t5:=Tryz.underlying5
 a5:=Tryz.isAgg5
 z5:=Tryz.sizeOf5
 v5:=Tryz.zeroValue5
 t9:=Tryz.underlying9
 a9:=Tryz.isAgg9
 z9:=Tryz.sizeOf9
 v9:=Tryz.zeroValue9 }
open Go.RowKit Go.Lib in
theorem Tryz.stringslite_IndexByte (s : ByteArray) (c : Int) (w : World) :
    Calls Tryz.prog 223 #[.string s,.int .u8 c] w fun e w'=>e = .returned (.int .i64 (Lib.indexByte s.data.toList c.toNat.toUInt8)) ∧ w' = w:=Any.stringslite_IndexByte Tryz.lays217 s c w
def Tryz.lays219_ren:Go.Shelf.Ren:=⟨fun | 219=>166 | 217=>223 | 225=>224 | 224=>225 | 267=>226 | 266=>272 | 314=>273 | n=>n,fun | 9=>9 | 3=>3 | 4=>4 | 5=>5 | 46=>261 | 146=>318 | 51=>317 | n=>n,fun | 1=>0 | n=>n⟩
theorem Tryz.lays219:Go.Proofs.Lays.n219 Tryz.prog Tryz.lays219_ren:={
 mixed:=by kernel_rfl
 f217:=Tryz.func223.trans (congrArg some (by kernel_rfl))
 f219:=Tryz.func166.trans (congrArg some (by kernel_rfl))
 f224:=Tryz.func225.trans (congrArg some (by kernel_rfl))
 f225:=Tryz.func224.trans (congrArg some (by kernel_rfl))
 f266:=Tryz.func272.trans (congrArg some (by kernel_rfl))
 f267:=Tryz.func226.trans (congrArg some (by kernel_rfl))
 f314:=Tryz.func273.trans (congrArg some (by kernel_rfl))
 t3:=Tryz.underlying3
 a3:=Tryz.isAgg3
 z3:=Tryz.sizeOf3
 v3:=Tryz.zeroValue3
 t4:=Tryz.underlying4
 a4:=Tryz.isAgg4
 z4:=Tryz.sizeOf4
 v4:=Tryz.zeroValue4
 t5:=Tryz.underlying5
 a5:=Tryz.isAgg5
 z5:=Tryz.sizeOf5
 v5:=Tryz.zeroValue5
 t9:=Tryz.underlying9
 a9:=Tryz.isAgg9
 z9:=Tryz.sizeOf9
 v9:=Tryz.zeroValue9
 t46:=Tryz.underlying261
 a46:=Tryz.isAgg261
 z46:=Tryz.sizeOf261
 v46:=Tryz.zeroValue261
 t51:=Tryz.underlying317
 a51:=Tryz.isAgg317
 z51:=Tryz.sizeOf317
 v51:=Tryz.zeroValue317
 t146:=Tryz.underlying318
 a146:=Tryz.isAgg318
 z146:=Tryz.sizeOf318
 v146:=Tryz.zeroValue318
 g1:=by kernel_rfl }
open Go.RowKit Go.Lib in
theorem Tryz.stringslite_Index_one (s : ByteArray) (c : UInt8) (w : World) :
    Calls Tryz.prog 166 #[.string s,.string ⟨#[c]⟩] w fun e w'=>e = .returned (.int .i64 (Lib.indexByte s.data.toList c)) ∧ w' = w:=Any.stringslite_Index_one Tryz.lays219 s c w
def Tryz.lays138_ren:Go.Shelf.Ren:=⟨fun | 138=>256 | 195=>296 | 218=>297 | 143=>72 | 219=>166 | 217=>223 | 225=>224 | 224=>225 | 267=>226 | 266=>272 | 314=>273 | n=>n,fun | 9=>9 | 3=>3 | 4=>4 | 5=>5 | 0=>0 | 46=>261 | 146=>318 | 51=>317 | n=>n,fun | 1=>0 | n=>n⟩
theorem Tryz.lays138:Go.Proofs.Lays.n138 Tryz.prog Tryz.lays138_ren:={
 mixed:=by kernel_rfl
 f138:=Tryz.func256.trans (congrArg some (by kernel_rfl))
 f143:=Tryz.func72.trans (congrArg some (by kernel_rfl))
 f195:=Tryz.func296.trans (congrArg some (by kernel_rfl))
 f217:=Tryz.func223.trans (congrArg some (by kernel_rfl))
 f218:=Tryz.func297.trans (congrArg some (by kernel_rfl))
 f219:=Tryz.func166.trans (congrArg some (by kernel_rfl))
 f224:=Tryz.func225.trans (congrArg some (by kernel_rfl))
 f225:=Tryz.func224.trans (congrArg some (by kernel_rfl))
 f266:=Tryz.func272.trans (congrArg some (by kernel_rfl))
 f267:=Tryz.func226.trans (congrArg some (by kernel_rfl))
 f314:=Tryz.func273.trans (congrArg some (by kernel_rfl))
 t0:=Tryz.underlying0
 a0:=Tryz.isAgg0
 z0:=Tryz.sizeOf0
 v0:=Tryz.zeroValue0
 t3:=Tryz.underlying3
 a3:=Tryz.isAgg3
 z3:=Tryz.sizeOf3
 v3:=Tryz.zeroValue3
 t4:=Tryz.underlying4
 a4:=Tryz.isAgg4
 z4:=Tryz.sizeOf4
 v4:=Tryz.zeroValue4
 t5:=Tryz.underlying5
 a5:=Tryz.isAgg5
 z5:=Tryz.sizeOf5
 v5:=Tryz.zeroValue5
 t9:=Tryz.underlying9
 a9:=Tryz.isAgg9
 z9:=Tryz.sizeOf9
 v9:=Tryz.zeroValue9
 t46:=Tryz.underlying261
 a46:=Tryz.isAgg261
 z46:=Tryz.sizeOf261
 v46:=Tryz.zeroValue261
 t51:=Tryz.underlying317
 a51:=Tryz.isAgg317
 z51:=Tryz.sizeOf317
 v51:=Tryz.zeroValue317
 t146:=Tryz.underlying318
 a146:=Tryz.isAgg318
 z146:=Tryz.sizeOf318
 v146:=Tryz.zeroValue318
 g1:=by kernel_rfl }
open Go.RowKit Go.Lib in
theorem Tryz.strings_Count_one (s : ByteArray) (c : UInt8) (w : World) :
    Calls Tryz.prog 256 #[.string s,.string ⟨#[c]⟩] w fun e w'=>e = .returned (.int .i64 (Lib.countByte s.data.toList c)) ∧ w' = w:=Any.strings_Count_one Tryz.lays138 s c w
def Tryz.lays105_ren:Go.Shelf.Ren:=⟨fun | 105=>73 | 212=>167 | 99=>168 | 165=>169 | 166=>97 | 170=>100 | 169=>101 | 263=>227 | 264=>228 | 206=>229 | 240=>180 | 241=>230 | 276=>236 | 277=>274 | n=>n,fun | 9=>9 | 3=>3 | 4=>4 | 20=>20 | 0=>0 | 46=>261 | 109=>262 | 5=>5 | 72=>162 | 76=>165 | 51=>317 | 146=>318 | 53=>320 | 148=>321 | 70=>160 | 37=>126 | 75=>164 | 127=>283 | 164=>326 | 80=>111 | n=>n,fun | n=>n⟩
theorem Tryz.lays105:Go.Proofs.Lays.n105 Tryz.prog Tryz.lays105_ren:={
 mixed:=by kernel_rfl
 f99:=Tryz.func168.trans (congrArg some (by kernel_rfl))
 f105:=Tryz.func73.trans (congrArg some (by kernel_rfl))
 f165:=Tryz.func169.trans (congrArg some (by kernel_rfl))
 f166:=Tryz.func97.trans (congrArg some (by kernel_rfl))
 f169:=Tryz.func101.trans (congrArg some (by kernel_rfl))
 f170:=Tryz.func100.trans (congrArg some (by kernel_rfl))
 f206:=Tryz.func229.trans (congrArg some (by kernel_rfl))
 f212:=Tryz.func167.trans (congrArg some (by kernel_rfl))
 f240:=Tryz.func180.trans (congrArg some (by kernel_rfl))
 f241:=Tryz.func230.trans (congrArg some (by kernel_rfl))
 f263:=Tryz.func227.trans (congrArg some (by kernel_rfl))
 f264:=Tryz.func228.trans (congrArg some (by kernel_rfl))
 f276:=Tryz.func236.trans (congrArg some (by kernel_rfl))
 f277:=Tryz.func274.trans (congrArg some (by kernel_rfl))
 t0:=Tryz.underlying0
 a0:=Tryz.isAgg0
 z0:=Tryz.sizeOf0
 v0:=Tryz.zeroValue0
 t3:=Tryz.underlying3
 a3:=Tryz.isAgg3
 z3:=Tryz.sizeOf3
 v3:=Tryz.zeroValue3
 t4:=Tryz.underlying4
 a4:=Tryz.isAgg4
 z4:=Tryz.sizeOf4
 v4:=Tryz.zeroValue4
 t5:=Tryz.underlying5
 a5:=Tryz.isAgg5
 z5:=Tryz.sizeOf5
 v5:=Tryz.zeroValue5
 t9:=Tryz.underlying9
 a9:=Tryz.isAgg9
 z9:=Tryz.sizeOf9
 v9:=Tryz.zeroValue9
 t20:=Tryz.underlying20
 a20:=Tryz.isAgg20
 z20:=Tryz.sizeOf20
 v20:=Tryz.zeroValue20
 t37:=Tryz.underlying126
 a37:=Tryz.isAgg126
 z37:=Tryz.sizeOf126
 v37:=Tryz.zeroValue126
 t46:=Tryz.underlying261
 a46:=Tryz.isAgg261
 z46:=Tryz.sizeOf261
 v46:=Tryz.zeroValue261
 t51:=Tryz.underlying317
 a51:=Tryz.isAgg317
 z51:=Tryz.sizeOf317
 v51:=Tryz.zeroValue317
 t53:=Tryz.underlying320
 a53:=Tryz.isAgg320
 z53:=Tryz.sizeOf320
 v53:=Tryz.zeroValue320
 t70:=Tryz.underlying160
 a70:=Tryz.isAgg160
 z70:=Tryz.sizeOf160
 v70:=Tryz.zeroValue160
 t72:=Tryz.underlying162
 a72:=Tryz.isAgg162
 z72:=Tryz.sizeOf162
 v72:=Tryz.zeroValue162
 t75:=Tryz.underlying164
 a75:=Tryz.isAgg164
 z75:=Tryz.sizeOf164
 v75:=Tryz.zeroValue164
 t76:=Tryz.underlying165
 a76:=Tryz.isAgg165
 z76:=Tryz.sizeOf165
 v76:=Tryz.zeroValue165
 t109:=Tryz.underlying262
 a109:=Tryz.isAgg262
 z109:=Tryz.sizeOf262
 v109:=Tryz.zeroValue262
 t127:=Tryz.underlying283
 a127:=Tryz.isAgg283
 z127:=Tryz.sizeOf283
 v127:=Tryz.zeroValue283
 t146:=Tryz.underlying318
 a146:=Tryz.isAgg318
 z146:=Tryz.sizeOf318
 v146:=Tryz.zeroValue318
 t148:=Tryz.underlying321
 a148:=Tryz.isAgg321
 z148:=Tryz.sizeOf321
 v148:=Tryz.zeroValue321
 t164:=Tryz.underlying326
 a164:=Tryz.isAgg326
 z164:=Tryz.sizeOf326
 v164:=Tryz.zeroValue326 }
theorem Tryz.Builder_Extra_105:Builder.Extra Tryz.prog Tryz.lays105_ren:={
 sizeBuilder:=by kernel_rfl
 liesBuilder:=by kernel_rfl
 t5:=Tryz.underlying5
 a5:=Tryz.isAgg5
 z5:=Tryz.sizeOf5
 v5:=Tryz.zeroValue5
 infoByte:=by kernel_rfl
 cellsByte:=by kernel_rfl
 sizeByte:=by kernel_rfl
 neB5:=by decide }
open Go.RowKit Go.Lib in
theorem Tryz.strings_Repeat (s : ByteArray) (c : Nat) (w : World) (hc : c ≤ 9223372036854775807) (hlen : s.size * c ≤ 140737488355328) :
    Calls Tryz.prog 73 #[.string s,.int .i64 c] w fun e w'=>e = .returned (.string ⟨(Lib.repeatL s.data.toList c).toArray⟩) ∧ Below w.heap.size w w':=Any.strings_Repeat Tryz.lays105 Tryz.Builder_Extra_105 s c w hc hlen
end Go.Proofs
namespace Go.Abs
open Go.Proofs
set_option linter.unusedSectionVars false
def idxB (c:Nat):List Nat → Nat → Int
 | [],_=>-1
 | x :: r,i=>bif Nat.beq x c then (i:Int) else idxB c r (i + 1)
def cntB (c:Nat):List Nat → Nat → Nat
 | [],n=>n
 | x :: r,n=>bif Nat.beq x c then cntB c r (n + 1) else cntB c r n
def digitsF:Nat → Nat → List Nat → List Nat
 | 0,_,acc=>acc
 | f + 1,n,acc=>bif Nat.ble n 9 then (48 + n) :: acc else digitsF f (n / 10) ((48 + n % 10) :: acc)
def itoaN (n:Int):List Nat:=match n with
 | .ofNat n=>digitsF 20 n []
 | .negSucc n=>45 :: digitsF 20 (n + 1) []
def joinN (sep:List Nat):List (List Nat) → List Nat
 | []=>[]
 | [s]=>s
 | s :: r=>s ++ (sep ++ joinN sep r)
def repN (s:List Nat):Nat → List Nat
 | 0=>[]
 | n + 1=>s ++ repN s n
section
variable [Gl] {P:Program}
theorem enters_fn {f : FuncId} {fn : Func} (h : P.funcs[f]? = some fn) (hs : (fn.body.isSome && (fn.name != "runtime.NumGoroutine")) = true) : Enters P f := by
 intro args w
 simp only [Bool.and_eq_true,bne_iff_ne] at hs
 cases hfb:fn.body with
 | none=>rw [hfb] at hs; simp at hs
 | some c=>simp [callFunc,h,hs.2,hfb]
theorem goodP_flat {f : FuncId} {args : List PV} {v : PV} (he : Enters P f)
    (h:∀ (w:World) (Imm:Nat → Prop) (cargs:List Value),(∀ k,Imm k → k < w.heap.size) → GlobOk P w Imm → PVVl P w Imm args cargs →
     Calls P f cargs.toArray w fun e w'=>∃ cv,e = .returned cv ∧ (w.heap.size ≤ w'.heap.size ∧ (∀ k,k < w.heap.size → w'.heap[k]? = w.heap[k]?) ∧ w'.os = w.os ∧ w'.output = w.output) ∧ ∀ (w:World) (Imm:Nat → Prop),PVV P w Imm v cv):GoodC P f args v:=by
 refine .inl ⟨he,fun w Imm cargs hb hg ha=>(h w Imm cargs hb hg ha).mono ?_⟩
 rintro e w' ⟨cv,rfl,⟨h1,h2,hio⟩,h3⟩
 exact ⟨cv,Imm,rfl,fun _ x=>x,fun _ x=>.inl x,fun k hk=>Nat.lt_of_lt_of_le (hb k hk) h1,h1,h2,hio,h3 _ _⟩
theorem PVVl_two {w:World} {Imm:Nat → Prop} {a b:PV} {cs:List Value} (h:PVVl P w Imm [a,b] cs):∃ x y,cs = [x,y] ∧ PVV P w Imm a x ∧ PVV P w Imm b y:=by
 simp only [PVVl] at h
 obtain ⟨x,xs,rfl,h1,y,ys,rfl,h2,rfl⟩:=h
 exact ⟨x,y,rfl,h1,h2⟩
theorem PVVl_one {w:World} {Imm:Nat → Prop} {a:PV} {cs:List Value} (h:PVVl P w Imm [a] cs):∃ x,cs = [x] ∧ PVV P w Imm a x:=by
 simp only [PVVl] at h
 obtain ⟨x,xs,rfl,h1,rfl⟩:=h
 exact ⟨x,rfl,h1⟩
def natsB (l:List UInt8):List Nat:=l.map (·.toNat)
theorem PVV_strB {w:World} {Imm:Nat → Prop} (l:List UInt8):PVV P w Imm (.str (natsB l)) (.string ⟨l.toArray⟩):=by
 simp only [PVV]; exact ⟨_,rfl,by simp [natsB]⟩
theorem idxB_lib (c:UInt8):∀ (l:List UInt8) (i:Nat),idxB c.toNat (natsB l) i = if Lib.indexByte l c = -1 then -1 else Lib.indexByte l c + i
 | [],i=>by simp [idxB,natsB,Lib.indexByte]
 | x :: r,i=>by
  have ih:=idxB_lib c r (i + 1)
  simp only [natsB] at ih
  simp only [natsB,List.map_cons,idxB,Lib.indexByte]
  by_cases hx:x = c
  · subst hx; simp
  · have hn:Nat.beq x.toNat c.toNat = false:=by
     cases hb:Nat.beq x.toNat c.toNat
     · rfl
     · exact (hx (UInt8.toNat_inj.1 (beq2 hb))).elim
    have hge:=Lib.indexByte_ge r c
    simp only [hn,cond_false,ih,beq_iff_eq,hx,if_false]
    by_cases h1:Lib.indexByte r c = -1
    · simp [h1]
    · rw [if_neg h1,if_neg h1]
      rw [if_neg (by omega)]
      omega
theorem cntB_lib (c:UInt8):∀ (l:List UInt8) (n:Nat),cntB c.toNat (natsB l) n = n + Lib.countByte l c
 | [],n=>by simp [cntB,natsB,Lib.countByte]
 | x :: r,n=>by
  have ih:=cntB_lib c r
  simp only [natsB] at ih
  simp only [natsB,List.map_cons,cntB,Lib.countByte,List.count_cons]
  by_cases hx:x = c
  · subst hx
    simp [ih,Lib.countByte]; omega
  · have hn:Nat.beq x.toNat c.toNat = false:=by
     cases hb:Nat.beq x.toNat c.toNat
     · rfl
     · exact (hx (UInt8.toNat_inj.1 (beq2 hb))).elim
    simp [hn,ih,Lib.countByte,hx]
end
section
variable [Gl]
theorem h223 (s:List Nat) (c:Nat) (hc:c < 256):GoodC Tryz.prog 223 [.str s,.int .u8 c] (.int .i64 (idxB c s 0)):=by
 refine goodP_flat (enters_fn Tryz.func223 (by kernel_rfl)) fun w Imm cargs _ _ ha=>?_
 obtain ⟨x,y,rfl,h1,h2⟩:=PVVl_two ha
 simp only [PVV] at h1 h2
 obtain ⟨bs,rfl,rfl⟩:=h1
 subst h2
 refine (Tryz.stringslite_IndexByte bs c w).mono ?_
 rintro e w' ⟨rfl,rfl⟩
 refine ⟨_,rfl,⟨Nat.le_refl _,fun _ _=>rfl,rfl,rfl⟩,fun w Imm=>?_⟩
 have e1:=idxB_lib (UInt8.ofNat c) bs.data.toList 0
 have e2:(UInt8.ofNat c).toNat = c:=by simp [UInt8.toNat_ofNat']; omega
 rw [e2] at e1
 simp only [PVV,natsB] at e1 ⊢
 rw [e1]
 have e3:((c:Int).toNat).toUInt8 = UInt8.ofNat c:=by simp
 rw [e3]
 have:=Lib.indexByte_ge bs.data.toList (UInt8.ofNat c)
 by_cases h:Lib.indexByte bs.data.toList (UInt8.ofNat c) = -1 <;> simp [h]
theorem one_byte {w:World} {Imm:Nat → Prop} {c:Nat} {v:Value} (h:PVV Tryz.prog w Imm (.str [c]) v):∃ b:UInt8,v = .string ⟨#[b]⟩ ∧ c = b.toNat:=by
 simp only [PVV] at h
 obtain ⟨bs,rfl,h⟩:=h
 match hb:bs.data.toList with
 | []=>rw [hb] at h; simp at h
 | [b] =>
  rw [hb] at h; simp at h
  refine ⟨b,?_,h⟩
  congr 1
  cases bs with
  | mk d=>simp at hb ⊢; exact Array.ext' (by simpa using hb)
 | a :: b :: r=>rw [hb] at h; simp at h
theorem h166 (s:List Nat) (c:Nat):GoodC Tryz.prog 166 [.str s,.str [c]] (.int .i64 (idxB c s 0)):=by
 refine goodP_flat (enters_fn Tryz.func166 (by kernel_rfl)) fun w Imm cargs _ _ ha=>?_
 obtain ⟨x,y,rfl,h1,h2⟩:=PVVl_two ha
 obtain ⟨b,rfl,rfl⟩:=one_byte h2
 simp only [PVV] at h1
 obtain ⟨bs,rfl,rfl⟩:=h1
 refine (Tryz.stringslite_Index_one bs b w).mono ?_
 rintro e w' ⟨rfl,rfl⟩
 refine ⟨_,rfl,⟨Nat.le_refl _,fun _ _=>rfl,rfl,rfl⟩,fun w Imm=>?_⟩
 have e1:=idxB_lib b bs.data.toList 0
 simp only [PVV,natsB] at e1 ⊢
 rw [e1]
 by_cases h:Lib.indexByte bs.data.toList b = -1 <;> simp [h]
theorem h256 (s:List Nat) (c:Nat):GoodC Tryz.prog 256 [.str s,.str [c]] (.int .i64 (cntB c s 0:Nat)):=by
 refine goodP_flat (enters_fn Tryz.func256 (by kernel_rfl)) fun w Imm cargs _ _ ha=>?_
 obtain ⟨x,y,rfl,h1,h2⟩:=PVVl_two ha
 obtain ⟨b,rfl,rfl⟩:=one_byte h2
 simp only [PVV] at h1
 obtain ⟨bs,rfl,rfl⟩:=h1
 refine (Tryz.strings_Count_one bs b w).mono ?_
 rintro e w' ⟨rfl,rfl⟩
 refine ⟨_,rfl,⟨Nat.le_refl _,fun _ _=>rfl,rfl,rfl⟩,fun w Imm=>?_⟩
 have e1:=cntB_lib b bs.data.toList 0
 simp only [PVV,natsB] at e1 ⊢
 rw [e1]; simp
end
end Go.Abs
namespace Go.Abs
open Go.Proofs
set_option linter.unusedSectionVars false
theorem u8_of (n:Nat) (h:n < 256):(UInt8.ofNat n).toNat = n:=by simp [UInt8.toNat_ofNat']; omega
theorem digitsF_lib:∀ (f n:Nat) (acc:List Nat),n < 10 ^ (f + 1) → digitsF (f + 1) n acc = natsB (Lib.decDigits n) ++ acc
 | 0,n,acc,h=>by
  have h9:n ≤ 9:=by simp at h; omega
  rw [Lib.decDigits,dif_pos (by omega)]
  simp only [digitsF,ble_of h9,cond_true,natsB,List.map_cons,List.map_nil,u8_of (48 + n) (by omega),List.singleton_append]
 | f + 1,n,acc,h=>by
  rw [Lib.decDigits,digitsF]
  by_cases h9:n ≤ 9
  · rw [dif_pos (by omega)]
    simp only [ble_of h9,cond_true,natsB,List.map_cons,List.map_nil,u8_of (48 + n) (by omega),List.singleton_append]
  · rw [dif_neg (by omega)]
    have hm:n % 10 < 10:=Nat.mod_lt _ (by omega)
    simp only [ble_not h9,cond_false]
    rw [digitsF_lib f (n / 10) _ (by rw [Nat.pow_succ] at h; omega)]
    simp only [natsB,List.map_append,List.map_cons,List.map_nil,u8_of (48 + n % 10) (by omega),List.append_assoc,List.singleton_append]
theorem itoaN_lib (n:Int) (h0:-9223372036854775808 ≤ n) (h1:n ≤ 9223372036854775807):itoaN n = natsB (Lib.itoa n):=by
 unfold itoaN Lib.itoa
 split
 · rename_i n
   have hn:¬ ((Int.ofNat n) < 0):=by simp
   rw [if_neg hn,digitsF_lib 19 n [] (by simp at h1 ⊢; omega)]
   simp
 · rename_i n
   rw [if_pos (Int.negSucc_lt_zero n),digitsF_lib 19 (n + 1) [] (by simp at h0 ⊢; omega)]
   simp [natsB,Int.natAbs]
theorem joinN_lib (sep:List UInt8):∀ (xs:List (List UInt8)),joinN (natsB sep) (xs.map natsB) = natsB (Lib.join xs sep)
 | []=>by simp [joinN,Lib.join_nil,natsB]
 | [x]=>by simp [joinN,Lib.join_one]
 | x :: y :: r=>by
  have ih:=joinN_lib sep (y :: r)
  rw [Lib.join_cons] at ih ⊢
  simp only [List.map_cons] at ih ⊢
  rw [joinN,ih]
  · simp [natsB,Lib.joinTail]
  · simp
theorem repN_lib (s:List UInt8):∀ n,repN (natsB s) n = natsB (Lib.repeatL s n)
 | 0=>by simp [repN,Lib.repeatL,natsB]
 | n + 1=>by
  have ih:=repN_lib s n
  simp only [natsB] at ih
  simp [repN,Lib.repeatL,natsB,ih]
theorem ofNat_natsB (l:List UInt8):(natsB l).map UInt8.ofNat = l:=by
 induction l with
 | nil=>rfl
 | cons a r ih=>simp only [natsB,List.map_cons] at ih ⊢; rw [ih]; simp
section
variable {P:Program} {w:World} {Imm:Nat → Prop}
theorem strs_of [Gl] : ∀ {l : List (List Nat)} {ns : List Nat} {css : List (List Value)}, PVCl P w Imm ns (l.map .str) css →
    ∃ xs:List ByteArray,css.flatten = xs.map .string ∧ l = xs.map (fun b=>natsB b.data.toList)
 | [],ns,css,h=>by
  have:=flatten_nil_of_PVCl h
  subst this; exact ⟨[],by simp,by simp⟩
 | s :: l,[],css,h=>by simp [PVCl] at h
 | s :: l,n :: ns,css,h=>by
  simp only [List.map_cons,PVCl,PVC] at h
  obtain ⟨c,cs,rfl,⟨bs,rfl,h1⟩,_,h2⟩:=h
  obtain ⟨xs,g1,g2⟩:=strs_of h2
  exact ⟨bs :: xs,by simp [g1],by simp [g2,h1,natsB]⟩
end
theorem h182 (n:Int) (h0:-9223372036854775808 ≤ n) (h1:n ≤ 9223372036854775807):GoodC Tryz.prog 182 [.int .i64 n] (.str (itoaN n)):=by
 refine goodP_flat (enters_fn Tryz.func182 (by kernel_rfl)) fun w Imm cargs _ hg ha=>?_
 obtain ⟨x,rfl,h2⟩:=PVVl_one ha
 simp only [PVV] at h2
 subst h2
 obtain ⟨_,T,hT⟩:=hg.raw 1 _ rfl
 refine (Tryz.strconv_Itoa n h0 h1 w ?_).mono ?_
 · have hn : Tryz.prog.globalNamed "internal/strconv.uint64pow10" = some 1 := by kernel_rfl
   simp only [Lib.TabIs,World.var?,hn,Option.bind_some,hT]
   rfl
 · rintro e w' ⟨rfl,k,os,rfl⟩
   refine ⟨_,rfl,⟨?_,fun k hk=>?_,rfl,rfl⟩,fun w Imm=>?_⟩
   · simp [Go.Sort.grow,World.drewN]
   · simp only [Go.Sort.grow]
     exact Array.getElem?_append_left hk
   · rw [itoaN_lib n h0 h1]; exact PVV_strB _
theorem h73 (s:List Nat) (c:Nat) (hc:c ≤ 9223372036854775807) (hl:s.length * c ≤ 140737488355328):GoodC Tryz.prog 73 [.str s,.int .i64 c] (.str (repN s c)):=by
 refine goodP_flat (enters_fn Tryz.func73 (by kernel_rfl)) fun w Imm cargs _ hg ha=>?_
 obtain ⟨x,y,rfl,h1,h2⟩:=PVVl_two ha
 simp only [PVV] at h1 h2
 obtain ⟨bs,rfl,rfl⟩:=h1
 subst h2
 refine (Tryz.strings_Repeat bs c w hc (by simpa using hl)).mono ?_
 rintro e w' ⟨rfl,hb⟩
 exact ⟨_,rfl,⟨hb.size,hb.block,hb.os,hb.output⟩,fun w Imm=>by
  have:=repN_lib bs.data.toList c
  simp only [natsB] at this
  rw [this]; exact PVV_strB _⟩
theorem h239 (s:List Nat) (v:Int) (h:Lib.atoiAll (s.map UInt8.ofNat) = .ok v) (hl:s.length ≤ 9223372036854775806):GoodC Tryz.prog 239 [.str s] (.tup [.int .i64 v,.nif]):=by
 refine goodP_flat (enters_fn Tryz.func239 (by kernel_rfl)) fun w Imm cargs _ hg ha=>?_
 obtain ⟨x,rfl,h1⟩:=PVVl_one ha
 simp only [PVV] at h1
 obtain ⟨bs,rfl,rfl⟩:=h1
 have e:=ofNat_natsB bs.data.toList
 simp only [natsB] at e
 rw [e] at h
 refine (Tryz.strconv_Atoi_ok bs (by simpa using hl) v h w).mono ?_
 rintro e w' ⟨rfl,hw⟩
 refine ⟨_,rfl,?_,fun w Imm=>by simp [PVV,PVVl]⟩
 rcases hw with rfl | ⟨t,rfl⟩
 · exact ⟨Nat.le_refl _,fun _ _=>rfl,rfl,rfl⟩
 · have hb:=Lib.bytesWorld_below w 5 t
   exact ⟨hb.size,hb.block,hb.os,hb.output⟩
theorem h159 (full:Bool) (l:List (List Nat)) (sep:List Nat) (hl:l.length ≤ 140737488355328) (hj:(joinN sep l).length ≤ 140737488355328):GoodC Tryz.prog 159 [.lst full (l.map .str),.str sep] (.str (joinN sep l)):=by
 refine goodP_flat (enters_fn Tryz.func159 (by kernel_rfl)) fun w Imm cargs hb hg ha=>?_
 obtain ⟨x,y,rfl,h1,h2⟩:=PVVl_two ha
 simp only [PVV] at h1 h2
 obtain ⟨sp,rfl,rfl⟩:=h2
 obtain ⟨blk,off,cap,esz,css,h3,h4,h5,h6,h7,spt,hspt,rfl⟩:=h1
 obtain ⟨xs,g1,g2⟩:=strs_of h3
 have hlen:(l.map PV.str).length = xs.length:=by rw [g2]; simp
 cases hxs:xs with
 | nil =>
  subst hxs
  have hl0:l = []:=by simpa using g2
  subst hl0
  refine (Tryz.strings_Join_none (some ⟨blk,off,spt⟩) cap sp w).mono ?_
  rintro e w' ⟨rfl,rfl⟩
  exact ⟨_,rfl,⟨Nat.le_refl _,fun _ _=>rfl,rfl,rfl⟩,fun w Imm=>by simpa [joinN,natsB] using PVV_strB (P:=Tryz.prog) (w:=w) (Imm:=Imm) []⟩
 | cons x0 r =>
  have hne:l.map PV.str ≠ []:=by rw [g2,hxs]; simp
  obtain rfl:spt = none:=hspt.resolve_right (by rw [hlen,hxs] at h7; simp at h7; omega)
  have hjn:=joinN_lib sp.data.toList (xs.map (·.data.toList))
  have e2:(xs.map (·.data.toList)).map natsB = l:=by rw [g2]; simp
  rw [e2] at hjn
  have hjn':joinN (sp.data.toList.map (·.toNat)) l = natsB (Lib.join (xs.map (·.data.toList)) sp.data.toList):=hjn
  rw [hlen]
  refine (Tryz.strings_Join blk off cap xs sp w (fun j x hx=>?_) (hb _ (h4 hne)) (by simp at hlen; omega) (by omega) ?_).mono ?_
  · have hjl:j < xs.length:=(List.getElem?_eq_some_iff.1 hx).1
    rw [g1] at h5
    have:=h5 j (by simpa using hjl)
    rw [this]
    simp [(List.getElem?_eq_some_iff.1 hx).2]
  · rw [hjn'] at hj; simpa [natsB] using hj
  · rintro e w' ⟨rfl,hbl⟩
    exact ⟨_,rfl,⟨hbl.size,hbl.block,hbl.os,hbl.output⟩,fun w Imm=>by rw [hjn']; exact PVV_strB _⟩
theorem h159n (sep:List Nat):GoodC Tryz.prog 159 [.nsl,.str sep] (.str []):=by
 refine goodP_flat (enters_fn Tryz.func159 (by kernel_rfl)) fun w Imm cargs hb hg ha=>?_
 obtain ⟨x,y,rfl,h1,h2⟩:=PVVl_two ha
 simp only [PVV] at h1 h2
 obtain ⟨sp,rfl,rfl⟩:=h2
 subst h1
 refine (Tryz.strings_Join_none none 0 sp w).mono ?_
 rintro e w' ⟨rfl,rfl⟩
 exact ⟨_,rfl,⟨Nat.le_refl _,fun _ _=>rfl,rfl,rfl⟩,fun w Imm=>by simpa [natsB] using PVV_strB (P:=Tryz.prog) (w:=w) (Imm:=Imm) []⟩
end Go.Abs
namespace Go.Abs
def splAux (c:Nat):List Nat → List Nat → List (List Nat)
 | cur,[]=>[cur]
 | cur,x :: s=>if x = c then cur :: splAux c [] s else splAux c (cur ++ [x]) s
def spl (c:Nat) (s:List Nat):List (List Nat):=splAux c [] s
theorem splAux_no {c:Nat}:∀ {s cur:List Nat},c ∉ s → splAux c cur s = [cur ++ s]
 | [],cur,_=>by simp [splAux]
 | x :: s,cur,h=>by
  simp only [List.mem_cons,not_or] at h
  rw [splAux,if_neg (fun e=>h.1 e.symm),splAux_no h.2]; simp
theorem splAux_app {c:Nat}:∀ {s cur t:List Nat},c ∉ s → splAux c cur (s ++ c :: t) = (cur ++ s) :: splAux c [] t
 | [],cur,t,_=>by simp [splAux]
 | x :: s,cur,t,h=>by
  simp only [List.mem_cons,not_or] at h
  rw [List.cons_append,splAux,if_neg (fun e=>h.1 e.symm),splAux_app h.2]; simp
theorem spl_join {c:Nat}:∀ {l:List (List Nat)},l ≠ [] → (∀ s ∈ l,c ∉ s) → spl c (joinN [c] l) = l
 | [],h,_=>(h rfl).elim
 | [s],_,h=>by rw [joinN,spl,splAux_no (h s List.mem_cons_self)]; simp
 | s :: t :: r,_,h=>by
  have ih:=spl_join (l:=t :: r) (by simp) fun s hs=>h s (List.mem_cons_of_mem _ hs)
  rw [joinN,spl,List.singleton_append,splAux_app (h s List.mem_cons_self)]
  · rw [spl] at ih; rw [ih]; simp
  · intro e; cases e
def decV (a c:Nat):Nat:=a * 10 + (c - 48)
theorem digitsF_val:∀ (f n:Nat) (acc:List Nat),n < 10 ^ f → (digitsF f n acc).foldl decV 0 = acc.foldl decV n
 | 0, n, acc, h => by have : n = 0 := by simpa using h
                      subst this; rfl
 | f + 1,n,acc,h=>by
  rw [digitsF,Bool.cond_eq_ite]
  split
  · simp [decV]
  · rw [digitsF_val f (n / 10) _ (by rw [Nat.div_lt_iff_lt_mul (by omega),← Nat.pow_succ]; exact h),List.foldl_cons]
    congr 1
    simp only [decV]; omega
theorem digitsF_mem:∀ (f n:Nat) (acc:List Nat) (c:Nat),c ∈ digitsF f n acc → c ∈ acc ∨ (48 ≤ c ∧ c ≤ 57)
 | 0,_,_,_,h=>.inl h
 | f + 1,n,acc,c,h=>by
  rw [digitsF,Bool.cond_eq_ite] at h
  split at h
  · rename_i hn; rw [Nat.ble_eq] at hn
    rcases List.mem_cons.1 h with rfl | h
    · exact .inr (by omega)
    · exact .inl h
  · rcases digitsF_mem f _ _ c h with h | h
    · rcases List.mem_cons.1 h with rfl | h
      · exact .inr (by omega)
      · exact .inl h
    · exact .inr h
theorem digitsF_ne:∀ (f n:Nat) (acc:List Nat),0 < f → digitsF f n acc ≠ []
 | 0,_,_,h=>by omega
 | 1,n,acc,_=>by rw [digitsF,Bool.cond_eq_ite]; split <;> simp [digitsF]
 | f + 2,n,acc,_=>by
  rw [digitsF,Bool.cond_eq_ite]; split
  · simp
  · exact digitsF_ne (f + 1) _ _ (by omega)
theorem itoaN_ne (n:Int):itoaN n ≠ []:=by
 cases n with
 | ofNat n=>exact digitsF_ne 20 n [] (by omega)
 | negSucc n=>simp [itoaN]
theorem itoaN_mem {n:Int} {c:Nat} (h:c ∈ itoaN n):c = 45 ∨ (48 ≤ c ∧ c ≤ 57):=by
 cases n with
 | ofNat n=>exact .inr ((digitsF_mem 20 n [] c h).resolve_left (by simp))
 | negSucc n =>
  rcases List.mem_cons.1 h with h | h
  · exact .inl h
  · exact .inr ((digitsF_mem 20 _ [] c h).resolve_left (by simp))
theorem itoaN_inj {n m:Int} (hn:-9223372036854775808 ≤ n ∧ n ≤ 9223372036854775807) (hm:-9223372036854775808 ≤ m ∧ m ≤ 9223372036854775807) (h:itoaN n = itoaN m):n = m:=by
 have key:∀ {a b:Nat},a < 10 ^ 20 → b < 10 ^ 20 → digitsF 20 a [] = digitsF 20 b [] → a = b:=by
  intro a b ha hb hab
  have h1:=digitsF_val 20 a [] ha
  have h2:=digitsF_val 20 b [] hb
  rw [hab] at h1
  simp only [List.foldl_nil] at h1 h2
  omega
 have no:∀ (a b:Nat),digitsF 20 a [] ≠ 45 :: digitsF 20 b []:=by
  intro a b e
  have h1:45 ∈ digitsF 20 a []:=by rw [e]; exact List.mem_cons_self
  have:=(digitsF_mem 20 a [] 45 h1).resolve_left (by simp)
  omega
 cases n with
 | ofNat a=>cases m with
  | ofNat b =>
   have h1:(Int.ofNat a) = (a:Int):=rfl
   have h2:(Int.ofNat b) = (b:Int):=rfl
   rw [key (by omega) (by omega) h]
  | negSucc b=>exact (no _ _ h).elim
 | negSucc a=>cases m with
  | ofNat b=>exact (no _ _ h.symm).elim
  | negSucc b =>
   have:=key (by omega) (by omega) (List.cons.inj h).2
   have:a = b:=by omega
   rw [this]
theorem joinN_ne {sep:List Nat}:∀ {l:List (List Nat)},(∀ s ∈ l,s ≠ []) → l ≠ [] → joinN sep l ≠ []
 | [],_,h=>(h rfl).elim
 | [s],h,_=>by rw [joinN]; exact h s List.mem_cons_self
 | s :: t :: r,h,_=>by
  rw [joinN]
  · intro e
    exact h s List.mem_cons_self (List.append_eq_nil_iff.1 e).1
  · intro e; cases e
def valsT (l:List Int):List Nat:=joinN [44] (l.map itoaN)
theorem valsT_inj {a b:List Int} (ha:∀ n ∈ a,-9223372036854775808 ≤ n ∧ n ≤ 9223372036854775807) (hb:∀ n ∈ b,-9223372036854775808 ≤ n ∧ n ≤ 9223372036854775807) (h:valsT a = valsT b):a = b:=by
 have hne:∀ l:List Int,∀ s ∈ l.map itoaN,s ≠ []:=by
  intro l s hs
  obtain ⟨n,_,rfl⟩:=List.mem_map.1 hs
  exact itoaN_ne n
 have hno:∀ l:List Int,∀ s ∈ l.map itoaN,44 ∉ s:=by
  intro l s hs
  obtain ⟨n,_,rfl⟩:=List.mem_map.1 hs
  intro hc
  have:=itoaN_mem hc; omega
 have hmap:a.map itoaN = b.map itoaN:=by
  by_cases h1:a.map itoaN = []
  · by_cases h2:b.map itoaN = []
    · rw [h1,h2]
    · exact (joinN_ne (hne b) h2 (by rw [← valsT,← h,valsT,h1]; rfl)).elim
  · by_cases h2:b.map itoaN = []
    · exact (joinN_ne (hne a) h1 (by rw [← valsT,h,valsT,h2]; rfl)).elim
    · rw [← spl_join h1 (hno a),← spl_join h2 (hno b)]
      rw [valsT,valsT] at h; rw [h]
 clear h
 induction a generalizing b with
 | nil=>cases b with
  | nil=>rfl
  | cons y b=>simp at hmap
 | cons x a ih=>cases b with
  | nil=>simp at hmap
  | cons y b =>
   simp only [List.map_cons,List.cons.injEq] at hmap
   rw [itoaN_inj (ha x List.mem_cons_self) (hb y List.mem_cons_self) hmap.1,ih (fun n hn=>ha n (List.mem_cons_of_mem _ hn)) (fun n hn=>hb n (List.mem_cons_of_mem _ hn)) hmap.2]
theorem digitsF_len:∀ (f n:Nat) (acc:List Nat),(digitsF f n acc).length ≤ f + acc.length
 | 0,_,acc=>by simp [digitsF]
 | f + 1,n,acc=>by
  rw [digitsF,Bool.cond_eq_ite]
  split
  · simp only [List.length_cons]; omega
  · have:=digitsF_len f (n / 10) ((48 + n % 10) :: acc)
    simp only [List.length_cons] at this; omega
theorem itoaN_len (n:Int):(itoaN n).length ≤ 21:=by
 cases n with
 | ofNat n=>have:=digitsF_len 20 n []; simp only [itoaN,List.length_nil] at *; omega
 | negSucc n=>have:=digitsF_len 20 (n + 1) []; simp only [itoaN,List.length_cons,List.length_nil] at *; omega
theorem joinN_len {sep:List Nat} {m:Nat}:∀ {l:List (List Nat)},(∀ s ∈ l,s.length ≤ m) → (joinN sep l).length ≤ l.length * (m + sep.length)
 | [],_=>by simp [joinN]
 | [s],h=>by have:=h s List.mem_cons_self; simp only [joinN,List.length_cons,List.length_nil]; omega
 | s :: t :: r,h=>by
  have ih:=joinN_len (sep:=sep) (l:=t :: r) fun s hs=>h s (List.mem_cons_of_mem _ hs)
  have:=h s List.mem_cons_self
  rw [joinN]
  · rw [List.length_cons,Nat.add_mul,Nat.one_mul]
    simp only [List.length_append] at *
    omega
  · intro e; cases e
theorem valsT_len (l:List Int):(valsT l).length ≤ l.length * 22:=by
 have:=joinN_len (sep:=[44]) (m:=21) (l:=l.map itoaN) fun s hs=>by
  obtain ⟨n,_,rfl⟩:=List.mem_map.1 hs
  exact itoaN_len n
 simpa [valsT] using this
end Go.Abs
namespace Go.Abs
open Go.Proofs
set_option maxHeartbeats 4000000
set_option maxRecDepth 100000
theorem goodP_seq {P:Program} {f:FuncId} {pre post es:List PV} {v:PV} (h1:es = [] → GoodP P f (pre ++ .nsl :: post) v) (h2:GoodP P f (pre ++ .lst false es :: post) v):GoodP P f (pre ++ .seq es :: post) v:=by
 have split:∀ {w:World} {Imm:Nat → Prop} {xs:List Value} {pre:List PV},PVVl P w Imm (pre ++ .seq es :: post) xs → (es = [] ∧ PVVl P w Imm (pre ++ .nsl :: post) xs) ∨ PVVl P w Imm (pre ++ .lst false es :: post) xs:=by
  intro w Imm xs pre
  induction pre generalizing xs with
  | nil =>
   intro h
   simp only [List.nil_append,PVVl] at h ⊢
   obtain ⟨y,ys,e,h1,h2⟩:=h
   rcases PVV_seq.1 h1 with ⟨h0,h⟩ | h
   · exact .inl ⟨h0,y,ys,e,h,h2⟩
   · exact .inr ⟨y,ys,e,h,h2⟩
  | cons p pre ih =>
   intro h
   simp only [List.cons_append,PVVl] at h ⊢
   obtain ⟨y,ys,e,h1,h2⟩:=h
   rcases ih h2 with ⟨h0,h⟩ | h
   · exact .inl ⟨h0,y,ys,e,h1,h⟩
   · exact .inr ⟨y,ys,e,h1,h⟩
 refine ⟨h2.1,fun w Imm cargs k1 k2 k3=>?_⟩
 rcases split k3 with ⟨h0,h⟩ | h
 · exact (h1 h0).2 w Imm cargs k1 k2 h
 · exact h2.2 w Imm cargs k1 k2 h
theorem goodP_of_C {P:Program} {f:FuncId} {args:List PV} {v:PV} (he:Enters P f) (h:GoodC P f args v):GoodP P f args v:=by
 rcases h with h | h
 · exact h
 · refine ⟨he,fun w Imm cargs _ _ ha=>?_⟩
   obtain ⟨cv,k1,_⟩:=h w Imm cargs ha
   rw [he cargs.toArray w] at k1
   cases k1
theorem c_join (l:List (List Nat)) (sep:List Nat) (hl:l.length ≤ 1048576) (hj:(joinN sep l).length ≤ 140737488355328):GoodC Tryz.prog 159 [.seq (l.map .str),.str sep] (.str (joinN sep l)) :=
 .inl (goodP_seq (pre:=[]) (post:=[.str sep]) (fun h=>by
  have:l = []:=by simpa using h
  subst this
  exact goodP_of_C isF159.enters (h159n sep)) (goodP_of_C isF159.enters (h159 false l sep (by omega) hj)))
def inI (n:Int):Prop:=-9223372036854775808 ≤ n ∧ n ≤ 9223372036854775807
theorem c_mappedIS (l:List Int) (h:l.length ≤ 1048576) (hb:∀ n ∈ l,inI n):GoodC Tryz.prog 181 [.seq (l.map (.int .i64)),.func 182 [] []] (.seq ((l.map itoaN).map .str)):=by
 refine good_fn nf isF181 mix (by simp [Tryz.f181]) ?_
 simp [Tryz.f181]
 refine lp (α:=Nat) (fun i=>⟨[(10,.p (.int .i64 i)),(9,.p (.int .i64 l.length)),(8,.p (.seq (l.map (.int .i64)))),(5,.sl 0 i 1 0 i),(1,.p (.func 182 [] []))],[.arr .grow i 1 ((l.map fun n=>.p (.str (itoaN n))).take i)]⟩) (fun i=>i ≤ l.length) (fun i=>l.length - i) 0 (by simp) ?_
 rintro i k1
 by_cases hi:i < l.length
 · have hw:=wi1 (i:=i) (by omega)
   have ht:=take_next (fun n=>AV.p (.str (itoaN n))) hi
   have hn:=hb l[i] (List.getElem_mem hi)
   simp [hi]
   refine c1 (h182 l[i] hn.1 hn.2) ?_
   simp
   refine ⟨⟨by omega,by simp [maxL]; omega⟩,?_⟩
   exact rd (i + 1) hi (he:=by simp [hw]) (hh:=by simp [ht]) (hr2:=by simp [ht])
 · have:i = l.length:=by omega
   subst this
   simp
theorem c_values (l:List Int) (h:l.length ≤ 1048576) (hb:∀ n ∈ l,inI n):GoodC Tryz.prog 99 [.seq (l.map (.int .i64))] (.str (valsT l)):=by
 refine good_fn nf isF99 mix (by simp [Tryz.f99]) ?_
 simp [Tryz.f99]
 refine c2 (c_mappedIS l h hb) ?_
 simp
 refine c2 (c_join (l.map itoaN) [44] (by simpa using h) ?_) ?_ (h1:=by simp)
 · have:=valsT_len l
   simp only [valsT] at this; omega
 simp [valsT]
theorem c_merge1 (r:RowD):GoodC Tryz.prog 191 [eRow r] (.str r.key):=by
 refine good_fn nf isF191 mix (by simp [Tryz.f191]) ?_
 simp [Tryz.f191,eRow]
end Go.Abs
namespace Go.Abs
open Go.Proofs
set_option maxHeartbeats 4000000
set_option maxRecDepth 100000
def rowsE (l:List RowD):List (PV × PV):=l.map fun r=>(.str r.key,eRow r)
theorem look_rows (k:List Nat):∀ (l:List RowD),lookupM (rowsE l) (.str k) = some ((rowAt l k).map eRow)
 | []=>by simp [rowsE,lookupM,rowAt,look]
 | a :: l=>by
  have ih:=look_rows k l
  simp only [rowsE,List.map_cons,lookupM,eqP,rowAt,look] at ih ⊢
  by_cases h:k = a.key
  · subst h; simp
  · have hb:(k == a.key) = false:=by simpa using h
    have h':¬ a.key = k:=fun e=>h e.symm
    rw [hb,if_neg h']
    simp only [ih]
theorem upd_rows (r:RowD):∀ (l:List RowD),r.key ∉ keysOf l → updateM (rowsE l) (.str r.key) (eRow r) = rowsE (l ++ [r])
 | [],_=>by simp [rowsE,updateM]
 | a :: l,h=>by
  simp only [keysOf,List.map_cons,List.mem_cons,not_or] at h
  have ih:=upd_rows r l h.2
  have hb:(r.key == a.key) = false:=by simpa using h.1
  simp only [rowsE,List.map_cons,updateM,eqP,List.cons_append,hb] at ih ⊢
  simp [ih]
theorem c_rows (b:BookD) (h:b.rows.length ≤ 1048576) (hn:(keysOf b.rows).Nodup):GoodC Tryz.prog 189 [eBook b] (.fmap (rowsE b.rows)):=by
 refine good_fn nf isF189 mix (by simp [Tryz.f189]) ?_
 obtain ⟨name,l⟩:=b
 dsimp only at h hn ⊢
 simp [Tryz.f189,eBook]
 refine lp (α:=Nat) (fun i=>⟨[(10,.p (.int .i64 i)),(9,.p (.int .i64 l.length)),(8,.p (.seq (l.map eRow))),(3,.map 1)],[.hole,.map false (rowsE (l.take i))]⟩) (fun i=>i ≤ l.length) (fun i=>l.length - i) 0 (by simp) ?_ (hh:=by simp [rowsE])
 rintro i k1
 by_cases hi:i < l.length
 · have hw:=wi1 (i:=i) (by omega)
   have hnot:l[i].key ∉ keysOf (l.take i):=by
    have e:l = l.take i ++ l[i] :: l.drop (i + 1):=by rw [← List.drop_eq_getElem_cons hi,List.take_append_drop]
    rw [e,keysOf,List.map_append,List.map_cons,List.nodup_append] at hn
    intro hm
    exact hn.2.2 _ hm _ List.mem_cons_self rfl
   have hu:=upd_rows l[i] (l.take i) hnot
   have hl:=look_rows l[i].key (l.take i)
   have hE:eRow l[i] = .st 54 [.str l[i].key,.seq (l[i].vals.map (.int .i64))]:=rfl
   have ht:l.take (i + 1) = l.take i ++ [l[i]]:=List.take_succ_eq_append_getElem hi
   rw [hE,← ht] at hu
   rw [show rowAt (l.take i) l[i].key = none by simp [rowAt,look_none.2 hnot]] at hl
   simp only [Option.map_none] at hl
   simp [hi,hE,hl,hw]
   exact rd (i + 1) hi (hh:=by simp [hu])
 · have:i = l.length:=by omega
   subst this
   simp
end Go.Abs
namespace Go.Abs
open Go.Proofs
set_option maxHeartbeats 4000000
set_option maxRecDepth 100000
def heldE (o:Option (List Int)):PV:=.st 293 [.bool o.isSome,.str (valsT (o.getD []))]
theorem look_B {l:List RowD} {k:List Nat} {v:List Int} (h:look l k = some v) (hl:rowsB l):v.length ≤ 1048576:=(hl.2 _ (look_mem h)).2
def rowsI (l:List RowD):Prop:=∀ r ∈ l,∀ n ∈ r.vals,inI n
theorem c_holds (l:List RowD) (k:List Nat) (hl:rowsB l) (hi:rowsI l):GoodC Tryz.prog 192 [.fmap (rowsE l),.str k] (heldE (look l k)):=by
 refine good_fn nf isF192 mix (by simp [Tryz.f192]) ?_
 have h:=look_rows k l
 cases hk:look l k with
 | none =>
  rw [show rowAt l k = none by simp [rowAt,hk]] at h
  simp only [Option.map_none] at h
  simp [Tryz.f192,h]
  refine c1 (c_values [] (by simp) (by simp)) ?_ (h1:=by simp)
  simp [heldE]
 | some v =>
  rw [show rowAt l k = some ⟨k,v⟩ by simp [rowAt,hk]] at h
  have hE:eRow ⟨k,v⟩ = .st 54 [.str k,.seq (v.map (.int .i64))]:=rfl
  simp only [Option.map_some,hE] at h
  simp [Tryz.f192,h]
  refine c1 (c_values v (look_B hk hl) (fun n hn=>hi _ (look_mem hk) n hn)) ?_
  simp [heldE]
theorem sLess_eq:∀ (x y:List Nat),strLess x y = sLess x y
 | _,[]=>by unfold strLess sLess; rfl
 | [],_ :: _=>by unfold strLess sLess; rfl
 | a :: x,b :: y=>by unfold strLess sLess; rw [sLess_eq x y]
@[simp] theorem u8_eq:(Gl.u8:TypeId) = 5:=rfl
@[simp] theorem shp_strs {l:List (List Nat)}:allShp Tryz.prog 1 (List.map (AV.p ∘ PV.str) l):=shp_map fun x=>⟨by simp [shpA,shp],by simp [shpA,shp,shpSize]⟩
end Go.Abs
namespace Go.Abs
open Go.Proofs
set_option maxHeartbeats 4000000
set_option maxRecDepth 100000
def kTo (a b:List RowD) (i:Nat):List (List Nat):=keysOf (a.take i) ++ (keysOf (b.take (i - a.length))).filter fun k=>!(keysOf a).contains k
theorem kTo_end (a b:List RowD):kTo a b (a.length + b.length) = allK a b:=by
 rw [kTo,allK,List.take_of_length_le (by omega),List.take_of_length_le (by omega)]
theorem kTo_len (a b:List RowD) (i:Nat):(kTo a b i).length ≤ a.length + b.length:=by
 have q2:=List.length_filter_le (fun k=>!(keysOf a).contains k) (keysOf (b.take (i - a.length)))
 simp only [kTo,List.length_append,keysOf,List.length_map,List.length_take] at *
 omega
section
variable (x a b:List RowD) (xn an bn:List Nat) (ver:Nat) (C:List AV)
end
end Go.Abs
namespace Go.Abs
open Go.Proofs
set_option linter.unusedSectionVars false
theorem sLess_u8:∀ (x y:List UInt8),sLess (natsB x) (natsB y) = decide (x < y)
 | _,[]=>by simp [natsB,sLess]
 | [],_ :: _=>by simp [natsB,sLess]
 | a :: x,b :: y=>by
  have ih:=sLess_u8 x y
  simp only [natsB] at ih
  simp only [natsB,List.map_cons,sLess,ih]
  rw [Bool.eq_iff_iff]
  simp only [Bool.or_eq_true,decide_eq_true_eq,Bool.and_eq_true,beq_iff_eq,List.cons_lt_cons_iff,UInt8.lt_iff_toNat_lt,← UInt8.toNat_inj]
theorem le_u8 (x y:List UInt8):decide (x ≤ y) = !sLess (natsB y) (natsB x):=by
 rw [sLess_u8,Bool.eq_iff_iff]; simp
theorem sLess_neg_trans {x y z:List Nat} (h1:sLess y x = false) (h2:sLess z y = false):sLess z x = false:=by
 cases h:sLess z x with
 | false=>rfl
 | true =>
  cases h3:sLess x y with
  | true=>rw [sLess_trans h h3] at h2; cases h2
  | false=>rw [sLess_tri h1 h3] at h2; rw [h2] at h; cases h
theorem mergeSort_sortS (ss:List (List UInt8)):(ss.mergeSort fun x y=>decide (x ≤ y)).map natsB = sortS (ss.map natsB):=by
 refine sortS_of ((List.mergeSort_perm ss _).map natsB) ?_
 have h:=List.pairwise_mergeSort (le:=fun x y:List UInt8=>decide (x ≤ y))
  (fun a b c h1 h2=>by
   simp only [le_u8,Bool.not_eq_true'] at *
   exact sLess_neg_trans h1 h2)
  (fun a b=>by
   simp only [le_u8,Bool.or_eq_true,Bool.not_eq_true']
   cases h:sLess (natsB b) (natsB a) with
   | false=>exact .inl rfl
   | true=>exact .inr (sLess_asym h)) ss
 rw [Asc,List.pairwise_map]
 refine h.imp ?_
 intro a b hab
 simpa [le_u8] using hab
theorem strs_to [Gl] {P:Program} {w:World} {Imm:Nat → Prop}:∀ (ds:List (List UInt8)),PVCl P w Imm (List.replicate ds.length 1) ((ds.map natsB).map .str) (ds.map fun l=>[Value.string ⟨l.toArray⟩])
 | []=>by simp [PVCl]
 | d :: ds=>by
  simp only [List.length_cons,List.replicate_succ,List.map_cons,PVCl,PVC]
  exact ⟨_,_,rfl,⟨⟨d.toArray⟩,rfl,by simp [natsB]⟩,rfl,strs_to ds⟩
theorem flat1 {α β:Type} (g:α → β):∀ (l:List α),(l.map fun x=>[g x]).flatten = l.map g
 | []=>rfl
 | x :: l=>by simp only [List.map_cons,List.flatten_cons,flat1 g l]; rfl
theorem putCells_list {d:List (List UInt8)} {l rest:List Value} {cs:Array Value} (h:cs.toList = l ++ rest) (hl:l.length = d.length):(Go.Sort.putCells encStr 0 d.toArray cs).toList = (d.map fun l=>Value.string ⟨l.toArray⟩) ++ rest:=by
 have hsz:cs.size = l.length + rest.length:=by rw [← Array.length_toList,h]; simp
 apply List.ext_getElem
 · simp [Go.Sort.putCells,hsz,hl]
 · intro i h1 h2
   simp only [Go.Sort.putCells,Array.getElem_toList,Array.getElem_mapIdx,List.size_toArray,Nat.zero_le,Nat.zero_add,true_and,Nat.sub_zero]
   split
   · rename_i hi
     rw [List.getElem_append_left (by simpa using hi)]
     simp [encStr,hi]
   · rename_i hi
     rw [List.getElem_append_right (by simpa using hi)]
     have e:cs[i]'(by simpa [Go.Sort.putCells] using h1) = cs.toList[i]'(by simpa [Go.Sort.putCells] using h1):=by simp
     rw [e]
     simp only [h]
     rw [List.getElem_append_right (by omega)]
     simp [hl]
theorem g_sort {P : Program} [Gl] {f : FuncId} (he : Enters P f)
    (hS:∀ (blk off cap:Nat) (ss:List (List UInt8)) (w:World),Go.Sort.Holds encStr w blk off ss.toArray → blk < w.heap.size → ss.length < 4611686018427387904 →
     Calls P f #[.slice (some ⟨blk,off,none⟩) ss.length cap] w fun e w'=>e = .returned (.tuple #[]) ∧ ∃ n os,w' = Go.Sort.grow (Go.Sort.putRow encStr (Go.Sort.ahead w n) blk off (ss.mergeSort fun x y=>decide (x ≤ y)).toArray) os)
    {H:Heap} {b ver:Nat} {xs:List (List Nat)} (hb:H[b]? = some (.arr .grow ver 1 (xs.map (AV.p ∘ PV.str)))) (hne:xs ≠ []) (hlen:xs.length < 4611686018427387904) :
    GoodI P f H [.sl b ver 1 0 xs.length] (H.set b (.arr .grow ver 1 ((sortS xs).map (AV.p ∘ PV.str)))) (.p (.tup [])):=by
 refine ⟨he,fun w Imm Prot β cargs hr ha hre=>?_⟩
 simp only [AVVl,AVV] at ha
 obtain ⟨v,vs,rfl,⟨_,hp⟩,rfl⟩:=ha
 obtain ⟨_,_,hv⟩:=hp .grow _ hb
 have hnil:¬ isNilArr .grow (xs.map (AV.p ∘ PV.str)):=fun h=>hne (by simpa using h.2)
 have hv:=hv hnil
 simp only [Nat.zero_mul,Nat.sub_zero] at hv
 subst hv
 rcases hr.objs b _ hb with h | ⟨cs,T,css,rest,k1,k2,k3,k4,k5,k6,k7,k8,k9⟩
 · exact (hnil h).elim
 have k2':PVCl P w Imm (List.replicate (xs.map (AV.p ∘ PV.str)).length 1) (xs.map .str) css:=by
  rw [← AVCl_map (β:=β) (H:=H)]; simpa [Function.comp_def] using k2
 obtain ⟨bs,g1,g2⟩:=strs_of k2'
 have k7':¬ Imm (β.blk b) ∧ ¬ Prot (β.blk b):=by simpa [Held] using k7
 rw [g1] at k3
 have hxl:xs.length = bs.length:=by rw [g2]; simp
 have hblk:β.blk b < w.heap.size:=(Array.getElem?_eq_some_iff.1 k1).1
 have hH:Go.Sort.Holds encStr w (β.blk b) 0 (bs.map (·.data.toList)).toArray:=by
  intro j hj
  have hj:j < bs.length:=by simpa using hj
  refine ⟨?_,by simp [World.frozen?,k1]⟩
  have e1:cs[j]? = some (.string bs[j]):=by
   rw [← Array.getElem?_toList,k3,List.getElem?_append_left (by simpa using hj)]
   simp [hj]
  simp [World.cell?,k1,e1,encStr,hj]
 have hc:=hS (β.blk b) 0 (β.cap b) (bs.map (·.data.toList)) w hH hblk (by simpa [← hxl] using hlen)
 rw [List.length_map,← hxl] at hc
 refine hc.mono ?_
 rintro e w' ⟨rfl,n,os,rfl⟩
 have hso:sortS xs = ((bs.map (·.data.toList)).mergeSort fun x y=>decide (x ≤ y)).map natsB:=by
  rw [mergeSort_sortS,g2]; simp [Function.comp_def]
 generalize hd:((bs.map (·.data.toList)).mergeSort fun x y=>decide (x ≤ y)) = d at hso
 have hdl:d.length = bs.length:=by rw [← hd,(List.mergeSort_perm _ _).length_eq]; simp
 have hnew:=putCells_list (d:=d) k3 (by simp [hdl])
 generalize hcs:Go.Sort.putCells encStr 0 d.toArray cs = new at hnew
 have hst:HStep β H β (H.set b (.arr .grow ver 1 ((sortS xs).map (AV.p ∘ PV.str)))):=set_step hb (.inr (.inl ⟨_,_,_,_,_,rfl,rfl,by simp [(sortS_perm xs).length_eq]⟩))
 have hp1 := write_post hr hb hnil (o' := .arr .grow ver 1 ((sortS xs).map (AV.p ∘ PV.str))) (fun h => hne (by
     have h0:sortS xs = []:=by simpa using h.2
     have:=(sortS_perm xs).length_eq
     rw [h0] at this
     exact List.length_eq_zero_iff.1 this.symm)) (fun _ h=>h) k1 (new:=new) k7' hst
  (.inr ⟨new,T,d.map fun l=>[Value.string ⟨l.toArray⟩],rest,setRow_heap w _ _ _ T _ k1,by
   rw [hso]
   have:=strs_to (P:=P) (w:=w.setRow (β.blk b) new) (Imm:=Imm) d
   rw [← AVCl_map (β:=β) (H:=H.set b (.arr .grow ver 1 ((d.map natsB).map (AV.p ∘ PV.str))))] at this
   simpa [Function.comp_def] using this,by rw [hnew,flat1],by rw [← k4,← hcs]; simp [Go.Sort.putCells],by simpa [(sortS_perm xs).length_eq] using k5,by simp,k7,by simp,k9⟩)
  (by simp only [Obj.refs]; rw [refsLtl_mem]; intro v hv; simp only [List.mem_map] at hv; obtain ⟨x,_,rfl⟩:=hv; trivial)
 have hp2:Post P Prot Imm (w.setRow (β.blk b) new) β _ Imm (Go.Sort.grow (Go.Sort.putRow encStr (Go.Sort.ahead w n) (β.blk b) 0 d.toArray) os) β _ :=
  HRel.later hp1.rel (fun _ h => h) (fun _ h => .inl h) (fun k hk => by
      have:=hr.imm k hk
      simp only [Go.Sort.grow,Array.size_append,Go.Sort.size_putRow]
      show k < (Go.Sort.ahead w n).heap.size + _
      simp only [Go.Sort.ahead]; omega)
   (by rw [setRow_size]; simp only [Go.Sort.grow,Array.size_append,Go.Sort.size_putRow,Go.Sort.ahead]; omega)
   (fun k hk=>by
    rw [setRow_size] at hk
    have h1:(Go.Sort.grow (Go.Sort.putRow encStr (Go.Sort.ahead w n) (β.blk b) 0 d.toArray) os).heap[k]? = (Go.Sort.putRow encStr (Go.Sort.ahead w n) (β.blk b) 0 d.toArray).heap[k]?:=by
     simp only [Go.Sort.grow]
     rw [Array.getElem?_append_left (by simpa [Go.Sort.ahead] using hk)]
    rw [h1]
    by_cases hkb:k = β.blk b
    · subst hkb
      rw [setRow_heap w _ _ _ T _ k1]
      simp [Go.Sort.putRow,Go.Sort.mapBlock,Go.Sort.ahead,Go.Sort.onCells,Array.getElem?_modify,k1,hcs]
    · rw [setRow_other w _ k _ hkb]
      simp [Go.Sort.putRow,Go.Sort.mapBlock,Go.Sort.ahead,Array.getElem?_modify,Ne.symm hkb])
 exact ⟨_,β,Imm,rfl,hp1.trans hp2,by simp [AVV,PVV,PVVl],by simp [refsLt]⟩
end Go.Abs
namespace Go.Proofs
open Go.Shelf
def Tryz.lays190_ren:Go.Shelf.Ren:=⟨fun | 190=>163 | 125=>222 | 258=>221 | 128=>270 | 129=>271 | 302=>261 | 303=>262 | 304=>263 | 305=>264 | 306=>265 | 307=>266 | 308=>267 | 309=>268 | 310=>269 | 333=>300 | 329=>301 | 330=>302 | 334=>303 | 335=>304 | 336=>247 | 344=>322 | n=>n,fun | 31=>44 | 9=>9 | 3=>3 | 46=>261 | 0=>0 | 51=>317 | 53=>320 | 4=>4 | 183=>351 | 182=>350 | 131=>286 | 5=>5 | 218=>378 | 222=>382 | 228=>397 | 229=>398 | n=>n,fun | n=>n⟩
theorem Tryz.lays190:Go.Proofs.Lays.n190 Tryz.prog Tryz.lays190_ren:={
 mixed:=by kernel_rfl
 f125:=Tryz.func222.trans (congrArg some (by kernel_rfl))
 f128:=Tryz.func270.trans (congrArg some (by kernel_rfl))
 f129:=Tryz.func271.trans (congrArg some (by kernel_rfl))
 f190:=Tryz.func163.trans (congrArg some (by kernel_rfl))
 f258:=Tryz.func221.trans (congrArg some (by kernel_rfl))
 f302:=Tryz.func261.trans (congrArg some (by kernel_rfl))
 f303:=Tryz.func262.trans (congrArg some (by kernel_rfl))
 f304:=Tryz.func263.trans (congrArg some (by kernel_rfl))
 f305:=Tryz.func264.trans (congrArg some (by kernel_rfl))
 f306:=Tryz.func265.trans (congrArg some (by kernel_rfl))
 f307:=Tryz.func266.trans (congrArg some (by kernel_rfl))
 f308:=Tryz.func267.trans (congrArg some (by kernel_rfl))
 f309:=Tryz.func268.trans (congrArg some (by kernel_rfl))
 f310:=Tryz.func269.trans (congrArg some (by kernel_rfl))
 f329:=Tryz.func301.trans (congrArg some (by kernel_rfl))
 f330:=Tryz.func302.trans (congrArg some (by kernel_rfl))
 f333:=Tryz.func300.trans (congrArg some (by kernel_rfl))
 f334:=Tryz.func303.trans (congrArg some (by kernel_rfl))
 f335:=Tryz.func304.trans (congrArg some (by kernel_rfl))
 f336:=Tryz.func247.trans (congrArg some (by kernel_rfl))
 f344:=Tryz.func322.trans (congrArg some (by kernel_rfl))
 t0:=Tryz.underlying0
 a0:=Tryz.isAgg0
 z0:=Tryz.sizeOf0
 v0:=Tryz.zeroValue0
 t3:=Tryz.underlying3
 a3:=Tryz.isAgg3
 z3:=Tryz.sizeOf3
 v3:=Tryz.zeroValue3
 t4:=Tryz.underlying4
 a4:=Tryz.isAgg4
 z4:=Tryz.sizeOf4
 v4:=Tryz.zeroValue4
 t5:=Tryz.underlying5
 a5:=Tryz.isAgg5
 z5:=Tryz.sizeOf5
 v5:=Tryz.zeroValue5
 t9:=Tryz.underlying9
 a9:=Tryz.isAgg9
 z9:=Tryz.sizeOf9
 v9:=Tryz.zeroValue9
 t31:=Tryz.underlying44
 a31:=Tryz.isAgg44
 z31:=Tryz.sizeOf44
 v31:=Tryz.zeroValue44
 t46:=Tryz.underlying261
 a46:=Tryz.isAgg261
 z46:=Tryz.sizeOf261
 v46:=Tryz.zeroValue261
 t51:=Tryz.underlying317
 a51:=Tryz.isAgg317
 z51:=Tryz.sizeOf317
 v51:=Tryz.zeroValue317
 t53:=Tryz.underlying320
 a53:=Tryz.isAgg320
 z53:=Tryz.sizeOf320
 v53:=Tryz.zeroValue320
 t131:=Tryz.underlying286
 a131:=Tryz.isAgg286
 z131:=Tryz.sizeOf286
 v131:=Tryz.zeroValue286
 t182:=Tryz.underlying350
 a182:=Tryz.isAgg350
 z182:=Tryz.sizeOf350
 v182:=Tryz.zeroValue350
 t183:=Tryz.underlying351
 a183:=Tryz.isAgg351
 z183:=Tryz.sizeOf351
 v183:=Tryz.zeroValue351
 t218:=Tryz.underlying378
 a218:=Tryz.isAgg378
 z218:=Tryz.sizeOf378
 v218:=Tryz.zeroValue378
 t222:=Tryz.underlying382
 a222:=Tryz.isAgg382
 z222:=Tryz.sizeOf382
 v222:=Tryz.zeroValue382
 t228:=Tryz.underlying397
 a228:=Tryz.isAgg397
 z228:=Tryz.sizeOf397
 v228:=Tryz.zeroValue397
 t229:=Tryz.underlying398
 a229:=Tryz.isAgg398
 z229:=Tryz.sizeOf398
 v229:=Tryz.zeroValue398 }
open Go.Sort Go.RowKit in
theorem Tryz.slices_Sort_string (blk off cap : Nat) (ss : List (List UInt8)) (w : World) (hH : Holds encStr w blk off ss.toArray) (hblk : blk < w.heap.size) (hsz : ss.length < 4611686018427387904) :
    Calls Tryz.prog 163 #[.slice (some ⟨blk,off,none⟩) ss.length cap] w fun e w' =>
     e = .returned (.tuple #[]) ∧ ∃ n os,w' = grow (putRow encStr (Sort.ahead w n) blk off (ss.mergeSort fun x y=>decide (x ≤ y)).toArray) os:=Any.slices_Sort_string Tryz.lays190 blk off cap ss w hH hblk hsz
open Go.RowKit Go.Sort in
theorem Tryz.slices_Sort_string_none (p : Option Addr) (cap : Nat) (w : World) :
    Calls Tryz.prog 163 #[.slice p 0 cap] w fun e w'=>e = .returned (.tuple #[]) ∧ w' = w:=Any.slices_Sort_string_none Tryz.lays190 p cap w
end Go.Proofs
namespace Go.Abs
open Go.Proofs
theorem g_sort163 {H : Heap} {b ver : Nat} {xs : List (List Nat)} (hb : H[b]? = some (.arr .grow ver 1 (xs.map (AV.p ∘ PV.str)))) (hne : xs ≠ []) (hlen : xs.length ≤ 1048576) :
    GoodI Tryz.prog 163 H [.sl b ver 1 0 xs.length] (H.set b (.arr .grow ver 1 ((sortS xs).map (AV.p ∘ PV.str)))) (.p (.tup [])) :=
 g_sort isF163.enters (fun blk off cap ss w h1 h2 h3=>Tryz.slices_Sort_string blk off cap ss w h1 h2 h3) hb hne (by omega)
theorem g_sort_nil {H:Heap} {b ver:Nat} (hb:H[b]? = some (.arr .grow ver 1 [])):GoodI Tryz.prog 163 H [.sl b ver 1 0 0] H (.p (.tup [])):=by
 refine ⟨isF163.enters,fun w Imm Prot β cargs hr ha hre=>?_⟩
 simp only [AVVl,AVV] at ha
 obtain ⟨v,vs,rfl,⟨_,hp⟩,rfl⟩:=ha
 obtain ⟨_,hv,_⟩:=hp .grow _ hb
 have hv:=hv ⟨rfl,rfl⟩
 subst hv
 refine (Tryz.slices_Sort_string_none none 0 w).mono ?_
 rintro e w' ⟨rfl,rfl⟩
 exact ⟨_,β,Imm,rfl,Post.refl hr,by simp [AVV,PVV,PVVl],by simp [refsLt]⟩
end Go.Abs
