import Derived.Test.YthckccalfpnmaaaGreatDoorQB
import Derived.Test.YthckccalfpnmaaaGreatDoorPB
import Derived.Shelf.Sort.Plain
import Derived.Shelf.Slices.In.SortNone
/-
  Merged rows: what rows have for a key, sorted names.
-/
set_option linter.unusedSimpArgs false
set_option linter.unusedVariables false
set_option linter.unusedSectionVars false
namespace Go.Abs
open Go.Proofs
/-- what rows have for a key -/
def look : List RowD → List Nat → Option (List Int)
  | [], _ => none
  | r :: l, k => if r.key = k then some r.vals else look l k
def keysOf (l : List RowD) : List (List Nat) := l.map (·.key)
theorem look_none {l : List RowD} {k : List Nat} : look l k = none ↔ k ∉ keysOf l := by
  induction l with
  | nil => simp [look, keysOf]
  | cons r l ih =>
    simp only [look, keysOf, List.map_cons, List.mem_cons, not_or] at *
    split
    · rename_i h; simp [h]
    · rename_i h; rw [ih]; simp [Ne.symm h]
theorem look_mem {l : List RowD} {k : List Nat} {v : List Int} (h : look l k = some v) : (⟨k, v⟩ : RowD) ∈ l := by
  induction l with
  | nil => simp [look] at h
  | cons r l ih =>
    simp only [look] at h
    split at h
    · rename_i h1; cases h; subst h1; exact List.mem_cons_self
    · exact List.mem_cons_of_mem _ (ih h)
theorem look_of_mem {l : List RowD} (hn : (keysOf l).Nodup) {r : RowD} (h : r ∈ l) : look l r.key = some r.vals := by
  induction l with
  | nil => cases h
  | cons x l ih =>
    simp only [keysOf, List.map_cons, List.nodup_cons] at hn
    simp only [look]
    rcases List.mem_cons.1 h with rfl | h
    · simp
    · have h1 : x.key ≠ r.key := fun e => hn.1 (by rw [e]; exact List.mem_map_of_mem h)
      rw [if_neg h1, ih hn.2 h]
def agreeS (a b : List RowD) (k : List Nat) : Bool := decide (look a k = look b k)
def allK (a b : List RowD) : List (List Nat) := keysOf a ++ (keysOf b).filter fun k => !(keysOf a).contains k
def srcS (base a b : List RowD) (k : List Nat) : List RowD := if look a k ≠ look b k ∧ look a k = look base k then b else a
def confS (base a b : List RowD) (k : List Nat) : Bool := decide (look a k ≠ look b k ∧ look a k ≠ look base k ∧ look b k ≠ look base k)
def rowAt (l : List RowD) (k : List Nat) : Option RowD := (look l k).map fun v => ⟨k, v⟩
def outS (base a b : List RowD) : List RowD := (allK a b).filterMap fun k => rowAt (srcS base a b k) k
/-- string order -/
def sLess : List Nat → List Nat → Bool
  | _, [] => false
  | [], _ :: _ => true
  | a :: x, b :: y => decide (a < b) || (a == b && sLess x y)
theorem sLess_irr : ∀ (x : List Nat), sLess x x = false
  | [] => rfl
  | a :: x => by simp [sLess, sLess_irr x]
theorem sLess_asym : ∀ {x y : List Nat}, sLess x y = true → sLess y x = false
  | [], [], h => by simp [sLess] at h
  | [], b :: y, h => rfl
  | a :: x, [], h => by simp [sLess] at h
  | a :: x, b :: y, h => by
    simp only [sLess, Bool.or_eq_true, decide_eq_true_eq, Bool.and_eq_true, beq_iff_eq] at h
    simp only [sLess, Bool.or_eq_false_iff, decide_eq_false_iff_not, Bool.and_eq_false_iff, beq_eq_false_iff_ne]
    rcases h with h | ⟨rfl, h⟩
    · exact ⟨by omega, .inl (by omega)⟩
    · exact ⟨by omega, .inr (sLess_asym h)⟩
theorem sLess_trans : ∀ {x y z : List Nat}, sLess x y = true → sLess y z = true → sLess x z = true
  | [], [], _, h, _ => by simp [sLess] at h
  | [], b :: y, [], _, h => by simp [sLess] at h
  | [], b :: y, c :: z, _, _ => rfl
  | a :: x, [], z, h, _ => by simp [sLess] at h
  | a :: x, b :: y, [], _, h => by simp [sLess] at h
  | a :: x, b :: y, c :: z, h1, h2 => by
    simp only [sLess, Bool.or_eq_true, decide_eq_true_eq, Bool.and_eq_true, beq_iff_eq] at *
    rcases h1 with h1 | ⟨rfl, h1⟩
    · rcases h2 with h2 | ⟨rfl, h2⟩
      · exact .inl (by omega)
      · exact .inl h1
    · rcases h2 with h2 | ⟨rfl, h2⟩
      · exact .inl h2
      · exact .inr ⟨rfl, sLess_trans h1 h2⟩
theorem sLess_tri : ∀ {x y : List Nat}, sLess x y = false → sLess y x = false → x = y
  | [], [], _, _ => rfl
  | [], b :: y, h, _ => by simp [sLess] at h
  | a :: x, [], _, h => by simp [sLess] at h
  | a :: x, b :: y, h1, h2 => by
    simp only [sLess, Bool.or_eq_false_iff, decide_eq_false_iff_not, Bool.and_eq_false_iff, beq_eq_false_iff_ne] at *
    have : a = b := by omega
    subst this
    have h3 : sLess x y = false := by simpa using h1.2
    have h4 : sLess y x = false := by simpa using h2.2
    rw [sLess_tri h3 h4]
/-- a name's place among sorted names: the reference's way -/
def insS : List (List Nat) → List Nat → List (List Nat)
  | [], k => [k]
  | x :: l, k => if sLess x k then x :: insS l k else k :: x :: l
def Asc (l : List (List Nat)) : Prop := l.Pairwise fun x y => sLess y x = false
theorem insS_mem {k y : List Nat} : ∀ {l : List (List Nat)}, y ∈ insS l k ↔ y = k ∨ y ∈ l
  | [] => by simp [insS]
  | x :: l => by
    simp only [insS]; split
    · rw [List.mem_cons, insS_mem (l := l), List.mem_cons]
      constructor
      · rintro (h | h | h)
        · exact .inr (.inl h)
        · exact .inl h
        · exact .inr (.inr h)
      · rintro (h | h | h)
        · exact .inr (.inl h)
        · exact .inl h
        · exact .inr (.inr h)
    · rw [List.mem_cons]
theorem insS_perm {k : List Nat} : ∀ {l : List (List Nat)}, (insS l k).Perm (k :: l)
  | [] => by simp [insS]
  | x :: l => by
    simp only [insS]; split
    · exact (List.Perm.cons x insS_perm).trans (.swap k x l)
    · exact .refl _
theorem insS_asc {k : List Nat} : ∀ {l : List (List Nat)}, Asc l → Asc (insS l k)
  | [], _ => by simp [insS, Asc]
  | x :: l, h => by
    simp only [Asc, List.pairwise_cons] at h
    simp only [insS]; split
    · rename_i hx
      refine List.pairwise_cons.2 ⟨fun y hy => ?_, insS_asc h.2⟩
      rcases insS_mem.1 hy with rfl | hy
      · exact sLess_asym hx
      · exact h.1 y hy
    · rename_i hx
      refine List.pairwise_cons.2 ⟨fun y hy => ?_, List.pairwise_cons.2 h⟩
      rcases List.mem_cons.1 hy with rfl | hy
      · simpa using hx
      · cases hyk : sLess y k with
        | false => rfl
        | true =>
          have h1 := h.1 y hy
          cases hxy : sLess x y with
          | true => rw [sLess_trans hxy hyk] at hx; exact (hx rfl).elim
          | false => rw [sLess_tri hxy h1] at hx; exact (hx hyk).elim
theorem asc_unique : ∀ {l m : List (List Nat)}, Asc l → Asc m → l.Perm m → l = m
  | [], m, _, _, h => by simpa using h.length_eq.symm
  | x :: l, [], _, _, h => by simpa using h.length_eq
  | x :: l, y :: m, hl, hm, h => by
    have hxy : x = y := by
      simp only [Asc, List.pairwise_cons] at hl hm
      have h1 : y ∈ x :: l := h.mem_iff.2 List.mem_cons_self
      have h2 : x ∈ y :: m := h.mem_iff.1 List.mem_cons_self
      rcases List.mem_cons.1 h1 with e | h1
      · exact e.symm
      rcases List.mem_cons.1 h2 with e | h2
      · exact e
      exact sLess_tri (hm.1 x h2) (hl.1 y h1)
    subst hxy
    rw [asc_unique (List.pairwise_cons.1 hl).2 (List.pairwise_cons.1 hm).2 (List.Perm.cons_inv h)]
def sortS (l : List (List Nat)) : List (List Nat) := l.foldl insS []
theorem foldl_ins_perm : ∀ (l acc : List (List Nat)), (l.foldl insS acc).Perm (acc ++ l)
  | [], _ => by simp
  | _ :: l, _ => by
    rw [List.foldl_cons]
    refine (foldl_ins_perm l _).trans ?_
    refine (List.Perm.append_right l insS_perm).trans ?_
    exact List.perm_middle.symm
theorem foldl_ins_asc : ∀ (l acc : List (List Nat)), Asc acc → Asc (l.foldl insS acc)
  | [], _, h => h
  | x :: l, acc, h => foldl_ins_asc l _ (insS_asc h)
theorem sortS_perm (l : List (List Nat)) : (sortS l).Perm l := foldl_ins_perm l []
theorem sortS_asc (l : List (List Nat)) : Asc (sortS l) := foldl_ins_asc l [] (by simp [Asc])
theorem sortS_of {l m : List (List Nat)} (h : m.Perm l) (hm : Asc m) : m = sortS l := asc_unique hm (sortS_asc l) (h.trans (sortS_perm l).symm)
end Go.Abs

/-
  Merged rows: both orders, and the base.
-/
namespace Go.Abs
open Go.Proofs
theorem chkRowsFrom_iff : ∀ {l : List RowD} {seen : List (List Nat)}, chkRowsFrom seen l = 0 ↔ (∀ r ∈ l, okRow r) ∧ (keysOf l).Nodup ∧ ∀ k ∈ keysOf l, k ∉ seen
  | [], seen => by simp [chkRowsFrom, keysOf]
  | x :: l, seen => by
    simp only [chkRowsFrom]
    have key : firstE [whenE (!isName x.key) 8, whenE (seen.contains x.key) 9, chkVals x.vals] = 0 ↔ okRow x ∧ x.key ∉ seen := by
      rw [first3, when0 (by omega), when0 (by omega), okRow]
      simp [and_assoc, and_comm]
    have ih := chkRowsFrom_iff (l := l) (seen := seen ++ [x.key])
    by_cases h : firstE [whenE (!isName x.key) 8, whenE (seen.contains x.key) 9, chkVals x.vals] = 0
    · rw [if_pos h, ih]
      rw [key] at h
      simp only [keysOf, List.mem_cons, forall_eq_or_imp, List.map_cons, List.nodup_cons, List.mem_append, List.mem_singleton, not_or, List.not_mem_nil, or_false] at *
      constructor
      · rintro ⟨h1, h2, h3⟩
        exact ⟨⟨h.1, h1⟩, ⟨fun hm => (h3 _ hm).2 rfl, h2⟩, h.2, fun k hk => (h3 k hk).1⟩
      · rintro ⟨⟨_, h1⟩, ⟨h2, h3⟩, h4, h5⟩
        exact ⟨h1, h3, fun k hk => ⟨h5 k hk, fun e => h2 (e ▸ hk)⟩⟩
    · rw [if_neg h]
      constructor
      · intro h2; exact (h h2).elim
      · rintro ⟨h1, _, h3⟩
        exact (h (key.2 ⟨h1 x List.mem_cons_self, h3 _ (by simp [keysOf])⟩)).elim
theorem chkRows_iff {l : List RowD} : chkRows l = 0 ↔ l.length ≤ 256 ∧ (∀ r ∈ l, okRow r) ∧ (keysOf l).Nodup := by
  simp only [chkRows]
  split
  · constructor
    · intro h; omega
    · intro h; omega
  · rw [chkRowsFrom_iff]
    constructor
    · intro h; exact ⟨by omega, h.1, h.2.1⟩
    · intro h; exact ⟨h.2.1, h.2.2, fun k _ => by simp⟩
section merge
variable {base a b : List RowD}
theorem allK_mem {k : List Nat} : k ∈ allK a b ↔ k ∈ keysOf a ∨ k ∈ keysOf b := by
  simp only [allK, List.mem_append, List.mem_filter, Bool.not_eq_true', List.contains_eq_mem, decide_eq_false_iff_not]
  constructor
  · rintro (h | h)
    · exact .inl h
    · exact .inr h.1
  · rintro (h | h)
    · exact .inl h
    · by_cases h1 : k ∈ keysOf a
      · exact .inl h1
      · exact .inr ⟨h, h1⟩
theorem allK_nodup (ha : (keysOf a).Nodup) (hb : (keysOf b).Nodup) : (allK a b).Nodup := by
  rw [allK, List.nodup_append]
  refine ⟨ha, hb.filter _, fun x hx y hy e => ?_⟩
  subst e
  simp only [List.mem_filter, Bool.not_eq_true', List.contains_eq_mem, decide_eq_false_iff_not] at hy
  exact hy.2 hx
theorem nodup_perm {l m : List (List Nat)} (hl : l.Nodup) (hm : m.Nodup) (h : ∀ k, k ∈ l ↔ k ∈ m) : l.Perm m := (List.perm_ext_iff_of_nodup hl hm).2 h
theorem confS_comm (k : List Nat) : confS base a b k = confS base b a k := by
  simp only [confS]
  by_cases h : look a k = look b k
  · simp [h]
  · have h' : ¬ look b k = look a k := fun e => h e.symm
    simp [h, h', and_comm]
def confL (base a b : List RowD) : List (List Nat) := sortS ((allK a b).filter (confS base a b))
theorem confL_comm (ha : (keysOf a).Nodup) (hb : (keysOf b).Nodup) : confL base a b = confL base b a := by
  refine asc_unique (sortS_asc _) (sortS_asc _) ((sortS_perm _).trans (.trans (nodup_perm ?_ ?_ ?_) (sortS_perm _).symm))
  · exact (allK_nodup ha hb).filter _
  · exact (allK_nodup hb ha).filter _
  · intro k
    simp only [List.mem_filter, allK_mem, confS_comm (a := a) (b := b) k]
    rw [or_comm]
theorem confL_mem {k : List Nat} : k ∈ confL base a b ↔ (k ∈ keysOf a ∨ k ∈ keysOf b) ∧ confS base a b k = true := by
  rw [confL, (sortS_perm _).mem_iff, List.mem_filter, allK_mem]
theorem filterMap_self (ha : (keysOf a).Nodup) : (keysOf a).filterMap (rowAt a) = a := by
  have : ∀ l : List RowD, (∀ r ∈ l, look a r.key = some r.vals) → (keysOf l).filterMap (rowAt a) = l := by
    intro l
    induction l with
    | nil => intro _; rfl
    | cons x l ih =>
      intro h
      have h1 : rowAt a x.key = some x := by simp [rowAt, h x List.mem_cons_self]
      rw [keysOf, List.map_cons, List.filterMap_cons, h1]
      exact congrArg _ (ih fun r hr => h r (List.mem_cons_of_mem _ hr))
  exact this a fun r hr => look_of_mem ha hr
theorem filterMap_none {l : List (List Nat)} (h : ∀ k ∈ l, k ∉ keysOf a) : l.filterMap (rowAt a) = [] := by
  rw [List.filterMap_eq_nil_iff]
  intro k hk
  simp [rowAt, look_none.2 (h k hk)]
theorem filterMap_all {l : List (List Nat)} (hl : l.Nodup) (ha : (keysOf a).Nodup) (h : ∀ k ∈ keysOf a, k ∈ l) : (l.filterMap (rowAt a)).Perm a := by
  have h1 : (l.filterMap (rowAt a)).Perm ((keysOf a ++ l.filter fun k => !(keysOf a).contains k).filterMap (rowAt a)) := by
    refine List.Perm.filterMap _ (nodup_perm hl ?_ ?_)
    · rw [List.nodup_append]
      refine ⟨ha, hl.filter _, fun x hx y hy e => ?_⟩
      subst e
      simp only [List.mem_filter, Bool.not_eq_true', List.contains_eq_mem, decide_eq_false_iff_not] at hy
      exact hy.2 hx
    · intro k
      simp only [List.mem_append, List.mem_filter, Bool.not_eq_true', List.contains_eq_mem, decide_eq_false_iff_not]
      constructor
      · intro hk
        by_cases h1 : k ∈ keysOf a
        · exact .inl h1
        · exact .inr ⟨hk, h1⟩
      · rintro (hk | hk)
        · exact h k hk
        · exact hk.1
  refine h1.trans ?_
  rw [List.filterMap_append, filterMap_self ha, filterMap_none, List.append_nil]
  · intro k hk
    simp only [List.mem_filter, Bool.not_eq_true', List.contains_eq_mem, decide_eq_false_iff_not] at hk
    exact hk.2
/-- what comes out for a key -/
theorem outS_look (ha : (keysOf a).Nodup) (hb : (keysOf b).Nodup) (k : List Nat) : look (outS base a b) k = look (srcS base a b k) k := by
  have key : ∀ l : List (List Nat), l.Nodup → look (l.filterMap fun k => rowAt (srcS base a b k) k) k = if k ∈ l then look (srcS base a b k) k else none := by
    intro l
    induction l with
    | nil => intro _; rfl
    | cons x l ih =>
      intro hn
      rw [List.nodup_cons] at hn
      rw [List.filterMap_cons]
      cases hx : look (srcS base a b x) x with
      | none =>
        simp only [rowAt, hx, Option.map_none]
        have := ih hn.2
        simp only [rowAt] at this
        rw [this]
        by_cases h : k = x
        · subst h; simp [hn.1, hx]
        · simp [h]
      | some v =>
        simp only [rowAt, hx, Option.map_some, look]
        by_cases h : x = k
        · subst h; simp [hx]
        · have := ih hn.2
          simp only [rowAt] at this
          rw [if_neg h, this]
          have h' : ¬ k = x := fun e => h e.symm
          simp [h']
  rw [outS, key _ (allK_nodup ha hb)]
  split
  · rfl
  · rename_i h
    rw [allK_mem, not_or] at h
    symm; rw [look_none]
    simp only [srcS]; split
    · exact h.2
    · exact h.1
theorem outS_keys (ha : (keysOf a).Nodup) (hb : (keysOf b).Nodup) : (keysOf (outS base a b)).Nodup := by
  have : (keysOf (outS base a b)).Sublist (allK a b) := by
    rw [outS]
    generalize allK a b = l
    induction l with
    | nil => simp [keysOf]
    | cons x l ih =>
      rw [List.filterMap_cons]
      cases hx : look (srcS base a b x) x with
      | none => simp only [rowAt, hx, Option.map_none]; simp only [rowAt] at ih; exact ih.cons _
      | some v => simp only [rowAt, hx, Option.map_some]; simp only [rowAt] at ih; rw [keysOf, List.map_cons]; exact ih.cons_cons _
  exact this.nodup (allK_nodup ha hb)
theorem srcS_mem {k : List Nat} {r : RowD} (h : rowAt (srcS base a b k) k = some r) : r.key = k ∧ (r ∈ a ∨ r ∈ b) := by
  simp only [rowAt, Option.map_eq_some_iff] at h
  obtain ⟨v, h, rfl⟩ := h
  refine ⟨rfl, ?_⟩
  simp only [srcS] at h
  split at h
  · exact .inr (look_mem h)
  · exact .inl (look_mem h)
theorem outS_mem {r : RowD} (h : r ∈ outS base a b) : r ∈ a ∨ r ∈ b := by
  simp only [outS, List.mem_filterMap] at h
  obtain ⟨k, _, h⟩ := h
  exact (srcS_mem h).2
theorem outS_len : (outS base a b).length ≤ a.length + b.length := by
  rw [outS]
  refine Nat.le_trans (List.length_filterMap_le _ _) ?_
  rw [allK, List.length_append]
  have := List.length_filter_le (fun k => !(keysOf a).contains k) (keysOf b)
  simp only [keysOf, List.length_map] at *
  omega
theorem outS_ok (ha : chkRows a = 0) (hb : chkRows b = 0) (hl : a.length + b.length ≤ 256) : chkRows (outS base a b) = 0 := by
  rw [chkRows_iff] at *
  refine ⟨by have := outS_len (base := base) (a := a) (b := b); omega, fun r hr => ?_, outS_keys ha.2.2 hb.2.2⟩
  rcases outS_mem hr with h | h
  · exact ha.2.1 r h
  · exact hb.2.1 r h
theorem outS_base (ha : (keysOf a).Nodup) : outS base a base = a := by
  have h1 : ∀ k, srcS base a base k = a := by
    intro k; simp only [srcS]; rw [if_neg (fun h => h.1 h.2)]
  simp only [outS, h1]
  rw [allK, List.filterMap_append, filterMap_self ha, filterMap_none, List.append_nil]
  intro k hk
  simp only [List.mem_filter, Bool.not_eq_true', List.contains_eq_mem, decide_eq_false_iff_not] at hk
  exact hk.2
theorem confL_base : confL base a base = [] ∧ confL base base b = [] := by
  have h1 : ∀ k, confS base a base k = false := by intro k; simp [confS]
  have h2 : ∀ k, confS base base b k = false := by intro k; simp [confS]
  constructor
  · rw [confL, List.filter_eq_nil_iff.2 (fun k _ => by simp [h1])]; rfl
  · rw [confL, List.filter_eq_nil_iff.2 (fun k _ => by simp [h2])]; rfl
theorem outS_base2 (hc : (keysOf base).Nodup) (hb : (keysOf b).Nodup) : (outS base base b).Perm b := by
  have h1 : ∀ k, rowAt (srcS base base b k) k = rowAt b k := by
    intro k; simp only [rowAt, srcS]
    by_cases h : look base k = look b k
    · rw [if_neg (fun e => e.1 h), h]
    · rw [if_pos ⟨h, trivial⟩]
  simp only [outS, h1]
  exact filterMap_all (allK_nodup hc hb) hb fun k hk => allK_mem.2 (.inr hk)
/-- what is not in conflict comes out the same in both orders, and is one of both books' -/
theorem out_agree (ha : (keysOf a).Nodup) (hb : (keysOf b).Nodup) {k : List Nat} (hk : k ∉ confL base a b) {v : List Int} (hv : look (outS base a b) k = some v) :
    look (outS base b a) k = some v ∧ (look a k = some v ∨ look b k = some v) := by
  rw [outS_look ha hb] at hv
  rw [outS_look hb ha]
  have hm : k ∈ keysOf a ∨ k ∈ keysOf b := by
    simp only [srcS] at hv
    split at hv
    · exact .inr (List.mem_map_of_mem (look_mem hv))
    · exact .inl (List.mem_map_of_mem (look_mem hv))
  have hc : confS base a b k = false := by
    cases h : confS base a b k with
    | false => rfl
    | true => exact (hk (confL_mem.2 ⟨hm, h⟩)).elim
  simp only [confS, decide_eq_false_iff_not] at hc
  simp only [srcS] at *
  by_cases h : look a k = look b k
  · have h' := h.symm
    rw [if_neg (fun e => e.1 h)] at hv
    rw [if_neg (fun e => e.1 h')]
    exact ⟨h ▸ hv, .inl hv⟩
  · have h' : ¬ look b k = look a k := fun e => h e.symm
    by_cases h2 : look a k = look base k
    · rw [if_pos ⟨h, h2⟩] at hv
      rw [if_neg (fun e => h (h2.trans e.2.symm))]
      exact ⟨hv, .inr hv⟩
    · rw [if_neg (fun e => h2 e.2)] at hv
      have h3 : look b k = look base k := Decidable.byContradiction fun h3 => hc ⟨h, h2, h3⟩
      rw [if_pos ⟨h', h3⟩]
      exact ⟨hv, .inl hv⟩
end merge
end Go.Abs

/-
  Walks: books, words, what rows have for a key.
-/
namespace Go.Abs
open Go.Proofs
set_option maxHeartbeats 4000000
set_option maxRecDepth 100000
structure BookD where
  name : List Nat
  rows : List RowD
  deriving DecidableEq
def eBook (b : BookD) : PV := .st 23 [.str b.name, .seq (b.rows.map eRow)]
def rBook (b : BookD) : PV := .st 26 [.str b.name, .seq (b.rows.map eRow)]
def bookB (b : BookD) : Prop := b.name.length ≤ 1048576 ∧ rowsB b.rows
def chkBook (b : BookD) : Int := firstE [whenE (!isName b.name) 8, chkRows b.rows]
def shortBook (b : BookD) (n : Nat) : Bool := decide (b.name.length ≤ 60) && shortRows b.rows n
theorem c_book (b : BookD) (h : b.rows.length ≤ 1048576) : GoodC Tryz.prog 15 [eBook b] (rBook b) := by
  refine good_fn nf isF15 mix (by simp [Tryz.f15]) ?_
  simp [Tryz.f15, eBook]
  refine e1 (c_own b.rows h) ?_
  simp [rBook]
theorem c_shortBook (b : BookD) (n : Nat) (h : b.rows.length ≤ 1048576) (hn : n ≤ 100) : GoodC Tryz.prog 16 [rBook b, .int .i64 n] (.bool (shortBook b n)) := by
  refine good_fn nf isF16 mix (by simp [Tryz.f16]) ?_
  by_cases hl : (b.name.length : Int) ≤ 60
  · have hl' : b.name.length ≤ 60 := by omega
    simp [Tryz.f16, rBook, hl]
    refine c2 (c_shortRows b.rows n h hn) ?_
    simp [shortBook, hl']
  · have hl' : ¬ b.name.length ≤ 60 := by omega
    simp [Tryz.f16, rBook, hl, shortBook, hl']
theorem c_checkBookR (b : BookD) (h : bookB b) : GoodC Tryz.prog 18 [rBook b] (.int .i64 (chkBook b)) := by
  refine good_fn nf isF18 mix (by simp [Tryz.f18]) ?_
  simp [Tryz.f18, rBook]
  refine c1 (c_refIsName b.name h.1) ?_
  cases hn : isName b.name
  · simp [chkBook, hn, firstE, whenE]
  · simp
    refine c1 (c_checkRowsR b.rows h.2) ?_
    simp [chkBook, hn, firstE, whenE]
    by_cases h0 : chkRows b.rows = 0 <;> simp [h0]
theorem c_checkBook (b : BookD) (h : bookB b) : GoodC Tryz.prog 19 [eBook b] (.int .i64 (chkBook b)) := by
  refine good_fn nf isF19 mix (by simp [Tryz.f19]) ?_
  simp [Tryz.f19, eBook]
  refine e1 (c_named b.name h.1) ?_
  simp
  refine e1 (c_checkRows b.rows h.2) ?_
  simp
  refine ep (h1 := ?g1) (c_first [whenE (!isName b.name) 8, chkRows b.rows] (by simp)) (by simp; exact ⟨rfl, rfl⟩) (by simp; exact ⟨rfl, rfl⟩) ?_
  case g1 => simp
  simp [chkBook]
  rfl
theorem c_sameBook (a b : BookD) (ha : bookB a) (hb : bookB b) : GoodC Tryz.prog 24 [rBook a, rBook b] (.bool (decide (a = b))) := by
  have e : (a = b) ↔ (a.name = b.name ∧ a.rows = b.rows) := by cases a; cases b; simp
  refine good_fn nf isF24 mix (by simp [Tryz.f24]) ?_
  by_cases hn : a.name = b.name
  · simp [Tryz.f24, rBook, hn]
    refine c2 (c_sameRows a.rows b.rows ha.2 hb.2) ?_
    simp [e, hn]
  · simp [Tryz.f24, rBook, hn, e]
def eWs (l : List (List Nat)) : PV := .seq (l.map .str)
theorem c_sameWords (a b : List (List Nat)) (ha : a.length ≤ 1048576) (hb : b.length ≤ 1048576) : GoodC Tryz.prog 28 [.seq (a.map .str), .seq (b.map .str)] (.bool (decide (a = b))) := by
  refine good_fn nf isF28 mix (by simp [Tryz.f28]) ?_
  by_cases hl : a.length = b.length
  case neg =>
    have hl' : ¬ (a.length : Int) = b.length := by omega
    simp [Tryz.f28, hl, hl', len_ne hl]
  have hl' : (a.length : Int) = b.length := by omega
  simp [Tryz.f28, hl, hl']
  refine lp (α := Nat) (fun i => ⟨[(5, .p (.int .i64 i)), (1, .p (.seq (b.map .str))), (0, .p (.seq (a.map .str)))], []⟩) (fun i => i ≤ a.length ∧ decide (a.drop i = b.drop i) = decide (a = b)) (fun i => a.length - i) 0 (by simp) ?_
  rintro i ⟨k1, k2⟩
  by_cases hi : i < a.length
  · have hib : i < b.length := by omega
    rw [beq_drop hi hib] at k2
    have hw := wi1 (i := i) (by omega)
    by_cases he : a[i] = b[i]
    · simp [he] at k2
      simp [hi, hib, he, hw]
      exact rd (i + 1) ⟨hi, by simpa using k2⟩
    · simp [he] at k2
      simp [hi, hib, he, k2]
  · have : i = a.length := by omega
    subst this
    have hb0 : b.drop a.length = [] := List.drop_eq_nil_of_le (by omega)
    simp [hb0] at k2
    simp [k2]
end Go.Abs

/-
  Arguments that are books.
-/
namespace Go.Abs
open Go.Proofs Go.Proofs.YthckccalfpnmaaaGreatDoor
set_option maxRecDepth 100000
section
variable {H : Type} {W : World} {Imm : Nat → Prop}
/-- a struct of two fields, and what is read of it -/
theorem two_of2 {P : Program} {n : Nat} {t : TypeId} {f0 f1 : Field} {k0 k1 : Nat} (ht : P.underlying t = some (.struct #[f0, f1])) (hs : szs P (P.underlyingId t) = some [k0, k1])
    {d : DataW H} {cs : List Value} (h : PVC P W Imm (toPV P (n + 1) t d) cs) :
    ∃ (x y : DataW H) (r : List (DataW H)) (c0 c1 : List Value), d = .agg (x :: y :: r) ∧ toPV P (n + 1) t d = .st (P.underlyingId t) [toPV P n f0.type x, toPV P n f1.type y] ∧ PVC P W Imm (toPV P n f0.type x) c0 ∧ PVC P W Imm (toPV P n f1.type y) c1 := by
  cases d with
  | agg l =>
    simp only [toPV, ht, PVC] at h ⊢
    obtain ⟨l', css, h1, h2, _⟩ := h
    rw [hs] at h1; cases h1
    match l, h2 with
    | [], h2 => simp [PVCl] at h2
    | [x], h2 => simp [PVCl] at h2
    | x :: y :: r, h2 =>
      simp only [List.zip_cons_cons, List.map_cons, PVCl, List.zip_nil_left, List.map_nil] at h2 ⊢
      obtain ⟨c0, _, _, g1, _, c1, _, _, g2, _⟩ := h2
      exact ⟨x, y, r, c0, c1, rfl, rfl, g1, g2⟩
  | _ => simp only [toPV, ht, PVC] at h
theorem unBook : ∃ f0 f1 : Field, Tryz.prog.underlying 24 = some (.struct #[f0, f1]) ∧ f0.type = 9 ∧ f1.type = 22 := ⟨_, _, Tryz.underlying24, rfl, rfl⟩
theorem uidBook : Tryz.prog.underlyingId 24 = 23 := by kernel_rfl
theorem book_arg {d : DataW H} (h : ∃ cs, PVC Tryz.prog W Imm (toPV Tryz.prog 8 24 d) cs) (hb : Rows.uptoBulk d ≤ 1048576) : ∃ b : BookD, toPV Tryz.prog 8 24 d = eBook b ∧ b.rows.length ≤ 1048576 := by
  obtain ⟨cs, h⟩ := h
  obtain ⟨f0, f1, hu, t0, t1⟩ := unBook
  obtain ⟨x, y, r, c0, c1, hd, h1, h2, h3⟩ := two_of2 (n := 7) hu (by rw [uidBook]; exact sz23) h
  rw [t0] at h1 h2; rw [t1] at h1 h3
  obtain ⟨s, hs⟩ := str_of x c0 h2
  have hy : Rows.uptoBulk y ≤ 1048576 := by
    have := bulks.part_le (d := y) (l := x :: y :: r) (by simp)
    rw [hd, Rows.uptoBulk] at hb
    omega
  obtain ⟨l, hl, hll⟩ := list_arg (n := 6) un22 (fun d c hc => row_of (n := 3) d c hc) ⟨c1, h3⟩ hy
  exact ⟨⟨s, l⟩, by rw [h1, hs, hl, uidBook]; rfl, hll⟩
end
end Go.Abs

/-
  Texts of integers, joined: they tell the integers.
-/
namespace Go.Abs
/-- the parts of a text between bytes of a kind -/
def splAux (c : Nat) : List Nat → List Nat → List (List Nat)
  | cur, [] => [cur]
  | cur, x :: s => if x = c then cur :: splAux c [] s else splAux c (cur ++ [x]) s
def spl (c : Nat) (s : List Nat) : List (List Nat) := splAux c [] s
theorem splAux_no {c : Nat} : ∀ {s cur : List Nat}, c ∉ s → splAux c cur s = [cur ++ s]
  | [], cur, _ => by simp [splAux]
  | x :: s, cur, h => by
    simp only [List.mem_cons, not_or] at h
    rw [splAux, if_neg (fun e => h.1 e.symm), splAux_no h.2]; simp
theorem splAux_app {c : Nat} : ∀ {s cur t : List Nat}, c ∉ s → splAux c cur (s ++ c :: t) = (cur ++ s) :: splAux c [] t
  | [], cur, t, _ => by simp [splAux]
  | x :: s, cur, t, h => by
    simp only [List.mem_cons, not_or] at h
    rw [List.cons_append, splAux, if_neg (fun e => h.1 e.symm), splAux_app h.2]; simp
theorem spl_join {c : Nat} : ∀ {l : List (List Nat)}, l ≠ [] → (∀ s ∈ l, c ∉ s) → spl c (joinN [c] l) = l
  | [], h, _ => (h rfl).elim
  | [s], _, h => by rw [joinN, spl, splAux_no (h s List.mem_cons_self)]; simp
  | s :: t :: r, _, h => by
    have ih := spl_join (l := t :: r) (by simp) fun s hs => h s (List.mem_cons_of_mem _ hs)
    rw [joinN, spl, List.singleton_append, splAux_app (h s List.mem_cons_self)]
    · rw [spl] at ih; rw [ih]; simp
    · intro e; cases e
def decV (a c : Nat) : Nat := a * 10 + (c - 48)
theorem digitsF_val : ∀ (f n : Nat) (acc : List Nat), n < 10 ^ f → (digitsF f n acc).foldl decV 0 = acc.foldl decV n
  | 0, n, acc, h => by have : n = 0 := by simpa using h
                       subst this; rfl
  | f + 1, n, acc, h => by
    rw [digitsF, Bool.cond_eq_ite]
    split
    · simp [decV]
    · rw [digitsF_val f (n / 10) _ (by rw [Nat.div_lt_iff_lt_mul (by omega), ← Nat.pow_succ]; exact h), List.foldl_cons]
      congr 1
      simp only [decV]; omega
theorem digitsF_mem : ∀ (f n : Nat) (acc : List Nat) (c : Nat), c ∈ digitsF f n acc → c ∈ acc ∨ (48 ≤ c ∧ c ≤ 57)
  | 0, _, _, _, h => .inl h
  | f + 1, n, acc, c, h => by
    rw [digitsF, Bool.cond_eq_ite] at h
    split at h
    · rename_i hn; rw [Nat.ble_eq] at hn
      rcases List.mem_cons.1 h with rfl | h
      · exact .inr (by omega)
      · exact .inl h
    · rcases digitsF_mem f _ _ c h with h | h
      · rcases List.mem_cons.1 h with rfl | h
        · exact .inr (by omega)
        · exact .inl h
      · exact .inr h
theorem digitsF_ne : ∀ (f n : Nat) (acc : List Nat), 0 < f → digitsF f n acc ≠ []
  | 0, _, _, h => by omega
  | 1, n, acc, _ => by rw [digitsF, Bool.cond_eq_ite]; split <;> simp [digitsF]
  | f + 2, n, acc, _ => by
    rw [digitsF, Bool.cond_eq_ite]; split
    · simp
    · exact digitsF_ne (f + 1) _ _ (by omega)
theorem itoaN_ne (n : Int) : itoaN n ≠ [] := by
  cases n with
  | ofNat n => exact digitsF_ne 20 n [] (by omega)
  | negSucc n => simp [itoaN]
theorem itoaN_mem {n : Int} {c : Nat} (h : c ∈ itoaN n) : c = 45 ∨ (48 ≤ c ∧ c ≤ 57) := by
  cases n with
  | ofNat n => exact .inr ((digitsF_mem 20 n [] c h).resolve_left (by simp))
  | negSucc n =>
    rcases List.mem_cons.1 h with h | h
    · exact .inl h
    · exact .inr ((digitsF_mem 20 _ [] c h).resolve_left (by simp))
theorem itoaN_inj {n m : Int} (hn : -9223372036854775808 ≤ n ∧ n ≤ 9223372036854775807) (hm : -9223372036854775808 ≤ m ∧ m ≤ 9223372036854775807) (h : itoaN n = itoaN m) : n = m := by
  have key : ∀ {a b : Nat}, a < 10 ^ 20 → b < 10 ^ 20 → digitsF 20 a [] = digitsF 20 b [] → a = b := by
    intro a b ha hb hab
    have h1 := digitsF_val 20 a [] ha
    have h2 := digitsF_val 20 b [] hb
    rw [hab] at h1
    simp only [List.foldl_nil] at h1 h2
    omega
  have no : ∀ (a b : Nat), digitsF 20 a [] ≠ 45 :: digitsF 20 b [] := by
    intro a b e
    have h1 : 45 ∈ digitsF 20 a [] := by rw [e]; exact List.mem_cons_self
    have := (digitsF_mem 20 a [] 45 h1).resolve_left (by simp)
    omega
  cases n with
  | ofNat a => cases m with
    | ofNat b =>
      have h1 : (Int.ofNat a) = (a : Int) := rfl
      have h2 : (Int.ofNat b) = (b : Int) := rfl
      rw [key (by omega) (by omega) h]
    | negSucc b => exact (no _ _ h).elim
  | negSucc a => cases m with
    | ofNat b => exact (no _ _ h.symm).elim
    | negSucc b =>
      have := key (by omega) (by omega) (List.cons.inj h).2
      have : a = b := by omega
      rw [this]
theorem joinN_ne {sep : List Nat} : ∀ {l : List (List Nat)}, (∀ s ∈ l, s ≠ []) → l ≠ [] → joinN sep l ≠ []
  | [], _, h => (h rfl).elim
  | [s], h, _ => by rw [joinN]; exact h s List.mem_cons_self
  | s :: t :: r, h, _ => by
    rw [joinN]
    · intro e
      exact h s List.mem_cons_self (List.append_eq_nil_iff.1 e).1
    · intro e; cases e
def valsT (l : List Int) : List Nat := joinN [44] (l.map itoaN)
theorem valsT_inj {a b : List Int} (ha : ∀ n ∈ a, -9223372036854775808 ≤ n ∧ n ≤ 9223372036854775807) (hb : ∀ n ∈ b, -9223372036854775808 ≤ n ∧ n ≤ 9223372036854775807) (h : valsT a = valsT b) : a = b := by
  have hne : ∀ l : List Int, ∀ s ∈ l.map itoaN, s ≠ [] := by
    intro l s hs
    obtain ⟨n, _, rfl⟩ := List.mem_map.1 hs
    exact itoaN_ne n
  have hno : ∀ l : List Int, ∀ s ∈ l.map itoaN, 44 ∉ s := by
    intro l s hs
    obtain ⟨n, _, rfl⟩ := List.mem_map.1 hs
    intro hc
    have := itoaN_mem hc; omega
  have hmap : a.map itoaN = b.map itoaN := by
    by_cases h1 : a.map itoaN = []
    · by_cases h2 : b.map itoaN = []
      · rw [h1, h2]
      · exact (joinN_ne (hne b) h2 (by rw [← valsT, ← h, valsT, h1]; rfl)).elim
    · by_cases h2 : b.map itoaN = []
      · exact (joinN_ne (hne a) h1 (by rw [← valsT, h, valsT, h2]; rfl)).elim
      · rw [← spl_join h1 (hno a), ← spl_join h2 (hno b)]
        rw [valsT, valsT] at h; rw [h]
  clear h
  induction a generalizing b with
  | nil => cases b with
    | nil => rfl
    | cons y b => simp at hmap
  | cons x a ih => cases b with
    | nil => simp at hmap
    | cons y b =>
      simp only [List.map_cons, List.cons.injEq] at hmap
      rw [itoaN_inj (ha x List.mem_cons_self) (hb y List.mem_cons_self) hmap.1, ih (fun n hn => ha n (List.mem_cons_of_mem _ hn)) (fun n hn => hb n (List.mem_cons_of_mem _ hn)) hmap.2]
theorem digitsF_len : ∀ (f n : Nat) (acc : List Nat), (digitsF f n acc).length ≤ f + acc.length
  | 0, _, acc => by simp [digitsF]
  | f + 1, n, acc => by
    rw [digitsF, Bool.cond_eq_ite]
    split
    · simp only [List.length_cons]; omega
    · have := digitsF_len f (n / 10) ((48 + n % 10) :: acc)
      simp only [List.length_cons] at this; omega
theorem itoaN_len (n : Int) : (itoaN n).length ≤ 21 := by
  cases n with
  | ofNat n => have := digitsF_len 20 n []; simp only [itoaN, List.length_nil] at *; omega
  | negSucc n => have := digitsF_len 20 (n + 1) []; simp only [itoaN, List.length_cons, List.length_nil] at *; omega
theorem joinN_len {sep : List Nat} {m : Nat} : ∀ {l : List (List Nat)}, (∀ s ∈ l, s.length ≤ m) → (joinN sep l).length ≤ l.length * (m + sep.length)
  | [], _ => by simp [joinN]
  | [s], h => by have := h s List.mem_cons_self; simp only [joinN, List.length_cons, List.length_nil]; omega
  | s :: t :: r, h => by
    have ih := joinN_len (sep := sep) (l := t :: r) fun s hs => h s (List.mem_cons_of_mem _ hs)
    have := h s List.mem_cons_self
    rw [joinN]
    · rw [List.length_cons, Nat.add_mul, Nat.one_mul]
      simp only [List.length_append] at *
      omega
    · intro e; cases e
theorem valsT_len (l : List Int) : (valsT l).length ≤ l.length * 22 := by
  have := joinN_len (sep := [44]) (m := 21) (l := l.map itoaN) fun s hs => by
    obtain ⟨n, _, rfl⟩ := List.mem_map.1 hs
    exact itoaN_len n
  simpa [valsT] using this
end Go.Abs

/-
  Walks: texts of values; what rows have for a key.
-/
namespace Go.Abs
open Go.Proofs
set_option maxHeartbeats 4000000
set_option maxRecDepth 100000
/-- a slice that may be nil is nil, or not -/
theorem goodP_seq {P : Program} {f : FuncId} {pre post es : List PV} {v : PV} (h1 : es = [] → GoodP P f (pre ++ .nsl :: post) v) (h2 : GoodP P f (pre ++ .lst false es :: post) v) : GoodP P f (pre ++ .seq es :: post) v := by
  have split : ∀ {w : World} {Imm : Nat → Prop} {xs : List Value} {pre : List PV}, PVVl P w Imm (pre ++ .seq es :: post) xs → (es = [] ∧ PVVl P w Imm (pre ++ .nsl :: post) xs) ∨ PVVl P w Imm (pre ++ .lst false es :: post) xs := by
    intro w Imm xs pre
    induction pre generalizing xs with
    | nil =>
      intro h
      simp only [List.nil_append, PVVl] at h ⊢
      obtain ⟨y, ys, e, h1, h2⟩ := h
      rcases PVV_seq.1 h1 with ⟨h0, h⟩ | h
      · exact .inl ⟨h0, y, ys, e, h, h2⟩
      · exact .inr ⟨y, ys, e, h, h2⟩
    | cons p pre ih =>
      intro h
      simp only [List.cons_append, PVVl] at h ⊢
      obtain ⟨y, ys, e, h1, h2⟩ := h
      rcases ih h2 with ⟨h0, h⟩ | h
      · exact .inl ⟨h0, y, ys, e, h1, h⟩
      · exact .inr ⟨y, ys, e, h1, h⟩
  refine ⟨h2.1, fun w Imm cargs k1 k2 k3 => ?_⟩
  rcases split k3 with ⟨h0, h⟩ | h
  · exact (h1 h0).2 w Imm cargs k1 k2 h
  · exact h2.2 w Imm cargs k1 k2 h
theorem goodP_of_C {P : Program} {f : FuncId} {args : List PV} {v : PV} (he : Enters P f) (h : GoodC P f args v) : GoodP P f args v := by
  rcases h with h | h
  · exact h
  · refine ⟨he, fun w Imm cargs _ _ ha => ?_⟩
    obtain ⟨cv, k1, _⟩ := h w Imm cargs ha
    rw [he cargs.toArray w] at k1
    cases k1
theorem c_join (l : List (List Nat)) (sep : List Nat) (hl : l.length ≤ 1048576) (hj : (joinN sep l).length ≤ 140737488355328) : GoodC Tryz.prog 159 [.seq (l.map .str), .str sep] (.str (joinN sep l)) :=
  .inl (goodP_seq (pre := []) (post := [.str sep]) (fun h => by
    have : l = [] := by simpa using h
    subst this
    exact goodP_of_C isF159.enters (h159n sep)) (goodP_of_C isF159.enters (h159 false l sep (by omega) hj)))
def inI (n : Int) : Prop := -9223372036854775808 ≤ n ∧ n ≤ 9223372036854775807
theorem c_mappedIS (l : List Int) (h : l.length ≤ 1048576) (hb : ∀ n ∈ l, inI n) : GoodC Tryz.prog 181 [.seq (l.map (.int .i64)), .func 182 [] []] (.seq ((l.map itoaN).map .str)) := by
  refine good_fn nf isF181 mix (by simp [Tryz.f181]) ?_
  simp [Tryz.f181]
  refine lp (α := Nat) (fun i => ⟨[(10, .p (.int .i64 i)), (9, .p (.int .i64 l.length)), (8, .p (.seq (l.map (.int .i64)))), (5, .sl 0 i 1 0 i), (1, .p (.func 182 [] []))], [.arr .grow i 1 ((l.map fun n => .p (.str (itoaN n))).take i)]⟩) (fun i => i ≤ l.length) (fun i => l.length - i) 0 (by simp) ?_
  rintro i k1
  by_cases hi : i < l.length
  · have hw := wi1 (i := i) (by omega)
    have ht := take_next (fun n => AV.p (.str (itoaN n))) hi
    have hn := hb l[i] (List.getElem_mem hi)
    simp [hi]
    refine c1 (h182 l[i] hn.1 hn.2) ?_
    simp
    refine ⟨⟨by omega, by simp [maxL]; omega⟩, ?_⟩
    exact rd (i + 1) hi (he := by simp [hw]) (hh := by simp [ht]) (hr2 := by simp [ht])
  · have : i = l.length := by omega
    subst this
    simp
theorem c_values (l : List Int) (h : l.length ≤ 1048576) (hb : ∀ n ∈ l, inI n) : GoodC Tryz.prog 99 [.seq (l.map (.int .i64))] (.str (valsT l)) := by
  refine good_fn nf isF99 mix (by simp [Tryz.f99]) ?_
  simp [Tryz.f99]
  refine c2 (c_mappedIS l h hb) ?_
  simp
  refine c2 (c_join (l.map itoaN) [44] (by simpa using h) ?_) ?_ (h1 := by simp)
  · have := valsT_len l
    simp only [valsT] at this; omega
  simp [valsT]
theorem c_merge1 (r : RowD) : GoodC Tryz.prog 191 [eRow r] (.str r.key) := by
  refine good_fn nf isF191 mix (by simp [Tryz.f191]) ?_
  simp [Tryz.f191, eRow]
theorem c_mappedRS {g : FuncId} {F : RowD → List Nat} (l : List RowD) (h : l.length ≤ 1048576) (hg : ∀ r ∈ l, GoodC Tryz.prog g [eRow r] (.str (F r))) : GoodC Tryz.prog 190 [.seq (l.map eRow), .func g [] []] (.seq ((l.map F).map .str)) := by
  refine good_fn nf isF190 mix (by simp [Tryz.f190]) ?_
  simp [Tryz.f190]
  refine lp (α := Nat) (fun i => ⟨[(10, .p (.int .i64 i)), (9, .p (.int .i64 l.length)), (8, .p (.seq (l.map eRow))), (5, .sl 0 i 1 0 i), (1, .p (.func g [] []))], [.arr .grow i 1 ((l.map fun r => .p (.str (F r))).take i)]⟩) (fun i => i ≤ l.length) (fun i => l.length - i) 0 (by simp) ?_
  rintro i k1
  by_cases hi : i < l.length
  · have hw := wi1 (i := i) (by omega)
    have ht := take_next (fun r => AV.p (.str (F r))) hi
    simp [hi]
    refine c1 (hg l[i] (List.getElem_mem hi)) ?_
    simp
    refine ⟨⟨by omega, by simp [maxL]; omega⟩, ?_⟩
    exact rd (i + 1) hi (he := by simp [hw]) (hh := by simp [ht]) (hr2 := by simp [ht])
  · have : i = l.length := by omega
    subst this
    simp
end Go.Abs

/-
  Walks: what rows have for a key, on both sides.
-/
namespace Go.Abs
open Go.Proofs
set_option maxHeartbeats 4000000
set_option maxRecDepth 100000
def rowsE (l : List RowD) : List (PV × PV) := l.map fun r => (.str r.key, eRow r)
theorem look_rows (k : List Nat) : ∀ (l : List RowD), lookupM (rowsE l) (.str k) = some ((rowAt l k).map eRow)
  | [] => by simp [rowsE, lookupM, rowAt, look]
  | a :: l => by
    have ih := look_rows k l
    simp only [rowsE, List.map_cons, lookupM, eqP, rowAt, look] at ih ⊢
    by_cases h : k = a.key
    · subst h; simp
    · have hb : (k == a.key) = false := by simpa using h
      have h' : ¬ a.key = k := fun e => h e.symm
      rw [hb, if_neg h']
      simp only [ih]
theorem upd_rows (r : RowD) : ∀ (l : List RowD), r.key ∉ keysOf l → updateM (rowsE l) (.str r.key) (eRow r) = rowsE (l ++ [r])
  | [], _ => by simp [rowsE, updateM]
  | a :: l, h => by
    simp only [keysOf, List.map_cons, List.mem_cons, not_or] at h
    have ih := upd_rows r l h.2
    have hb : (r.key == a.key) = false := by simpa using h.1
    simp only [rowsE, List.map_cons, updateM, eqP, List.cons_append, hb] at ih ⊢
    simp [ih]
theorem c_rows (b : BookD) (h : b.rows.length ≤ 1048576) (hn : (keysOf b.rows).Nodup) : GoodC Tryz.prog 189 [eBook b] (.fmap (rowsE b.rows)) := by
  refine good_fn nf isF189 mix (by simp [Tryz.f189]) ?_
  obtain ⟨name, l⟩ := b
  dsimp only at h hn ⊢
  simp [Tryz.f189, eBook]
  refine lp (α := Nat) (fun i => ⟨[(10, .p (.int .i64 i)), (9, .p (.int .i64 l.length)), (8, .p (.seq (l.map eRow))), (3, .map 1)], [.hole, .map false (rowsE (l.take i))]⟩) (fun i => i ≤ l.length) (fun i => l.length - i) 0 (by simp) ?_ (hh := by simp [rowsE])
  rintro i k1
  by_cases hi : i < l.length
  · have hw := wi1 (i := i) (by omega)
    have hnot : l[i].key ∉ keysOf (l.take i) := by
      have e : l = l.take i ++ l[i] :: l.drop (i + 1) := by rw [← List.drop_eq_getElem_cons hi, List.take_append_drop]
      rw [e, keysOf, List.map_append, List.map_cons, List.nodup_append] at hn
      intro hm
      exact hn.2.2 _ hm _ List.mem_cons_self rfl
    have hu := upd_rows l[i] (l.take i) hnot
    have hl := look_rows l[i].key (l.take i)
    have hE : eRow l[i] = .st 54 [.str l[i].key, .seq (l[i].vals.map (.int .i64))] := rfl
    have ht : l.take (i + 1) = l.take i ++ [l[i]] := List.take_succ_eq_append_getElem hi
    rw [hE, ← ht] at hu
    rw [show rowAt (l.take i) l[i].key = none by simp [rowAt, look_none.2 hnot]] at hl
    simp only [Option.map_none] at hl
    simp [hi, hE, hl, hw]
    exact rd (i + 1) hi (hh := by simp [hu])
  · have : i = l.length := by omega
    subst this
    simp
end Go.Abs

/-
  Walks: agreement about a key; a name among names.
-/
namespace Go.Abs
open Go.Proofs
set_option maxHeartbeats 4000000
set_option maxRecDepth 100000
def heldE (o : Option (List Int)) : PV := .st 293 [.bool o.isSome, .str (valsT (o.getD []))]
theorem look_B {l : List RowD} {k : List Nat} {v : List Int} (h : look l k = some v) (hl : rowsB l) : v.length ≤ 1048576 := (hl.2 _ (look_mem h)).2
def rowsI (l : List RowD) : Prop := ∀ r ∈ l, ∀ n ∈ r.vals, inI n
theorem c_holds (l : List RowD) (k : List Nat) (hl : rowsB l) (hi : rowsI l) : GoodC Tryz.prog 192 [.fmap (rowsE l), .str k] (heldE (look l k)) := by
  refine good_fn nf isF192 mix (by simp [Tryz.f192]) ?_
  have h := look_rows k l
  cases hk : look l k with
  | none =>
    rw [show rowAt l k = none by simp [rowAt, hk]] at h
    simp only [Option.map_none] at h
    simp [Tryz.f192, h]
    refine c1 (c_values [] (by simp) (by simp)) ?_ (h1 := by simp)
    simp [heldE]
  | some v =>
    rw [show rowAt l k = some ⟨k, v⟩ by simp [rowAt, hk]] at h
    have hE : eRow ⟨k, v⟩ = .st 54 [.str k, .seq (v.map (.int .i64))] := rfl
    simp only [Option.map_some, hE] at h
    simp [Tryz.f192, h]
    refine c1 (c_values v (look_B hk hl) (fun n hn => hi _ (look_mem hk) n hn)) ?_
    simp [heldE]
theorem idx_look (k : List Nat) : ∀ (l : List RowD) (j : Nat), (look l k = none ∧ idxFrom (keyIs k) l j = -1) ∨ ∃ i, ∃ h : i < l.length, idxFrom (keyIs k) l j = (j : Int) + i ∧ look l k = some l[i].vals ∧ l[i].key = k
  | [], j => .inl ⟨rfl, rfl⟩
  | r :: l, j => by
    simp only [idxFrom, keyIs, look]
    by_cases h : r.key = k
    · right
      refine ⟨0, by simp, ?_⟩
      simp [h]
    · rcases idx_look k l (j + 1) with ⟨h1, h2⟩ | ⟨i, hi, h1, h2, h3⟩
      · left
        simp [h, h1, h2]
      · right
        refine ⟨i + 1, by simpa using hi, ?_⟩
        simp [h, h1, h2, h3]; omega
theorem c_has (l : List RowD) (k : List Nat) (h : l.length ≤ 1048576) : GoodC Tryz.prog 114 [.seq (l.map eRow), .str k] (.tup [.seq (((look l k).getD []).map (.int .i64)), .bool (look l k).isSome]) := by
  refine good_fn nf isF114 mix (by simp [Tryz.f114]) ?_
  simp [Tryz.f114]
  refine c2 (c_find l k h) ?_
  rcases idx_look k l 0 with ⟨h1, h2⟩ | ⟨i, hi, h1, h2, h3⟩
  · simp [h1, h2]
  · rw [Int.natCast_zero, Int.zero_add] at h1
    have hn : ¬ (i : Int) < 0 := by omega
    have hE : eRow l[i] = .st 54 [.str l[i].key, .seq (l[i].vals.map (.int .i64))] := rfl
    simp [h1, h2, hn, hi, hE]
theorem c_agree (a b : List RowD) (k : List Nat) (ha : rowsB a) (hb : rowsB b) : GoodC Tryz.prog 112 [.seq (a.map eRow), .seq (b.map eRow), .str k] (.bool (agreeS a b k)) := by
  refine good_fn nf isF112 mix (by simp [Tryz.f112]) ?_
  simp [Tryz.f112]
  refine c2 (c_has a k ha.1) ?_
  simp
  refine c2 (c_has b k hb.1) ?_
  have key : ∀ o : Option (List Int), (∀ v, o = some v → v.length ≤ 1048576) → (o.getD []).length ≤ 1048576 := by
    intro o ho; cases o with
    | none => simp
    | some v => exact ho v rfl
  by_cases hs : (look a k).isSome = (look b k).isSome
  · simp [hs]
    refine c2 (c_sameInts _ _ (key _ fun v hv => look_B hv ha) (key _ fun v hv => look_B hv hb)) ?_
    have : decide ((look a k).getD [] = (look b k).getD []) = agreeS a b k := by
      rw [agreeS]
      cases h1 : look a k <;> cases h2 : look b k <;> simp [h1, h2] at hs ⊢
    simp [this]
  · have : agreeS a b k = false := by
      rw [agreeS, decide_eq_false_iff_not]
      intro e; rw [e] at hs; exact hs rfl
    simp [hs, this]
theorem sLess_eq : ∀ (x y : List Nat), strLess x y = sLess x y
  | _, [] => by unfold strLess sLess; rfl
  | [], _ :: _ => by unfold strLess sLess; rfl
  | a :: x, b :: y => by unfold strLess sLess; rw [sLess_eq x y]
@[simp] theorem u8_eq : (Gl.u8 : TypeId) = 5 := rfl
@[simp] theorem shp_strs {l : List (List Nat)} : allShp Tryz.prog 1 (List.map (AV.p ∘ PV.str) l) := shp_map fun x => ⟨by simp [shpA, shp], by simp [shpA, shp, shpSize]⟩
@[simp] theorem shp_strs_take {l : List (List Nat)} {i : Nat} : allShp Tryz.prog 1 (List.take i (List.map (AV.p ∘ PV.str) l)) := by
  rw [allShp_iff]; intro v hv; exact (allShp_iff.1 shp_strs) v (List.mem_of_mem_take hv)
@[simp] theorem shp_strs_drop {l : List (List Nat)} {i : Nat} : allShp Tryz.prog 1 (List.drop i (List.map (AV.p ∘ PV.str) l)) := by
  rw [allShp_iff]; intro v hv; exact (allShp_iff.1 shp_strs) v (List.mem_of_mem_drop hv)
theorem purl_strs {H : Heap} {n m : Nat} {l : List (List Nat)} (hm : l.length ≤ m) : Purl H n (List.take m (l.map (AV.p ∘ PV.str))) (l.map PV.str) := by
  rw [List.take_of_length_le (by simpa using hm)]
  have := purl_map (H := H) (n := n) (g := fun s => AV.p (.str s)) (f := PV.str) (l := l)
  simp only [Function.comp_def]
  rw [this]; intro x _; simp
/-- where a name is put -/
def insAt (k : List Nat) : List (List Nat) → Nat
  | [] => 0
  | x :: l => if sLess x k then insAt k l + 1 else 0
theorem insAt_le (k : List Nat) : ∀ l, insAt k l ≤ l.length
  | [] => by simp [insAt]
  | x :: l => by have := insAt_le k l; simp only [insAt]; split <;> simp; omega
theorem insS_at (k : List Nat) : ∀ l, insS l k = l.take (insAt k l) ++ k :: l.drop (insAt k l)
  | [] => rfl
  | x :: l => by
    simp only [insS, insAt]; split
    · rw [insS_at k l]; rfl
    · rfl
theorem insAt_get (k : List Nat) : ∀ (l : List (List Nat)) (i : Nat), i ≤ insAt k l → (insAt k l = i ↔ ∀ h : i < l.length, sLess l[i] k = false)
  | [], i, h => by simp [insAt] at h; simp [h, insAt]
  | x :: l, i, h => by
    simp only [insAt] at h ⊢
    split at h
    · rename_i hx
      rw [if_pos hx]
      cases i with
      | zero => simp [hx]
      | succ i => have := insAt_get k l i (by omega); simpa using this
    · rename_i hx
      rw [if_neg hx]
      have : i = 0 := by omega
      subst this
      simpa using hx
theorem c_insert (l : List (List Nat)) (k : List Nat) (h : l.length ≤ 1000000) : GoodC Tryz.prog 113 [.seq (l.map .str), .str k] (.seq ((insS l k).map .str)) := by
  refine good_fn nf isF113 mix (by simp [Tryz.f113]) ?_
  simp [Tryz.f113]
  refine lp (α := Nat) (fun i => ⟨[(5, .p (.int .i64 i)), (1, .p (.str k)), (0, .p (.seq (l.map .str)))], []⟩) (fun i => i ≤ insAt k l) (fun i => l.length - i) 0 (by simp) ?_
  rintro i h1
  have hle := insAt_le k l
  have hg := insAt_get k l i h1
  by_cases hi : i < l.length
  · have hw := wi1 (i := i) (by omega)
    cases hs : sLess l[i] k
    · have he : insAt k l = i := hg.2 fun _ => hs
      have hl0 : l ≠ [] := by intro e; subst e; simp at hi
      have hmin : min i l.length = i := by omega
      have hfin := insS_at k l
      rw [he] at hfin
      have hA : (List.take i (l.map (AV.p ∘ PV.str)) ++ [.p (.str k)]) ++ List.drop i (l.map (AV.p ∘ PV.str)) = (insS l k).map (AV.p ∘ PV.str) := by
        rw [hfin]; simp [List.map_take, List.map_drop]
      have hT : List.take (i + 1) (List.take i (l.map (AV.p ∘ PV.str)) ++ [.p (.str k)]) = List.take i (l.map (AV.p ∘ PV.str)) ++ [.p (.str k)] := List.take_of_length_le (by simp; omega)
      have hL : (insS l k).length = l.length + 1 := by rw [hfin]; simp; omega
      have hil : ¬ l.length ≤ i := by omega
      by_cases h0 : i = 0
      · subst h0
        simp at hA
        simp [hi, sLess_eq, hs, hl0, hA]
        exact ⟨by simp only [maxL]; omega, by simp only [maxL]; omega, ⟨rfl, rfl⟩, by omega, purl_strs (by omega)⟩
      · simp [hi, sLess_eq, hs, h0, hl0, hmin, hil, hT, hA]
        exact ⟨by omega, by simp only [maxL]; omega, by simp only [maxL]; omega, by omega, by simp only [maxL]; omega, ⟨rfl, rfl⟩, by omega, purl_strs (by omega)⟩
    · have hne : insAt k l ≠ i := fun e => by have := hg.1 e hi; rw [hs] at this; cases this
      simp [hi, sLess_eq, hs, hw]
      exact rd (i + 1) (by omega)
  · have : i = l.length := by omega
    subst this
    have he : insAt k l = l.length := by omega
    have hfin := insS_at k l
    rw [he] at hfin
    have hA : List.take (l.length + 1) (l.map (AV.p ∘ PV.str) ++ [.p (.str k)]) = (insS l k).map (AV.p ∘ PV.str) := by
      rw [hfin, List.take_of_length_le (by simp)]; simp
    have hL : (insS l k).length = l.length + 1 := by rw [hfin]; simp
    by_cases hl0 : l = []
    · subst hl0
      simp [insS]
      repeat' refine And.intro ?_ ?_
      all_goals first | rfl | (simp only [maxL]; omega)
    · simp [hl0, hA]
      repeat' refine And.intro ?_ ?_
      all_goals first | rfl | (simp only [maxL]; omega)
end Go.Abs

/-
  slices.Sort of texts, as a contract in a heap.
-/
namespace Go.Abs
open Go.Proofs
set_option linter.unusedSectionVars false
theorem sLess_u8 : ∀ (x y : List UInt8), sLess (natsB x) (natsB y) = decide (x < y)
  | _, [] => by simp [natsB, sLess]
  | [], _ :: _ => by simp [natsB, sLess]
  | a :: x, b :: y => by
    have ih := sLess_u8 x y
    simp only [natsB] at ih
    simp only [natsB, List.map_cons, sLess, ih]
    rw [Bool.eq_iff_iff]
    simp only [Bool.or_eq_true, decide_eq_true_eq, Bool.and_eq_true, beq_iff_eq, List.cons_lt_cons_iff, UInt8.lt_iff_toNat_lt, ← UInt8.toNat_inj]
theorem le_u8 (x y : List UInt8) : decide (x ≤ y) = !sLess (natsB y) (natsB x) := by
  rw [sLess_u8, Bool.eq_iff_iff]; simp
theorem sLess_neg_trans {x y z : List Nat} (h1 : sLess y x = false) (h2 : sLess z y = false) : sLess z x = false := by
  cases h : sLess z x with
  | false => rfl
  | true =>
    cases h3 : sLess x y with
    | true => rw [sLess_trans h h3] at h2; cases h2
    | false => rw [sLess_tri h1 h3] at h2; rw [h2] at h; cases h
theorem mergeSort_sortS (ss : List (List UInt8)) : (ss.mergeSort fun x y => decide (x ≤ y)).map natsB = sortS (ss.map natsB) := by
  refine sortS_of ((List.mergeSort_perm ss _).map natsB) ?_
  have h := List.pairwise_mergeSort (le := fun x y : List UInt8 => decide (x ≤ y))
    (fun a b c h1 h2 => by
      simp only [le_u8, Bool.not_eq_true'] at *
      exact sLess_neg_trans h1 h2)
    (fun a b => by
      simp only [le_u8, Bool.or_eq_true, Bool.not_eq_true']
      cases h : sLess (natsB b) (natsB a) with
      | false => exact .inl rfl
      | true => exact .inr (sLess_asym h)) ss
  rw [Asc, List.pairwise_map]
  refine h.imp ?_
  intro a b hab
  simpa [le_u8] using hab
theorem strs_to [Gl] {P : Program} {w : World} {Imm : Nat → Prop} : ∀ (ds : List (List UInt8)), PVCl P w Imm (List.replicate ds.length 1) ((ds.map natsB).map .str) (ds.map fun l => [Value.string ⟨l.toArray⟩])
  | [] => by simp [PVCl]
  | d :: ds => by
    simp only [List.length_cons, List.replicate_succ, List.map_cons, PVCl, PVC]
    exact ⟨_, _, rfl, ⟨⟨d.toArray⟩, rfl, by simp [natsB]⟩, rfl, strs_to ds⟩
theorem flat1 {α β : Type} (g : α → β) : ∀ (l : List α), (l.map fun x => [g x]).flatten = l.map g
  | [] => rfl
  | x :: l => by simp only [List.map_cons, List.flatten_cons, flat1 g l]; rfl
theorem putCells_list {d : List (List UInt8)} {l rest : List Value} {cs : Array Value} (h : cs.toList = l ++ rest) (hl : l.length = d.length) : (Go.Sort.putCells encStr 0 d.toArray cs).toList = (d.map fun l => Value.string ⟨l.toArray⟩) ++ rest := by
  have hsz : cs.size = l.length + rest.length := by rw [← Array.length_toList, h]; simp
  apply List.ext_getElem
  · simp [Go.Sort.putCells, hsz, hl]
  · intro i h1 h2
    simp only [Go.Sort.putCells, Array.getElem_toList, Array.getElem_mapIdx, List.size_toArray, Nat.zero_le, Nat.zero_add, true_and, Nat.sub_zero]
    split
    · rename_i hi
      rw [List.getElem_append_left (by simpa using hi)]
      simp [encStr, hi]
    · rename_i hi
      rw [List.getElem_append_right (by simpa using hi)]
      have e : cs[i]'(by simpa [Go.Sort.putCells] using h1) = cs.toList[i]'(by simpa [Go.Sort.putCells] using h1) := by simp
      rw [e]
      simp only [h]
      rw [List.getElem_append_right (by omega)]
      simp [hl]
theorem g_sort {P : Program} [Gl] {f : FuncId} (he : Enters P f)
    (hS : ∀ (blk off cap : Nat) (ss : List (List UInt8)) (w : World), Go.Sort.Holds encStr w blk off ss.toArray → blk < w.heap.size → ss.length < 4611686018427387904 →
      Calls P f #[.slice (some ⟨blk, off, none⟩) ss.length cap] w fun e w' => e = .returned (.tuple #[]) ∧ ∃ n os, w' = Go.Sort.grow (Go.Sort.putRow encStr (Go.Sort.ahead w n) blk off (ss.mergeSort fun x y => decide (x ≤ y)).toArray) os)
    {H : Heap} {b ver : Nat} {xs : List (List Nat)} (hb : H[b]? = some (.arr .grow ver 1 (xs.map (AV.p ∘ PV.str)))) (hne : xs ≠ []) (hlen : xs.length < 4611686018427387904) :
    GoodI P f H [.sl b ver 1 0 xs.length] (H.set b (.arr .grow ver 1 ((sortS xs).map (AV.p ∘ PV.str)))) (.p (.tup [])) := by
  refine ⟨he, fun w Imm Prot β cargs hr ha hre => ?_⟩
  simp only [AVVl, AVV] at ha
  obtain ⟨v, vs, rfl, ⟨_, hp⟩, rfl⟩ := ha
  obtain ⟨_, _, hv⟩ := hp .grow _ hb
  have hnil : ¬ isNilArr .grow (xs.map (AV.p ∘ PV.str)) := fun h => hne (by simpa using h.2)
  have hv := hv hnil
  simp only [Nat.zero_mul, Nat.sub_zero] at hv
  subst hv
  rcases hr.objs b _ hb with h | ⟨cs, T, css, rest, k1, k2, k3, k4, k5, k6, k7, k8, k9⟩
  · exact (hnil h).elim
  have k2' : PVCl P w Imm (List.replicate (xs.map (AV.p ∘ PV.str)).length 1) (xs.map .str) css := by
    rw [← AVCl_map (β := β) (H := H)]; simpa [Function.comp_def] using k2
  obtain ⟨bs, g1, g2⟩ := strs_of k2'
  have k7' : ¬ Imm (β.blk b) ∧ ¬ Prot (β.blk b) := by simpa [Held] using k7
  rw [g1] at k3
  have hxl : xs.length = bs.length := by rw [g2]; simp
  have hblk : β.blk b < w.heap.size := (Array.getElem?_eq_some_iff.1 k1).1
  have hH : Go.Sort.Holds encStr w (β.blk b) 0 (bs.map (·.data.toList)).toArray := by
    intro j hj
    have hj : j < bs.length := by simpa using hj
    refine ⟨?_, by simp [World.frozen?, k1]⟩
    have e1 : cs[j]? = some (.string bs[j]) := by
      rw [← Array.getElem?_toList, k3, List.getElem?_append_left (by simpa using hj)]
      simp [hj]
    simp [World.cell?, k1, e1, encStr, hj]
  have hc := hS (β.blk b) 0 (β.cap b) (bs.map (·.data.toList)) w hH hblk (by simpa [← hxl] using hlen)
  rw [List.length_map, ← hxl] at hc
  refine hc.mono ?_
  rintro e w' ⟨rfl, n, os, rfl⟩
  have hso : sortS xs = ((bs.map (·.data.toList)).mergeSort fun x y => decide (x ≤ y)).map natsB := by
    rw [mergeSort_sortS, g2]; simp [Function.comp_def]
  generalize hd : ((bs.map (·.data.toList)).mergeSort fun x y => decide (x ≤ y)) = d at hso
  have hdl : d.length = bs.length := by rw [← hd, (List.mergeSort_perm _ _).length_eq]; simp
  have hnew := putCells_list (d := d) k3 (by simp [hdl])
  generalize hcs : Go.Sort.putCells encStr 0 d.toArray cs = new at hnew
  have hst : HStep β H β (H.set b (.arr .grow ver 1 ((sortS xs).map (AV.p ∘ PV.str)))) := set_step hb (.inr (.inl ⟨_, _, _, _, _, rfl, rfl, by simp [(sortS_perm xs).length_eq]⟩))
  have hp1 := write_post hr hb hnil (o' := .arr .grow ver 1 ((sortS xs).map (AV.p ∘ PV.str))) (fun h => hne (by
      have h0 : sortS xs = [] := by simpa using h.2
      have := (sortS_perm xs).length_eq
      rw [h0] at this
      exact List.length_eq_zero_iff.1 this.symm)) (fun _ h => h) k1 (new := new) k7' hst
    (.inr ⟨new, T, d.map fun l => [Value.string ⟨l.toArray⟩], rest, setRow_heap w _ _ _ T _ k1, by
      rw [hso]
      have := strs_to (P := P) (w := w.setRow (β.blk b) new) (Imm := Imm) d
      rw [← AVCl_map (β := β) (H := H.set b (.arr .grow ver 1 ((d.map natsB).map (AV.p ∘ PV.str))))] at this
      simpa [Function.comp_def] using this, by rw [hnew, flat1], by rw [← k4, ← hcs]; simp [Go.Sort.putCells], by simpa [(sortS_perm xs).length_eq] using k5, by simp, k7, by simp, k9⟩)
    (by simp only [Obj.refs]; rw [refsLtl_mem]; intro v hv; simp only [List.mem_map] at hv; obtain ⟨x, _, rfl⟩ := hv; trivial)
  have hp2 : Post P Prot Imm (w.setRow (β.blk b) new) β _ Imm (Go.Sort.grow (Go.Sort.putRow encStr (Go.Sort.ahead w n) (β.blk b) 0 d.toArray) os) β _ :=
    HRel.later hp1.rel (fun _ h => h) (fun _ h => .inl h) (fun k hk => by
        have := hr.imm k hk
        simp only [Go.Sort.grow, Array.size_append, Go.Sort.size_putRow]
        show k < (Go.Sort.ahead w n).heap.size + _
        simp only [Go.Sort.ahead]; omega)
      (by rw [setRow_size]; simp only [Go.Sort.grow, Array.size_append, Go.Sort.size_putRow, Go.Sort.ahead]; omega)
      (fun k hk => by
        rw [setRow_size] at hk
        have h1 : (Go.Sort.grow (Go.Sort.putRow encStr (Go.Sort.ahead w n) (β.blk b) 0 d.toArray) os).heap[k]? = (Go.Sort.putRow encStr (Go.Sort.ahead w n) (β.blk b) 0 d.toArray).heap[k]? := by
          simp only [Go.Sort.grow]
          rw [Array.getElem?_append_left (by simpa [Go.Sort.ahead] using hk)]
        rw [h1]
        by_cases hkb : k = β.blk b
        · subst hkb
          rw [setRow_heap w _ _ _ T _ k1]
          simp [Go.Sort.putRow, Go.Sort.mapBlock, Go.Sort.ahead, Go.Sort.onCells, Array.getElem?_modify, k1, hcs]
        · rw [setRow_other w _ k _ hkb]
          simp [Go.Sort.putRow, Go.Sort.mapBlock, Go.Sort.ahead, Array.getElem?_modify, Ne.symm hkb])
  exact ⟨_, β, Imm, rfl, hp1.trans hp2, by simp [AVV, PVV, PVVl], by simp [refsLt]⟩
end Go.Abs

/- Contracts of library functions at this program, as the shelf lays them: sorting. -/
namespace Go.Proofs
open Go.Shelf
def Tryz.lays190_ren : Go.Shelf.Ren := ⟨fun | 190 => 163 | 125 => 222 | 258 => 221 | 128 => 270 | 129 => 271 | 302 => 261 | 303 => 262 | 304 => 263 | 305 => 264 | 306 => 265 | 307 => 266 | 308 => 267 | 309 => 268 | 310 => 269 | 333 => 300 | 329 => 301 | 330 => 302 | 334 => 303 | 335 => 304 | 336 => 247 | 344 => 322 | n => n, fun | 31 => 44 | 9 => 9 | 3 => 3 | 46 => 261 | 0 => 0 | 51 => 317 | 53 => 320 | 4 => 4 | 183 => 351 | 182 => 350 | 131 => 286 | 5 => 5 | 218 => 378 | 222 => 382 | 228 => 397 | 229 => 398 | n => n, fun | n => n⟩
theorem Tryz.lays190 : Go.Proofs.Lays.n190 Tryz.prog Tryz.lays190_ren := {
  mixed := by kernel_rfl
  f125 := Tryz.func222.trans (congrArg some (by kernel_rfl))
  f128 := Tryz.func270.trans (congrArg some (by kernel_rfl))
  f129 := Tryz.func271.trans (congrArg some (by kernel_rfl))
  f190 := Tryz.func163.trans (congrArg some (by kernel_rfl))
  f258 := Tryz.func221.trans (congrArg some (by kernel_rfl))
  f302 := Tryz.func261.trans (congrArg some (by kernel_rfl))
  f303 := Tryz.func262.trans (congrArg some (by kernel_rfl))
  f304 := Tryz.func263.trans (congrArg some (by kernel_rfl))
  f305 := Tryz.func264.trans (congrArg some (by kernel_rfl))
  f306 := Tryz.func265.trans (congrArg some (by kernel_rfl))
  f307 := Tryz.func266.trans (congrArg some (by kernel_rfl))
  f308 := Tryz.func267.trans (congrArg some (by kernel_rfl))
  f309 := Tryz.func268.trans (congrArg some (by kernel_rfl))
  f310 := Tryz.func269.trans (congrArg some (by kernel_rfl))
  f329 := Tryz.func301.trans (congrArg some (by kernel_rfl))
  f330 := Tryz.func302.trans (congrArg some (by kernel_rfl))
  f333 := Tryz.func300.trans (congrArg some (by kernel_rfl))
  f334 := Tryz.func303.trans (congrArg some (by kernel_rfl))
  f335 := Tryz.func304.trans (congrArg some (by kernel_rfl))
  f336 := Tryz.func247.trans (congrArg some (by kernel_rfl))
  f344 := Tryz.func322.trans (congrArg some (by kernel_rfl))
  t0 := Tryz.underlying0
  a0 := Tryz.isAgg0
  z0 := Tryz.sizeOf0
  v0 := Tryz.zeroValue0
  t3 := Tryz.underlying3
  a3 := Tryz.isAgg3
  z3 := Tryz.sizeOf3
  v3 := Tryz.zeroValue3
  t4 := Tryz.underlying4
  a4 := Tryz.isAgg4
  z4 := Tryz.sizeOf4
  v4 := Tryz.zeroValue4
  t5 := Tryz.underlying5
  a5 := Tryz.isAgg5
  z5 := Tryz.sizeOf5
  v5 := Tryz.zeroValue5
  t9 := Tryz.underlying9
  a9 := Tryz.isAgg9
  z9 := Tryz.sizeOf9
  v9 := Tryz.zeroValue9
  t31 := Tryz.underlying44
  a31 := Tryz.isAgg44
  z31 := Tryz.sizeOf44
  v31 := Tryz.zeroValue44
  t46 := Tryz.underlying261
  a46 := Tryz.isAgg261
  z46 := Tryz.sizeOf261
  v46 := Tryz.zeroValue261
  t51 := Tryz.underlying317
  a51 := Tryz.isAgg317
  z51 := Tryz.sizeOf317
  v51 := Tryz.zeroValue317
  t53 := Tryz.underlying320
  a53 := Tryz.isAgg320
  z53 := Tryz.sizeOf320
  v53 := Tryz.zeroValue320
  t131 := Tryz.underlying286
  a131 := Tryz.isAgg286
  z131 := Tryz.sizeOf286
  v131 := Tryz.zeroValue286
  t182 := Tryz.underlying350
  a182 := Tryz.isAgg350
  z182 := Tryz.sizeOf350
  v182 := Tryz.zeroValue350
  t183 := Tryz.underlying351
  a183 := Tryz.isAgg351
  z183 := Tryz.sizeOf351
  v183 := Tryz.zeroValue351
  t218 := Tryz.underlying378
  a218 := Tryz.isAgg378
  z218 := Tryz.sizeOf378
  v218 := Tryz.zeroValue378
  t222 := Tryz.underlying382
  a222 := Tryz.isAgg382
  z222 := Tryz.sizeOf382
  v222 := Tryz.zeroValue382
  t228 := Tryz.underlying397
  a228 := Tryz.isAgg397
  z228 := Tryz.sizeOf397
  v228 := Tryz.zeroValue397
  t229 := Tryz.underlying398
  a229 := Tryz.isAgg398
  z229 := Tryz.sizeOf398
  v229 := Tryz.zeroValue398 }
open Go.Sort Go.RowKit in
theorem Tryz.slices_Sort_string (blk off cap : Nat) (ss : List (List UInt8)) (w : World) (hH : Holds encStr w blk off ss.toArray) (hblk : blk < w.heap.size) (hsz : ss.length < 4611686018427387904) :
    Calls Tryz.prog 163 #[.slice (some ⟨blk, off, none⟩) ss.length cap] w fun e w' =>
      e = .returned (.tuple #[]) ∧ ∃ n os, w' = grow (putRow encStr (Sort.ahead w n) blk off (ss.mergeSort fun x y => decide (x ≤ y)).toArray) os := Any.slices_Sort_string Tryz.lays190 blk off cap ss w hH hblk hsz
open Go.RowKit Go.Sort in
/-- .. and plain. (LAID: no walk: one application.) -/
theorem Tryz.slices_Sort_string_none (p : Option Addr) (cap : Nat) (w : World) :
    Calls Tryz.prog 163 #[.slice p 0 cap] w fun e w' => e = .returned (.tuple #[]) ∧ w' = w := Any.slices_Sort_string_none Tryz.lays190 p cap w
end Go.Proofs

/-
  slices.Sort of texts at this program.
-/
namespace Go.Abs
open Go.Proofs
theorem g_sort163 {H : Heap} {b ver : Nat} {xs : List (List Nat)} (hb : H[b]? = some (.arr .grow ver 1 (xs.map (AV.p ∘ PV.str)))) (hne : xs ≠ []) (hlen : xs.length ≤ 1048576) :
    GoodI Tryz.prog 163 H [.sl b ver 1 0 xs.length] (H.set b (.arr .grow ver 1 ((sortS xs).map (AV.p ∘ PV.str)))) (.p (.tup [])) :=
  g_sort isF163.enters (fun blk off cap ss w h1 h2 h3 => Tryz.slices_Sort_string blk off cap ss w h1 h2 h3) hb hne (by omega)
theorem g_sort_nil {H : Heap} {b ver : Nat} (hb : H[b]? = some (.arr .grow ver 1 [])) : GoodI Tryz.prog 163 H [.sl b ver 1 0 0] H (.p (.tup [])) := by
  refine ⟨isF163.enters, fun w Imm Prot β cargs hr ha hre => ?_⟩
  simp only [AVVl, AVV] at ha
  obtain ⟨v, vs, rfl, ⟨_, hp⟩, rfl⟩ := ha
  obtain ⟨_, hv, _⟩ := hp .grow _ hb
  have hv := hv ⟨rfl, rfl⟩
  subst hv
  refine (Tryz.slices_Sort_string_none none 0 w).mono ?_
  rintro e w' ⟨rfl, rfl⟩
  exact ⟨_, β, Imm, rfl, Post.refl hr, by simp [AVV, PVV, PVVl], by simp [refsLt]⟩
end Go.Abs
