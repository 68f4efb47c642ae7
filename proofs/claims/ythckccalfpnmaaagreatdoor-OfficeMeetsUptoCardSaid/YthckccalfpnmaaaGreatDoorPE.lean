import Derived.Test.YthckccalfpnmaaaGreatDoorPA
/-
  Walks: comparisons.
-/
set_option linter.unusedSimpArgs false
set_option linter.unusedVariables false
set_option linter.unusedSectionVars false
namespace Go.Abs
open Go.Proofs
set_option maxHeartbeats 4000000
set_option maxRecDepth 100000
theorem dec_iff {p q : Prop} [Decidable p] [Decidable q] (h : p ↔ q) : decide p = decide q := by simp [h]
theorem beq_drop {α : Type} [DecidableEq α] {a b : List α} {i : Nat} (ha : i < a.length) (hb : i < b.length) : decide (a.drop i = b.drop i) = (decide (a[i] = b[i]) && decide (a.drop (i + 1) = b.drop (i + 1))) := by
  rw [List.drop_eq_getElem_cons ha, List.drop_eq_getElem_cons hb, dec_iff List.cons_eq_cons, Bool.decide_and]
theorem len_ne {α : Type} {a b : List α} (h : a.length ≠ b.length) : a ≠ b := fun e => h (by rw [e])

theorem c_sameInts (a b : List Int) (ha : a.length ≤ 1048576) (hb : b.length ≤ 1048576) : GoodC Tryz.prog 115 [.seq (a.map (.int .i64)), .seq (b.map (.int .i64))] (.bool (decide (a = b))) := by
  refine good_fn nf isF115 mix (by simp [Tryz.f115]) ?_
  by_cases hl : a.length = b.length
  · have hl' : (a.length : Int) = b.length := by omega
    simp [Tryz.f115, hl']
    refine lp (α := Nat) (fun i => ⟨[(5, .p (.int .i64 i)), (1, .p (.seq (b.map (.int .i64)))), (0, .p (.seq (a.map (.int .i64))))], []⟩) (fun i => i ≤ a.length ∧ decide (a = b) = decide (a.drop i = b.drop i)) (fun i => a.length - i) 0 (by simp) ?_
    rintro i ⟨k1, k2⟩
    by_cases hi : i < a.length
    · have hi' : i < b.length := by omega
      rw [beq_drop hi hi'] at k2
      have hw := wi1 (i := i) (by omega)
      by_cases he : a[i] = b[i]
      · rw [decide_eq_true he, Bool.true_and] at k2
        simp [hi, hi', he, hw]
        exact rd (i + 1) ⟨hi, k2⟩
      · rw [decide_eq_false he, Bool.false_and] at k2
        rw [k2]
        simp [hi, hi', he]
    · have : i = a.length := by omega
      subst this
      have k3 : decide (a = b) = true := by rw [k2, List.drop_length, hl, List.drop_length]; rfl
      rw [k3]
      simp
  · have hl' : ¬ (a.length : Int) = b.length := by omega
    rw [decide_eq_false (len_ne hl)]
    simp [Tryz.f115, hl']

theorem c_equalInts (a b : List Int) (ha : a.length ≤ 1048576) (hb : b.length ≤ 1048576) : GoodC Tryz.prog 231 [.seq (a.map (.int .i64)), .seq (b.map (.int .i64))] (.bool (decide (a = b))) := by
  refine good_fn nf isF231 mix (by simp [Tryz.f231]) ?_
  by_cases hl : a.length = b.length
  · have hl' : (a.length : Int) = b.length := by omega
    simp [Tryz.f231, hl']
    refine lp (α := Nat) (fun i => ⟨[(13, .p (.int .i64 i)), (12, .p (.int .i64 b.length)), (1, .p (.seq (b.map (.int .i64)))), (0, .p (.seq (a.map (.int .i64))))], []⟩) (fun i => i ≤ a.length ∧ decide (a = b) = decide (a.drop i = b.drop i)) (fun i => a.length - i) 0 (by simp) ?_
    rintro i ⟨k1, k2⟩
    by_cases hi : i < a.length
    · have hi' : i < b.length := by omega
      rw [beq_drop hi hi'] at k2
      have hw := wi1 (i := i) (by omega)
      by_cases he : a[i] = b[i]
      · rw [decide_eq_true he, Bool.true_and] at k2
        simp [hi, hi', he, hw]
        exact rd (i + 1) ⟨hi, k2⟩
      · rw [decide_eq_false he, Bool.false_and] at k2
        rw [k2]
        simp [hi, hi', he]
    · have : i = a.length := by omega
      subst this
      have k3 : decide (a = b) = true := by rw [k2, List.drop_length, hl, List.drop_length]; rfl
      rw [k3]
      simp [hl]
  · have hl' : ¬ (a.length : Int) = b.length := by omega
    rw [decide_eq_false (len_ne hl)]
    simp [Tryz.f231, hl']

theorem row_ext (a b : RowD) : a = b ↔ a.key = b.key ∧ a.vals = b.vals := by cases a; cases b; simp
theorem edit_ext (a b : EditD) : a = b ↔ a.kind = b.kind ∧ a.row = b.row := by cases a; cases b; simp
def rowB (r : RowD) : Prop := r.key.length ≤ 1048576 ∧ r.vals.length ≤ 1048576
def rowsB (l : List RowD) : Prop := l.length ≤ 1048576 ∧ ∀ r ∈ l, rowB r
def editB (e : EditD) : Prop := e.kind.length ≤ 1048576 ∧ rowB e.row
def editsB (l : List EditD) : Prop := l.length ≤ 1048576 ∧ ∀ e ∈ l, editB e

theorem c_sameRow (a b : RowD) (ha : rowB a) (hb : rowB b) : GoodC Tryz.prog 31 [eRow a, eRow b] (.bool (decide (a = b))) := by
  refine good_fn nf isF31 mix (by simp [Tryz.f31]) ?_
  rw [dec_iff (row_ext a b)]
  by_cases hk : a.key = b.key
  · simp [Tryz.f31, eRow, hk]
    refine c2 (c_sameInts a.vals b.vals ha.2 hb.2) ?_
    simp [hk]
  · simp [Tryz.f31, eRow, hk]

theorem c_same (a b : RowD) (ha : rowB a) (hb : rowB b) : GoodC Tryz.prog 171 [eRow a, eRow b] (.bool (decide (a = b))) := by
  refine good_fn nf isF171 mix (by simp [Tryz.f171]) ?_
  rw [dec_iff (row_ext a b)]
  by_cases hk : a.key = b.key
  · simp [Tryz.f171, eRow, hk]
    refine c2 (c_equalInts a.vals b.vals ha.2 hb.2) ?_
    simp [hk]
  · simp [Tryz.f171, eRow, hk]

theorem c_sameRows (a b : List RowD) (ha : rowsB a) (hb : rowsB b) : GoodC Tryz.prog 56 [eRows a, eRows b] (.bool (decide (a = b))) := by
  refine good_fn nf isF56 mix (by simp [Tryz.f56]) ?_
  obtain ⟨ha, ha'⟩ := ha
  obtain ⟨hb, hb'⟩ := hb
  unfold eRows
  by_cases hl : a.length = b.length
  · have hl' : (a.length : Int) = b.length := by omega
    simp [Tryz.f56, hl']
    refine lp (α := Nat) (fun i => ⟨[(5, .p (.int .i64 i)), (1, .p (.seq (b.map eRow))), (0, .p (.seq (a.map eRow)))], []⟩) (fun i => i ≤ a.length ∧ decide (a = b) = decide (a.drop i = b.drop i)) (fun i => a.length - i) 0 (by simp) ?_
    rintro i ⟨k1, k2⟩
    by_cases hi : i < a.length
    · have hi' : i < b.length := by omega
      rw [beq_drop hi hi'] at k2
      have hw := wi1 (i := i) (by omega)
      simp [hi, hi']
      refine e2 (c_sameRow a[i] b[i] (ha' _ (List.getElem_mem hi)) (hb' _ (List.getElem_mem hi'))) ?_
      by_cases he : a[i] = b[i]
      · rw [decide_eq_true he, Bool.true_and] at k2
        simp [he, hw]
        exact rd (i + 1) ⟨hi, k2⟩
      · rw [decide_eq_false he, Bool.false_and] at k2
        rw [k2]
        simp [he]
    · have : i = a.length := by omega
      subst this
      have k3 : decide (a = b) = true := by rw [k2, List.drop_length, hl, List.drop_length]; rfl
      rw [k3]
      simp
  · have hl' : ¬ (a.length : Int) = b.length := by omega
    rw [decide_eq_false (len_ne hl)]
    simp [Tryz.f56, hl']

theorem c_sameEdits (a b : List EditD) (ha : editsB a) (hb : editsB b) : GoodC Tryz.prog 84 [.seq (a.map rEdit), .seq (b.map rEdit)] (.bool (decide (a = b))) := by
  refine good_fn nf isF84 mix (by simp [Tryz.f84]) ?_
  obtain ⟨ha, ha'⟩ := ha
  obtain ⟨hb, hb'⟩ := hb
  by_cases hl : a.length = b.length
  · have hl' : (a.length : Int) = b.length := by omega
    simp [Tryz.f84, hl']
    refine lp (α := Nat) (fun i => ⟨[(5, .p (.int .i64 i)), (1, .p (.seq (b.map rEdit))), (0, .p (.seq (a.map rEdit)))], []⟩) (fun i => i ≤ a.length ∧ decide (a = b) = decide (a.drop i = b.drop i)) (fun i => a.length - i) 0 (by simp) ?_
    rintro i ⟨k1, k2⟩
    by_cases hi : i < a.length
    · have hi' : i < b.length := by omega
      rw [beq_drop hi hi', dec_iff (edit_ext a[i] b[i])] at k2
      have hw := wi1 (i := i) (by omega)
      by_cases hk : a[i].kind = b[i].kind
      · simp [hi, hi', rEdit, hk]
        refine e2 (c_sameRow a[i].row b[i].row (ha' _ (List.getElem_mem hi)).2 (hb' _ (List.getElem_mem hi')).2) ?_
        by_cases he : a[i].row = b[i].row
        · have hd : decide (a[i].kind = b[i].kind ∧ a[i].row = b[i].row) = true := decide_eq_true ⟨hk, he⟩
          rw [hd, Bool.true_and] at k2
          simp [he, hw]
          exact rd (i + 1) ⟨hi, k2⟩
        · have hd : decide (a[i].kind = b[i].kind ∧ a[i].row = b[i].row) = false := decide_eq_false (fun h => he h.2)
          rw [hd, Bool.false_and] at k2
          rw [k2]
          simp [he]
      · have hd : decide (a[i].kind = b[i].kind ∧ a[i].row = b[i].row) = false := decide_eq_false (fun h => hk h.1)
        rw [hd, Bool.false_and] at k2
        rw [k2]
        simp [hi, hi', rEdit, hk]
    · have : i = a.length := by omega
      subst this
      have k3 : decide (a = b) = true := by rw [k2, List.drop_length, hl, List.drop_length]; rfl
      rw [k3]
      simp
  · have hl' : ¬ (a.length : Int) = b.length := by omega
    rw [decide_eq_false (len_ne hl)]
    simp [Tryz.f84, hl']
end Go.Abs

/-
  The table of least costs, and how it lies in the heap.
-/
namespace Go.Abs
open Go.Proofs
def cst : List RowD → List RowD → Nat
  | [], b => b.length
  | x :: a, [] => a.length + 1
  | x :: a, y :: b => if x = y then min (1 + min (cst a (y :: b)) (cst (x :: a) b)) (cst a b) else 1 + min (cst a (y :: b)) (cst (x :: a) b)
  termination_by a b => a.length + b.length

theorem cst_le : ∀ (a b : List RowD), cst a b ≤ a.length + b.length
  | [], b => by simp [cst]
  | x :: a, [] => by simp [cst]
  | x :: a, y :: b => by
    have h1 := cst_le a (y :: b)
    have h2 := cst_le a b
    rw [cst]
    simp only [List.length_cons] at *
    split <;> omega
  termination_by a b => a.length + b.length

def costC (a b : List RowD) (i k : Nat) : Int := cst (a.drop i) (b.drop k)
theorem costC_a {a b : List RowD} {k : Nat} (hk : k ≤ b.length) : costC a b a.length k = (b.length : Int) - k := by
  simp only [costC, List.drop_length, cst, List.length_drop]; omega
theorem costC_b {a b : List RowD} {i : Nat} (hi : i ≤ a.length) : costC a b i b.length = (a.length : Int) - i := by
  simp only [costC, List.drop_length]
  cases h : a.drop i with
  | nil => have := List.drop_eq_nil_iff.1 h; simp only [cst, List.length_nil]; omega
  | cons x r => have := congrArg List.length h; simp only [List.length_drop, List.length_cons] at this; simp only [cst]; omega
theorem costC_bd (a b : List RowD) (i k : Nat) : 0 ≤ costC a b i k ∧ costC a b i k ≤ (a.length : Int) + b.length := by
  have := cst_le (a.drop i) (b.drop k)
  simp only [List.length_drop] at this
  simp only [costC]; omega
theorem costC_step {a b : List RowD} {i k : Nat} (hi : i < a.length) (hk : k < b.length) :
    costC a b i k = if a[i] = b[k] then min (1 + min (costC a b (i + 1) k) (costC a b i (k + 1))) (costC a b (i + 1) (k + 1)) else 1 + min (costC a b (i + 1) k) (costC a b i (k + 1)) := by
  simp only [costC]
  rw [List.drop_eq_getElem_cons hi, List.drop_eq_getElem_cons hk, cst]
  split <;> omega

section table
variable (a b : List RowD)
def fullR (i : Nat) : List AV := (List.range (b.length + 1)).map fun k => .p (.int .i64 (costC a b i k))
/-- a row of which the last places are filled -/
def partR (i t : Nat) : List AV := (List.range (b.length + 1)).map fun k => .p (.int .i64 (if b.length + 1 ≤ k + t then costC a b i k else 0))
def outR (j : Nat) : List AV := (List.range (a.length + 1)).map fun p => if a.length + 1 ≤ p + j then .sl (a.length + 1 - p) 0 1 0 (b.length + 1) else .p .nsl
def rowsR (j : Nat) : Heap := (List.range j).map fun t => .arr .exact 0 1 (fullR a b (a.length - t))
def tabG (j : Nat) : Heap := .arr .exact 0 1 (outR a b j) :: rowsR a b j
def tabH (j : Nat) (cells : List AV) : Heap := .arr .exact 0 1 (outR a b (j + 1)) :: (rowsR a b j ++ [.arr .exact 0 1 cells])
variable {a b}

theorem partR_zero (i : Nat) : partR a b i 0 = List.replicate (b.length + 1) (.p (.int .i64 0)) := by
  apply List.ext_getElem (by simp [partR])
  intro k h1 h2
  simp [partR] at h1 ⊢; omega
theorem partR_full (i : Nat) : partR a b i (b.length + 1) = fullR a b i := by
  apply List.ext_getElem (by simp [partR, fullR])
  intro k h1 h2
  simp [partR, fullR] at h1 ⊢
theorem partR_get {i t k : Nat} (hk : k ≤ b.length) : (partR a b i t)[k]? = some (.p (.int .i64 (if b.length + 1 ≤ k + t then costC a b i k else 0))) := by
  simp [partR, List.getElem?_range (show k < b.length + 1 by omega)]
theorem fullR_get {i k : Nat} (hk : k ≤ b.length) : (fullR a b i)[k]? = some (.p (.int .i64 (costC a b i k))) := by
  simp [fullR, List.getElem?_range (show k < b.length + 1 by omega)]
theorem partR_set {i t k : Nat} (hk : k + t = b.length) : (partR a b i t).set k (.p (.int .i64 (costC a b i k))) = partR a b i (t + 1) := by
  apply List.ext_getElem (by simp [partR])
  intro q h1 h2
  rw [List.getElem_set]
  simp [partR] at h1 h2 ⊢
  split
  · rename_i he; subst he; simp; omega
  · rename_i he
    have : (b.length + 1 ≤ q + t) = (b.length + 1 ≤ q + (t + 1)) := by apply propext; omega
    simp only [this]
theorem partR_set2 {i t k : Nat} (hk : k + t = b.length) (v : AV) : ((partR a b i t).set k v).set k (.p (.int .i64 (costC a b i k))) = partR a b i (t + 1) := by
  rw [List.set_set, partR_set hk]
theorem partR_len (i t : Nat) : (partR a b i t).length = b.length + 1 := by simp [partR]
theorem fullR_len (i : Nat) : (fullR a b i).length = b.length + 1 := by simp [fullR]
theorem outR_len (j : Nat) : (outR a b j).length = a.length + 1 := by simp [outR]
theorem outR_get {j p : Nat} (hp : p ≤ a.length) : (outR a b j)[p]? = some (if a.length + 1 ≤ p + j then .sl (a.length + 1 - p) 0 1 0 (b.length + 1) else .p .nsl) := by
  simp [outR, List.getElem?_range (show p < a.length + 1 by omega)]
theorem outR_set {j p : Nat} (hp : p + j = a.length) : (outR a b j).set p (.sl (j + 1) 0 1 0 (b.length + 1)) = outR a b (j + 1) := by
  apply List.ext_getElem (by simp [outR])
  intro q h1 h2
  rw [List.getElem_set]
  simp [outR] at h1 h2 ⊢
  split
  · rename_i he; subst he
    have h3 : a.length + 1 ≤ p + (j + 1) := by omega
    have h4 : a.length + 1 - p = j + 1 := by omega
    simp [h3, h4]
  · rename_i he
    have : (a.length + 1 ≤ q + j) = (a.length + 1 ≤ q + (j + 1)) := by apply propext; omega
    simp only [this]
theorem outR_zero : outR a b 0 = List.replicate (a.length + 1) (.p .nsl) := by
  apply List.ext_getElem (by simp [outR])
  intro k h1 h2
  simp [outR] at h1 ⊢; omega
theorem rowsR_len (j : Nat) : (rowsR a b j).length = j := by simp [rowsR]
theorem rowsR_next (j : Nat) : rowsR a b j ++ [.arr .exact 0 1 (fullR a b (a.length - j))] = rowsR a b (j + 1) := by
  simp [rowsR, List.range_succ]
theorem tabG_len (j : Nat) : (tabG a b j).length = j + 1 := by simp [tabG, rowsR_len]
theorem tabH_len (j : Nat) (cells : List AV) : (tabH a b j cells).length = j + 2 := by simp [tabH, rowsR_len]
theorem tabG_0 (j : Nat) : (tabG a b j)[0]? = some (.arr .exact 0 1 (outR a b j)) := rfl
theorem tabH_0 (j : Nat) (cells : List AV) : (tabH a b j cells)[0]? = some (.arr .exact 0 1 (outR a b (j + 1))) := rfl
theorem tabH_cur (j : Nat) (cells : List AV) : (tabH a b j cells)[j + 1]? = some (.arr .exact 0 1 cells) := by
  simp [tabH, List.getElem?_append, rowsR_len]
theorem tabH_row {j p : Nat} (cells : List AV) (hp : p ≤ a.length) (hj : a.length + 1 ≤ p + j) : (tabH a b j cells)[a.length + 1 - p]? = some (.arr .exact 0 1 (fullR a b p)) := by
  obtain ⟨q, hq⟩ : ∃ q, a.length + 1 - p = q + 1 := ⟨a.length - p, by omega⟩
  have h1 : q < j := by omega
  have h2 : a.length - q = p := by omega
  rw [hq]
  simp [tabH, List.getElem?_append, rowsR_len, h1, rowsR, List.getElem?_range h1, h2]
theorem tabG_row {j p : Nat} (hp : p ≤ a.length) (hj : a.length + 1 ≤ p + j) : (tabG a b j)[a.length + 1 - p]? = some (.arr .exact 0 1 (fullR a b p)) := by
  obtain ⟨q, hq⟩ : ∃ q, a.length + 1 - p = q + 1 := ⟨a.length - p, by omega⟩
  have h1 : q < j := by omega
  have h2 : a.length - q = p := by omega
  rw [hq]
  simp [tabG, rowsR, List.getElem?_range h1, h2]
theorem tabH_set (j : Nat) (cells cells' : List AV) : (tabH a b j cells).set (j + 1) (.arr .exact 0 1 cells') = tabH a b j cells' := by
  have : (rowsR a b j ++ [Obj.arr .exact 0 1 cells]).set j (.arr .exact 0 1 cells') = rowsR a b j ++ [.arr .exact 0 1 cells'] := by
    rw [List.set_append_right _ _ (by rw [rowsR_len]; omega)]
    simp [rowsR_len]
  simp [tabH, this]
def tabN (a b : List RowD) (j : Nat) : Heap := tabG a b j ++ [.arr .exact 0 1 (List.replicate (b.length + 1) (.p (.int .i64 0)))]
theorem tabG_new (j : Nat) : tabG a b j ++ [.arr .exact 0 1 (List.replicate (b.length + 1) (.p (.int .i64 0)))] = tabN a b j := rfl
theorem tabN_0 (j : Nat) : (tabN a b j)[0]? = some (.arr .exact 0 1 (outR a b j)) := rfl
theorem tabN_set {j p : Nat} (hp : p + j = a.length) : (tabN a b j).set 0 (.arr .exact 0 1 ((outR a b j).set p (.sl (j + 1) 0 1 0 (b.length + 1)))) = tabH a b j (partR a b p 0) := by
  simp [tabN, tabG, tabH, outR_set hp, partR_zero]
theorem tabH_full {j p : Nat} (hp : p + j = a.length) : tabH a b j (fullR a b p) = tabG a b (j + 1) := by
  have : a.length - j = p := by omega
  rw [tabH, tabG, ← rowsR_next, this]
theorem tab_in {j : Nat} {X : Heap} {q : Nat} (hq : q ≤ j) : InH (tabG a b j ++ X) (q, 0) := by
  cases q with
  | zero => exact ⟨_, rfl, by simp [Obj.has]⟩
  | succ q =>
    refine ⟨.arr .exact 0 1 (fullR a b (a.length - q)), ?_, by simp [Obj.has]⟩
    have h1 : q < j := by omega
    simp [tabG, List.getElem?_append, rowsR_len, h1, rowsR, List.getElem?_range h1]
theorem tabG_in {j q : Nat} (hq : q ≤ j) : InH (tabG a b j) (q, 0) := by simpa using tab_in (a := a) (b := b) (X := []) hq
theorem tabH_eq (j : Nat) (cells : List AV) : tabH a b j cells = (.arr .exact 0 1 (outR a b (j + 1)) :: rowsR a b j) ++ [.arr .exact 0 1 cells] := rfl
theorem tabH_in {j : Nat} {cells : List AV} {q : Nat} (hq : q ≤ j + 1) : InH (tabH a b j cells) (q, 0) := by
  cases q with
  | zero => exact ⟨_, rfl, by simp [Obj.has]⟩
  | succ q =>
    by_cases h1 : q < j
    · refine ⟨.arr .exact 0 1 (fullR a b (a.length - q)), ?_, by simp [Obj.has]⟩
      simp [tabH, List.getElem?_append, rowsR_len, h1, rowsR, List.getElem?_range h1]
    · have : q = j := by omega
      subst this
      exact ⟨.arr .exact 0 1 cells, tabH_cur _ _, by simp [Obj.has]⟩
theorem RefsH_append {T h k : Heap} : RefsH T (h ++ k) ↔ RefsH T h ∧ RefsH T k := by
  induction h with
  | nil => simp [RefsH]
  | cons o h ih => simp [RefsH, ih, and_assoc]
theorem RefsH_mem {T h : Heap} : RefsH T h ↔ ∀ o ∈ h, o.refs (InH T) := by
  induction h with
  | nil => simp [RefsH]
  | cons o h ih => simp [RefsH, ih]
theorem refs_out {T : Heap} {j : Nat} (hT : ∀ q, q ≤ j → InH T (q, 0)) : refsLtl (InH T) (outR a b j) := by
  rw [refsLtl_mem]
  intro v hv
  simp only [outR, List.mem_map, List.mem_range] at hv
  obtain ⟨p, hp, rfl⟩ := hv
  split
  · exact hT _ (by omega)
  · trivial
theorem refs_int {T : Heap} (l : List Nat) (f : Nat → Int) : refsLtl (InH T) (l.map fun k => .p (.int .i64 (f k))) := by
  rw [refsLtl_mem]; intro v hv; simp only [List.mem_map] at hv; obtain ⟨x, _, rfl⟩ := hv; trivial
theorem refs_rows {T : Heap} (j : Nat) : RefsH T (rowsR a b j) := by
  rw [RefsH_mem]
  intro o ho
  simp only [rowsR, List.mem_map] at ho
  obtain ⟨t, _, rfl⟩ := ho
  exact refs_int _ _
theorem tabG_refs {T : Heap} {j : Nat} (hT : ∀ q, q ≤ j → InH T (q, 0)) : RefsH T (tabG a b j) := ⟨refs_out hT, refs_rows j⟩
theorem tabH_refs {T : Heap} {j i t : Nat} (hT : ∀ q, q ≤ j + 1 → InH T (q, 0)) : RefsH T (tabH a b j (partR a b i t)) := by
  rw [tabH_eq, RefsH_append]
  refine ⟨⟨refs_out hT, refs_rows j⟩, ?_⟩
  simp only [RefsH, and_true]
  exact refs_int _ _
theorem keepHg_refl {T : Heap} : ∀ {h : Heap}, KeepHg T h h
  | [] => by simp
  | o :: h => by simp only [KeepHg]; exact ⟨by simp, keepHg_refl⟩
end table
end Go.Abs

/-
  The least script.
-/
namespace Go.Abs
open Go.Proofs
def diffS : List RowD → List RowD → List EditD
  | [], [] => []
  | [], y :: b => ⟨kAdd, y⟩ :: diffS [] b
  | x :: a, [] => ⟨kDrop, x⟩ :: diffS a []
  | x :: a, y :: b =>
    if x = y ∧ cst (x :: a) (y :: b) = cst a b then ⟨kKeep, x⟩ :: diffS a b
    else if cst (x :: a) (y :: b) = 1 + cst a (y :: b) then ⟨kDrop, x⟩ :: diffS a (y :: b)
    else ⟨kAdd, y⟩ :: diffS (x :: a) b
  termination_by a b => a.length + b.length

theorem diffS_len : ∀ (a b : List RowD), (diffS a b).length ≤ a.length + b.length
  | [], [] => by simp [diffS]
  | [], y :: b => by have := diffS_len [] b; rw [diffS]; simp at *; omega
  | x :: a, [] => by have := diffS_len a []; rw [diffS]; simp at *; omega
  | x :: a, y :: b => by
    have h1 := diffS_len a b
    have h2 := diffS_len a (y :: b)
    have h3 := diffS_len (x :: a) b
    rw [diffS]
    simp only [List.length_cons] at *
    split
    · simp; omega
    split <;> simp <;> omega
  termination_by a b => a.length + b.length

section steps
variable {a b : List RowD} {i k : Nat}
theorem diff_end (hi : ¬ i < a.length) (hk : ¬ k < b.length) : diffS (a.drop i) (b.drop k) = [] := by
  rw [List.drop_eq_nil_of_le (by omega), List.drop_eq_nil_of_le (by omega), diffS]
theorem diff_add (hi : ¬ i < a.length) (hk : k < b.length) : diffS (a.drop i) (b.drop k) = ⟨kAdd, b[k]⟩ :: diffS (a.drop i) (b.drop (k + 1)) := by
  rw [List.drop_eq_nil_of_le (by omega), List.drop_eq_getElem_cons hk, diffS]
theorem diff_drop (hi : i < a.length) (hk : ¬ k < b.length) : diffS (a.drop i) (b.drop k) = ⟨kDrop, a[i]⟩ :: diffS (a.drop (i + 1)) (b.drop k) := by
  rw [show b.drop k = [] from List.drop_eq_nil_of_le (by omega), List.drop_eq_getElem_cons hi, diffS]
theorem diff_both (hi : i < a.length) (hk : k < b.length) : diffS (a.drop i) (b.drop k) =
    if a[i] = b[k] ∧ costC a b i k = costC a b (i + 1) (k + 1) then ⟨kKeep, a[i]⟩ :: diffS (a.drop (i + 1)) (b.drop (k + 1))
    else if costC a b i k = 1 + costC a b (i + 1) k then ⟨kDrop, a[i]⟩ :: diffS (a.drop (i + 1)) (b.drop k)
    else ⟨kAdd, b[k]⟩ :: diffS (a.drop i) (b.drop (k + 1)) := by
  have e1 : (costC a b i k = costC a b (i + 1) (k + 1)) ↔ cst (a.drop i) (b.drop k) = cst (a.drop (i + 1)) (b.drop (k + 1)) := by simp only [costC]; omega
  have e2 : (costC a b i k = 1 + costC a b (i + 1) k) ↔ cst (a.drop i) (b.drop k) = 1 + cst (a.drop (i + 1)) (b.drop k) := by simp only [costC]; omega
  simp only [e1, e2]
  rw [List.drop_eq_getElem_cons hi, List.drop_eq_getElem_cons hk, diffS]
/-- at the end of b all that is left of a is dropped -/
theorem cost_last (hi : i < a.length) (hk : ¬ k < b.length) (hkb : k ≤ b.length) : costC a b i k = 1 + costC a b (i + 1) k := by
  have : k = b.length := by omega
  subst this
  rw [costC_b (by omega), costC_b (by omega)]; omega
end steps
end Go.Abs

/-
  Walks: the table of least costs, by the reference.
-/
namespace Go.Abs
open Go.Proofs
set_option maxHeartbeats 4000000
set_option maxRecDepth 100000
def rowL (a b : List RowD) (i : Nat) : List PV := (List.range (b.length + 1)).map fun k => .int .i64 (costC a b i k)
def tblL (a b : List RowD) : List PV := (List.range (a.length + 1)).map fun i => .seq (rowL a b i)
theorem rowL_get {a b : List RowD} {i k : Nat} (hk : k ≤ b.length) : (rowL a b i)[k]? = some (.int .i64 (costC a b i k)) := by
  simp [rowL, List.getElem?_range (show k < b.length + 1 by omega)]
theorem tblL_get {a b : List RowD} {i : Nat} (hi : i ≤ a.length) : (tblL a b)[i]? = some (.seq (rowL a b i)) := by
  simp [tblL, List.getElem?_range (show i < a.length + 1 by omega)]
def tabPV (a b : List RowD) : PV := .seq (tblL a b)

theorem outR_all {a b : List RowD} : outR a b (a.length + 1) = (List.range (a.length + 1)).map fun p => .sl (a.length + 1 - p) 0 1 0 (b.length + 1) := by
  apply List.map_congr_left
  intro p hp
  rw [if_pos (by omega)]
theorem tab_pur {a b : List RowD} : Pur (tabG a b (a.length + 1)) 9 (.sl 0 0 1 0 (a.length + 1)) (tabPV a b) := by
  rw [tabPV, pur_sl, tabG_0, tblL]
  refine ⟨rfl, rfl, by rw [outR_len]; omega, ?_⟩
  rw [List.drop_zero, outR_all, List.take_of_length_le (by simp), purl_map]
  intro p hp
  have hp : p ≤ a.length := by have := List.mem_range.1 hp; omega
  rw [pur_sl, tabG_row hp (by omega)]
  refine ⟨rfl, rfl, by rw [fullR_len]; omega, ?_⟩
  rw [List.drop_zero, List.take_of_length_le (by rw [fullR_len]; omega), fullR, rowL, purl_map]
  intro k _
  rw [pur_p]; exact Wk.refl _

theorem c_costs (a b : List RowD) (ha : rowsB a) (hb : rowsB b) (la : a.length ≤ 1000) (lb : b.length ≤ 1000) : GoodC Tryz.prog 176 [.seq (a.map eRow), .seq (b.map eRow)] (tabPV a b) := by
  refine good_fn nf isF176 mix (by simp [Tryz.f176]) ?_
  have wa := wi1 (i := a.length) (by omega)
  have wb := wi1 (i := b.length) (by omega)
  simp [Tryz.f176, wa, maxL]
  refine ⟨by omega, ?_⟩
  refine lp (α := Nat) (fun j => ⟨[(6, .p (.int .i64 ((a.length : Int) - j))), (5, .sl 0 0 1 0 (a.length + 1)), (1, .p (.seq (b.map eRow))), (0, .p (.seq (a.map eRow)))], tabG a b j⟩) (fun j => j ≤ a.length + 1) (fun j => a.length + 1 - j) 0 (by simp) ?_ (he := by simp) (hh := by simp [tabG, outR_zero, rowsR]) (hr := by simp [tabG]) (hr2 := tabG_refs fun q hq => tabG_in hq)
  intro j hj
  by_cases hji : j ≤ a.length
  · obtain ⟨i, hi⟩ : ∃ i, i + j = a.length := ⟨a.length - j, by omega⟩
    have ej : (a.length : Int) - j = (i : Int) := by omega
    have w1 : IntKind.i64.wrap ((i : Int) - 1) = (i : Int) - 1 := wi64 _ (by omega) (by omega)
    rw [ej]
    have hO := outR_get (b := b) (j := j) (show i ≤ a.length by omega)
    rw [if_neg (by omega)] at hO
    simp [wb, maxL, tabG_new, tabN_0, tabG_len, outR_len, hO, tabN_set hi]
    refine ⟨by omega, by omega, ?_⟩
    refine lp (α := Nat) (fun t => ⟨[(7, .p (.int .i64 ((b.length : Int) - t))), (6, .p (.int .i64 i)), (5, .sl 0 0 1 0 (a.length + 1)), (1, .p (.seq (b.map eRow))), (0, .p (.seq (a.map eRow)))], tabH a b j (partR a b i t)⟩) (fun t => t ≤ b.length + 1) (fun t => b.length + 1 - t) 0 (by simp) ?_ (he := by simp) (hh := keepHg_refl) (hr := by simp only [RefsE, refsLt, and_true, true_and]; exact tabH_in (by omega)) (hr2 := tabH_refs fun q hq => tabH_in hq)
    intro t ht
    by_cases htk : t ≤ b.length
    · obtain ⟨k, hk⟩ : ∃ k, k + t = b.length := ⟨b.length - t, by omega⟩
      have et : (b.length : Int) - t = (k : Int) := by omega
      rw [et]
      have w2 : IntKind.i64.wrap ((k : Int) - 1) = (k : Int) - 1 := wi64 _ (by omega) (by omega)
      have hO1 := outR_get (b := b) (j := j + 1) (show i ≤ a.length by omega)
      rw [if_pos (by omega), show a.length + 1 - i = j + 1 by omega] at hO1
      have hs := partR_set (a := a) (i := i) hk
      have hset := fun v => partR_set2 (a := a) (i := i) hk v
      have hP := fun c : List AV => tabH_set (a := a) (b := b) j c
      by_cases hia : i = a.length
      · have hv := costC_a (a := a) (b := b) (k := k) (by omega)
        have wv : IntKind.i64.wrap ((b.length : Int) - k) = costC a b i k := by rw [hia, hv]; exact wi64 _ (by omega) (by omega)
        subst hia
        simp [tabH_0, hO1, tabH_cur, wv, partR_get (show k ≤ b.length by omega), hs, tabH_set, w2]
        refine ⟨by omega, ?_⟩
        exact rd (t + 1) (by omega) (he := by simp; omega) (hh := keepHg_refl) (hr := by simp only [RefsE, refsLt, and_true, true_and]; exact tabH_in (by omega)) (hr2 := tabH_refs fun q hq => tabH_in hq)
      · have hia' : ¬ (i : Int) = a.length := by omega
        by_cases hkb : k = b.length
        · have hv := costC_b (a := a) (b := b) (i := i) (by omega)
          have wv : IntKind.i64.wrap ((a.length : Int) - i) = costC a b i k := by rw [hkb, hv]; exact wi64 _ (by omega) (by omega)
          subst hkb
          simp [tabH_0, hO1, tabH_cur, wv, partR_get (show b.length ≤ b.length by omega), hs, tabH_set, w2, hia, hia']
          refine ⟨by omega, ?_⟩
          exact rd (t + 1) (by omega) (he := by simp; omega) (hh := keepHg_refl) (hr := by simp only [RefsE, refsLt, and_true, true_and]; exact tabH_in (by omega)) (hr2 := tabH_refs fun q hq => tabH_in hq)
        · have hkb' : ¬ (k : Int) = b.length := by omega
          have hia2 : i < a.length := by omega
          have hkb2 : k < b.length := by omega
          have hO2 := outR_get (b := b) (j := j + 1) (show i + 1 ≤ a.length by omega)
          rw [if_pos (by omega), show a.length + 1 - (i + 1) = j by omega] at hO2
          have hR := fun c : List AV => tabH_row (a := a) (b := b) (j := j) (p := i + 1) c (by omega) (by omega)
          simp only [show a.length + 1 - (i + 1) = j by omega] at hR
          have hF1 := fullR_get (a := a) (b := b) (i := i + 1) (k := k) (by omega)
          have hF2 := fullR_get (a := a) (b := b) (i := i + 1) (k := k + 1) (by omega)
          have hP1 := partR_get (a := a) (b := b) (i := i) (t := t) (k := k + 1) (by omega)
          rw [if_pos (by omega)] at hP1
          have hP0 := partR_get (a := a) (b := b) (i := i) (t := t) (k := k) (by omega)
          have wi := wi1 (i := i) (by omega)
          have wk := wi1 (i := k) (by omega)
          have hst := costC_step hia2 hkb2
          have c1 := costC_bd a b (i + 1) k
          have c2 := costC_bd a b i (k + 1)
          have c3 := costC_bd a b (i + 1) (k + 1)
          generalize hC1 : costC a b (i + 1) k = C1 at *
          generalize hC2 : costC a b i (k + 1) = C2 at *
          generalize hC3 : costC a b (i + 1) (k + 1) = C3 at *
          have hm : (if C2 < C1 then C2 else C1) = min C1 C2 := by omega
          have wm : IntKind.i64.wrap (1 + min C1 C2) = 1 + min C1 C2 := wi64 _ (by omega) (by omega)
          simp [tabH_0, hO1, hO2, hR, hF1, hF2, hP1, hP0, tabH_cur, tabH_set, w2, hia, hia', hkb, hkb', wi, wk, hm, wm, hi, hkb2, hia2]
          refine ⟨by omega, by omega, by omega, by omega, by omega, by omega, ?_, ?_⟩
          · repeat' (first | exact rfl | refine ⟨?_, ?_⟩)
          refine e2 (c_sameRow a[i] b[k] (ha.2 _ (List.getElem_mem hia2)) (hb.2 _ (List.getElem_mem hkb2))) ?_
          have hself : ((partR a b i t).set k (AV.p (PV.int IntKind.i64 (1 + min C1 C2))))[k]? = some (.p (.int .i64 (1 + min C1 C2))) := List.getElem?_set_self (by rw [partR_len]; omega)
          by_cases hab : a[i] = b[k]
          · rw [if_pos hab] at hst
            have hm2 : (if C3 < 1 + min C1 C2 then C3 else 1 + min C1 C2) = costC a b i k := by rw [hst]; omega
            simp [tabH_0, hO1, hO2, hR, hF1, hF2, tabH_cur, tabH_set, w2, hab, wi, wk, hself, hset, hm2]
            refine ⟨by omega, by omega, ⟨by omega, by omega⟩, ⟨by omega, by omega⟩, by omega, ?_, ?_⟩
            · repeat' (first | exact rfl | refine ⟨?_, ?_⟩)
            exact rd (t + 1) (by omega) (he := by simp; omega) (hh := keepHg_refl) (hr := by simp only [RefsE, refsLt, and_true, true_and]; exact tabH_in (by omega)) (hr2 := tabH_refs fun q hq => tabH_in hq)
          · rw [if_neg hab] at hst
            rw [hst] at hs
            simp [hab, w2, hs]
            exact rd (t + 1) (by omega) (he := by simp; omega) (hh := keepHg_refl) (hr := by simp only [RefsE, refsLt, and_true, true_and]; exact tabH_in (by omega)) (hr2 := tabH_refs fun q hq => tabH_in hq)
    · have htm : t = b.length + 1 := by omega
      subst htm
      have et : (b.length : Int) - ((b.length + 1 : Nat) : Int) = -1 := by omega
      rw [et]
      simp [partR_full, tabH_full hi, w1]
      exact rd (j + 1) (by omega) (he := by simp; omega) (hh := keepHg_refl) (hr := by simp only [RefsE, refsLt, and_true, true_and]; exact tabG_in (by omega)) (hr2 := tabG_refs fun q hq => tabG_in hq)
  · have hjm : j = a.length + 1 := by omega
    subst hjm
    have ej : (a.length : Int) - ((a.length + 1 : Nat) : Int) = -1 := by omega
    rw [ej]
    simp
    exact tab_pur
end Go.Abs

/-
  The table with the growing script behind it.
-/
namespace Go.Abs
open Go.Proofs
theorem keepHg_app {T x : Heap} (hx : KeepHg T [] x) : ∀ {h : Heap}, KeepHg T h (h ++ x)
  | [] => hx
  | o :: h => by simp only [List.cons_append, KeepHg]; exact ⟨by simp, keepHg_app hx⟩
section table
variable {a b : List RowD}
def tabE (a b : List RowD) (l : List EditD) : Heap := tabG a b (a.length + 1) ++ [.arr .grow l.length 3 (l.map fun e => .p (eEdit e))]
theorem tabE_0 (l : List EditD) : (tabE a b l)[0]? = some (.arr .exact 0 1 (outR a b (a.length + 1))) := rfl
theorem tabE_cur (l : List EditD) : (tabE a b l)[a.length + 2]? = some (.arr .grow l.length 3 (l.map fun e => .p (eEdit e))) := by
  rw [tabE, List.getElem?_append_right (by rw [tabG_len]; omega)]
  simp [tabG_len]
theorem tabE_row {p : Nat} (l : List EditD) (hp : p ≤ a.length) : (tabE a b l)[a.length + 1 - p]? = some (.arr .exact 0 1 (fullR a b p)) := by
  rw [tabE, List.getElem?_append_left (by rw [tabG_len]; omega)]
  exact tabG_row hp (by omega)
theorem tabE_out {p : Nat} (hp : p ≤ a.length) : (outR a b (a.length + 1))[p]? = some (.sl (a.length + 1 - p) 0 1 0 (b.length + 1)) := by
  rw [outR_get hp, if_pos (by omega)]
theorem tabE_push (l : List EditD) (e : EditD) : (tabE a b l).set (a.length + 2) (.arr .grow (l.length + 1) 3 ((l.map fun e => AV.p (eEdit e)) ++ [.p (eEdit e)])) = tabE a b (l ++ [e]) := by
  rw [tabE, List.set_append_right _ _ (by rw [tabG_len]; omega)]
  simp [tabG_len, tabE]
theorem tabE_len (l : List EditD) : (tabE a b l).length = a.length + 3 := by simp [tabE, tabG_len]
theorem tabX_cur (l : List EditD) (X : Heap) : (tabE a b l ++ X)[a.length + 2]? = some (.arr .grow l.length 3 (l.map fun e => .p (eEdit e))) := by
  rw [List.getElem?_append_left (by rw [tabE_len]; omega)]
  exact tabE_cur l
theorem tabE_get (l : List EditD) (h : a.length + 2 < (tabE a b l).length) : (tabE a b l)[a.length + 2] = .arr .grow l.length 3 (l.map fun e => .p (eEdit e)) :=
  Option.some.inj ((List.getElem?_eq_getElem h).symm.trans (tabE_cur l))
theorem tabX_new (l : List EditD) (o : Obj) : (tabE a b l ++ [o])[a.length + 3]? = some o := by
  rw [List.getElem?_append_right (by rw [tabE_len]; omega)]
  simp [tabE_len]
theorem tabX_push (l : List EditD) (e : EditD) (X : Heap) : (tabE a b l ++ X).set (a.length + 2) (.arr .grow (l.length + 1) 3 ((l.map fun e => AV.p (eEdit e)) ++ [.p (eEdit e)])) = tabE a b (l ++ [e]) ++ X := by
  rw [List.set_append_left _ _ (by rw [tabE_len]; omega), tabE_push]
theorem keepHg_pre {T X : Heap} : ∀ {h : Heap}, KeepHg T (h ++ X) h
  | [] => by cases X <;> simp [KeepHg]
  | o :: h => by simp only [List.cons_append, KeepHg]; exact ⟨by simp, keepHg_pre⟩
theorem tabE_in {l : List EditD} {q : Nat} (hq : q ≤ a.length + 1) : InH (tabE a b l) (q, 0) := tab_in hq
theorem tabE_inE (l : List EditD) : InH (tabE a b l) (a.length + 2, l.length) := ⟨_, tabE_cur l, by simp [Obj.has]⟩
theorem tabE_refs (l : List EditD) : RefsH (tabE a b l) (tabE a b l) := by
  conv => rhs; rw [tabE]
  rw [RefsH_append]
  refine ⟨tabG_refs fun q hq => tabE_in hq, ?_⟩
  simp only [RefsH, and_true]
  show refsLtl _ _
  rw [refsLtl_mem]; intro v hv; simp only [List.mem_map] at hv; obtain ⟨x, _, rfl⟩ := hv; trivial
theorem tabE_pur (l : List EditD) : Pur (tabE a b l) 9 (.sl (a.length + 2) l.length 3 0 l.length) (.seq (l.map eEdit)) := by
  rw [pur_sl, tabE_cur]
  refine ⟨rfl, rfl, by simp, ?_⟩
  rw [List.drop_zero, List.take_of_length_le (by simp), purl_map]
  intro p _
  rw [pur_p]; exact Wk.refl _
theorem tabE_nil : tabE a b [] = tabG a b (a.length + 1) ++ [.arr .grow 0 3 []] := rfl
theorem shp_edit (e : EditD) : shp (eEdit e) = .agg 265 := rfl
end table
end Go.Abs

/-
  Walks: errors, names, values.
-/
namespace Go.Abs
open Go.Proofs
set_option maxHeartbeats 4000000
theorem c_first (es : List Int) (h : es.length ≤ 1048576) : GoodC Tryz.prog 94 [.seq (es.map (.int .i64))] (.int .i64 (firstE es)) := by
  refine good_fn nf isF94 mix (by simp [Tryz.f94]) ?_
  simp [Tryz.f94]
  refine lp (α := Nat) (fun i => ⟨[(7, .p (.int .i64 i)), (6, .p (.int .i64 es.length)), (5, .p (.seq (es.map (.int .i64))))], []⟩) (fun i => i ≤ es.length ∧ firstE (es.drop i) = firstE es) (fun i => es.length - i) 0 (by simp) ?_
  rintro i ⟨h1, h2⟩
  simp
  by_cases hi : i < es.length
  · rw [List.drop_eq_getElem_cons hi] at h2
    have hw := wi1 (i := i) (by omega)
    simp [hi]
    by_cases he : es[i] = 0
    · simp [firstE, he] at h2
      simp [he, hw]
      exact rd (i + 1) ⟨hi, h2⟩
    · simp [firstE, he] at h2
      simp [he, ← h2]
  · have : i = es.length := by omega
    subst this
    simp [firstE] at h2
    simp [← h2]

theorem c_lfirst (es : List Int) (h : es.length ≤ 1048576) : GoodC Tryz.prog 26 [.seq (es.map (.int .i64))] (.int .i64 (firstE es)) := by
  refine good_fn nf isF26 mix (by simp [Tryz.f26]) ?_
  simp [Tryz.f26]
  refine lp (α := Nat) (fun i => ⟨[(7, .p (.int .i64 i)), (6, .p (.int .i64 es.length)), (5, .p (.seq (es.map (.int .i64))))], []⟩) (fun i => i ≤ es.length ∧ firstE (es.drop i) = firstE es) (fun i => es.length - i) 0 (by simp) ?_
  rintro i ⟨h1, h2⟩
  simp
  by_cases hi : i < es.length
  · rw [List.drop_eq_getElem_cons hi] at h2
    have hw := wi1 (i := i) (by omega)
    simp [hi]
    by_cases he : es[i] = 0
    · simp [firstE, he] at h2
      simp [he, hw]
      exact rd (i + 1) ⟨hi, h2⟩
    · simp [firstE, he] at h2
      simp [he, ← h2]
  · have : i = es.length := by omega
    subst this
    simp [firstE] at h2
    simp [← h2]

theorem c_when (b : Bool) (e : Int) : GoodC Tryz.prog 102 [.bool b, .int .i64 e] (.int .i64 (whenE b e)) := by
  refine good_fn nf isF102 mix (by simp [Tryz.f102]) ?_
  cases b <;> simp [Tryz.f102, whenE]
theorem c_lwhen (b : Bool) (e : Int) : GoodC Tryz.prog 39 [.bool b, .int .i64 e] (.int .i64 (whenE b e)) := by
  refine good_fn nf isF39 mix (by simp [Tryz.f39]) ?_
  cases b <;> simp [Tryz.f39, whenE]

theorem cls (c : Int) : (97 ≤ c ∧ c ≤ 122) ∨ (¬ 97 ≤ c ∧ 65 ≤ c ∧ c ≤ 90) ∨ (¬ 97 ≤ c ∧ ¬ 65 ≤ c ∧ ¬ 48 ≤ c ∧ ¬ c = 95) ∨ (¬ 97 ≤ c ∧ ¬ 65 ≤ c ∧ 48 ≤ c ∧ c ≤ 57 ∧ ¬ c = 95) ∨ (¬ 97 ≤ c ∧ ¬ 65 ≤ c ∧ 48 ≤ c ∧ ¬ c ≤ 57 ∧ ¬ c = 95) ∨
    (¬ 97 ≤ c ∧ 65 ≤ c ∧ ¬ c ≤ 90 ∧ 48 ≤ c ∧ ¬ c ≤ 57 ∧ c = 95) ∨ (¬ 97 ≤ c ∧ 65 ≤ c ∧ ¬ c ≤ 90 ∧ 48 ≤ c ∧ ¬ c ≤ 57 ∧ ¬ c = 95) ∨ (97 ≤ c ∧ ¬ c ≤ 122 ∧ 65 ≤ c ∧ ¬ c ≤ 90 ∧ 48 ≤ c ∧ ¬ c ≤ 57 ∧ ¬ c = 95) := by omega

theorem c_isLetter (c : Int) : GoodC Tryz.prog 233 [.int .i32 c] (.bool (isLet c)) := by
  refine good_fn nf isF233 mix (by simp [Tryz.f233]) ?_
  rcases cls c with ⟨a, b⟩ | ⟨a, b, d⟩ | ⟨a, b, d, e⟩ | ⟨a, b, d, e, f⟩ | ⟨a, b, d, e, f⟩ | ⟨a, b, d, e, f, g⟩ | ⟨a, b, d, e, f, g⟩ | ⟨a, b, d, e, f, g, h⟩ <;> simp [Tryz.f233, isLet, *]

theorem okN_drop {s : List Nat} {i : Nat} (hi : i < s.length) : okN i (s.drop i) = ((isLet s[i] || (decide (i ≠ 0) && (isDig s[i] || decide ((s[i] : Int) = 95)))) && okN (i + 1) (s.drop (i + 1))) := by
  rw [List.drop_eq_getElem_cons hi, okN]

theorem c_refIsName (s : List Nat) (h : s.length ≤ 1048576) : GoodC Tryz.prog 87 [.str s] (.bool (isName s)) := by
  refine good_fn nf isF87 mix (by simp [Tryz.f87]) ?_
  rcases lt_cases s.length 1 with ⟨g1, g1'⟩ | ⟨g1, g1'⟩
  · have : s.length = 0 := by omega
    simp [Tryz.f87, g1, isName, this]
  rcases lt_cases 24 s.length with ⟨g2, g2'⟩ | ⟨g2, g2'⟩
  · have : ¬ s.length ≤ 24 := by omega
    simp [Tryz.f87, g1, g2, isName, this]
  simp [Tryz.f87, g1, g2]
  have e0 : isName s = okN 0 s := by simp [isName]; omega
  refine lp (α := Nat) (fun i => ⟨[(3, .p (.int .i64 i)), (0, .p (.str s))], []⟩) (fun i => i ≤ s.length ∧ isName s = okN i (s.drop i)) (fun i => s.length - i) 0 (by simp [e0]) ?_
  rintro i ⟨k1, k2⟩
  by_cases hi : i < s.length
  · rw [okN_drop hi] at k2
    have hw := wi1 (i := i) (by omega)
    generalize hc : (s[i] : Int) = c at *
    by_cases h0 : i = 0
    · subst h0
      have hw1 : IntKind.i64.wrap 1 = 1 := wi64 1 (by omega) (by omega)
      rcases cls c with ⟨a, b⟩ | ⟨a, b, d⟩ | ⟨a, b, d, e⟩ | ⟨a, b, d, e, f⟩ | ⟨a, b, d, e, f⟩ | ⟨a, b, d, e, f, g⟩ | ⟨a, b, d, e, f, g⟩ | ⟨a, b, d, e, f, g, h⟩
      · simp [isLet, a, b] at k2
        simp [hi, hc, a, b, hw1]
        exact rd 1 ⟨hi, by simpa using k2⟩
      · simp [isLet, a, b, d] at k2
        simp [hi, hc, a, b, d, hw1]
        exact rd 1 ⟨hi, by simpa using k2⟩
      all_goals
        simp [isLet, *] at k2
        simp [hi, hc, *]
    · rcases cls c with ⟨a, b⟩ | ⟨a, b, d⟩ | ⟨a, b, d, e⟩ | ⟨a, b, d, e, f⟩ | ⟨a, b, d, e, f⟩ | ⟨a, b, d, e, f, g⟩ | ⟨a, b, d, e, f, g⟩ | ⟨a, b, d, e, f, g, h⟩
      · simp [isLet, a, b] at k2
        simp [hi, hc, a, b, hw]
        exact rd (i + 1) ⟨hi, k2⟩
      · simp [isLet, a, b, d] at k2
        simp [hi, hc, a, b, d, hw]
        exact rd (i + 1) ⟨hi, k2⟩
      · simp [isLet, isDig, a, b, d, e] at k2
        simp [hi, hc, h0, a, b, d, e, k2]
      · simp [isLet, isDig, a, b, d, e, h0] at k2
        simp [hi, hc, h0, a, b, d, e, hw]
        exact rd (i + 1) ⟨hi, k2⟩
      · simp [isLet, isDig, a, b, d, e, f] at k2
        simp [hi, hc, h0, a, b, d, e, f, k2]
      · subst g
        simp [isLet, isDig, h0] at k2
        simp [hi, hc, h0, hw]
        exact rd (i + 1) ⟨hi, k2⟩
      · simp [isLet, isDig, a, b, d, e, f, g] at k2
        simp [hi, hc, h0, a, b, d, e, f, g, k2]
      · simp [isLet, isDig, a, b, d, e, f, g, h] at k2
        simp [hi, hc, h0, a, b, d, e, f, g, h, k2]
  · have : i = s.length := by omega
    subst this
    simp [okN] at k2
    simp [k2]
end Go.Abs

/-
  Walks: names, values of rows.
-/
namespace Go.Abs
open Go.Proofs
set_option maxHeartbeats 4000000
theorem toBA_size (s : List Nat) : (toBA s).size = s.length := by
  show (s.map UInt8.ofNat).toArray.size = _
  simp
theorem toBA_get (s : List Nat) (hb : ∀ c ∈ s, c < 256) (i : Nat) (h : i < s.length) (h' : i < (toBA s).size) : ((toBA s)[i]'h').toNat = s[i] := by
  have e : (toBA s)[i]'h' = UInt8.ofNat s[i] := by
    have : (toBA s)[i]'h' = (s.map UInt8.ofNat).toArray[i]'(by simpa using h) := rfl
    rw [this]; simp
  rw [e]
  have := hb s[i] (List.getElem_mem h)
  simp; omega
theorem dec_lo {s : List Nat} (hb : ∀ c ∈ s, c < 256) {i : Nat} (h : i < s.length) (ha : s[i] < 128) : Utf8.decode (toBA s) i = (s[i], 1) := by
  have h' : i < (toBA s).size := by rw [toBA_size]; exact h
  have e := toBA_get s hb i h h'
  rw [decode_ascii (toBA s) i h' (by rw [e]; exact ha), e]
theorem dec_hi {s : List Nat} (hb : ∀ c ∈ s, c < 256) {i : Nat} (h : i < s.length) (ha : ¬ s[i] < 128) : 128 ≤ (Utf8.decode (toBA s) i).1 ∧ 1 ≤ (Utf8.decode (toBA s) i).2 := by
  have h' : i < (toBA s).size := by rw [toBA_size]; exact h
  have e := toBA_get s hb i h h'
  exact decode_high (toBA s) i h' (by rw [e]; omega)

theorem c_isName (s : List Nat) (h : s.length ≤ 1048576) : GoodC Tryz.prog 178 [.str s] (.bool (isName s)) := by
  refine good_str fun hb => ?_
  have hb : ∀ c ∈ s, c < 256 := by simpa [strOkl, strOk] using hb
  refine good_fn nf isF178 mix (by simp [Tryz.f178]) ?_
  simp [Tryz.f178]
  refine lp (α := Nat) (fun i => ⟨[(6, .ptr 0 []), (0, .p (.str s))], [.siter s i]⟩) (fun i => i ≤ s.length ∧ okN 0 s = okN i (s.drop i)) (fun i => s.length - i) 0 (by simp) ?_
  rintro i ⟨k1, k2⟩
  by_cases hi : i < s.length
  · rw [okN_drop hi] at k2
    by_cases ha : s[i] < 128
    · have hd := dec_lo hb hi ha
      simp [hi, hd]
      refine c1 (c_isLetter _) ?_
      generalize hc : (s[i] : Int) = c at *
      by_cases h0 : i = 0
      · rcases cls c with ⟨a, b⟩ | ⟨a, b, d⟩ | ⟨a, b, d, e⟩ | ⟨a, b, d, e, f⟩ | ⟨a, b, d, e, f⟩ | ⟨a, b, d, e, f, g⟩ | ⟨a, b, d, e, f, g⟩ | ⟨a, b, d, e, f, g, h⟩
        · simp [isLet, a, b] at k2
          simp [isLet, a, b]
          exact rd (i + 1) ⟨hi, k2⟩
        · simp [isLet, a, b, d] at k2
          simp [isLet, a, b, d]
          exact rd (i + 1) ⟨hi, k2⟩
        all_goals
          simp [isLet, isName, *] at k2
          simp [isLet, isName, *]
      · rcases cls c with ⟨a, b⟩ | ⟨a, b, d⟩ | ⟨a, b, d, e⟩ | ⟨a, b, d, e, f⟩ | ⟨a, b, d, e, f⟩ | ⟨a, b, d, e, f, g⟩ | ⟨a, b, d, e, f, g⟩ | ⟨a, b, d, e, f, g, h⟩
        · simp [isLet, a, b] at k2
          simp [isLet, a, b]
          exact rd (i + 1) ⟨hi, k2⟩
        · simp [isLet, a, b, d] at k2
          simp [isLet, a, b, d]
          exact rd (i + 1) ⟨hi, k2⟩
        · simp [isLet, isDig, a, b, d, e] at k2
          have d2 : c < 48 := by omega
          simp [isLet, isName, a, b, e, h0, d2, k2]
        · simp [isLet, isDig, a, b, d, e, f, h0] at k2
          have d2 : ¬ c < 48 := by omega
          have e2 : ¬ 57 < c := by omega
          simp [isLet, a, b, d2, e2, f, h0]
          exact rd (i + 1) ⟨hi, k2⟩
        · simp [isLet, isDig, a, b, d, e, f] at k2
          have d2 : ¬ c < 48 := by omega
          have e2 : 57 < c := by omega
          simp [isLet, isName, a, b, d2, e2, f, h0, k2]
        · subst g
          simp [isLet, isDig, h0] at k2
          simp [isLet, h0]
          exact rd (i + 1) ⟨hi, k2⟩
        · simp [isLet, isDig, a, b, d, e, f, g] at k2
          have d2 : ¬ c < 48 := by omega
          have e2 : 57 < c := by omega
          simp [isLet, isName, a, b, d, d2, e2, g, h0, k2]
        · simp [isLet, isDig, a, b, d, e, f, g, h] at k2
          have d2 : ¬ c < 48 := by omega
          have e2 : 57 < c := by omega
          simp [isLet, isName, a, b, d, e, d2, e2, h, h0, k2]
    · obtain ⟨hd, _⟩ := dec_hi hb hi ha
      have hl : isLet (s[i] : Int) = false := by simp [isLet]; omega
      have hg : isDig (s[i] : Int) = false := by simp [isDig]; omega
      have h95 : ¬ (s[i] : Int) = 95 := by omega
      simp [hl, hg, h95] at k2
      rcases hdd : Utf8.decode (toBA s) i with ⟨c, d⟩
      rw [hdd] at hd
      have hl2 : isLet (c : Int) = false := by simp [isLet]; omega
      have h1 : ¬ (c : Int) = 95 := by omega
      have h2 : ¬ (c : Int) < 48 := by omega
      have h3 : 57 < (c : Int) := by omega
      simp [hi, hdd]
      refine c1 (c_isLetter _) ?_
      by_cases h0 : i = 0
      · simp [hl2, h0, isName, k2]
      · simp [hl2, h0, h1, h2, h3, isName, k2]
  · have : i = s.length := by omega
    subst this
    simp [okN] at k2
    cases hs : s with
    | nil => simp [isName]
    | cons a r =>
      rw [hs] at k2
      rcases lt_cases 24 s.length with ⟨g, g'⟩ | ⟨g, g'⟩
      · rw [hs] at g g'
        have : ¬ (r.length + 1) ≤ 24 := by simp at g; omega
        simp at g'
        simp [isName, k2, this]
        omega
      · rw [hs] at g g'
        have : (r.length + 1) ≤ 24 := by simp at g'; omega
        simp at g'
        simp [isName, k2, this]
        omega
end Go.Abs

/-
  Walks: errors of rows by themselves.
-/
namespace Go.Abs
open Go.Proofs
set_option maxHeartbeats 4000000
set_option maxRecDepth 100000
theorem c_named (s : List Nat) (h : s.length ≤ 1048576) : GoodC Tryz.prog 95 [.str s] (.int .i64 (whenE (!isName s) 8)) := by
  refine good_fn nf isF95 mix (by simp [Tryz.f95]) ?_
  simp [Tryz.f95]
  refine c1 (c_isName s h) ?_
  simp
  refine c2 (c_when _ _) ?_
  simp

theorem c_out (n lo hi : Int) : GoodC Tryz.prog 122 [.int .i64 n, .int .i64 lo, .int .i64 hi] (.bool (decide (n < lo) || decide (n > hi))) := by
  refine good_fn nf isF122 mix (by simp [Tryz.f122]) ?_
  by_cases h1 : n < lo <;> by_cases h2 : hi < n <;> simp [Tryz.f122, h1, h2]

theorem c_far (n : Int) : GoodC Tryz.prog 235 [.int .i64 n] (.bool (far n)) := by
  refine good_fn nf isF235 mix (by simp [Tryz.f235]) ?_
  by_cases h1 : n < -999999999 <;> by_cases h2 : 999999999 < n <;> simp [Tryz.f235, far, h1, h2]

/-- the place of the first element with a property, -1 for none -/
def idxFrom {α : Type} (p : α → Bool) : List α → Nat → Int
  | [], _ => -1
  | x :: r, i => if p x then (i : Int) else idxFrom p r (i + 1)
theorem idxFrom_any {α : Type} (p : α → Bool) : ∀ (l : List α) (i : Nat), decide (0 ≤ idxFrom p l i) = l.any p
  | [], i => by simp [idxFrom]
  | x :: r, i => by
    by_cases h : p x
    · simp [idxFrom, h]
    · simp [idxFrom, h, idxFrom_any p r]

theorem c_indexInt {g : FuncId} {p : Int → Bool} (hg : ∀ n, GoodC Tryz.prog g [.int .i64 n] (.bool (p n))) (l : List Int) (h : l.length ≤ 1048576) :
    GoodC Tryz.prog 275 [.seq (l.map (.int .i64)), .func g [] []] (.int .i64 (idxFrom p l 0)) := by
  refine good_fn nf isF275 mix (by simp [Tryz.f275]) ?_
  simp [Tryz.f275]
  refine lp (α := Nat) (fun i => ⟨[(8, .p (.int .i64 i)), (7, .p (.int .i64 l.length)), (1, .p (.func g [] [])), (0, .p (.seq (l.map (.int .i64))))], []⟩) (fun i => i ≤ l.length ∧ idxFrom p l 0 = idxFrom p (l.drop i) i) (fun i => l.length - i) 0 (by simp) ?_
  rintro i ⟨k1, k2⟩
  by_cases hi : i < l.length
  · rw [List.drop_eq_getElem_cons hi] at k2
    have hw := wi1 (i := i) (by omega)
    simp [hi]
    refine c1 (hg _) ?_
    by_cases hp : p l[i]
    · simp [idxFrom, hp] at k2
      simp [hp, k2]
    · simp [idxFrom, hp] at k2
      simp [hp, hw]
      exact rd (i + 1) ⟨hi, k2⟩
  · have : i = l.length := by omega
    subst this
    simp [idxFrom] at k2
    simp [k2]

theorem c_containsInt {g : FuncId} {p : Int → Bool} (hg : ∀ n, GoodC Tryz.prog g [.int .i64 n] (.bool (p n))) (l : List Int) (h : l.length ≤ 1048576) :
    GoodC Tryz.prog 234 [.seq (l.map (.int .i64)), .func g [] []] (.bool (l.any p)) := by
  refine good_fn nf isF234 mix (by simp [Tryz.f234]) ?_
  simp [Tryz.f234]
  refine c2 (c_indexInt hg l h) ?_
  simp [← idxFrom_any p l 0]

theorem c_checkValues (l : List Int) (h : l.length ≤ 1048576) : GoodC Tryz.prog 179 [.seq (l.map (.int .i64))] (.int .i64 (chkVals l)) := by
  refine good_fn nf isF179 mix (by simp [Tryz.f179]) ?_
  simp [Tryz.f179]
  refine c2 (c_containsInt c_far l h) ?_
  simp
  refine c2 (c_when _ _) ?_
  simp
  refine c2 (c_when _ _) ?_
  simp
  refine c2 (c_when _ _) ?_
  simp
  refine cp (c_first [whenE ((l.length : Int) == 0) 12, whenE (decide (16 < (l.length : Int))) 5, whenE (l.any far) 3] (by simp)) (by simp [purL, purA]; exact ⟨rfl, rfl⟩) ?_
  simp [chkVals]

theorem firstE_when (b : Bool) (e : Int) : firstE [whenE b e] = whenE b e := by
  cases b <;> simp [firstE, whenE]; omega
theorem c_checkRow (r : RowD) (h : r.vals.length ≤ 1048576) : GoodC Tryz.prog 116 [eRow r] (.int .i64 (chkVals r.vals)) := by
  refine good_fn nf isF116 mix (by simp [Tryz.f116]) ?_
  by_cases h1 : r.vals.length = 0
  · have e : chkVals r.vals = 12 := by simp [chkVals, whenE, firstE, h1]
    rw [e]
    simp [Tryz.f116, eRow, h1]
  rcases lt_cases 16 r.vals.length with ⟨g, g'⟩ | ⟨g, g'⟩
  · have e : chkVals r.vals = 5 := by simp [chkVals, whenE, firstE, h1, g]
    rw [e]
    simp [Tryz.f116, eRow, h1, g]
  have e : chkVals r.vals = whenE (r.vals.any far) 3 := by
    have a1 : ((r.vals.length : Int) == 0) = false := by simpa using h1
    simp only [chkVals, a1, g, decide_false]
    cases r.vals.any far <;> rfl
  rw [e]
  simp [Tryz.f116, eRow, h1, g]
  refine lp (α := Nat) (fun i => ⟨[(3, .p (.int .i64 i)), (1, .ptr 0 [])], [.box false (.p (eRow r))]⟩) (fun i => i ≤ r.vals.length ∧ (r.vals.drop i).any far = r.vals.any far) (fun i => r.vals.length - i) 0 (by simp) ?_ (he := by simp [eRow]) (hh := by simp [eRow])
  rintro i ⟨k1, k2⟩
  by_cases hi : i < r.vals.length
  · rw [any_drop hi] at k2
    have hw := wi1 (i := i) (by omega)
    simp [hi, eRow]
    refine c3 (c_out _ _ _) ?_
    cases hp : far r.vals[i]
    · rw [hp, Bool.false_or] at k2
      simp only [far] at hp
      simp [hp, hw]
      exact rd (i + 1) ⟨hi, k2⟩ (he := by simp [eRow]) (hh := by simp [eRow])
    · rw [hp, Bool.true_or] at k2
      have e2 : whenE (r.vals.any far) 3 = 3 := by rw [← k2]; rfl
      simp only [far] at hp
      simp [hp, e2]
  · have : i = r.vals.length := by omega
    subst this
    rw [List.drop_length, List.any_nil] at k2
    have e2 : whenE (r.vals.any far) 3 = 0 := by rw [← k2]; rfl
    simp [eRow, e2]
end Go.Abs

/-
  Walks: errors of lists, by the reference.
-/
namespace Go.Abs
open Go.Proofs
set_option maxHeartbeats 4000000
set_option maxRecDepth 100000
def keyIs (k : List Nat) (r : RowD) : Bool := decide (r.key = k)
theorem c_find (l : List RowD) (k : List Nat) (h : l.length ≤ 1048576) : GoodC Tryz.prog 30 [.seq (l.map eRow), .str k] (.int .i64 (idxFrom (keyIs k) l 0)) := by
  refine good_fn nf isF30 mix (by simp [Tryz.f30]) ?_
  simp [Tryz.f30]
  refine lp (α := Nat) (fun i => ⟨[(5, .p (.int .i64 i)), (1, .p (.str k)), (0, .p (.seq (l.map eRow)))], []⟩) (fun i => i ≤ l.length ∧ idxFrom (keyIs k) l 0 = idxFrom (keyIs k) (l.drop i) i) (fun i => l.length - i) 0 (by simp) ?_
  rintro i ⟨k1, k2⟩
  by_cases hi : i < l.length
  · rw [List.drop_eq_getElem_cons hi, idxFrom] at k2
    have hw := wi1 (i := i) (by omega)
    by_cases hk : l[i].key = k
    · have e : keyIs k l[i] = true := by simp [keyIs, hk]
      rw [e, if_pos rfl] at k2
      rw [k2]
      simp [hi, eRow, hk]
    · have e : keyIs k l[i] = false := by simp [keyIs, hk]
      rw [e] at k2
      simp [hi, eRow, hk, hw]
      exact rd (i + 1) ⟨hi, by simpa using k2⟩
  · have : i = l.length := by omega
    subst this
    rw [List.drop_length, idxFrom] at k2
    rw [k2]
    simp

theorem idxFrom_lt {α : Type} (p : α → Bool) : ∀ (l : List α) (j i : Nat), i < l.length → (∀ h : i < l.length, p l[i] = true) → (idxFrom p l j < j + i ↔ (l.take i).any p = true)
  | [], j, i, hi, _ => by simp at hi
  | x :: r, j, 0, _, h => by
    have := h (by simp)
    simp at this
    simp [idxFrom, this]
  | x :: r, j, i + 1, hi, h => by
    by_cases hx : p x = true
    · simp [idxFrom, hx]; omega
    · have hx : p x = false := by simpa using hx
      have ih := idxFrom_lt p r (j + 1) i (by simpa using hi) (fun h' => by have := h (by simp only [List.length_cons]; omega); rw [List.getElem_cons_succ] at this; exact this)
      simp only [idxFrom, hx, List.take_succ_cons, List.any_cons, Bool.false_or, Bool.false_eq_true, if_false]
      rw [← ih]
      have : ((j + 1 : Nat) : Int) + i = (j : Int) + (i + 1 : Nat) := by omega
      rw [this]

theorem find_seen (l : List RowD) {i : Nat} (hi : i < l.length) : decide (idxFrom (keyIs l[i].key) l 0 < i) = ((l.take i).map (·.key)).contains l[i].key := by
  have h := idxFrom_lt (keyIs l[i].key) l 0 i hi (fun _ => by simp [keyIs])
  rw [Bool.eq_iff_iff, decide_eq_true_eq]
  have h0 : ((0 : Nat) : Int) + (i : Int) = i := by omega
  rw [h0] at h
  rw [h]
  simp only [List.any_eq_true, keyIs, decide_eq_true_eq, List.contains_iff_mem, List.mem_map]

theorem chk_next (seen : List (List Nat)) (r : RowD) (rs : List RowD) : chkRowsFrom seen (r :: rs) =
    if isName r.key = false then 8 else if seen.contains r.key = true then 9 else if chkVals r.vals ≠ 0 then chkVals r.vals else chkRowsFrom (seen ++ [r.key]) rs := by
  cases h1 : isName r.key <;> cases h2 : seen.contains r.key <;> by_cases h3 : chkVals r.vals = 0 <;> simp only [chkRowsFrom, firstE, whenE, h1, h2, h3] <;> simp [h3]

theorem c_checkRowsR (l : List RowD) (h : rowsB l) : GoodC Tryz.prog 32 [.seq (l.map eRow)] (.int .i64 (chkRows l)) := by
  refine good_fn nf isF32 mix (by simp [Tryz.f32]) ?_
  obtain ⟨h, h'⟩ := h
  rcases lt_cases 256 l.length with ⟨g1, g1'⟩ | ⟨g1, g1'⟩
  · have e : chkRows l = 5 := by simp only [chkRows]; rw [if_pos (by omega)]
    rw [e]
    simp [Tryz.f32, g1]
  have e : chkRows l = chkRowsFrom [] l := by simp only [chkRows]; rw [if_neg (by omega)]
  rw [e]
  simp [Tryz.f32, g1]
  refine lp (α := Nat) (fun i => ⟨[(3, .p (.int .i64 i)), (0, .p (.seq (l.map eRow)))], []⟩) (fun i => i ≤ l.length ∧ chkRowsFrom [] l = chkRowsFrom ((l.take i).map (·.key)) (l.drop i)) (fun i => l.length - i) 0 (by simp) ?_
  rintro i ⟨k1, k2⟩
  by_cases hi : i < l.length
  · rw [List.drop_eq_getElem_cons hi, chk_next, ← find_seen l hi] at k2
    have ⟨b1, b2⟩ := h' _ (List.getElem_mem hi)
    have hw := wi1 (i := i) (by omega)
    simp [hi, eRow]
    refine c1 (c_refIsName _ b1) ?_
    cases hn : isName l[i].key
    · rw [hn, if_pos rfl] at k2
      simp [k2]
    rw [hn, if_neg (by simp)] at k2
    simp [hi, eRow]
    refine c2 (c_find l l[i].key h) ?_
    cases hf : decide (idxFrom (keyIs l[i].key) l 0 < (i : Int))
    · rw [hf, if_neg (by simp)] at k2
      simp [hi, hf]
      refine c1 (c_checkRow l[i] b2) ?_
      by_cases hv : chkVals l[i].vals = 0
      · rw [if_neg (by simpa using hv)] at k2
        simp [hv, hw]
        refine rd (i + 1) ⟨hi, ?_⟩
        rw [k2, List.take_succ_eq_append_getElem hi, List.map_append]; rfl
      · rw [if_pos hv] at k2
        simp [hv, k2]
    · rw [hf, if_pos rfl] at k2
      simp [hf, k2]
  · have : i = l.length := by omega
    subst this
    rw [List.drop_length, chkRowsFrom] at k2
    simp [k2]

theorem chkE_next (e : EditD) (es : List EditD) : chkEditsFrom (e :: es) =
    if known e.kind = false then 13 else if isName e.row.key = false then 8 else if chkVals e.row.vals ≠ 0 then chkVals e.row.vals else chkEditsFrom es := by
  cases h1 : known e.kind <;> cases h2 : isName e.row.key <;> by_cases h3 : chkVals e.row.vals = 0 <;> simp only [chkEditsFrom, chkEdit, firstE, whenE, h1, h2, h3] <;> simp [h3]

theorem c_checkEditsR (l : List EditD) (h : editsB l) : GoodC Tryz.prog 80 [.seq (l.map rEdit)] (.int .i64 (chkEdits l)) := by
  refine good_fn nf isF80 mix (by simp [Tryz.f80]) ?_
  obtain ⟨h, h'⟩ := h
  rcases lt_cases 512 l.length with ⟨g1, g1'⟩ | ⟨g1, g1'⟩
  · have e : chkEdits l = 5 := by simp only [chkEdits]; rw [if_pos (by omega)]
    rw [e]
    simp [Tryz.f80, g1]
  have e : chkEdits l = chkEditsFrom l := by simp only [chkEdits]; rw [if_neg (by omega)]
  rw [e]
  simp [Tryz.f80, g1]
  refine lp (α := Nat) (fun i => ⟨[(3, .p (.int .i64 i)), (0, .p (.seq (l.map rEdit)))], []⟩) (fun i => i ≤ l.length ∧ chkEditsFrom l = chkEditsFrom (l.drop i)) (fun i => l.length - i) 0 (by simp) ?_
  rintro i ⟨k1, k2⟩
  by_cases hi : i < l.length
  · rw [List.drop_eq_getElem_cons hi, chkE_next] at k2
    have ⟨b0, b1, b2⟩ := h' _ (List.getElem_mem hi)
    have hw := wi1 (i := i) (by omega)
    by_cases hk : l[i].kind = [107, 101, 101, 112] ∨ l[i].kind = [100, 114, 111, 112] ∨ l[i].kind = [97, 100, 100]
    · have hkn : known l[i].kind = true := by
        rcases hk with q | q | q <;> simp [known, q, kKeep, kDrop, kAdd]
      rw [hkn, if_neg (by simp)] at k2
      rcases hk with q | q | q
      all_goals
        simp [hi, rEdit, eRow, q]
        refine c1 (c_refIsName _ b1) ?_
        cases hn : isName l[i].row.key
        · rw [hn, if_pos rfl] at k2
          simp [k2]
        rw [hn, if_neg (by simp)] at k2
        simp [hi, rEdit, eRow]
        refine c1 (c_checkRow l[i].row b2) ?_
        by_cases hv : chkVals l[i].row.vals = 0
        · rw [if_neg (by simpa using hv)] at k2
          simp [hv, hw]
          exact rd (i + 1) ⟨hi, k2⟩
        · rw [if_pos hv] at k2
          simp [hv, k2]
    · have q1 : ¬ l[i].kind = [107, 101, 101, 112] := fun q => hk (.inl q)
      have q2 : ¬ l[i].kind = [100, 114, 111, 112] := fun q => hk (.inr (.inl q))
      have q3 : ¬ l[i].kind = [97, 100, 100] := fun q => hk (.inr (.inr q))
      have hkn : known l[i].kind = false := by simp [known, q1, q2, q3, kKeep, kDrop, kAdd]
      rw [hkn, if_pos rfl] at k2
      simp [hi, rEdit, q1, q2, q3, k2]
  · have : i = l.length := by omega
    subst this
    rw [List.drop_length, chkEditsFrom] at k2
    simp [k2]
end Go.Abs

/-
  Walks: errors of lists, by the program.
-/
namespace Go.Abs
open Go.Proofs
set_option maxHeartbeats 4000000
set_option maxRecDepth 100000
def seenE (ks : List (List Nat)) : List (PV × PV) := ks.map fun k => (.str k, .bool true)
theorem look_seen (k : List Nat) : ∀ (ks : List (List Nat)), lookupM (seenE ks) (.str k) = some (if ks.contains k then some (.bool true) else none)
  | [] => by simp [seenE, lookupM]
  | a :: ks => by
    have ih := look_seen k ks
    simp only [seenE, List.map_cons, lookupM, eqP] at ih ⊢
    by_cases h : k = a
    · subst h; simp
    · have hb : (k == a) = false := by simpa using h
      rw [hb]
      simp only [ih, List.contains_cons, hb, Bool.false_or]
theorem upd_seen (k : List Nat) : ∀ (ks : List (List Nat)), ks.contains k = false → updateM (seenE ks) (.str k) (.bool true) = seenE (ks ++ [k])
  | [], _ => by simp [seenE, updateM]
  | a :: ks, h => by
    simp only [List.contains_cons, Bool.or_eq_false_iff] at h
    have ih := upd_seen k ks h.2
    have hb := h.1
    simp only [seenE, List.map_cons, updateM, eqP, List.cons_append, hb] at ih ⊢
    simp [ih]

theorem c_checkRows (l : List RowD) (h : rowsB l) : GoodC Tryz.prog 96 [.seq (l.map eRow)] (.int .i64 (chkRows l)) := by
  refine good_fn nf isF96 mix (by simp [Tryz.f96]) ?_
  obtain ⟨h, h'⟩ := h
  rcases lt_cases 256 l.length with ⟨g1, g1'⟩ | ⟨g1, g1'⟩
  · have e : chkRows l = 5 := by simp only [chkRows]; rw [if_pos (by omega)]
    rw [e]
    simp [Tryz.f96, g1]
  have e : chkRows l = chkRowsFrom [] l := by simp only [chkRows]; rw [if_neg (by omega)]
  rw [e]
  simp [Tryz.f96, g1]
  refine lp (α := Nat) (fun i => ⟨[(13, .p (.int .i64 i)), (12, .p (.int .i64 l.length)), (11, .p (.seq (l.map eRow))), (3, .map 0)], [.map false (seenE ((l.take i).map (·.key)))]⟩) (fun i => i ≤ l.length ∧ chkRowsFrom [] l = chkRowsFrom ((l.take i).map (·.key)) (l.drop i)) (fun i => l.length - i) 0 (by simp) ?_ (hh := by simp [seenE])
  rintro i ⟨k1, k2⟩
  by_cases hi : i < l.length
  · rw [List.drop_eq_getElem_cons hi, chkRowsFrom] at k2
    have ⟨b1, b2⟩ := h' _ (List.getElem_mem hi)
    have hw := wi1 (i := i) (by omega)
    have hl := look_seen l[i].key ((l.take i).map (·.key))
    generalize hks : (l.take i).map (·.key) = ks at *
    simp [hi, eRow]
    refine e1 (c_named _ b1) ?_
    cases hc : ks.contains l[i].key
    · rw [hc, if_neg (by simp)] at hl
      rw [hc] at k2
      simp [hi, eRow, hl]
      refine e2 (c_when _ _) ?_
      simp [hi, eRow]
      refine e1 (c_checkValues _ b2) ?_
      simp
      refine ep (h1 := ?h1) (c_first [whenE (!isName l[i].key) 8, whenE false 9, chkVals l[i].vals] (by simp)) (by simp; exact ⟨rfl, rfl⟩) (by simp; exact ⟨rfl, rfl⟩) ?_
      case h1 => simp
      generalize firstE [whenE (!isName l[i].key) 8, whenE false 9, chkVals l[i].vals] = E at *
      by_cases hE : E = 0
      · rw [if_pos hE] at k2
        simp [hE, hl, hw]
        refine ⟨rfl, ?_⟩
        have hu := upd_seen l[i].key ks hc
        have ht : (l.take (i + 1)).map (·.key) = ks ++ [l[i].key] := by rw [List.take_succ_eq_append_getElem hi, List.map_append, hks]; rfl
        exact rd (i + 1) ⟨hi, by rw [ht, k2]⟩ (hh := by simp [ht, hu])
      · rw [if_neg hE] at k2
        simp [hE, k2]
        rfl
    · rw [hc, if_pos rfl] at hl
      rw [hc] at k2
      simp [hi, eRow, hl]
      refine e2 (c_when _ _) ?_
      simp [hi, eRow]
      refine e1 (c_checkValues _ b2) ?_
      simp
      refine ep (h1 := ?h1) (c_first [whenE (!isName l[i].key) 8, whenE true 9, chkVals l[i].vals] (by simp)) (by simp; exact ⟨rfl, rfl⟩) (by simp; exact ⟨rfl, rfl⟩) ?_
      case h1 => simp
      have hE : firstE [whenE (!isName l[i].key) 8, whenE true 9, chkVals l[i].vals] ≠ 0 := by
        cases isName l[i].key <;> simp [firstE, whenE]
      generalize firstE [whenE (!isName l[i].key) 8, whenE true 9, chkVals l[i].vals] = E at *
      rw [if_neg hE] at k2
      simp [hE, k2]
      rfl
  · have : i = l.length := by omega
    subst this
    rw [List.drop_length, chkRowsFrom] at k2
    simp [k2]

theorem c_checkEdits (l : List EditD) (h : editsB l) : GoodC Tryz.prog 173 [.seq (l.map eEdit)] (.int .i64 (chkEdits l)) := by
  refine good_fn nf isF173 mix (by simp [Tryz.f173]) ?_
  obtain ⟨h, h'⟩ := h
  rcases lt_cases 512 l.length with ⟨g1, g1'⟩ | ⟨g1, g1'⟩
  · have e : chkEdits l = 5 := by simp only [chkEdits]; rw [if_pos (by omega)]
    rw [e]
    simp [Tryz.f173, g1]
  have e : chkEdits l = chkEditsFrom l := by simp only [chkEdits]; rw [if_neg (by omega)]
  rw [e]
  simp [Tryz.f173, g1]
  refine lp (α := Nat) (fun i => ⟨[(12, .p (.int .i64 i)), (11, .p (.int .i64 l.length)), (10, .p (.seq (l.map eEdit)))], []⟩) (fun i => i ≤ l.length ∧ chkEditsFrom l = chkEditsFrom (l.drop i)) (fun i => l.length - i) 0 (by simp) ?_
  rintro i ⟨k1, k2⟩
  by_cases hi : i < l.length
  · rw [List.drop_eq_getElem_cons hi, chkEditsFrom, chkEdit] at k2
    have ⟨b0, b1, b2⟩ := h' _ (List.getElem_mem hi)
    have hw := wi1 (i := i) (by omega)
    have hk : (l[i].kind = [107, 101, 101, 112] ∧ known l[i].kind = true) ∨ (¬ l[i].kind = [107, 101, 101, 112] ∧ l[i].kind = [100, 114, 111, 112] ∧ known l[i].kind = true) ∨
        (¬ l[i].kind = [107, 101, 101, 112] ∧ ¬ l[i].kind = [100, 114, 111, 112] ∧ l[i].kind = [97, 100, 100] ∧ known l[i].kind = true) ∨
        (¬ l[i].kind = [107, 101, 101, 112] ∧ ¬ l[i].kind = [100, 114, 111, 112] ∧ ¬ l[i].kind = [97, 100, 100] ∧ known l[i].kind = false) := by
      by_cases q1 : l[i].kind = [107, 101, 101, 112]
      · simp [known, q1, kKeep]
      by_cases q2 : l[i].kind = [100, 114, 111, 112]
      · simp [known, q2, kDrop]
      by_cases q3 : l[i].kind = [97, 100, 100]
      · simp [known, q3, kAdd]
      · simp [known, q1, q2, q3, kKeep, kDrop, kAdd]
    rcases hk with ⟨q1, hkn⟩ | ⟨q1, q2, hkn⟩ | ⟨q1, q2, q3, hkn⟩ | ⟨q1, q2, q3, hkn⟩
    rotate_left 3
    · (
        have q4 : (l[i].kind == [97, 100, 100]) = false := by simpa using q3
        rw [hkn] at k2
        simp [hi, eEdit, eRow, *]
        refine e2 (c_when _ _) ?_
        simp
        refine e1 (c_named _ b1) ?_
        simp
        refine e1 (c_checkValues _ b2) ?_
        simp
        refine ep (h1 := ?h1) (c_first [whenE true 13, whenE (!isName l[i].row.key) 8, chkVals l[i].row.vals] (by simp)) (by simp; exact ⟨rfl, rfl⟩) (by simp; exact ⟨rfl, rfl⟩) ?_
        case h1 => simp
        have hE : firstE [whenE true 13, whenE (!isName l[i].row.key) 8, chkVals l[i].row.vals] = 13 := by simp [firstE, whenE]
        simp only [Bool.not_false, hE] at k2
        rw [if_neg (by omega)] at k2
        simp [hE, k2]
        rfl)
    all_goals
        rw [hkn] at k2
        simp [hi, eEdit, eRow, *]
        refine e2 (c_when _ _) ?_
        simp
        refine e1 (c_named _ b1) ?_
        simp
        refine e1 (c_checkValues _ b2) ?_
        simp
        refine ep (h1 := ?h1) (c_first [whenE false 13, whenE (!isName l[i].row.key) 8, chkVals l[i].row.vals] (by simp)) (by simp; exact ⟨rfl, rfl⟩) (by simp; exact ⟨rfl, rfl⟩) ?_
        case h1 => simp
        simp only [Bool.not_true] at k2
        generalize firstE [whenE false 13, whenE (!isName l[i].row.key) 8, chkVals l[i].row.vals] = E at *
        by_cases hE : E = 0
        · rw [if_pos hE] at k2
          simp [hE, hw]
          refine ⟨rfl, ?_⟩
          exact rd (i + 1) ⟨hi, k2⟩
        · rw [if_neg hE] at k2
          simp [hE, k2]
          rfl
  · have : i = l.length := by omega
    subst this
    rw [List.drop_length, chkEditsFrom] at k2
    simp [k2]
end Go.Abs

/-
  Walks: copies of rows and edits, sizes.
-/
namespace Go.Abs
open Go.Proofs
set_option maxHeartbeats 4000000
set_option maxRecDepth 100000

theorem c_own (l : List RowD) (h : l.length ≤ 1048576) : GoodC Tryz.prog 29 [.seq (l.map eRow)] (.seq (l.map eRow)) := by
  refine good_fn nf isF29 mix (by simp [Tryz.f29]) ?_
  simp [Tryz.f29]
  refine lp (α := Nat) (fun i => ⟨[(8, .p (.int .i64 i)), (7, .p (.int .i64 l.length)), (6, .p (.seq (l.map eRow))), (3, .sl 0 i 2 0 i)], [.arr .grow i 2 ((l.map fun r => .p (eRow r)).take i)]⟩) (fun i => i ≤ l.length) (fun i => l.length - i) 0 (by simp) ?_
  rintro i k1
  by_cases hi : i < l.length
  · have hw := wi1 (i := i) (by omega)
    have ht := take_next (fun r => AV.p (eRow r)) hi
    simp [hi]
    refine ⟨⟨by omega, by simp [maxL]; omega⟩, ?_⟩
    exact rd (i + 1) hi (he := by simp [hw]) (hh := by simp [ht]) (hr2 := by simp [ht])
  · have : i = l.length := by omega
    subst this
    simp

theorem c_edits (l : List EditD) (h : l.length ≤ 1048576) : GoodC Tryz.prog 74 [.seq (l.map eEdit)] (.seq (l.map rEdit)) := by
  refine good_fn nf isF74 mix (by simp [Tryz.f74]) ?_
  simp [Tryz.f74]
  refine lp (α := Nat) (fun i => ⟨[(8, .p (.int .i64 i)), (7, .p (.int .i64 l.length)), (6, .p (.seq (l.map eEdit))), (3, .sl 0 i 3 0 i)], [.arr .grow i 3 ((l.map fun r => .p (rEdit r)).take i)]⟩) (fun i => i ≤ l.length) (fun i => l.length - i) 0 (by simp) ?_
  rintro i k1
  by_cases hi : i < l.length
  · have hw := wi1 (i := i) (by omega)
    have ht := take_next (fun r => AV.p (rEdit r)) hi
    have hE : rEdit l[i] = .st 267 [.str l[i].kind, eRow l[i].row] := rfl
    simp [hi, eEdit]
    refine ⟨⟨by omega, by simp [maxL]; omega⟩, ?_⟩
    exact rd (i + 1) hi (he := by simp [hw]) (hh := by simp [ht, hE]) (hr2 := by simp [ht])
  · have : i = l.length := by omega
    subst this
    simp

theorem c_shortRows (l : List RowD) (n : Nat) (h : l.length ≤ 1048576) (hn : n ≤ 100) : GoodC Tryz.prog 75 [.seq (l.map eRow), .int .i64 n] (.bool (shortRows l n)) := by
  refine good_fn nf isF75 mix (by simp [Tryz.f75]) ?_
  by_cases hs : (l.length ≤ n ∨ 256 < l.length) ∧ l.length ≤ 259
  · have e : shortRows l n = l.all shortRow := by
      have a1 : (decide (l.length ≤ n) || decide (256 < l.length)) = true := by simpa using hs.1
      simp only [shortRows, a1, decide_eq_true hs.2, Bool.true_and]
    rw [e]
    have g3 : ¬ (259 : Int) < l.length := by omega
    have g4 : (n : Int) < l.length ∧ ¬ (l.length : Int) ≤ 256 ∨ ¬ (n : Int) < l.length := by omega
    rcases g4 with ⟨g1, g2⟩ | g1
    · simp [Tryz.f75, g1, g2, g3]
      refine lp (α := Nat) (fun i => ⟨[(5, .p (.int .i64 i)), (0, .p (.seq (l.map eRow)))], []⟩) (fun i => i ≤ l.length ∧ (l.drop i).all shortRow = l.all shortRow) (fun i => l.length - i) 0 (by simp) ?_
      rintro i ⟨k1, k2⟩
      by_cases hi : i < l.length
      · rw [all_drop hi] at k2
        have hw := wi1 (i := i) (by omega)
        by_cases q1 : (60 : Int) < l[i].key.length
        · have e2 : l.all shortRow = false := by
            rw [← k2]; have : shortRow l[i] = false := by simp [shortRow]; omega
            rw [this]; rfl
          simp [hi, eRow, q1, e2]
        by_cases q2 : (19 : Int) < l[i].vals.length
        · have e2 : l.all shortRow = false := by
            rw [← k2]; have : shortRow l[i] = false := by simp [shortRow]; omega
            rw [this]; rfl
          simp [hi, eRow, q1, q2, e2]
        · have : shortRow l[i] = true := by simp [shortRow]; omega
          rw [this, Bool.true_and] at k2
          simp [hi, eRow, q1, q2, hw]
          exact rd (i + 1) ⟨hi, k2⟩
      · have : i = l.length := by omega
        subst this
        rw [List.drop_length, List.all_nil] at k2
        simp [← k2]
    · simp [Tryz.f75, g1, g3]
      refine lp (α := Nat) (fun i => ⟨[(5, .p (.int .i64 i)), (0, .p (.seq (l.map eRow)))], []⟩) (fun i => i ≤ l.length ∧ (l.drop i).all shortRow = l.all shortRow) (fun i => l.length - i) 0 (by simp) ?_
      rintro i ⟨k1, k2⟩
      by_cases hi : i < l.length
      · rw [all_drop hi] at k2
        have hw := wi1 (i := i) (by omega)
        by_cases q1 : (60 : Int) < l[i].key.length
        · have e2 : l.all shortRow = false := by
            rw [← k2]; have : shortRow l[i] = false := by simp [shortRow]; omega
            rw [this]; rfl
          simp [hi, eRow, q1, e2]
        by_cases q2 : (19 : Int) < l[i].vals.length
        · have e2 : l.all shortRow = false := by
            rw [← k2]; have : shortRow l[i] = false := by simp [shortRow]; omega
            rw [this]; rfl
          simp [hi, eRow, q1, q2, e2]
        · have : shortRow l[i] = true := by simp [shortRow]; omega
          rw [this, Bool.true_and] at k2
          simp [hi, eRow, q1, q2, hw]
          exact rd (i + 1) ⟨hi, k2⟩
      · have : i = l.length := by omega
        subst this
        rw [List.drop_length, List.all_nil] at k2
        simp [← k2]
  · have e : shortRows l n = false := by
      cases hc : shortRows l n
      · rfl
      · simp only [shortRows, Bool.and_eq_true, Bool.or_eq_true, decide_eq_true_eq] at hc; exact (hs hc.1).elim
    rw [e]
    rcases lt_cases n l.length with ⟨g1, g1'⟩ | ⟨g1, g1'⟩
    · by_cases g2 : (l.length : Int) ≤ 256
      · simp [Tryz.f75, g1, g2]
      · have g3 : (259 : Int) < l.length := by omega
        simp [Tryz.f75, g1, g2, g3]
    · exact (hs ⟨.inl (by omega), by omega⟩).elim
theorem c_shortEdits (l : List EditD) (n : Nat) (h : l.length ≤ 1048576) (hn : n ≤ 100) : GoodC Tryz.prog 76 [.seq (l.map rEdit), .int .i64 n] (.bool (shortEdits l n)) := by
  refine good_fn nf isF76 mix (by simp [Tryz.f76]) ?_
  by_cases hs : (l.length ≤ n ∨ 512 < l.length) ∧ l.length ≤ 515
  · have e : shortEdits l n = l.all shortEdit := by
      have a1 : (decide (l.length ≤ n) || decide (512 < l.length)) = true := by simpa using hs.1
      simp only [shortEdits, a1, decide_eq_true hs.2, Bool.true_and]
    rw [e]
    have g3 : ¬ (515 : Int) < l.length := by omega
    have g4 : (n : Int) < l.length ∧ ¬ (l.length : Int) ≤ 512 ∨ ¬ (n : Int) < l.length := by omega
    rcases g4 with ⟨g1, g2⟩ | g1
    · simp [Tryz.f76, g1, g2, g3]
      refine lp (α := Nat) (fun i => ⟨[(5, .p (.int .i64 i)), (0, .p (.seq (l.map rEdit)))], []⟩) (fun i => i ≤ l.length ∧ (l.drop i).all shortEdit = l.all shortEdit) (fun i => l.length - i) 0 (by simp) ?_
      rintro i ⟨k1, k2⟩
      by_cases hi : i < l.length
      · rw [all_drop hi] at k2
        have hw := wi1 (i := i) (by omega)
        by_cases q0 : (60 : Int) < l[i].kind.length
        · have e2 : l.all shortEdit = false := by
            rw [← k2]; have : shortEdit l[i] = false := by simp [shortEdit, shortRow]; omega
            rw [this]; rfl
          simp [hi, rEdit, eRow, q0, e2]
        by_cases q1 : (60 : Int) < l[i].row.key.length
        · have e2 : l.all shortEdit = false := by
            rw [← k2]; have : shortEdit l[i] = false := by simp [shortEdit, shortRow]; omega
            rw [this]; rfl
          simp [hi, rEdit, eRow, q0, q1, e2]
        by_cases q2 : (19 : Int) < l[i].row.vals.length
        · have e2 : l.all shortEdit = false := by
            rw [← k2]; have : shortEdit l[i] = false := by simp [shortEdit, shortRow]; omega
            rw [this]; rfl
          simp [hi, rEdit, eRow, q0, q1, q2, e2]
        · have : shortEdit l[i] = true := by simp [shortEdit, shortRow]; omega
          rw [this, Bool.true_and] at k2
          simp [hi, rEdit, eRow, q0, q1, q2, hw]
          exact rd (i + 1) ⟨hi, k2⟩
      · have : i = l.length := by omega
        subst this
        rw [List.drop_length, List.all_nil] at k2
        simp [← k2]
    · simp [Tryz.f76, g1, g3]
      refine lp (α := Nat) (fun i => ⟨[(5, .p (.int .i64 i)), (0, .p (.seq (l.map rEdit)))], []⟩) (fun i => i ≤ l.length ∧ (l.drop i).all shortEdit = l.all shortEdit) (fun i => l.length - i) 0 (by simp) ?_
      rintro i ⟨k1, k2⟩
      by_cases hi : i < l.length
      · rw [all_drop hi] at k2
        have hw := wi1 (i := i) (by omega)
        by_cases q0 : (60 : Int) < l[i].kind.length
        · have e2 : l.all shortEdit = false := by
            rw [← k2]; have : shortEdit l[i] = false := by simp [shortEdit, shortRow]; omega
            rw [this]; rfl
          simp [hi, rEdit, eRow, q0, e2]
        by_cases q1 : (60 : Int) < l[i].row.key.length
        · have e2 : l.all shortEdit = false := by
            rw [← k2]; have : shortEdit l[i] = false := by simp [shortEdit, shortRow]; omega
            rw [this]; rfl
          simp [hi, rEdit, eRow, q0, q1, e2]
        by_cases q2 : (19 : Int) < l[i].row.vals.length
        · have e2 : l.all shortEdit = false := by
            rw [← k2]; have : shortEdit l[i] = false := by simp [shortEdit, shortRow]; omega
            rw [this]; rfl
          simp [hi, rEdit, eRow, q0, q1, q2, e2]
        · have : shortEdit l[i] = true := by simp [shortEdit, shortRow]; omega
          rw [this, Bool.true_and] at k2
          simp [hi, rEdit, eRow, q0, q1, q2, hw]
          exact rd (i + 1) ⟨hi, k2⟩
      · have : i = l.length := by omega
        subst this
        rw [List.drop_length, List.all_nil] at k2
        simp [← k2]
  · have e : shortEdits l n = false := by
      cases hc : shortEdits l n
      · rfl
      · simp only [shortEdits, Bool.and_eq_true, Bool.or_eq_true, decide_eq_true_eq] at hc; exact (hs hc.1).elim
    rw [e]
    rcases lt_cases n l.length with ⟨g1, g1'⟩ | ⟨g1, g1'⟩
    · by_cases g2 : (l.length : Int) ≤ 512
      · simp [Tryz.f76, g1, g2]
      · have g3 : (515 : Int) < l.length := by omega
        simp [Tryz.f76, g1, g2, g3]
    · exact (hs ⟨.inl (by omega), by omega⟩).elim
end Go.Abs

/-
  Walks: copies, inverses.
-/
namespace Go.Abs
open Go.Proofs
set_option maxHeartbeats 4000000
set_option maxRecDepth 100000
theorem shp_map {α : Type} {sz : Nat} {f : α → AV} {l : List α} (h : ∀ x, shpA (f x) ≠ .bad ∧ shpSize Tryz.prog (shpA (f x)) = sz) : allShp Tryz.prog sz (l.map f) := by
  rw [allShp_iff]; intro v hv; simp only [List.mem_map] at hv; obtain ⟨x, _, rfl⟩ := hv; exact h x
theorem c_clone (l : List Int) (h : l.length ≤ 1048576) : GoodC Tryz.prog 158 [.seq (l.map (.int .i64))] (.seq (l.map (.int .i64))) := by
  cases l with
  | nil =>
    refine .inl (goodP_seq_nil (pre := []) (post := []) ?_ ?_)
    · refine goodP_fn nf isF158 mix (by simp [Tryz.f158]) ?_
      simp [Tryz.f158]
    · refine goodP_fn nf isF158 mix (by simp [Tryz.f158]) ?_
      simp [Tryz.f158, maxL]
  | cons a r =>
    refine good_fn nf isF158 mix (by simp [Tryz.f158]) ?_
    simp at h
    simp [Tryz.f158]
    exact ⟨shp_map (by simp), by simp [maxL]; omega⟩

theorem c_copied (r : RowD) (h : rowB r) : GoodC Tryz.prog 141 [eRow r] (eRow r) := by
  refine good_fn nf isF141 mix (by simp [Tryz.f141]) ?_
  simp [Tryz.f141, eRow]
  refine e1 (c_clone r.vals h.2) ?_
  simp

theorem c_edited (k : List Nat) (r : RowD) (h : rowB r) : GoodC Tryz.prog 172 [.str k, eRow r] (eEdit ⟨k, r⟩) := by
  refine good_fn nf isF172 mix (by simp [Tryz.f172]) ?_
  simp [Tryz.f172, eRow, eEdit]
  refine c1 (c_copied r h) ?_
  simp [eRow]

def invK (k : List Nat) : List Nat := if k = kAdd then kDrop else if k = kDrop then kAdd else k
def inv (e : EditD) : EditD := ⟨invK e.kind, e.row⟩
theorem known_iff {k : List Nat} : known k = true ↔ k = kKeep ∨ k = kDrop ∨ k = kAdd := by simp [known, or_assoc]

theorem c_invert1 (e : EditD) (h : editB e) (hk : known e.kind = true) : GoodC Tryz.prog 175 [eEdit e] (eEdit (inv e)) := by
  refine good_fn nf isF175 mix (by simp [Tryz.f175]) ?_
  obtain ⟨k, r⟩ := e
  rcases known_iff.1 hk with hk | hk | hk <;> simp only at hk <;> subst hk
  · simp [Tryz.f175, eEdit, eRow, inv, invK, kKeep, kDrop, kAdd]
    refine c2 (c_edited [107, 101, 101, 112] r h.2) ?_
    simp [eEdit, eRow]
  · simp [Tryz.f175, eEdit, eRow, inv, invK, kDrop, kAdd]
    refine c2 (c_edited [97, 100, 100] r h.2) ?_
    simp [eEdit, eRow]
  · simp [Tryz.f175, eEdit, eRow, inv, invK, kDrop, kAdd]
    refine c2 (c_edited [100, 114, 111, 112] r h.2) ?_
    simp [eEdit, eRow]

theorem c_mappedEE {g : FuncId} {F : EditD → EditD} (l : List EditD) (h : l.length ≤ 1048576) (hg : ∀ e ∈ l, GoodC Tryz.prog g [eEdit e] (eEdit (F e))) :
    GoodC Tryz.prog 174 [.seq (l.map eEdit), .func g [] []] (.seq ((l.map F).map eEdit)) := by
  refine good_fn nf isF174 mix (by simp [Tryz.f174]) ?_
  simp [Tryz.f174]
  refine lp (α := Nat) (fun i => ⟨[(10, .p (.int .i64 i)), (9, .p (.int .i64 l.length)), (8, .p (.seq (l.map eEdit))), (5, .sl 0 i 3 0 i), (1, .p (.func g [] []))], [.arr .grow i 3 ((l.map fun e => .p (eEdit (F e))).take i)]⟩) (fun i => i ≤ l.length) (fun i => l.length - i) 0 (by simp) ?_
  rintro i k1
  by_cases hi : i < l.length
  · have hw := wi1 (i := i) (by omega)
    have ht := take_next (fun r => AV.p (eEdit (F r))) hi
    have hs : shp (eEdit l[i]) = .agg 265 := rfl
    have hs2 : shp (eEdit (F l[i])) = .agg 265 := rfl
    simp [hi, hs]
    refine c1 (hg _ (List.getElem_mem hi)) ?_
    simp [hs2]
    refine ⟨⟨by omega, by simp [maxL]; omega⟩, ?_⟩
    exact rd (i + 1) hi (he := by simp [hw]) (hh := by simp [ht]) (hr2 := by simp [ht])
  · have : i = l.length := by omega
    subst this
    simp

theorem editsB_known {l : List EditD} (h : chkEdits l = 0) : ∀ e ∈ l, known e.kind = true := by
  have h2 : chkEditsFrom l = 0 := by
    simp only [chkEdits] at h
    split at h
    · omega
    · exact h
  clear h
  induction l with
  | nil => intro e he; cases he
  | cons a r ih =>
    rw [chkE_next] at h2
    intro e he
    cases hk : known a.kind
    · rw [hk, if_pos rfl] at h2; omega
    rw [hk, if_neg (by simp)] at h2
    split at h2
    · omega
    split at h2
    · rename_i h3; exact (h3 h2).elim
    · rcases List.mem_cons.1 he with rfl | he
      · exact hk
      · exact ih h2 e he

def invertS (l : List EditD) : List EditD := if chkEdits l = 0 then l.map inv else []
theorem c_invert (l : List EditD) (h : editsB l) : GoodC Tryz.prog 79 [.seq (l.map eEdit)] (.tup [.seq ((invertS l).map eEdit), .int .i64 (chkEdits l)]) := by
  refine good_fn nf isF79 mix (by simp [Tryz.f79]) ?_
  simp [Tryz.f79]
  refine c1 (c_checkEdits l h) ?_
  by_cases hz : chkEdits l = 0
  · have e : invertS l = l.map inv := by simp only [invertS]; rw [if_pos hz]
    simp [hz]
    refine c2 (c_mappedEE l h.1 fun e he => c_invert1 e (h.2 e he) (editsB_known hz e he)) ?_
    simp [e, hz]
  · have e : invertS l = [] := by simp only [invertS]; rw [if_neg hz]
    simp [hz, e]

theorem c_invertR (l : List EditD) (h : l.length ≤ 1048576) : GoodC Tryz.prog 83 [.seq (l.map rEdit)] (.seq ((l.map inv).map rEdit)) := by
  refine good_fn nf isF83 mix (by simp [Tryz.f83]) ?_
  simp [Tryz.f83]
  refine lp (α := Nat) (fun i => ⟨[(4, .p (.int .i64 i)), (3, .sl 0 i 3 0 i), (0, .p (.seq (l.map rEdit)))], [.arr .grow i 3 ((l.map fun e => .p (rEdit (inv e))).take i)]⟩) (fun i => i ≤ l.length) (fun i => l.length - i) 0 (by simp) ?_
  rintro i k1
  by_cases hi : i < l.length
  · have hw := wi1 (i := i) (by omega)
    have ht := take_next (fun r => AV.p (rEdit (inv r))) hi
    have hs : rEdit l[i] = .st 267 [.str l[i].kind, eRow l[i].row] := rfl
    by_cases q1 : l[i].kind = [97, 100, 100]
    · have hE : rEdit (inv l[i]) = .st 267 [.str [100, 114, 111, 112], eRow l[i].row] := by simp [rEdit, inv, invK, q1, kAdd, kDrop]
      simp [hi, hs, q1]
      refine ⟨⟨by omega, by simp [maxL]; omega⟩, ?_⟩
      exact rd (i + 1) hi (he := by simp [hw]) (hh := by simp [ht, hE]) (hr2 := by simp [ht])
    by_cases q2 : l[i].kind = [100, 114, 111, 112]
    · have hE : rEdit (inv l[i]) = .st 267 [.str [97, 100, 100], eRow l[i].row] := by simp [rEdit, inv, invK, q2, kAdd, kDrop]
      simp [hi, hs, q2]
      refine ⟨⟨by omega, by simp [maxL]; omega⟩, ?_⟩
      exact rd (i + 1) hi (he := by simp [hw]) (hh := by simp [ht, hE]) (hr2 := by simp [ht])
    · have hE : rEdit (inv l[i]) = .st 267 [.str l[i].kind, eRow l[i].row] := by simp [rEdit, inv, invK, q1, q2, kAdd, kDrop]
      simp [hi, hs, q1, q2]
      refine ⟨⟨by omega, by simp [maxL]; omega⟩, ?_⟩
      exact rd (i + 1) hi (he := by simp [hw]) (hh := by simp [ht, hE]) (hr2 := by simp [ht])
  · have : i = l.length := by omega
    subst this
    simp
end Go.Abs
