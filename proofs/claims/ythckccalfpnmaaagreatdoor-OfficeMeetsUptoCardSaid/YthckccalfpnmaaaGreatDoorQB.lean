import Derived.Test.YthckccalfpnmaaaGreatDoorPF
/-
  The least script: where it leads, what it costs.
-/
set_option linter.unusedSimpArgs false
set_option linter.unusedVariables false
set_option linter.unusedSectionVars false
namespace Go.Abs
open Go.Proofs
/-- a row without an error of its own -/
def okRow (r : RowD) : Prop := isName r.key = true ∧ chkVals r.vals = 0
theorem first3 {x y z : Int} : firstE [x, y, z] = 0 ↔ x = 0 ∧ y = 0 ∧ z = 0 := by
  simp only [firstE]; repeat' split
  all_goals (first | (constructor <;> (intro h; omega)) | omega)
theorem when0 {b : Bool} {e : Int} (he : e ≠ 0) : whenE b e = 0 ↔ b = false := by cases b <;> simp [whenE, he]
theorem chkRowsFrom_ok : ∀ (l : List RowD) (seen : List (List Nat)), chkRowsFrom seen l = 0 → ∀ r ∈ l, okRow r
  | [], _, _ => fun r hr => by cases hr
  | x :: l, seen, h => by
    simp only [chkRowsFrom] at h
    split at h
    · rename_i h1
      rw [first3, when0 (by omega), when0 (by omega)] at h1
      intro r hr
      rcases List.mem_cons.1 hr with rfl | hr
      · exact ⟨by simpa using h1.1, h1.2.2⟩
      · exact chkRowsFrom_ok l _ h r hr
    · rename_i h1; exact (h1 h).elim
theorem chkRows_ok {l : List RowD} (h : chkRows l = 0) : l.length ≤ 256 ∧ ∀ r ∈ l, okRow r := by
  simp only [chkRows] at h
  split at h
  · omega
  · exact ⟨by omega, chkRowsFrom_ok l [] h⟩
theorem chkEdit_zero {e : EditD} : chkEdit e = 0 ↔ known e.kind = true ∧ okRow e.row := by
  rw [chkEdit, first3, when0 (by omega), when0 (by omega), okRow]
  simp
theorem chkEditsFrom_zero : ∀ {l : List EditD}, chkEditsFrom l = 0 ↔ ∀ e ∈ l, chkEdit e = 0
  | [] => by simp [chkEditsFrom]
  | x :: l => by
    simp only [chkEditsFrom, List.mem_cons, forall_eq_or_imp, ← chkEditsFrom_zero (l := l)]
    split
    · rename_i h; simp [h]
    · rename_i h; simp [h]
theorem chkEdits_zero {l : List EditD} : chkEdits l = 0 ↔ l.length ≤ 512 ∧ ∀ e ∈ l, known e.kind = true ∧ okRow e.row := by
  simp only [chkEdits]
  split
  · rename_i h; constructor
    · intro h; omega
    · intro h; omega
  · rename_i h
    rw [chkEditsFrom_zero]
    simp only [chkEdit_zero]
    constructor
    · intro h2; exact ⟨by omega, h2⟩
    · intro h2; exact h2.2
theorem diffS_ok : ∀ (a b : List RowD), (∀ r ∈ a, okRow r) → (∀ r ∈ b, okRow r) → ∀ e ∈ diffS a b, known e.kind = true ∧ okRow e.row
  | [], [], _, _ => by intro e he; simp [diffS] at he
  | [], y :: b, ha, hb => by
    rw [diffS]; intro e he
    rcases List.mem_cons.1 he with rfl | he
    · exact ⟨rfl, hb y List.mem_cons_self⟩
    · exact diffS_ok [] b ha (fun r hr => hb r (List.mem_cons_of_mem _ hr)) e he
  | x :: a, [], ha, hb => by
    rw [diffS]; intro e he
    rcases List.mem_cons.1 he with rfl | he
    · exact ⟨rfl, ha x List.mem_cons_self⟩
    · exact diffS_ok a [] (fun r hr => ha r (List.mem_cons_of_mem _ hr)) hb e he
  | x :: a, y :: b, ha, hb => by
    have ha' : ∀ r ∈ a, okRow r := fun r hr => ha r (List.mem_cons_of_mem _ hr)
    have hb' : ∀ r ∈ b, okRow r := fun r hr => hb r (List.mem_cons_of_mem _ hr)
    rw [diffS]
    split
    · intro e he
      rcases List.mem_cons.1 he with rfl | he
      · exact ⟨rfl, ha x List.mem_cons_self⟩
      · exact diffS_ok a b ha' hb' e he
    split
    · intro e he
      rcases List.mem_cons.1 he with rfl | he
      · exact ⟨rfl, ha x List.mem_cons_self⟩
      · exact diffS_ok a (y :: b) ha' hb e he
    · intro e he
      rcases List.mem_cons.1 he with rfl | he
      · exact ⟨rfl, hb y List.mem_cons_self⟩
      · exact diffS_ok (x :: a) b ha hb' e he
  termination_by a b => a.length + b.length

/-- a script that leads from rows to rows, and its cost -/
inductive Leads : List RowD → List EditD → List RowD → Nat → Prop
  | nil : Leads [] [] [] 0
  | keep {a l b n} (r : RowD) (h : Leads a l b n) : Leads (r :: a) (⟨kKeep, r⟩ :: l) (r :: b) n
  | drop {a l b n} (r : RowD) (h : Leads a l b n) : Leads (r :: a) (⟨kDrop, r⟩ :: l) b (n + 1)
  | add {a l b n} (r : RowD) (h : Leads a l b n) : Leads a (⟨kAdd, r⟩ :: l) (r :: b) (n + 1)

theorem Leads.go {a l b n} (h : Leads a l b n) : ∀ out, patchGo a out l = some ([], out ++ b) := by
  induction h with
  | nil => intro out; simp [patchGo]
  | keep r h ih => intro out; simp [patchGo, kKeep, kAdd, kDrop, ih]
  | drop r h ih => intro out; simp [patchGo, kAdd, kDrop, ih]
  | add r h ih => intro out; simp [patchGo, ih]
theorem Leads.of : ∀ {l : List EditD} {a out o : List RowD}, (∀ e ∈ l, known e.kind = true) → patchGo a out l = some ([], o) → ∃ b n, o = out ++ b ∧ Leads a l b n
  | [], a, out, o, _, h => by
    simp only [patchGo, Option.some.injEq, Prod.mk.injEq] at h
    obtain ⟨rfl, rfl⟩ := h
    exact ⟨[], 0, by simp, .nil⟩
  | ⟨k, r⟩ :: l, a, out, o, hk, h => by
    have hk' : ∀ e ∈ l, known e.kind = true := fun e he => hk e (List.mem_cons_of_mem _ he)
    rcases known_iff.1 (hk _ List.mem_cons_self) with h1 | h1 | h1 <;> simp only at h1 <;> subst h1
    · cases a with
      | nil => simp [patchGo, kKeep, kAdd] at h
      | cons x a =>
        simp [patchGo, kKeep, kAdd, kDrop] at h
        obtain ⟨rfl, h⟩ := h
        obtain ⟨b, n, rfl, h2⟩ := Leads.of hk' h
        exact ⟨x :: b, n, by simp, .keep x h2⟩
    · cases a with
      | nil => simp [patchGo, kDrop, kAdd] at h
      | cons x a =>
        simp [patchGo, kAdd, kDrop] at h
        obtain ⟨rfl, h⟩ := h
        obtain ⟨b, n, rfl, h2⟩ := Leads.of hk' h
        exact ⟨b, n + 1, by simp, .drop x h2⟩
    · simp [patchGo] at h
      obtain ⟨b, n, rfl, h2⟩ := Leads.of hk' h
      exact ⟨r :: b, n + 1, by simp, .add r h2⟩
theorem Leads.inv {a l b n} (h : Leads a l b n) : Leads b (l.map inv) a n := by
  induction h with
  | nil => exact .nil
  | keep r h ih => simpa [Go.Abs.inv, invK, kKeep, kAdd, kDrop] using Leads.keep r ih
  | drop r h ih => simpa [Go.Abs.inv, invK, kAdd, kDrop] using Leads.add r ih
  | add r h ih => simpa [Go.Abs.inv, invK, kAdd, kDrop] using Leads.drop r ih
theorem cst_nil (a : List RowD) : cst a [] = a.length := by cases a <;> simp [cst]
theorem Leads.least {a l b n} (h : Leads a l b n) : cst a b ≤ n := by
  induction h with
  | nil => simp [cst]
  | keep r h ih => rw [cst, if_pos rfl]; omega
  | @drop a l b n r h ih =>
    cases b with
    | nil => rw [cst_nil] at *; simp; omega
    | cons y b => rw [cst]; split <;> omega
  | @add a l b n r h ih =>
    cases a with
    | nil => simp only [cst] at *; simp; omega
    | cons y b => rw [cst]; split <;> omega
theorem diffS_leads : ∀ (a b : List RowD), Leads a (diffS a b) b (cst a b)
  | [], [] => by simp only [diffS, cst]; exact .nil
  | [], y :: b => by
    have := diffS_leads [] b
    simp only [cst] at this
    rw [diffS]; simp only [cst]
    exact .add y this
  | x :: a, [] => by
    have := diffS_leads a []
    rw [cst_nil] at this
    rw [diffS, cst_nil]
    exact .drop x this
  | x :: a, y :: b => by
    rw [diffS]
    split
    · rename_i h
      obtain ⟨rfl, h⟩ := h
      rw [h]
      exact .keep x (diffS_leads a b)
    split
    · rename_i h; rw [h, Nat.add_comm]
      exact .drop x (diffS_leads a (y :: b))
    · rename_i h1 h2
      have : cst (x :: a) (y :: b) = cst (x :: a) b + 1 := by
        rw [cst] at h1 h2 ⊢
        split at h1
        · rename_i h; subst h; rw [if_pos rfl] at h2 ⊢; simp only [true_and] at h1; omega
        · rename_i h; rw [if_neg h] at h2 ⊢; omega
      rw [this]
      exact .add y (diffS_leads (x :: a) b)
  termination_by a b => a.length + b.length
/-- scripts one behind the other -/
theorem Leads.comp : ∀ (k : Nat) {a l c m l' b n}, l.length + l'.length ≤ k → Leads a l c m → Leads c l' b n → ∃ l'' p, Leads a l'' b p ∧ p ≤ m + n := by
  intro k
  induction k with
  | zero =>
    intro a l c m l' b n hk h1 h2
    have e1 : l = [] := List.length_eq_zero_iff.1 (by omega)
    have e2 : l' = [] := List.length_eq_zero_iff.1 (by omega)
    subst e1; subst e2
    cases h1; cases h2
    exact ⟨[], 0, .nil, by omega⟩
  | succ k ih =>
    intro a l c m l' b n hk h1 h2
    cases h1 with
    | nil => exact ⟨_, _, h2, by omega⟩
    | drop r h =>
      obtain ⟨l2, p, h3, h4⟩ := ih (by simp at hk; omega) h h2
      exact ⟨_, _, .drop r h3, by omega⟩
    | keep r h =>
      cases h2 with
      | keep _ h' =>
        obtain ⟨l2, p, h3, h4⟩ := ih (by simp at hk; omega) h h'
        exact ⟨_, _, .keep r h3, by omega⟩
      | drop _ h' =>
        obtain ⟨l2, p, h3, h4⟩ := ih (by simp at hk; omega) h h'
        exact ⟨_, _, .drop r h3, by omega⟩
      | add s h' =>
        obtain ⟨l2, p, h3, h4⟩ := ih (by simp at hk ⊢; omega) (Leads.keep r h) h'
        exact ⟨_, _, .add s h3, by omega⟩
    | add r h =>
      cases h2 with
      | keep _ h' =>
        obtain ⟨l2, p, h3, h4⟩ := ih (by simp at hk; omega) h h'
        exact ⟨_, _, .add r h3, by omega⟩
      | drop _ h' =>
        obtain ⟨l2, p, h3, h4⟩ := ih (by simp at hk; omega) h h'
        exact ⟨_, _, h3, by omega⟩
      | add s h' =>
        obtain ⟨l2, p, h3, h4⟩ := ih (by simp at hk ⊢; omega) (Leads.add r h) h'
        exact ⟨_, _, .add s h3, by omega⟩
theorem cst_tri (a c b : List RowD) : cst a b ≤ cst a c + cst c b := by
  obtain ⟨l, p, h, hp⟩ := Leads.comp _ (Nat.le_refl _) (diffS_leads a c) (diffS_leads c b)
  have := h.least; omega
theorem cst_self : ∀ (a : List RowD), cst a a = 0
  | [] => by simp [cst]
  | x :: a => by rw [cst, if_pos rfl, cst_self a]; omega
/-- the cost as the reference counts it -/
def costE : List EditD → Nat
  | [] => 0
  | e :: l => (if e.kind = kKeep then 0 else 1) + costE l
theorem Leads.cost {a l b n} (h : Leads a l b n) : costE l = n := by
  induction h with
  | nil => rfl
  | keep r h ih => simp [costE, ih]
  | drop r h ih => simp [costE, ih, kDrop, kKeep]; omega
  | add r h ih => simp [costE, ih, kAdd, kKeep]; omega
theorem diffS_self : ∀ (a : List RowD), diffS a a = a.map fun r => ⟨kKeep, r⟩
  | [] => by simp [diffS]
  | x :: a => by
    rw [diffS, if_pos ⟨rfl, by rw [cst_self, cst_self]⟩, diffS_self a]; rfl
theorem inv_inv {e : EditD} (h : known e.kind = true) : inv (inv e) = e := by
  obtain ⟨k, r⟩ := e
  rcases known_iff.1 h with h | h | h <;> simp only at h <;> subst h <;> simp [inv, invK, kAdd, kDrop, kKeep]
theorem known_inv {e : EditD} (h : known e.kind = true) : known (inv e).kind = true := by
  obtain ⟨k, r⟩ := e
  rcases known_iff.1 h with h | h | h <;> simp only at h <;> subst h <;> simp [inv, invK, kAdd, kDrop, kKeep, known]
theorem Leads.patch {a l b n} (h : Leads a l b n) (hb : chkRows b = 0) : patchC a l = (b, 0) := by
  simp [patchC, h.go, patchEnd, hb]
theorem patchS_leads {a c : List RowD} {l : List EditD} {e : Int} (h : patchS a l = (c, e)) (he : e = 0) : chkRows c = 0 ∧ ∃ n, Leads a l c n := by
  subst he
  simp only [patchS] at h
  split at h
  · rename_i h1; simp only [Prod.mk.injEq] at h; exact (h1 h.2).elim
  rename_i h1
  rw [Decidable.not_not, first2] at h1
  simp only [patchC] at h
  cases hg : patchGo a [] l with
  | none => rw [hg] at h; simp [patchEnd] at h
  | some p =>
    obtain ⟨rest, o⟩ := p
    rw [hg] at h
    simp only [patchEnd] at h
    split at h
    · simp at h
    rename_i h2
    split at h
    · rename_i h3; simp only [Prod.mk.injEq] at h; exact (h3 h.2).elim
    rename_i h3
    simp only [Prod.mk.injEq, and_true] at h
    subst h
    rw [Decidable.not_not] at h2 h3
    subst h2
    obtain ⟨b, n, hb, hl⟩ := Leads.of (fun e he => (chkEdits_zero.1 h1.2).2 e he |>.1) hg
    rw [List.nil_append] at hb
    subst hb
    exact ⟨h3, n, hl⟩
end Go.Abs

/-
  Walks: the law of the least script.
-/
namespace Go.Abs
open Go.Proofs
set_option maxHeartbeats 4000000
set_option maxRecDepth 100000
theorem costE_le : ∀ (l : List EditD), costE l ≤ l.length
  | [] => by simp [costE]
  | e :: l => by have := costE_le l; simp only [costE, List.length_cons]; split <;> omega
theorem costE_drop {l : List EditD} {i : Nat} (hi : i < l.length) : costE (l.drop i) = (if l[i].kind = kKeep then 0 else 1) + costE (l.drop (i + 1)) := by
  rw [List.drop_eq_getElem_cons hi, costE]
theorem c_cost (l : List EditD) (h : l.length ≤ 1048576) : GoodC Tryz.prog 85 [.seq (l.map rEdit)] (.int .i64 (costE l)) := by
  refine good_fn nf isF85 mix (by simp [Tryz.f85]) ?_
  simp [Tryz.f85]
  refine lp (α := Nat × Nat) (fun (i, n) => ⟨[(4, .p (.int .i64 i)), (3, .p (.int .i64 n)), (0, .p (.seq (l.map rEdit)))], []⟩) (fun (i, n) => i ≤ l.length ∧ n ≤ i ∧ n + costE (l.drop i) = costE l) (fun (i, _) => l.length - i) (0, 0) (by simp) ?_
  rintro ⟨i, n⟩ ⟨h1, h2, h3⟩
  dsimp only at h1 h2 h3 ⊢
  by_cases hi : i < l.length
  · have hw := wi1 (i := i) (by omega)
    have hw2 := wi1 (i := n) (by omega)
    rw [costE_drop hi] at h3
    have hr : rEdit l[i] = .st 267 [.str l[i].kind, eRow l[i].row] := rfl
    by_cases hk : l[i].kind = kKeep
    · rw [if_pos hk] at h3
      have hk' : l[i].kind = [107, 101, 101, 112] := hk
      simp [hi, hr, hk', hw]
      exact rd (i + 1, n) ⟨hi, by dsimp only; omega, by dsimp only; omega⟩ (h1 := by dsimp only; omega)
    · rw [if_neg hk] at h3
      have hk' : ¬ l[i].kind = [107, 101, 101, 112] := hk
      simp [hi, hr, hk', hw, hw2]
      exact rd (i + 1, n + 1) ⟨hi, by dsimp only; omega, by dsimp only; omega⟩ (h1 := by dsimp only; omega)
  · have : i = l.length := by omega
    subst this
    simp [costE] at h3
    simp [h3]
end Go.Abs

/-
  Walks: the law of the least script, all of it.
-/
namespace Go.Abs
open Go.Proofs
set_option maxHeartbeats 4000000
set_option maxRecDepth 100000
theorem diffS_chk {a b : List RowD} (ha : chkRows a = 0) (hb : chkRows b = 0) : chkEdits (diffS a b) = 0 := by
  have h1 := chkRows_ok ha
  have h2 := chkRows_ok hb
  rw [chkEdits_zero]
  exact ⟨by have := diffS_len a b; omega, diffS_ok a b h1.2 h2.2⟩
theorem patchS_of {a b : List RowD} {l : List EditD} {n : Nat} (ha : chkRows a = 0) (hb : chkRows b = 0) (hl : chkEdits l = 0) (h : Leads a l b n) : patchS a l = (b, 0) := by
  simp only [patchS]; rw [if_neg (by rw [Decidable.not_not, first2]; exact ⟨ha, hl⟩), h.patch hb]
theorem inv_chk {l : List EditD} (h : chkEdits l = 0) : chkEdits (l.map inv) = 0 := by
  rw [chkEdits_zero] at *
  refine ⟨by simpa using h.1, fun e he => ?_⟩
  obtain ⟨x, hx, rfl⟩ := List.mem_map.1 he
  exact ⟨known_inv (h.2 x hx).1, (h.2 x hx).2⟩
theorem c_law13 (hw : GoodC Tryz.prog 17 [] (.bool true)) (a b : List RowD) (l : List EditD) (ha : a.length ≤ 1048576) (hb : b.length ≤ 1048576) (hl : l.length ≤ 1048576) :
    GoodC Tryz.prog 13 [.seq (a.map eRow), .seq (b.map eRow), .seq (l.map eEdit)] (.bool true) := by
  refine good_fn nf isF13 mix (by simp [Tryz.f13]) ?_
  simp [Tryz.f13]
  refine c1 (c_own a ha) ?_
  simp
  refine c1 (c_own b hb) ?_
  simp
  refine c1 (c_edits l hl) ?_
  simp
  refine c2 (c_shortRows a 8 ha (by omega)) ?_
  by_cases s1 : shortRows a 8 = true
  case neg =>
    simp [s1]
    refine c0 hw ?_
    simp
  simp [s1]
  refine c2 (c_shortRows b 8 hb (by omega)) ?_
  by_cases s2 : shortRows b 8 = true
  case neg =>
    simp [s2]
    refine c0 hw ?_
    simp
  simp [s2]
  refine c2 (c_shortEdits l 24 hl (by omega)) ?_
  by_cases s3 : shortEdits l 24 = true
  case neg =>
    simp [s3]
    refine c0 hw ?_
    simp
  simp [s3]
  obtain ⟨ra, la⟩ := short_rowsB s1
  obtain ⟨rb, lb⟩ := short_rowsB s2
  obtain ⟨re, le⟩ := short_editsB s3
  clear s1 s2 s3
  refine c1 (c_checkRowsR a ra) ?_
  simp
  refine c1 (c_checkRowsR b rb) ?_
  simp
  refine c1 (c_checkEditsR l re) ?_
  simp
  refine cp (h1 := ?g1) (c_lfirst [chkRows a, chkRows b, chkEdits l] (by simp)) (by simp; exact ⟨rfl, rfl⟩) ?_
  case g1 => simp
  by_cases hz : firstE [chkRows a, chkRows b, chkEdits l] = 0
  case neg =>
    simp [hz]
    refine c0 hw ?_
    simp
  by_cases l1 : (8 : Int) < (a.length : Int)
  case pos =>
    simp [hz, l1]
    refine c0 hw ?_
    simp
  by_cases l2 : (8 : Int) < (b.length : Int)
  case pos =>
    simp [hz, l1, l2]
    refine c0 hw ?_
    simp
  simp [hz, l1, l2]
  rw [first3] at hz
  obtain ⟨z1, z2, z3⟩ := hz
  have dL := diffS_leads a b
  have dC := diffS_chk z1 z2
  have dB := diffS_edB ra rb (by omega) (by omega)
  have vC := inv_chk dC
  have vB := invs_edB dB
  have e1 : patchS a (diffS a b) = (b, 0) := patchS_of z1 z2 dC dL
  have e2 : invertS (diffS a b) = (diffS a b).map inv := by simp only [invertS]; rw [if_pos dC]
  have e3 : patchS b ((diffS a b).map inv) = (a, 0) := patchS_of z2 z1 vC dL.inv
  have e4 : invertS ((diffS a b).map inv) = diffS a b := by
    simp only [invertS]; rw [if_pos vC, List.map_map]
    conv => rhs; rw [← List.map_id (diffS a b)]
    exact List.map_congr_left fun e he => inv_inv ((chkEdits_zero.1 dC).2 e he).1
  refine c2 (c_diff a b ra rb (first2.2 ⟨z1, z2⟩)) ?_
  simp
  refine c2 (c_patch a (diffS a b) ra dB) ?_
  simp [e1]
  refine c1 (c_invert (diffS a b) dB) ?_
  simp [e2, dC]
  refine c2 (c_patch b ((diffS a b).map inv) rb vB) ?_ (h2 := by simp)
  simp [e3]
  refine c1 (c_invert ((diffS a b).map inv) vB) ?_ (h1 := by simp)
  simp [e4, vC]
  refine c2 (c_diff a a ra ra (first2.2 ⟨z1, z1⟩)) ?_
  simp
  refine c1 (c_own b rb.1) ?_
  simp
  refine c2 (c_sameRows b b rb rb) ?_
  simp
  refine c1 (c_own a ra.1) ?_
  simp
  refine c2 (c_sameRows a a ra ra) ?_
  simp
  refine c1 (c_edits (diffS a b) dB.1) ?_
  simp
  refine c1 (c_edits (diffS a b) dB.1) ?_
  simp
  refine c2 (c_sameEdits (diffS a b) (diffS a b) dB dB) ?_
  simp
  have sB := diffS_edB ra ra (by omega) (by omega)
  have s0 : costE (diffS a a) = 0 := by rw [(diffS_leads a a).cost, cst_self]
  have sL : (diffS a a).length = a.length := by rw [diffS_self]; simp
  refine c1 (c_edits (diffS a a) sB.1) ?_
  simp
  refine c1 (c_cost (diffS a a) sB.1) ?_
  simp [s0, sL]
  cases hp : patchS a l with
  | mk c e =>
  refine c2 (c_patch a l ra re) ?_
  simp [hp]
  by_cases he : e = 0
  case neg =>
    simp [he]
    refine c0 hw ?_
    simp
  by_cases l3 : (40 : Int) < (c.length : Int)
  case pos =>
    simp [he, l3]
    refine c0 hw ?_
    simp
  simp [he, l3]
  obtain ⟨zc, n, hL⟩ := patchS_leads hp he
  have rc : rowsB c := by
    have := patchC_B (a := a) re
    have h2 : patchS a l = patchC a l := by simp only [patchS]; rw [if_neg (by rw [Decidable.not_not, first2]; exact ⟨z1, z3⟩)]
    rw [← h2, hp] at this
    exact this
  have c1B := diffS_edB ra rc (by omega) (by omega)
  have c2B := diffS_edB rc rb (by omega) (by omega)
  refine c2 (c_diff a c ra rc (first2.2 ⟨z1, zc⟩)) ?_
  simp
  refine c2 (c_diff c b rc rb (first2.2 ⟨zc, z2⟩)) ?_
  simp
  refine c1 (c_edits (diffS a c) c1B.1) ?_
  simp
  refine c1 (c_cost (diffS a c) c1B.1) ?_
  simp
  refine c1 (c_cost l re.1) ?_
  have q1 : (costE (diffS a c) : Int) ≤ costE l := by
    have := hL.least
    rw [(diffS_leads a c).cost, hL.cost]; omega
  simp [q1]
  refine c1 (c_edits (diffS a b) dB.1) ?_
  simp
  refine c1 (c_cost (diffS a b) dB.1) ?_
  simp
  refine c1 (c_edits (diffS a c) c1B.1) ?_
  simp
  refine c1 (c_cost (diffS a c) c1B.1) ?_
  simp
  refine c1 (c_edits (diffS c b) c2B.1) ?_
  simp
  refine c1 (c_cost (diffS c b) c2B.1) ?_
  have q2 : (costE (diffS a b) : Int) ≤ costE (diffS a c) + costE (diffS c b) := by
    have := cst_tri a c b
    rw [dL.cost, (diffS_leads a c).cost, (diffS_leads c b).cost]; omega
  have q3 : IntKind.i64.wrap ((costE (diffS a c) : Int) + (costE (diffS c b) : Int)) = (costE (diffS a c) : Int) + (costE (diffS c b) : Int) := by
    have h1 := costE_le (diffS a c)
    have h2 := costE_le (diffS c b)
    have h3 := c1B.1
    have h4 := c2B.1
    exact wi64 _ (by omega) (by omega)
  simp [q2, q3]
  refine c0 hw ?_
  simp
end Go.Abs
