import Derived.Test.YthckccalfpnmaaaGreatDoorRA
import Derived.Test.YthckccalfpnmaaaGreatDoorPB
import Derived.Shelf.Strings.Prefix
import Derived.Shelf.Strings.Trim
import Derived.Test.YthckccalfpnmaaaGreatDoorPA
/- Parts of a proof. -/
set_option linter.unusedSimpArgs false
set_option linter.unusedVariables false
set_option linter.unusedSectionVars false
namespace Go.Abs
open Go.Proofs
set_option maxHeartbeats 4000000
set_option maxRecDepth 100000
def digN (c : Nat) : Bool := decide (48 ≤ c) && decide (c ≤ 57)
def numT (s : List Nat) : Nat := s.foldl decV 0
def plainN (s : List Nat) : Bool := !decide (s.length = 0) && !decide (9 < s.length) && !(decide (1 < s.length) && decide (s.head? = some 48)) && s.all digN
def intR (s : List Nat) : Int × Bool := if plainN s = true then (numT s, true) else (0, false)
theorem wu8 (n : Int) (h1 : 0 ≤ n) (h2 : n < 256) : IntKind.u8.wrap n = n := by
  simp only [IntKind.wrap, IntKind.bits, IntKind.signed, Bool.false_and, Bool.false_eq_true, if_false]
  omega
theorem numT_snoc (s : List Nat) (c : Nat) : numT (s ++ [c]) = numT s * 10 + (c - 48) := by simp [numT, decV]
theorem numT_lt : ∀ (n : Nat) (s : List Nat), s.length = n → s.all digN = true → numT s < 10 ^ n
  | 0, s, h, _ => by have : s = [] := List.length_eq_zero_iff.1 h
                     subst this; simp [numT]
  | n + 1, s, h, ha => by
    have hne : s ≠ [] := by intro e; subst e; simp at h
    obtain ⟨t, c, rfl⟩ : ∃ t c, s = t ++ [c] := ⟨s.dropLast, s.getLast hne, (List.dropLast_concat_getLast hne).symm⟩
    simp only [List.all_append, List.all_cons, List.all_nil, Bool.and_true, Bool.and_eq_true] at ha
    have ih := numT_lt n t (by simpa using h) ha.1
    have hc := ha.2
    simp only [digN, Bool.and_eq_true, decide_eq_true_eq] at hc
    rw [numT_snoc, Nat.pow_succ]; omega
theorem c_integerR (s : List Nat) (h : s.length ≤ 1048576) (hb : ∀ c ∈ s, c < 256) : GoodC Tryz.prog 188 [.str s] (.tup [.int .i64 (intR s).1, .bool (intR s).2]) := by
  refine good_fn nf isF188 mix (by simp [Tryz.f188]) ?_
  by_cases h0 : s.length = 0
  · have e : plainN s = false := by simp [plainN, h0]
    simp [Tryz.f188, h0, intR, e]
  by_cases h9 : 9 < s.length
  · have e : plainN s = false := by simp [plainN, h9]
    have h0' : ¬ (s.length : Int) = 0 := by omega
    have h9' : (9 : Int) < (s.length : Int) := by omega
    simp [Tryz.f188, h0, h0', h9, h9', intR, e]
  have h0' : ¬ (s.length : Int) = 0 := by omega
  have h9' : ¬ (9 : Int) < (s.length : Int) := by omega
  have hp : 0 < s.length := by omega
  have hh : s.head? = some s[0] := by rw [List.head?_eq_getElem?, List.getElem?_eq_getElem hp]
  by_cases hz : 1 < s.length ∧ s[0] = 48
  · have e : plainN s = false := by simp [plainN, hh, hz.1, hz.2]
    have h1' : (1 : Int) < (s.length : Int) := by omega
    simp [Tryz.f188, h0, h0', h9, h9', h1', hz.1, hz.2, hp, intR, e]
  have hall : plainN s = s.all digN := by
    have : ¬ (1 < s.length ∧ s.head? = some 48) := by rw [hh]; intro h; exact hz ⟨h.1, by injection h.2⟩
    have h3 : (!(decide (1 < s.length) && decide (s.head? = some 48))) = true := by
      rw [Bool.not_eq_true', Bool.and_eq_false_iff, decide_eq_false_iff_not, decide_eq_false_iff_not]
      exact Decidable.not_and_iff_or_not.1 this
    simp only [plainN, h3, h0, h9, decide_false, Bool.not_false, Bool.true_and]
  have loop : 1 < s.length ∧ ¬ s[0] = 48 ∨ ¬ 1 < s.length := by
    by_cases h : 1 < s.length
    · exact .inl ⟨h, fun e => hz ⟨h, e⟩⟩
    · exact .inr h
  clear hz hh
  rcases loop with ⟨g1, g2⟩ | g1
  · have g1' : (1 : Int) < (s.length : Int) := by omega
    have g2' : ¬ ((s[0] : Nat) : Int) = 48 := by omega
    simp [Tryz.f188, h0, h0', h9, h9', g1', g1, g2, g2', hp]
    refine lp (α := Nat) (fun i => ⟨[(5, .p (.int .i64 i)), (4, .p (.int .i64 (numT (s.take i)))), (0, .p (.str s))], []⟩) (fun i => i ≤ s.length ∧ (s.take i).all digN = true) (fun i => s.length - i) 0 (by simp) ?_ (he := by simp [numT])
    rintro i ⟨k1, k2⟩
    have hw := wi1 (i := i) (by omega)
    by_cases hi : i < s.length
    · have hs := numT_snoc (s.take i) s[i]
      rw [← List.take_succ_eq_append_getElem hi] at hs
      have hall2 : (s.take (i + 1)).all digN = digN s[i] := by rw [List.take_succ_eq_append_getElem hi, List.all_append, k2]; simp
      have hlt := numT_lt i (s.take i) (by simp; omega) k2
      have hlt2 : numT (s.take i) < 10 ^ 9 := Nat.lt_of_lt_of_le hlt (Nat.pow_le_pow_right (by omega) (by omega))
      have hc := hb _ (List.getElem_mem hi)
      generalize hcc : s[i] = c at *
      by_cases q1 : c < 48
      · have q1' : (c : Int) < 48 := by omega
        have e : s.all digN = false := by
          rw [List.all_eq_false]; exact ⟨c, hcc ▸ List.getElem_mem hi, by simp [digN]; omega⟩
        simp [hi, hcc, q1, q1', intR, hall, e]
      · have q1' : ¬ (c : Int) < 48 := by omega
        by_cases q2 : 57 < c
        · have q2' : (57 : Int) < (c : Int) := by omega
          have e : s.all digN = false := by
            rw [List.all_eq_false]; exact ⟨c, hcc ▸ List.getElem_mem hi, by simp [digN]; omega⟩
          simp [hi, hcc, q1, q1', q2, q2', intR, hall, e]
        · have q2' : ¬ (57 : Int) < (c : Int) := by omega
          have w1 : IntKind.u8.wrap ((c : Int) - 48) = (c : Int) - 48 := wu8 _ (by omega) (by omega)
          have w2 : IntKind.i64.wrap ((c : Int) - 48) = (c : Int) - 48 := wi64 _ (by omega) (by omega)
          have w3 : IntKind.i64.wrap (10 * (numT (s.take i) : Int)) = 10 * (numT (s.take i) : Int) := wi64 _ (by omega) (by omega)
          have w4 : IntKind.i64.wrap (10 * (numT (s.take i) : Int) + ((c : Int) - 48)) = (numT (s.take (i + 1)) : Int) := by rw [wi64 _ (by omega) (by omega), hs]; omega
          simp [hi, hcc, q1, q1', q2, q2', w1, w2, w3, w4, hw]
          exact rd (i + 1) ⟨hi, by rw [hall2]; simp [digN]; omega⟩
    · have : i = s.length := by omega
      subst this
      rw [List.take_length] at k2
      simp [intR, hall, k2]
  · have g1' : ¬ (1 : Int) < (s.length : Int) := by omega
    simp [Tryz.f188, h0, h0', h9, h9', g1', g1, hp]
    refine lp (α := Nat) (fun i => ⟨[(5, .p (.int .i64 i)), (4, .p (.int .i64 (numT (s.take i)))), (0, .p (.str s))], []⟩) (fun i => i ≤ s.length ∧ (s.take i).all digN = true) (fun i => s.length - i) 0 (by simp) ?_ (he := by simp [numT])
    rintro i ⟨k1, k2⟩
    have hw := wi1 (i := i) (by omega)
    by_cases hi : i < s.length
    · have hs := numT_snoc (s.take i) s[i]
      rw [← List.take_succ_eq_append_getElem hi] at hs
      have hall2 : (s.take (i + 1)).all digN = digN s[i] := by rw [List.take_succ_eq_append_getElem hi, List.all_append, k2]; simp
      have hlt := numT_lt i (s.take i) (by simp; omega) k2
      have hlt2 : numT (s.take i) < 10 ^ 9 := Nat.lt_of_lt_of_le hlt (Nat.pow_le_pow_right (by omega) (by omega))
      have hc := hb _ (List.getElem_mem hi)
      generalize hcc : s[i] = c at *
      by_cases q1 : c < 48
      · have q1' : (c : Int) < 48 := by omega
        have e : s.all digN = false := by
          rw [List.all_eq_false]; exact ⟨c, hcc ▸ List.getElem_mem hi, by simp [digN]; omega⟩
        simp [hi, hcc, q1, q1', intR, hall, e]
      · have q1' : ¬ (c : Int) < 48 := by omega
        by_cases q2 : 57 < c
        · have q2' : (57 : Int) < (c : Int) := by omega
          have e : s.all digN = false := by
            rw [List.all_eq_false]; exact ⟨c, hcc ▸ List.getElem_mem hi, by simp [digN]; omega⟩
          simp [hi, hcc, q1, q1', q2, q2', intR, hall, e]
        · have q2' : ¬ (57 : Int) < (c : Int) := by omega
          have w1 : IntKind.u8.wrap ((c : Int) - 48) = (c : Int) - 48 := wu8 _ (by omega) (by omega)
          have w2 : IntKind.i64.wrap ((c : Int) - 48) = (c : Int) - 48 := wi64 _ (by omega) (by omega)
          have w3 : IntKind.i64.wrap (10 * (numT (s.take i) : Int)) = 10 * (numT (s.take i) : Int) := wi64 _ (by omega) (by omega)
          have w4 : IntKind.i64.wrap (10 * (numT (s.take i) : Int) + ((c : Int) - 48)) = (numT (s.take (i + 1)) : Int) := by rw [wi64 _ (by omega) (by omega), hs]; omega
          simp [hi, hcc, q1, q1', q2, q2', w1, w2, w3, w4, hw]
          exact rd (i + 1) ⟨hi, by rw [hall2]; simp [digN]; omega⟩
    · have : i = s.length := by omega
      subst this
      rw [List.take_length] at k2
      simp [intR, hall, k2]
end Go.Abs
namespace Go.Abs
open Go.Proofs
set_option maxHeartbeats 4000000
set_option maxRecDepth 100000
def readI (s : List Nat) : Option Int :=
  if s.head? = some 45 then (if (intR s.tail).2 = true ∧ (intR s.tail).1 ≠ 0 then some (-(intR s.tail).1) else none)
  else if (intR s).2 = true then some (intR s).1 else none
def valI (s : List Nat) : Int := (readI s).getD 0
def readV (s : List Nat) : List Int × Bool := if (spl 44 s).all (fun p => (readI p).isSome) = true then ((spl 44 s).map valI, true) else ([], false)
theorem intR_lt (s : List Nat) : 0 ≤ (intR s).1 ∧ (intR s).1 < 10 ^ 9 := by
  rw [intR]; split
  · rename_i h
    simp only [plainN, Bool.and_eq_true, Bool.not_eq_true', decide_eq_false_iff_not] at h
    have h1 := numT_lt s.length s rfl h.2
    have h2 : 10 ^ s.length ≤ 10 ^ 9 := Nat.pow_le_pow_right (by omega) (by omega)
    dsimp only; omega
  · exact ⟨by simp, by simp⟩
end Go.Abs
namespace Go.Abs
open Go.Proofs
set_option maxHeartbeats 4000000
set_option maxRecDepth 100000
def pairT (s : List Nat) : Option (List Nat × List Nat) := match spl 32 s with
  | [a, b] => if a = [] ∨ b = [] then none else some (a, b)
  | _ => none
def parseL : List (List Nat) → Nat → BookD → Option BookD × Nat
  | [], _, b => (some b, 0)
  | s :: r, i, b => match pairT s with
    | none => (none, i + 1)
    | some (x, y) =>
      if i = 0 then (if x = [98, 111, 111, 107] then parseL r 1 ⟨y, b.rows⟩ else (none, 1))
      else if (readV y).2 = true then parseL r (i + 1) ⟨b.name, b.rows ++ [⟨x, (readV y).1⟩]⟩
      else (none, i + 1)
def parseS (s : List Nat) : BookD × Int × Int :=
  if 4096 < s.length then (⟨[], []⟩, 0, 26)
  else if s.getLast? ≠ some 10 then (⟨[], []⟩, 0, 28)
  else match parseL (spl 10 s.dropLast) 0 ⟨[], []⟩ with
    | (none, k) => (⟨[], []⟩, k, 25)
    | (some b, _) => if chkBook b ≠ 0 then (⟨[], []⟩, 0, chkBook b) else (b, 0, 0)
end Go.Abs
namespace Go.Abs
def cutN (c : Nat) : List Nat → List Nat × List Nat × Bool
  | [] => ([], [], false)
  | x :: r => if x = c then ([], r, true) else (x :: (cutN c r).1, (cutN c r).2.1, (cutN c r).2.2)
theorem idxB_cut (c : Nat) : ∀ (s : List Nat) (k : Nat), ((cutN c s).2.2 = false ∧ idxB c s k = -1 ∧ cutN c s = (s, [], false)) ∨
    ∃ i, i < s.length ∧ idxB c s k = ((k + i : Nat) : Int) ∧ cutN c s = (s.take i, s.drop (i + 1), true)
  | [], k => by simp [cutN, idxB]
  | x :: r, k => by
    rw [cutN, idxB]
    by_cases h : x = c
    · subst h
      right
      refine ⟨0, by simp, ?_, ?_⟩
      · simp
      · simp
    · have hb : Nat.beq x c = false := by
        cases hb : Nat.beq x c
        · rfl
        · exact (h (Nat.eq_of_beq_eq_true hb)).elim
      rcases idxB_cut c r (k + 1) with ⟨h1, h2, h3⟩ | ⟨i, h1, h2, h3⟩
      · left
        rw [if_neg h, hb, cond_false, h2, h3]
        exact ⟨rfl, rfl, rfl⟩
      · right
        refine ⟨i + 1, by simpa using h1, ?_, ?_⟩
        · rw [hb, cond_false, h2]; omega
        · rw [if_neg h, h3]; simp
def isD (c : Nat) : Bool := decide (48 ≤ c) && decide (c ≤ 57)
def trimL (s : List Nat) : List Nat := s.dropWhile isD
def trimR (s : List Nat) : List Nat := (s.reverse.dropWhile isD).reverse
theorem dropWhile_nil_iff {p : Nat → Bool} : ∀ {s : List Nat}, s.dropWhile p = [] ↔ s.all p = true
  | [] => by simp
  | x :: r => by
    rw [List.dropWhile_cons, List.all_cons]
    cases hp : p x
    · simp
    · simp [dropWhile_nil_iff (s := r)]
theorem trimLR_nil (s : List Nat) : trimL (trimR s) = [] ↔ s.all isD = true := by
  rw [trimL, dropWhile_nil_iff, trimR]
  constructor
  · intro h
    by_cases h2 : s.reverse.dropWhile isD = []
    · rw [dropWhile_nil_iff, List.all_reverse] at h2; exact h2
    · have h3 := List.head_dropWhile_not isD h2
      rw [List.all_reverse, List.all_eq_true] at h
      rw [h _ (List.head_mem h2)] at h3
      cases h3
  · intro h
    have : s.reverse.dropWhile isD = [] := by rw [dropWhile_nil_iff, List.all_reverse]; exact h
    rw [this]; rfl
end Go.Abs
namespace Go.Abs
open Go.Proofs
set_option maxHeartbeats 4000000
set_option maxRecDepth 100000
theorem c_cutL (s : List Nat) (c : Nat) (h : s.length ≤ 1048576) : GoodC Tryz.prog 232 [.str s, .str [c]] (.tup [.str (cutN c s).1, .str (cutN c s).2.1, .bool (cutN c s).2.2]) := by
  refine good_fn nf isF232 mix (by simp [Tryz.f232]) ?_
  simp [Tryz.f232]
  refine c2 (h166 s c) ?_
  rcases idxB_cut c s 0 with ⟨_, h2, h3⟩ | ⟨i, h1, h2, h3⟩
  · simp [h2, h3]
  · rw [Nat.zero_add] at h2
    have w := wi1 (i := i) (by omega)
    have e1 : ((i : Int) + 1).toNat = i + 1 := by omega
    simp [h2, h3, w, e1]
    omega
theorem c_cut (s : List Nat) (c : Nat) (h : s.length ≤ 1048576) : GoodC Tryz.prog 177 [.str s, .str [c]] (.tup [.str (cutN c s).1, .str (cutN c s).2.1, .bool (cutN c s).2.2]) := by
  refine good_fn nf isF177 mix (by simp [Tryz.f177]) ?_
  simp [Tryz.f177]
  refine c2 (c_cutL s c h) ?_
  simp
theorem c_index (s : List Nat) (c : Nat) : GoodC Tryz.prog 72 [.str s, .str [c]] (.int .i64 (idxB c s 0)) := by
  refine good_fn nf isF72 mix (by simp [Tryz.f72]) ?_
  simp [Tryz.f72]
  refine c2 (h166 s c) ?_
  simp
theorem c_contains (s : List Nat) (c : Nat) : GoodC Tryz.prog 145 [.str s, .str [c]] (.bool (cutN c s).2.2) := by
  refine good_fn nf isF145 mix (by simp [Tryz.f145]) ?_
  simp [Tryz.f145]
  refine c2 (c_index s c) ?_
  rcases idxB_cut c s 0 with ⟨_, h2, h3⟩ | ⟨i, h1, h2, h3⟩
  · simp [h2, h3]
  · simp [h2, h3]
def setD : PV := .st 329 ((List.range 256).map fun i => .bool (isD i))
theorem c_setHas (c : Nat) (hc : c < 256) : GoodC Tryz.prog 280 [.fptr setD, .int .u8 c] (.bool (isD c)) := by
  refine good_fn nf isF280 mix (by simp [Tryz.f280]) ?_
  have hg : (List.range 256)[c]? = some c := List.getElem?_range hc
  simp [Tryz.f280, setD, hg, hc]
theorem c_trimLeftA (s : List Nat) (h : s.length ≤ 1048576) (hb : ∀ c ∈ s, c < 256) : GoodC Tryz.prog 243 [.str s, .fptr setD] (.str (trimL s)) := by
  refine good_fn nf isF243 mix (by simp [Tryz.f243]) ?_
  simp [Tryz.f243]
  refine lp (α := List Nat) (fun r => ⟨[(1, .p (.fptr setD)), (0, .p (.str r))], []⟩) (fun r => trimL r = trimL s ∧ r.length ≤ s.length ∧ ∀ c ∈ r, c < 256) (fun r => r.length) s (by exact ⟨rfl, Nat.le_refl _, hb⟩) ?_
  rintro r ⟨h1, h2, h3⟩
  cases r with
  | nil =>
    have e : trimL s = [] := by rw [← h1]; rfl
    simp [e]
  | cons x r =>
    have hx := h3 x (by simp)
    have hr : trimL (x :: r) = if isD x = true then trimL r else x :: r := by
      rw [trimL, List.dropWhile_cons]; split <;> rfl
    rw [hr] at h1
    have q2 : (0 : Int) < (r.length : Int) + 1 := by omega
    simp [q2]
    refine c2 (c_setHas x hx) ?_
    cases hd : isD x
    · rw [hd] at h1
      simp [← h1]
    · rw [hd] at h1
      simp
      exact rd r ⟨by simpa using h1, by simp at h2; omega, fun c hc => h3 c (by simp [hc])⟩ (h1 := by simp)
theorem c_trimRightA (s : List Nat) (h : s.length ≤ 1048576) (hb : ∀ c ∈ s, c < 256) : GoodC Tryz.prog 244 [.str s, .fptr setD] (.str (trimR s)) := by
  refine good_fn nf isF244 mix (by simp [Tryz.f244]) ?_
  simp [Tryz.f244]
  refine lp (α := List Nat) (fun r => ⟨[(1, .p (.fptr setD)), (0, .p (.str r))], []⟩) (fun r => trimR r = trimR s ∧ r.length ≤ s.length ∧ ∀ c ∈ r, c < 256) (fun r => r.length) s (by exact ⟨rfl, Nat.le_refl _, hb⟩) ?_
  rintro r ⟨h1, h2, h3⟩
  rcases List.eq_nil_or_concat r with rfl | ⟨t, x, rfl⟩
  · have e : trimR s = [] := by rw [← h1]; rfl
    simp [e]
  · simp only [List.concat_eq_append] at h1 h2 h3 ⊢
    have hx := h3 x (by simp)
    have hr : trimR (t ++ [x]) = if isD x = true then trimR t else t ++ [x] := by
      rw [trimR, List.reverse_append, List.reverse_cons, List.reverse_nil, List.nil_append, List.singleton_append, List.dropWhile_cons]
      split
      · rfl
      · simp
    rw [hr] at h1
    have q2 : (0 : Int) < (t.length : Int) + 1 := by omega
    have w1 : IntKind.i64.wrap (t.length : Int) = t.length := wi64 _ (by omega) (by simp at h2; omega)
    simp [q2, w1]
    refine c2 (c_setHas x hx) ?_
    cases hd : isD x
    · rw [hd] at h1
      simp [← h1]
    · rw [hd] at h1
      simp [w1]
      exact rd t ⟨by simpa using h1, by simp at h2; omega, fun c hc => h3 c (by simp [hc])⟩ (h1 := by simp)
end Go.Abs
namespace Go.Abs
open Go.Proofs
set_option maxHeartbeats 4000000
set_option maxRecDepth 100000
def digS : List Nat := [48, 49, 50, 51, 52, 53, 54, 55, 56, 57]
theorem c_makeSet : GoodC Tryz.prog 242 [.str digS] (.tup [setD, .bool true]) := run0_ok (facts := noF) (fun _ _ _ h => by cases h) (by kernel_rfl)
theorem tzSet : tzero Tryz.prog 330 = some (.st 329 (List.replicate 256 (.bool false))) := by kernel_rfl
theorem c_trim10 (s : List Nat) (h : s.length ≤ 1048576) (hb : ∀ c ∈ s, c < 256) : GoodC Tryz.prog 196 [.str s, .str digS] (.str (trimL (trimR s))) := by
  refine good_fn nf isF196 mix (by simp [Tryz.f196]) ?_
  by_cases h0 : s = []
  · subst h0
    simp [Tryz.f196, digS, trimL, trimR]
  simp [Tryz.f196, digS, h0]
  refine c1 c_makeSet ?_
  have hr : (trimR s).length ≤ s.length := by
    rw [trimR, List.length_reverse]
    have := (List.dropWhile_sublist isD (l := s.reverse)).length_le
    simpa using this
  have hm : ∀ c ∈ trimR s, c < 256 := by
    intro c hc
    rw [trimR, List.mem_reverse] at hc
    exact hb c (by simpa using (List.dropWhile_sublist isD (l := s.reverse)).subset hc)
  simp [tzSet]
  have hsh : shp setD = .agg 329 := rfl
  refine ⟨⟨⟨hsh.symm, by rw [hsh]; intro e; cases e⟩, hsh.symm⟩, ?_⟩
  refine cp (c_trimRightA s h hb) (by simp; exact ⟨rfl, rfl⟩) ?_
  simp
  refine cp (c_trimLeftA (trimR s) (by omega) hm) (by simp; exact ⟨rfl, rfl⟩) ?_
  simp
end Go.Abs
namespace Go.Proofs
open Go.Shelf
def Tryz.lays144_ren : Go.Shelf.Ren := ⟨fun | 144 => 145 | 143 => 72 | 219 => 166 | 217 => 223 | 225 => 224 | 224 => 225 | 267 => 226 | 266 => 272 | 314 => 273 | n => n, fun | 9 => 9 | 4 => 4 | 3 => 3 | 5 => 5 | 46 => 261 | 146 => 318 | 51 => 317 | n => n, fun | 1 => 0 | n => n⟩
def Tryz.lays100_ren : Go.Shelf.Ren := ⟨fun | 100 => 103 | 207 => 183 | n => n, fun | 9 => 9 | 4 => 4 | 3 => 3 | n => n, fun | n => n⟩
def Tryz.lays101_ren : Go.Shelf.Ren := ⟨fun | 101 => 238 | 208 => 277 | 206 => 229 | n => n, fun | 9 => 9 | 4 => 4 | 3 => 3 | n => n, fun | n => n⟩
theorem Tryz.lays101 : Go.Proofs.Lays.n101 Tryz.prog Tryz.lays101_ren := {
  mixed := by kernel_rfl
  f101 := Tryz.func238.trans (congrArg some (by kernel_rfl))
  f206 := Tryz.func229.trans (congrArg some (by kernel_rfl))
  f208 := Tryz.func277.trans (congrArg some (by kernel_rfl))
  t3 := Tryz.underlying3
  a3 := Tryz.isAgg3
  z3 := Tryz.sizeOf3
  v3 := Tryz.zeroValue3
  t4 := Tryz.underlying4
  a4 := Tryz.isAgg4
  z4 := Tryz.sizeOf4
  v4 := Tryz.zeroValue4
  t9 := Tryz.underlying9
  a9 := Tryz.isAgg9
  z9 := Tryz.sizeOf9
  v9 := Tryz.zeroValue9 }
open Go.RowKit Go.Lib in
theorem Tryz.strings_TrimPrefix (s p : ByteArray) (w : World) :
    Calls Tryz.prog 238 #[.string s, .string p] w fun e w' => e = .returned (.string ⟨(Lib.trimPrefix s.data.toList p.data.toList).toArray⟩) ∧ w' = w := Any.strings_TrimPrefix Tryz.lays101 s p w
def Tryz.lays102_ren : Go.Shelf.Ren := ⟨fun | 102 => 106 | 209 => 186 | 207 => 183 | n => n, fun | 9 => 9 | 4 => 4 | 3 => 3 | n => n, fun | n => n⟩
end Go.Proofs
namespace Go.Abs
open Go.Proofs
theorem h238 (s p t : List Nat) (h : natsB (Lib.trimPrefix (s.map UInt8.ofNat) (p.map UInt8.ofNat)) = t) : GoodC Tryz.prog 238 [.str s, .str p] (.str t) := by
  refine goodP_flat (enters_fn Tryz.func238 (by kernel_rfl)) fun w Imm cargs _ hg ha => ?_
  obtain ⟨x, y, rfl, h1, h2⟩ := PVVl_two ha
  simp only [PVV] at h1 h2
  obtain ⟨bs, rfl, rfl⟩ := h1
  obtain ⟨cs, rfl, rfl⟩ := h2
  have e1 := ofNat_natsB bs.data.toList
  have e2 := ofNat_natsB cs.data.toList
  simp only [natsB] at e1 e2
  rw [e1, e2] at h
  refine (Tryz.strings_TrimPrefix bs cs w).mono ?_
  rintro e w' ⟨rfl, rfl⟩
  exact ⟨_, rfl, ⟨Nat.le_refl _, fun _ _ => rfl, rfl, rfl⟩, fun w Imm => by rw [← h]; exact PVV_strB _⟩
end Go.Abs
namespace Go.Abs
open Go.Proofs
set_option maxHeartbeats 4000000
set_option maxRecDepth 100000
theorem parse_dig : ∀ (d : List Nat) (acc : Nat), d.all isD = true → (∀ c ∈ d, c < 256) → d.foldl decV acc < 1000000000 → Lib.parseUint10 acc (d.map UInt8.ofNat) = .ok (d.foldl decV acc)
  | [], acc, _, _, _ => rfl
  | c :: r, acc, h, hb, hl => by
    simp only [List.all_cons, Bool.and_eq_true] at h
    have hc := h.1
    simp only [isD, Bool.and_eq_true, decide_eq_true_eq] at hc
    have hmono : ∀ (r : List Nat) (a : Nat), a ≤ r.foldl decV a := by
      intro r
      induction r with
      | nil => intro a; exact Nat.le_refl _
      | cons x r ih => intro a; exact Nat.le_trans (by simp only [decV]; omega) (ih _)
    have h2 := hmono r (decV acc c)
    rw [List.foldl_cons] at hl ⊢
    have e : (UInt8.ofNat c).toNat = c := by simp; omega
    have e2 : acc * 10 + (c - 48) = decV acc c := rfl
    have h3 : decV acc c < 1000000000 := by omega
    have h4 : acc ≤ decV acc c := by simp only [decV]; omega
    rw [List.map_cons, Lib.parseUint10, e, if_pos hc, if_neg (by omega), e2, if_neg (by omega)]
    exact parse_dig r _ h.2 (fun c hc => hb c (by simp [hc])) hl
theorem atoi_dig {d : List Nat} (h : d.all isD = true) (hb : ∀ c ∈ d, c < 256) (h0 : d ≠ []) (h9 : d.length ≤ 9) : Lib.atoiAll (d.map UInt8.ofNat) = .ok (numT d) := by
  have hl := numT_lt _ d rfl h
  have hp : 10 ^ d.length ≤ 10 ^ 9 := Nat.pow_le_pow_right (by omega) h9
  cases d with
  | nil => exact (h0 rfl).elim
  | cons c r =>
    have hc := (Bool.and_eq_true .. ▸ (List.all_cons ▸ h) : isD c = true ∧ r.all isD = true).1
    simp only [isD, Bool.and_eq_true, decide_eq_true_eq] at hc
    have e : (UInt8.ofNat c).toNat = c := by simp; omega
    have hl9 : numT (c :: r) < 1000000000 := by omega
    have hpar := parse_dig (c :: r) 0 h hb hl9
    rw [← numT] at hpar
    rw [List.map_cons] at hpar
    rw [List.map_cons, Lib.atoiAll]
    simp only [e]
    rw [if_neg (by omega), Lib.parseMag, if_neg (by simp), hpar]
    dsimp only
    rw [if_neg (by omega), if_neg (by omega), if_neg (by omega)]
theorem atoi_neg {d : List Nat} (h : d.all isD = true) (hb : ∀ c ∈ d, c < 256) (h0 : d ≠ []) (h9 : d.length ≤ 9) : Lib.atoiAll ((45 :: d).map UInt8.ofNat) = .ok (-(numT d : Int)) := by
  have hl := numT_lt _ d rfl h
  have hp : 10 ^ d.length ≤ 10 ^ 9 := Nat.pow_le_pow_right (by omega) h9
  have hl9 : numT d < 1000000000 := by omega
  have hpar := parse_dig d 0 h hb hl9
  rw [← numT] at hpar
  have e : (UInt8.ofNat 45).toNat = 45 := rfl
  have hne : d.map UInt8.ofNat ≠ [] := by simpa using h0
  rw [List.map_cons, Lib.atoiAll]
  simp only [e]
  have hor : (45 : Nat) = 43 ∨ True := .inr trivial
  simp only [or_true, if_true]
  rw [Lib.parseMag, if_neg hne, hpar]
  dsimp only
  rw [if_neg (by simp), if_neg (by omega)]
theorem trimPre_eq {s : List Nat} (hb : ∀ c ∈ s, c < 256) : natsB (Lib.trimPrefix (s.map UInt8.ofNat) (([45] : List Nat).map UInt8.ofNat)) = if s.head? = some 45 then s.tail else s := by
  have hn : ∀ l : List Nat, (∀ c ∈ l, c < 256) → natsB (l.map UInt8.ofNat) = l := by
    intro l hl
    rw [natsB, List.map_map]
    conv => rhs; rw [← List.map_id l]
    apply List.map_congr_left
    intro c hc
    have := hl c hc
    simp; omega
  cases s with
  | nil => rfl
  | cons c r =>
    have hc := hb c (by simp)
    have hr := hn r fun c hc => hb c (by simp [hc])
    have hcr := hn (c :: r) hb
    rw [Lib.trimPrefix, Lib.hasPrefix]
    by_cases h : c = 45
    · subst h
      simpa using hr
    · have hne : ¬ (45 : UInt8) = UInt8.ofNat c := by
        intro e
        have := congrArg UInt8.toNat e
        simp at this; omega
      have h2 : (([45] : List Nat).map UInt8.ofNat).isPrefixOf ((c :: r).map UInt8.ofNat) = false := by
        simp only [List.map_cons, List.map_nil, List.isPrefixOf, Bool.and_eq_false_iff, beq_eq_false_iff_ne, ne_eq]
        exact .inl hne
      rw [h2]
      simpa [h] using hcr
theorem num_cons {c : Nat} (s : List Nat) (h : 49 ≤ c) : 1 ≤ numT (c :: s) := by
  have key : ∀ (s : List Nat) (a : Nat), a ≤ s.foldl decV a := by
    intro r
    induction r with
    | nil => intro a; exact Nat.le_refl _
    | cons x r ih => intro a; exact Nat.le_trans (by simp only [decV]; omega) (ih _)
  have := key s (decV 0 c)
  simp only [numT, List.foldl_cons]
  simp only [decV] at this ⊢
  omega
def okP (d : List Nat) (z : Bool) : Bool := !decide (d = []) && !decide (9 < d.length) && d.all isD && !(decide (d.head? = some 48) && z)
def intP (sign : Bool) (s : List Nat) : Int × Bool := if sign = true then (valI s, (readI s).isSome) else intR s
theorem okP_int {s : List Nat} : okP s (decide (s ≠ [48])) = plainN s := by
  rw [okP, plainN]
  have e1 : decide (s.length = 0) = decide (s = []) := by simp
  have e2 : s.all digN = s.all isD := rfl
  rw [e1, e2]
  by_cases h : s.all isD = true
  · rw [h]
    simp only [Bool.and_true]
    congr 2
    cases s with
    | nil => simp
    | cons c r => cases r with
      | nil => simp
      | cons x r => simp
  · have : s.all isD = false := by simpa using h
    rw [this]; simp
theorem intP_eq (sign : Bool) (s d : List Nat) (hd : d = if sign = true ∧ s.head? = some 45 then s.tail else s) :
    intP sign s = if okP d (decide (s ≠ [48])) = true then (if sign = true ∧ s.head? = some 45 then -(numT d : Int) else numT d, true) else (0, false) := by
  by_cases hs : sign = true ∧ s.head? = some 45
  · rw [if_pos hs] at hd
    obtain ⟨rfl, hs2⟩ := hs
    simp only [intP, if_true, hs2, and_self]
    cases s with
    | nil => simp at hs2
    | cons c r =>
      simp at hs2 hd
      subst hs2; subst hd
      have e1 : okP d (decide ((45 : Nat) :: d ≠ [48])) = (plainN d && !decide (d.head? = some 48)) := by
        have : decide ((45 : Nat) :: d ≠ [48]) = true := by simp
        rw [this, ← okP_int, okP, okP]
        cases decide (d.head? = some 48) <;> simp
      rw [e1]
      have hr : readI (45 :: d) = if (intR d).2 = true ∧ (intR d).1 ≠ 0 then some (-(intR d).1) else none := by
        have : (45 :: d : List Nat).head? = some 45 := rfl
        rw [readI, if_pos this]; rfl
      rw [valI, hr]
      by_cases hp : plainN d = true
      · have hi : intR d = ((numT d : Int), true) := by rw [intR, if_pos hp]
        rw [hi, hp]
        by_cases h48 : d.head? = some 48
        · have : numT d = 0 := by
            have hq := hp
            simp only [plainN, Bool.and_eq_true, Bool.not_eq_true', Bool.and_eq_false_iff, decide_eq_false_iff_not] at hq
            cases d with
            | nil => simp at h48
            | cons x r =>
              simp at h48
              subst h48
              cases r with
              | nil => rfl
              | cons y r => simp at hq
          simp [this, h48]
        · have : numT d ≠ 0 := by
            have hq := hp
            simp only [plainN, Bool.and_eq_true, Bool.not_eq_true', decide_eq_false_iff_not] at hq
            cases d with
            | nil => simp at hq
            | cons x r =>
              have hx := (Bool.and_eq_true .. ▸ (List.all_cons ▸ hq.2) : digN x = true ∧ r.all digN = true).1
              simp only [digN, Bool.and_eq_true, decide_eq_true_eq] at hx
              have : x ≠ 48 := fun e => h48 (by simp [e])
              have := num_cons r (c := x) (by omega)
              omega
          have h2 : ¬ (numT d : Int) = 0 := by omega
          simp [this, h48]
      · have hi : intR d = (0, false) := by rw [intR, if_neg hp]
        have hp : plainN d = false := by simpa using hp
        rw [hi, hp]; simp
  · rw [if_neg hs] at hd
    rw [hd, if_neg hs, okP_int]
    clear hd
    cases sign
    · rw [intP, if_neg (by simp), intR]
    · have h45 : ¬ s.head? = some 45 := fun e => hs ⟨rfl, e⟩
      have hr : readI s = if (intR s).2 = true then some (intR s).1 else none := by rw [readI, if_neg h45]
      rw [intP, if_pos rfl, valI, hr, intR]
      by_cases hp : plainN s = true
      · simp [hp]
      · simp [hp]
theorem c_integer (s : List Nat) (sign : Bool) (h : s.length ≤ 1048576) (hb : ∀ c ∈ s, c < 256) : GoodC Tryz.prog 187 [.str s, .bool sign] (.tup [.int .i64 (intP sign s).1, .bool (intP sign s).2]) := by
  refine good_fn nf isF187 mix (by simp [Tryz.f187]) ?_
  obtain ⟨d, hd⟩ : ∃ d, d = if sign = true ∧ s.head? = some 45 then s.tail else s := ⟨_, rfl⟩
  rw [intP_eq sign s d hd]
  have hdl : d.length ≤ s.length := by rw [hd]; split <;> simp
  have hdb : ∀ c ∈ d, c < 256 := by
    intro c hc
    rw [hd] at hc
    split at hc
    · exact hb c (List.mem_of_mem_tail hc)
    · exact hb c hc
  have hT := c_trim10 d (by omega) hdb
  have hnil := trimLR_nil d
  have hA : okP d (decide (s ≠ [48])) = true → GoodC Tryz.prog 239 [.str s] (.tup [.int .i64 (if sign = true ∧ s.head? = some 45 then -(numT d : Int) else numT d), .nif]) := by
    intro hok
    simp only [okP, Bool.and_eq_true, Bool.not_eq_true', decide_eq_false_iff_not] at hok
    obtain ⟨⟨⟨k1, k2⟩, k3⟩, _⟩ := hok
    refine h239 s _ ?_ (by omega)
    by_cases hs : sign = true ∧ s.head? = some 45
    · rw [if_pos hs] at hd ⊢
      have : s = 45 :: d := by
        cases s with
        | nil => simp at hs
        | cons c r => simp at hs hd; rw [hs.2, hd]
      rw [this]
      exact atoi_neg k3 hdb k1 (by omega)
    · rw [if_neg hs] at hd ⊢
      subst hd
      exact atoi_dig k3 hdb k1 (by omega)
  cases sign
  · simp only [Bool.false_eq_true, false_and, if_false] at hd hA ⊢
    obtain rfl : s = d := hd.symm
    by_cases k0 : s = []
    · have ok : okP s (decide (s ≠ [48])) = false := by simp [okP, k0]
      rw [if_neg (by rw [ok]; simp)]
      simp [Tryz.f187, k0]
    by_cases k9 : 9 < s.length
    · have ok : okP s (decide (s ≠ [48])) = false := by simp [okP, k9]
      have k9' : (9 : Int) < (s.length : Int) := by omega
      rw [if_neg (by rw [ok]; simp)]
      simp [Tryz.f187, k0, k9, k9']
    have k9' : ¬ (9 : Int) < (s.length : Int) := by omega
    by_cases ka : s.all isD = true
    case neg =>
      have ok : okP s (decide (s ≠ [48])) = false := by
        have : s.all isD = false := by simpa using ka
        rw [okP, this]; simp
      have kt : ¬ trimL (trimR s) = [] := fun e => ka (hnil.1 e)
      rw [if_neg (by rw [ok]; simp)]
      simp [Tryz.f187, k0, k9, k9']
      refine c2 hT ?_
      simp [kt]
    have kt := hnil.2 ka
    rw [kt] at hT
    obtain ⟨x, r, hx⟩ : ∃ x r, s = x :: r := by
      cases s with
      | nil => exact (k0 rfl).elim
      | cons x r => exact ⟨x, r, rfl⟩
    have hg : s[0]? = some x := by rw [hx]; rfl
    have hh : s.head? = some x := by rw [hx]; rfl
    have hl0 : 0 < s.length := by rw [hx]; simp
    have hg2 : s[0] = x := by simp [hx]
    by_cases kx : x = 48
    · have kx' : (x : Int) = 48 := by omega
      by_cases kz : s = [48]
      · have ok : okP s (decide (s ≠ [48])) = true := by
          have e : decide (s ≠ [48]) = false := by simp [kz]
          rw [e]; simp only [okP, k0, k9, ka]; simp
        rw [if_pos ok]
        simp [Tryz.f187, k0, k9, k9']
        refine c2 hT ?_
        simp [hl0, hg2, kx', eq_true kz]
        refine c1 (hA ok) ?_
        simp
      · have ok : okP s (decide (s ≠ [48])) = false := by
          have e : decide (s ≠ [48]) = true := by simp [kz]
          rw [e]; simp only [okP, k0, k9, ka, hh, kx]; simp
        rw [if_neg (by rw [ok]; simp)]
        simp [Tryz.f187, k0, k9, k9']
        refine c2 hT ?_
        simp [hl0, hg2, kx', kz]
    · have kx' : ¬ (x : Int) = 48 := by omega
      have ok : okP s (decide (s ≠ [48])) = true := by
        have : ¬ (some x = some 48) := fun e => kx (by injection e)
        simp only [okP, k0, k9, ka, hh, this]; simp
      rw [if_pos ok]
      simp [Tryz.f187, k0, k9, k9']
      refine c2 hT ?_
      simp [hl0, hg2, kx']
      refine c1 (hA ok) ?_
      simp
  · have hP : GoodC Tryz.prog 238 [.str s, .str [45]] (.str d) := h238 s [45] d (by rw [trimPre_eq hb, hd]; simp)
    by_cases k0 : d = []
    · have ok : okP d (decide (s ≠ [48])) = false := by simp [okP, k0]
      rw [if_neg (by rw [ok]; simp)]
      simp [Tryz.f187]
      refine c2 hP ?_
      simp [k0]
    by_cases k9 : 9 < d.length
    · have ok : okP d (decide (s ≠ [48])) = false := by simp [okP, k9]
      have k9' : (9 : Int) < (d.length : Int) := by omega
      rw [if_neg (by rw [ok]; simp)]
      simp [Tryz.f187]
      refine c2 hP ?_
      simp [k0, k9, k9']
    have k9' : ¬ (9 : Int) < (d.length : Int) := by omega
    by_cases ka : d.all isD = true
    case neg =>
      have ok : okP d (decide (s ≠ [48])) = false := by
        have : d.all isD = false := by simpa using ka
        rw [okP, this]; simp
      have kt : ¬ trimL (trimR d) = [] := fun e => ka (hnil.1 e)
      rw [if_neg (by rw [ok]; simp)]
      simp [Tryz.f187]
      refine c2 hP ?_
      simp [k0, k9, k9']
      refine c2 hT ?_
      simp [kt]
    have kt := hnil.2 ka
    rw [kt] at hT
    obtain ⟨x, r, hx⟩ : ∃ x r, d = x :: r := by
      cases d with
      | nil => exact (k0 rfl).elim
      | cons x r => exact ⟨x, r, rfl⟩
    have hg : d[0]? = some x := by rw [hx]; rfl
    have hh : d.head? = some x := by rw [hx]; rfl
    have hl0 : 0 < d.length := by rw [hx]; simp
    have hg2 : d[0] = x := by simp [hx]
    by_cases kx : x = 48
    · have kx' : (x : Int) = 48 := by omega
      by_cases kz : s = [48]
      · have ok : okP d (decide (s ≠ [48])) = true := by
          have e : decide (s ≠ [48]) = false := by simp [kz]
          rw [e]; simp only [okP, k0, k9, ka]; simp
        rw [if_pos ok]
        simp [Tryz.f187]
        refine c2 hP ?_
        simp [k0, k9, k9']
        refine c2 hT ?_
        simp [hl0, hg2, kx', eq_true kz]
        refine c1 (hA ok) ?_
        simp
      · have ok : okP d (decide (s ≠ [48])) = false := by
          have e : decide (s ≠ [48]) = true := by simp [kz]
          rw [e]; simp only [okP, k0, k9, ka, hh, kx]; simp
        rw [if_neg (by rw [ok]; simp)]
        simp [Tryz.f187]
        refine c2 hP ?_
        simp [k0, k9, k9']
        refine c2 hT ?_
        simp [hl0, hg2, kx', kz]
    · have kx' : ¬ (x : Int) = 48 := by omega
      have ok : okP d (decide (s ≠ [48])) = true := by
        have : ¬ (some x = some 48) := fun e => kx (by injection e)
        simp only [okP, k0, k9, ka, hh, this]; simp
      rw [if_pos ok]
      simp [Tryz.f187]
      refine c2 hP ?_
      simp [k0, k9, k9']
      refine c2 hT ?_
      simp [hl0, hg2, kx']
      refine c1 (hA ok) ?_
      simp
end Go.Abs
namespace Go.Abs
open Go.Proofs
set_option maxHeartbeats 4000000
set_option maxRecDepth 100000
def pairB (s : List Nat) : Bool := (cutN 32 s).2.2 && !decide ((cutN 32 s).1 = []) && !decide ((cutN 32 s).2.1 = []) && !(cutN 32 (cutN 32 s).2.1).2.2
end Go.Abs
namespace Go.Abs
open Go.Proofs
set_option maxHeartbeats 4000000
set_option maxRecDepth 100000
def lnC : Nat → List Nat → List Nat → List (Nat × List Nat)
  | k, cur, [] => if cur = [] then [] else [(k, cur)]
  | k, cur, x :: r => if x = 10 then (k + 1, cur ++ [10]) :: lnC (k + 1) [] r else lnC (k + 1) (cur ++ [x]) r
def lns (s : List Nat) : List (Nat × List Nat) := lnC 0 [] s
theorem lnC_cut : ∀ (t : List Nat) (k : Nat) (cur : List Nat), lnC k cur t =
    if (cutN 10 t).2.2 = true then (k + (cutN 10 t).1.length + 1, cur ++ (cutN 10 t).1 ++ [10]) :: lnC (k + (cutN 10 t).1.length + 1) [] (cutN 10 t).2.1
    else if cur ++ t = [] then [] else [(k + t.length, cur ++ t)]
  | [], k, cur => by simp [lnC, cutN]
  | x :: r, k, cur => by
    rw [lnC, cutN]
    by_cases h : x = 10
    · subst h; simp
    · rw [if_neg h, if_neg h, lnC_cut r]
      have e1 : k + 1 + (cutN 10 r).1.length + 1 = k + ((cutN 10 r).1.length + 1) + 1 := by omega
      have e2 : k + 1 + r.length = k + (r.length + 1) := by omega
      cases (cutN 10 r).2.2 <;> simp [e1, e2]
def itemL (x : Nat × List Nat) : List PV := [.int .i64 x.1, .str x.2]
theorem c_indexByte (s : List Nat) (c : Nat) (hc : c < 256) : GoodC Tryz.prog 185 [.str s, .int .u8 c] (.int .i64 (idxB c s 0)) := by
  refine good_fn nf isF185 mix (by simp [Tryz.f185]) ?_
  simp [Tryz.f185]
  refine c2 (h223 s c hc) ?_
  simp
theorem c_lines (s : List Nat) : GoodC Tryz.prog 104 [.str s] (.func 184 [] [.fptr (.str s)]) := by
  refine good_fn nf isF104 mix (by simp [Tryz.f104]) ?_
  simp [Tryz.f104]
  exact Wk.refl (.str s)
theorem cutN_whole (c : Nat) : ∀ (s : List Nat), (cutN c s).2.2 = true → s = (cutN c s).1 ++ c :: (cutN c s).2.1
  | [], h => by simp [cutN] at h
  | x :: s, h => by
    rw [cutN] at h ⊢
    by_cases hx : x = c
    · subst hx; simp
    · rw [if_neg hx] at h ⊢
      have := cutN_whole c s h
      dsimp only
      rw [List.cons_append, ← this]
theorem s_lines (s : List Nat) (h : s.length ≤ 1000000) : Stream Tryz.prog 184 [] [.fptr (.str s)] ((lns s).map itemL) := by
  intro b k Hs H' hk hR hy he
  refine goodI_fn nf isF184 mix (by simp [Tryz.f184]) ?_
  simp [Tryz.f184]
  refine lp (α := Nat × Nat) (fun (i, a) => ⟨[(3, .p (.int .i64 a)), (1, .p (.fptr (.str s))), (0, .map b)], Hs i⟩) (fun (i, a) => i ≤ k ∧ a ≤ s.length ∧ (lns s).drop i = lnC a [] (s.drop a)) (fun (_, a) => s.length - a) (0, 0) (by simp [lns]) ?_ (hr := by simp; exact (hR 0 (by omega)).2) (hr2 := (hR 0 (by omega)).1)
  rintro ⟨i, a⟩ ⟨h1, h2, h3⟩
  dsimp only at h1 h2 h3 ⊢
  rw [List.length_map] at hk
  by_cases ha : a < s.length
  · have hget : ∀ x r, lnC a [] (s.drop a) = x :: r → i < (lns s).length ∧ ((lns s).map itemL)[i]? = some (itemL x) ∧ (lns s).drop (i + 1) = r := by
      intro x r hx
      rw [hx] at h3
      have hl : i < (lns s).length := by
        rcases Nat.lt_or_ge i (lns s).length with h | h
        · exact h
        · rw [List.drop_eq_nil_of_le h] at h3; cases h3
      rw [List.drop_eq_getElem_cons hl] at h3
      injection h3 with e1 e2
      exact ⟨hl, by rw [List.getElem?_map, List.getElem?_eq_getElem hl, e1]; rfl, e2⟩
    have hstep : ∀ x r, lnC a [] (s.drop a) = x :: r → (i < k ∧ GoodY Tryz.prog b (Hs i) ((itemL x).map .p) (Hs (i + 1)) (.p (.bool true))) ∨ GoodY Tryz.prog b (Hs i) ((itemL x).map .p) H' (.p (.bool false)) := by
      intro x r hx
      obtain ⟨g1, g2, g3⟩ := hget x r hx
      by_cases hik : i < k
      · exact .inl ⟨hik, hy i _ hik g2⟩
      · have : i = k := by omega
        subst this
        rcases he with ⟨e1, _⟩ | ⟨y, e1, e2⟩
        · rw [List.length_map] at e1; omega
        · rw [g2] at e1; injection e1 with e1; subst e1; exact .inr e2
    simp [ha]
    refine ⟨h2, ?_⟩
    refine c2 (c_indexByte (s.drop a) 10 (by omega)) ?_
    have hcut := lnC_cut (s.drop a) a []
    rcases idxB_cut 10 (s.drop a) 0 with ⟨g1, g2, g3⟩ | ⟨j, g1, g2, g3⟩
    · rw [g3] at hcut
      have hne : ¬ s.drop a = [] := by simp; omega
      have el : a + (s.drop a).length = s.length := by simp; omega
      simp only [Bool.false_eq_true, if_false, List.nil_append, hne, el] at hcut
      simp [g2]
      refine ⟨h2, ?_⟩
      rcases hstep _ _ hcut with ⟨hik, hY⟩ | hY
      · refine ⟨Hs (i + 1), _, hY, ?_⟩
        simp
        exact rd (i + 1, s.length) ⟨hik, Nat.le_refl _, by rw [(hget _ _ hcut).2.2]; simp [lnC]⟩ (h1 := by dsimp only; omega) (hr := by simp; exact (hR (i + 1) (by omega)).2) (hr2 := (hR (i + 1) (by omega)).1)
      · refine ⟨H', _, hY, ?_⟩
        simp
    · rw [Nat.zero_add] at g2
      have hw := cutN_whole 10 (s.drop a) (by rw [g3])
      rw [g3] at hcut hw
      dsimp only at hw
      have hlen : ((s.drop a).take j).length = j := by simp at g1 ⊢; omega
      simp only [if_true, List.nil_append, hlen] at hcut
      simp only [List.length_drop] at g1
      have ed : (s.drop a).drop (j + 1) = s.drop (a + j + 1) := by rw [List.drop_drop]; congr 1
      rw [ed] at hcut
      have w1 : IntKind.i64.wrap ((a : Int) + j) = (a : Int) + j := wi64 _ (by omega) (by omega)
      have w2 : IntKind.i64.wrap ((a : Int) + j + 1) = (a : Int) + j + 1 := wi64 _ (by omega) (by omega)
      have e2 : ((a : Int) + j + 1).toNat = a + j + 1 := by omega
      have e3 : (((a + j + 1 : Nat) : Int)) = (a : Int) + j + 1 := by omega
      have hslice : (s.take (a + j + 1)).drop a = (s.drop a).take j ++ [10] := by
        rw [List.drop_take, show a + j + 1 - a = j + 1 by omega]
        conv => lhs; rw [hw]
        rw [List.take_append, hlen, show j + 1 - j = 1 by omega, List.take_of_length_le (by omega)]
        rfl
      have hj0 : (0 : Int) ≤ (j : Int) := by omega
      simp [g2, hj0, w1, w2, e2, hslice]
      refine ⟨⟨by omega, by omega, by omega⟩, ?_⟩
      rcases hstep _ _ hcut with ⟨hik, hY⟩ | hY
      · simp only [itemL, List.map_cons, List.map_nil, e3] at hY
        refine ⟨Hs (i + 1), _, hY, ?_⟩
        simp
        exact rd (i + 1, a + j + 1) ⟨hik, by dsimp only; omega, (hget _ _ hcut).2.2⟩ (h1 := by dsimp only; omega) (hr := by simp; exact (hR (i + 1) (by omega)).2) (hr2 := (hR (i + 1) (by omega)).1)
      · simp only [itemL, List.map_cons, List.map_nil, e3] at hY
        refine ⟨H', _, hY, ?_⟩
        simp
  · have : a = s.length := by omega
    subst this
    simp
    have hend : i = (lns s).length ∨ i < (lns s).length := by
      rcases Nat.lt_trichotomy i (lns s).length with h | h | h
      · exact .inr h
      · exact .inl h
      · omega
    rcases hend with hend | hend
    · left
      rcases he with ⟨_, e2⟩ | ⟨y, e1, _⟩
      · rw [e2]; congr 1; omega
      · rw [List.getElem?_eq_none (by rw [List.length_map]; omega)] at e1; cases e1
    · rw [List.drop_eq_getElem_cons hend] at h3
      simp [lnC] at h3
      omega
end Go.Abs
namespace Go.Abs
open Go.Proofs
set_option maxHeartbeats 4000000
set_option maxRecDepth 100000
def rwL (x : List Nat) : RowD := ⟨(cutN 32 x).1, (readV (cutN 32 x).2.1).1⟩
def okL (i : Nat) (x : List Nat) : Bool := pairB x && (if i = 0 then decide ((cutN 32 x).1 = [98, 111, 111, 107]) else (readV (cutN 32 x).2.1).2)
def bkL (l : List (List Nat)) : Nat → BookD
  | 0 => ⟨[], []⟩
  | k + 1 => ⟨(cutN 32 (l.headD [])).2.1, ((l.drop 1).take k).map rwL⟩
def pB (nm : List Nat) : Nat → AV
  | 0 => .p (.st 23 [.str [], .nsl])
  | 1 => .p (.st 23 [.str nm, .nsl])
  | j + 2 => .st 23 [.p (.str nm), .sl 8 j 2 0 (j + 1)]
def pT (rows : List RowD) : Nat → Heap
  | 0 | 1 => []
  | j + 2 => [.hole, .arr .grow j 2 ((rows.take (j + 1)).map fun r => .p (eRow r))]
def pX (w1 w2 : Int) (nm : List Nat) (rows : List RowD) (L : LoopA) (i : Nat) : Heap :=
  [.box false (.p (.st 23 [.str [], .nsl])), .box false (.p (.int .i64 0)), .box false (.p (.int .i64 0)), .arr .frozen 0 1 [.p (.int .i64 w1), .p (.int .i64 w2)], .box false (pB nm i), .box false (.p (.int .i64 i)), .loop L] ++ pT rows i
def pF (w1 w2 : Int) (nm : List Nat) (rows : List RowD) (L : LoopA) (i : Nat) : Heap :=
  [.box false (.p (.st 23 [.str [], .nsl])), .box false (.p (.int .i64 i)), .box false (.p (.int .i64 25)), .arr .frozen 0 1 [.p (.int .i64 w1), .p (.int .i64 w2)], .box false (pB nm i), .box false (.p (.int .i64 i)), .loop (L.dn .ret)] ++ pT rows i
end Go.Abs
namespace Go.Abs
open Go.Proofs
set_option maxHeartbeats 4000000
set_option maxRecDepth 100000
def u8s (t : List Nat) : List AV := t.map fun (c : Nat) => AV.p (.int .u8 (c : Int))
theorem c_joinW (l : List (List Nat)) (hl : l.length ≤ 1048576) (hj : (joinN [32] l).length ≤ 140737488355328) : GoodC Tryz.prog 98 [.seq (l.map .str)] (.str (joinN [32] l)) := by
  refine good_fn nf isF98 mix (by simp [Tryz.f98]) ?_
  simp [Tryz.f98]
  refine c2 (c_join l [32] hl hj) ?_
  simp
theorem okN_byte : ∀ (s : List Nat) (i : Nat), okN i s = true → ∀ c ∈ s, c < 256
  | [], _, _, c, hc => by simp at hc
  | x :: s, i, h, c, hc => by
    rw [okN] at h
    simp only [Bool.and_eq_true] at h
    rcases List.mem_cons.1 hc with rfl | hc
    · have h1 := h.1
      simp only [isLet, isDig, Bool.or_eq_true, Bool.and_eq_true, decide_eq_true_eq] at h1
      omega
    · exact okN_byte s _ h.2 c hc
theorem isName_byte {s : List Nat} (h : isName s = true) : ∀ c ∈ s, c < 256 := by
  simp only [isName, Bool.and_eq_true] at h
  exact okN_byte s _ h.2
end Go.Abs
namespace Go.Abs
open Go.Proofs
structure EventD where
  num : Int
  kind : List Nat
  names : List (List Nat)
  vals : List Int
  text : List Nat
  deriving DecidableEq
def eEvent (e : EventD) : PV := .st 60 [.int .i64 e.num, .str e.kind, .seq (e.names.map .str), .seq (e.vals.map (.int .i64)), .str e.text]
@[simp] theorem shp_eEvent {e : EventD} : shp (eEvent e) = .agg 60 := rfl
def kSet : List Nat := [115, 101, 116]
def kMove : List Nat := [109, 111, 118, 101]
def kUndo : List Nat := [117, 110, 100, 111]
def formS (k : List Nat) : Nat × Nat × Bool × Bool :=
  if k = kAdd then (1, 0, true, true) else if k = kSet then (1, 0, true, true) else if k = kDrop then (1, 0, false, true) else if k = kMove then (1, 1, false, true)
  else if k = kUndo then (0, 0, false, true) else (0, 0, false, false)
def withinE (n lo hi : Int) : Int := whenE (decide (n < lo) || decide (n > hi)) 3
def chkNames : List (List Nat) → Int
  | [] => 0
  | s :: r => if isName s = true then chkNames r else 8
def chkNums : List Int → Int
  | [] => 0
  | n :: r => if n < 0 ∨ n > 999999999 then 3 else chkNums r
def chkText (t : Bool) (s : List Nat) : Int := firstE [whenE (!t && !decide (s = []) || decide (10 ∈ s)) 1, whenE (decide (4096 < s.length)) 26]
def chkShape (e : EventD) : Int := firstE [withinE e.num 1 1000, whenE (!(formS e.kind).2.2.2) 13, whenE (decide (e.names.length ≠ (formS e.kind).1) || decide (e.vals.length ≠ (formS e.kind).2.1)) 2]
def chkEvent (e : EventD) : Int := firstE [chkShape e, chkNames e.names, chkNums e.vals, chkText (formS e.kind).2.2.1 e.text]
def toldE (s : List Nat) : Int := firstE [whenE (!(readV s).2) 25, whenE (decide (16 < (readV s).1.length)) 5]
def keyN (e : EventD) : List Nat := e.names.headD []
def placeN (e : EventD) : Int := e.vals.headD 0 - 1
def atK (l : List RowD) (k : List Nat) : Int := idxFrom (keyIs k) l 0
def addS (l : List RowD) (e : EventD) : List RowD × Int :=
  if 0 ≤ atK l (keyN e) then ([], 9)
  else if firstE [toldE e.text, whenE (decide (256 ≤ l.length)) 5] ≠ 0 then ([], firstE [toldE e.text, whenE (decide (256 ≤ l.length)) 5])
  else (l ++ [⟨keyN e, (readV e.text).1⟩], 0)
def setS (l : List RowD) (e : EventD) : List RowD × Int :=
  if atK l (keyN e) < 0 then ([], 10)
  else if firstE [toldE e.text, whenE (decide ((l[(atK l (keyN e)).toNat]?.map (·.vals)) = some (readV e.text).1)) 9] ≠ 0 then ([], firstE [toldE e.text, whenE (decide ((l[(atK l (keyN e)).toNat]?.map (·.vals)) = some (readV e.text).1)) 9])
  else (l.set (atK l (keyN e)).toNat ⟨keyN e, (readV e.text).1⟩, 0)
def dropS (l : List RowD) (e : EventD) : List RowD × Int :=
  if atK l (keyN e) < 0 then ([], 10) else (l.eraseIdx (atK l (keyN e)).toNat, 0)
def moveE (l : List RowD) (e : EventD) : Int := firstE [whenE (decide (atK l (keyN e) < 0)) 10, withinE (placeN e) 0 (l.length - 1), whenE (decide (atK l (keyN e) = placeN e)) 9]
def moveS (l : List RowD) (e : EventD) : List RowD × Int :=
  if moveE l e ≠ 0 then ([], moveE l e)
  else ((l.eraseIdx (atK l (keyN e)).toNat).insertIdx (placeN e).toNat (l[(atK l (keyN e)).toNat]?.getD ⟨[], []⟩), 0)
def stepS (l : List RowD) (e : EventD) : List RowD × Int :=
  if e.kind = kAdd then addS l e else if e.kind = kSet then setS l e else if e.kind = kDrop then dropS l e else moveS l e
structure StoryD where
  evs : List EventD
  sts : List (List RowD)
def StoryD.now (d : StoryD) : List RowD := d.sts.getLast?.getD []
def acceptE (d : StoryD) (e : EventD) : Int :=
  if e.num ≠ d.evs.length + 1 then 11 else if e.kind = kUndo then (if d.sts = [] then 12 else 0) else (stepS d.now e).2
def acceptD (d : StoryD) (e : EventD) : StoryD := ⟨d.evs ++ [e], if e.kind = kUndo then d.sts.dropLast else d.sts ++ [(stepS d.now e).1]⟩
def addE (d : StoryD) (e : EventD) : Int := firstE [chkEvent e, acceptE d e]
def playL : List EventD → Nat → StoryD → StoryD × Int × Int
  | [], _, d => (d, 0, 0)
  | e :: r, i, d => if addE d e ≠ 0 then (d, i + 1, addE d e) else playL r (i + 1) (acceptD d e)
def playS (l : List EventD) : StoryD × Int × Int := if 1000 < l.length then (⟨[], []⟩, 0, 5) else playL l 0 ⟨[], []⟩
def replayS (l : List EventD) : List RowD × Int × Int := if (playS l).2.2 ≠ 0 then ([], (playS l).2.1, (playS l).2.2) else ((playS l).1.now, 0, 0)
def acceptsS (l : List EventD) (e : EventD) : Int :=
  if firstE [(playS l).2.2, chkEvent e, whenE (decide (1000 ≤ l.length)) 5] ≠ 0 then firstE [(playS l).2.2, chkEvent e, whenE (decide (1000 ≤ l.length)) 5] else acceptE (playS l).1 e
def evB (e : EventD) : Prop := e.kind.length ≤ 1000000 ∧ e.names.length ≤ 1000 ∧ (∀ s ∈ e.names, s.length ≤ 1000000) ∧ e.vals.length ≤ 1000 ∧ e.text.length ≤ 1000000 ∧ (∀ c ∈ e.text, c < 256)
def heardE (e : EventD) : Bool := decide (e.kind.length ≤ 60) && decide (e.names.length ≤ 5) && decide (e.vals.length ≤ 5) && decide (e.text.length ≤ 300) && e.names.all fun s => decide (s.length ≤ 60)
def heardS (l : List EventD) : Bool := l.all heardE && decide (l.length ≤ 24)
end Go.Abs
namespace Go.Abs
open Go.Proofs
@[simp] theorem ki2 : kindOf Tryz.prog 2 = .leaf := by kernel_rfl
@[simp] theorem un2 : Tryz.prog.underlying 2 = some (.int .i64) := by kernel_rfl
@[simp] theorem at2 : appTy Tryz.prog 2 = false := by kernel_rfl
@[simp] theorem tz2 : tzero Tryz.prog 2 = some (.int .i64 (0)) := by kernel_rfl
@[simp] theorem ki123 : kindOf Tryz.prog 123 = .leaf := by kernel_rfl
@[simp] theorem at123 : appTy Tryz.prog 123 = true := by kernel_rfl
@[simp] theorem tz123 : tzero Tryz.prog 123 = some (.nfunc) := by kernel_rfl
@[simp] theorem ki160 : kindOf Tryz.prog 160 = .leaf := by kernel_rfl
@[simp] theorem un160 : Tryz.prog.underlying 160 = some (.pointer 162) := by kernel_rfl
@[simp] theorem at160 : appTy Tryz.prog 160 = true := by kernel_rfl
@[simp] theorem tz160 : tzero Tryz.prog 160 = some (.nptr) := by kernel_rfl
@[simp] theorem ki236 : kindOf Tryz.prog 236 = .leaf := by kernel_rfl
@[simp] theorem un236 : Tryz.prog.underlying 236 = some (.slice 22) := by kernel_rfl
@[simp] theorem at236 : appTy Tryz.prog 236 = true := by kernel_rfl
@[simp] theorem el236 : elemOk Tryz.prog 236 = some 1 := by kernel_rfl
@[simp] theorem et236 : elemType Tryz.prog 236 = 22 := by kernel_rfl
@[simp] theorem tz236 : tzero Tryz.prog 236 = some (.nsl) := by kernel_rfl
@[simp] theorem ki246 : kindOf Tryz.prog 246 = .leaf := by kernel_rfl
@[simp] theorem at246 : appTy Tryz.prog 246 = true := by kernel_rfl
@[simp] theorem tz246 : tzero Tryz.prog 246 = some (.nfunc) := by kernel_rfl
@[simp] theorem ki255 : kindOf Tryz.prog 255 = .leaf := by kernel_rfl
@[simp] theorem at255 : appTy Tryz.prog 255 = true := by kernel_rfl
@[simp] theorem tz255 : tzero Tryz.prog 255 = some (.nfunc) := by kernel_rfl
@[simp] theorem ki283 : kindOf Tryz.prog 283 = .leaf := by kernel_rfl
@[simp] theorem un283 : Tryz.prog.underlying 283 = some (.pointer 5) := by kernel_rfl
@[simp] theorem at283 : appTy Tryz.prog 283 = true := by kernel_rfl
@[simp] theorem tz283 : tzero Tryz.prog 283 = some (.nptr) := by kernel_rfl
@[simp] theorem ki284 : kindOf Tryz.prog 284 = .leaf := by kernel_rfl
@[simp] theorem at284 : appTy Tryz.prog 284 = true := by kernel_rfl
@[simp] theorem tz284 : tzero Tryz.prog 284 = some (.nfunc) := by kernel_rfl
@[simp] theorem ki299 : kindOf Tryz.prog 299 = .leaf := by kernel_rfl
@[simp] theorem at299 : appTy Tryz.prog 299 = true := by kernel_rfl
@[simp] theorem tz299 : tzero Tryz.prog 299 = some (.nfunc) := by kernel_rfl
@[simp] theorem ki301 : kindOf Tryz.prog 301 = .leaf := by kernel_rfl
@[simp] theorem at301 : appTy Tryz.prog 301 = true := by kernel_rfl
@[simp] theorem tz301 : tzero Tryz.prog 301 = some (.nfunc) := by kernel_rfl
@[simp] theorem ki317 : kindOf Tryz.prog 317 = .leaf := by kernel_rfl
@[simp] theorem un317 : Tryz.prog.underlying 317 = some (.int .u32) := by kernel_rfl
@[simp] theorem at317 : appTy Tryz.prog 317 = false := by kernel_rfl
@[simp] theorem tz317 : tzero Tryz.prog 317 = some (.int .u32 (0)) := by kernel_rfl
@[simp] theorem ki320 : kindOf Tryz.prog 320 = .leaf := by kernel_rfl
@[simp] theorem un320 : Tryz.prog.underlying 320 = some (.int .u64) := by kernel_rfl
@[simp] theorem at320 : appTy Tryz.prog 320 = false := by kernel_rfl
@[simp] theorem tz320 : tzero Tryz.prog 320 = some (.int .u64 (0)) := by kernel_rfl
@[simp] theorem ki326 : kindOf Tryz.prog 326 = .leaf := by kernel_rfl
@[simp] theorem at326 : appTy Tryz.prog 326 = true := by kernel_rfl
@[simp] theorem tz326 : tzero Tryz.prog 326 = some (.nptr) := by kernel_rfl
@[simp] theorem ki397 : kindOf Tryz.prog 397 = .leaf := by kernel_rfl
@[simp] theorem un397 : Tryz.prog.underlying 397 = some (.pointer 378) := by kernel_rfl
@[simp] theorem at397 : appTy Tryz.prog 397 = true := by kernel_rfl
@[simp] theorem tz397 : tzero Tryz.prog 397 = some (.nptr) := by kernel_rfl
@[simp] theorem ss384 : shpSize Tryz.prog (.agg 384) = 24 := by kernel_rfl
@[simp] theorem ss401 : shpSize Tryz.prog (.agg 401) = 20 := by kernel_rfl
@[simp] theorem ss409 : shpSize Tryz.prog (.agg 409) = 2 := by kernel_rfl
@[simp] theorem ss411 : shpSize Tryz.prog (.agg 411) = 32 := by kernel_rfl
@[simp] theorem ss416 : shpSize Tryz.prog (.agg 416) = 1 := by kernel_rfl
@[simp] theorem ss418 : shpSize Tryz.prog (.agg 418) = 32 := by kernel_rfl
end Go.Abs
namespace Go.Abs
open Go.Proofs
set_option maxHeartbeats 4000000
set_option maxRecDepth 100000
theorem c_within (n lo hi : Int) : GoodC Tryz.prog 128 [.int .i64 n, .int .i64 lo, .int .i64 hi] (.int .i64 (withinE n lo hi)) := by
  refine good_fn nf isF128 mix (by simp [Tryz.f128]) ?_
  by_cases h1 : n < lo
  · simp [Tryz.f128, h1]
    refine c2 (c_when true 3) ?_
    simp [withinE, h1]
  · by_cases h2 : hi < n
    · simp [Tryz.f128, h1, h2]
      refine c2 (c_when true 3) ?_
      simp [withinE, h1, h2]
    · simp [Tryz.f128, h1, h2]
      refine c2 (c_when false 3) ?_
      simp [withinE, h1, h2]
def kindV (f : Nat × Nat × Bool × Bool) (fn : PV) : PV := .st 229 [.int .i64 f.1, .int .i64 f.2.1, .bool f.2.2.1, fn]
def kindsE : List (PV × PV) := [(.str kAdd, kindV (1, 0, true, true) (.func 207 [] [])), (.str kSet, kindV (1, 0, true, true) (.func 208 [] [])), (.str kDrop, kindV (1, 0, false, true) (.func 209 [] [])), (.str kMove, kindV (1, 1, false, true) (.func 210 [] [])), (.str kUndo, kindV (0, 0, false, true) .nfunc)]
theorem c_kinds : GoodC Tryz.prog 144 [] (.fmap kindsE) := by
  refine good_fn nf isF144 mix (by simp [Tryz.f144]) ?_
  simp [Tryz.f144, kindsE, kindV, kAdd, kSet, kDrop, kMove, kUndo]
def kindF (k : List Nat) : PV := if k = kAdd then .func 207 [] [] else if k = kSet then .func 208 [] [] else if k = kDrop then .func 209 [] [] else if k = kMove then .func 210 [] [] else .nfunc
theorem kinds_look (k : List Nat) : lookupM kindsE (.str k) = some (if (formS k).2.2.2 = true then some (kindV (formS k) (kindF k)) else none) := by
  have e : ∀ a b : List Nat, eqP (.str a) (.str b) = some (decide (a = b)) := fun a b => by simp [eqP]; rw [Bool.eq_iff_iff]; simp
  by_cases h1 : k = kAdd
  · subst h1; rfl
  by_cases h2 : k = kSet
  · subst h2; rfl
  by_cases h3 : k = kDrop
  · subst h3; rfl
  by_cases h4 : k = kMove
  · subst h4; rfl
  by_cases h5 : k = kUndo
  · subst h5; rfl
  have hf : formS k = (0, 0, false, false) := by simp [formS, h1, h2, h3, h4, h5]
  simp only [kindsE, lookupM, e, h1, h2, h3, h4, h5, decide_false, hf, Bool.false_eq_true, if_false]
theorem c_form (k : List Nat) : GoodC Tryz.prog 123 [.str k] (.tup [.int .i64 (formS k).1, .int .i64 (formS k).2.1, .bool (formS k).2.2.1, .bool (formS k).2.2.2]) := by
  refine good_fn nf isF123 mix (by simp [Tryz.f123]) ?_
  by_cases h1 : k = kAdd
  · subst h1; simp [Tryz.f123, kAdd, formS]
  by_cases h2 : k = kSet
  · subst h2; simp [Tryz.f123, kSet, kAdd, formS]
  by_cases h3 : k = kDrop
  · subst h3; simp [Tryz.f123, kDrop, kSet, kAdd, formS]
  by_cases h4 : k = kMove
  · subst h4; simp [Tryz.f123, kMove, kDrop, kSet, kAdd, formS]
  by_cases h5 : k = kUndo
  · subst h5; simp [Tryz.f123, kUndo, kMove, kDrop, kSet, kAdd, formS]
  have hf : formS k = (0, 0, false, false) := by simp [formS, h1, h2, h3, h4, h5]
  rw [hf]
  simp only [kAdd, kSet, kDrop, kMove, kUndo] at h1 h2 h3 h4 h5
  simp [Tryz.f123, h1, h2, h3, h4, h5]
end Go.Abs
namespace Go.Abs
open Go.Proofs
set_option maxHeartbeats 4000000
set_option maxRecDepth 100000
theorem cutN_has (c : Nat) : ∀ s : List Nat, (cutN c s).2.2 = decide (c ∈ s)
  | [] => by simp [cutN]
  | x :: r => by
    rw [cutN]
    by_cases h : x = c
    · simp [h]
    · rw [if_neg h]
      have h' : ¬ c = x := fun e => h e.symm
      simp [cutN_has c r, h']
theorem c_checkEvent (e : EventD) (h : evB e) : GoodC Tryz.prog 55 [eEvent e] (.int .i64 (chkEvent e)) := by
  obtain ⟨num, kind, names, vals, text⟩ := e
  obtain ⟨b1, b2, b3, b4, b5, b6⟩ := h
  dsimp only at b1 b2 b3 b4 b5 b6
  refine good_fn nf isF55 mix (by simp [Tryz.f55]) ?_
  have hlk := kinds_look kind
  have hz : (formS kind).2.2.2 = false → formS kind = (0, 0, false, false) := by
    intro h
    by_cases h1 : kind = kAdd
    · subst h1; cases h
    by_cases h2 : kind = kSet
    · subst h2; cases h
    by_cases h3 : kind = kDrop
    · subst h3; cases h
    by_cases h4 : kind = kMove
    · subst h4; cases h
    by_cases h5 : kind = kUndo
    · subst h5; cases h
    simp [formS, h1, h2, h3, h4, h5]
  have hc : chkEvent ⟨num, kind, names, vals, text⟩ = firstE [firstE [withinE num 1 1000, whenE (!(formS kind).2.2.2) 13, whenE (decide (names.length ≠ (formS kind).1) || decide (vals.length ≠ (formS kind).2.1)) 2], chkNames names, chkNums vals, chkText (formS kind).2.2.1 text] := rfl
  rw [hc]
  clear hc
  generalize formS kind = f at *
  obtain ⟨fn, fv, ft, fk⟩ := f
  dsimp only at hz hlk ⊢
  simp [Tryz.f55, eEvent, -w_seq']
  rw [w_seq']
  simp [-w_seq']
  refine join (fun s => ∃ fnv, getE s.env 1 = .ptr 0 [] ∧ getE s.env 3 = .ptr 1 [] ∧ getE s.env 4 = .p (.bool fk) ∧ s.heap = [.box false (.p (.st 60 [.int .i64 num, .str kind, .seq (names.map .str), .seq (vals.map (.int .i64)), .str text])), .box false (.p (.st 229 [.int .i64 fn, .int .i64 fv, .bool ft, fnv]))]) ?_ ?_
  · simp
    refine e0 c_kinds ?_
    cases fk
    · obtain ⟨rfl, rfl, rfl⟩ : fn = 0 ∧ fv = 0 ∧ ft = false := by
        have := hz rfl
        simpa using this
      simp [hlk]
      rfl
    · simp [hlk, kindV]
      rfl
  rintro ⟨env, heap⟩ ⟨fnv, g1, g3, g4, hp⟩
  dsimp only at g1 g3 g4 hp
  subst hp
  refine join (fun s => getE s.env 1 = .ptr 0 [] ∧ getE s.env 3 = .ptr 1 [] ∧ firstE [withinE num 1 1000, whenE (!fk) 13, whenE (decide (names.length ≠ fn) || decide (vals.length ≠ fv)) 2] = 0 ∧ s.heap = [.box false (.p (.st 60 [.int .i64 num, .str kind, .seq (names.map .str), .seq (vals.map (.int .i64)), .str text])), .box false (.p (.st 229 [.int .i64 fn, .int .i64 fv, .bool ft, fnv])), .arr .frozen 0 1 [.p (.int .i64 (withinE num 1 1000)), .p (.int .i64 (whenE (!fk) 13)), .p (.int .i64 (whenE (decide (names.length ≠ fn) || decide (vals.length ≠ fv)) 2))]]) ?_ ?_
  · generalize hb : (decide (names.length ≠ fn) || decide (vals.length ≠ fv)) = b
    have hcs : ((names.length : Int) = fn ∧ (vals.length : Int) = fv ∧ b = false) ∨ ((names.length : Int) = fn ∧ ¬ (vals.length : Int) = fv ∧ b = true) ∨ (¬ (names.length : Int) = fn ∧ ¬ (names.length : Int) = fn ∧ b = true) := by
      rw [← hb]
      by_cases q1 : names.length = fn <;> by_cases q2 : vals.length = fv <;> simp [q1, q2] <;> omega
    clear hb
    rcases hcs with ⟨q1, q2, q3⟩ | ⟨q1, q2, q3⟩ | ⟨q1, q2, q3⟩
    all_goals
      simp [g1, g3, g4, q1, q2]
      refine e3 (c_within num 1 1000) ?_
      simp [g1, g3, g4, q1, q2]
      refine e2 (c_when (!fk) 13) ?_
      simp [g1, g3, g4, q1, q2]
      refine e2 (c_when b 2) ?_ (h1 := by simp [q1, q2, q3])
      simp [g1, g3, g4, q1, q2]
      refine ep (h1 := ?g1) (c_first [withinE num 1 1000, whenE (!fk) 13, whenE b 2] (by simp)) (by simp; exact ⟨rfl, rfl⟩) (by simp; exact ⟨rfl, rfl⟩) ?_
      case g1 => simp
      by_cases hz : firstE [withinE num 1 1000, whenE (!fk) 13, whenE b 2] = 0
      · simp [hz, g1, g3, g4]
        rfl
      · simp [hz]
        refine ⟨rfl, ?_⟩
        rw [firstE, if_neg hz]
  rintro ⟨env2, heap2⟩ ⟨h1, h3, hs, hp⟩
  dsimp only at h1 h3 hp
  subst hp
  rw [show firstE [firstE [withinE num 1 1000, whenE (!fk) 13, whenE (decide (names.length ≠ fn) || decide (vals.length ≠ fv)) 2], chkNames names, chkNums vals, chkText ft text] = firstE [chkNames names, chkNums vals, chkText ft text] by rw [firstE, if_pos hs]]
  clear hs hlk hz g1 g3 g4
  refine join (fun s => getE s.env 1 = .ptr 0 [] ∧ getE s.env 3 = .ptr 1 [] ∧ chkNames names = 0 ∧ s.heap = [.box false (.p (.st 60 [.int .i64 num, .str kind, .seq (names.map .str), .seq (vals.map (.int .i64)), .str text])), .box false (.p (.st 229 [.int .i64 fn, .int .i64 fv, .bool ft, fnv]))]) ?_ ?_
  · simp [h1, h3]
    refine lp (α := Nat) (fun i => ⟨[(48, .p (.int .i64 i)), (47, .p (.int .i64 names.length)), (46, .p (.seq (names.map .str))), (1, .ptr 0 []), (3, .ptr 1 [])], [.box false (.p (.st 60 [.int .i64 num, .str kind, .seq (names.map .str), .seq (vals.map (.int .i64)), .str text])), .box false (.p (.st 229 [.int .i64 fn, .int .i64 fv, .bool ft, fnv]))]⟩) (fun i => i ≤ names.length ∧ chkNames names = chkNames (names.drop i)) (fun i => names.length - i) 0 (by simp) ?_ (he := by simp [h1, h3])
    rintro i ⟨k1, k2⟩
    have hw := wi1 (i := i) (by omega)
    by_cases hi : i < names.length
    · rw [List.drop_eq_getElem_cons hi, chkNames] at k2
      have hs := b3 _ (List.getElem_mem hi)
      simp [hi]
      refine c1 (c_named names[i] (by omega)) ?_
      by_cases hn : isName names[i] = true
      · rw [if_pos hn] at k2
        simp [hn, whenE, hw]
        exact rd (i + 1) ⟨hi, k2⟩
      · rw [if_neg hn] at k2
        simp [hn, whenE, k2, firstE]
    · have : i = names.length := by omega
      subst this
      rw [List.drop_length, chkNames] at k2
      simp [k2]
  rintro ⟨env3, heap3⟩ ⟨h1, h3, hs, hp⟩
  dsimp only at h1 h3 hp
  subst hp
  rw [show firstE [chkNames names, chkNums vals, chkText ft text] = firstE [chkNums vals, chkText ft text] by rw [firstE, if_pos hs]]
  clear hs
  refine join (fun s => getE s.env 1 = .ptr 0 [] ∧ getE s.env 3 = .ptr 1 [] ∧ chkNums vals = 0 ∧ s.heap = [.box false (.p (.st 60 [.int .i64 num, .str kind, .seq (names.map .str), .seq (vals.map (.int .i64)), .str text])), .box false (.p (.st 229 [.int .i64 fn, .int .i64 fv, .bool ft, fnv]))]) ?_ ?_
  · simp [h1, h3]
    refine lp (α := Nat) (fun i => ⟨[(61, .p (.int .i64 i)), (60, .p (.int .i64 vals.length)), (59, .p (.seq (vals.map (.int .i64)))), (1, .ptr 0 []), (3, .ptr 1 [])], [.box false (.p (.st 60 [.int .i64 num, .str kind, .seq (names.map .str), .seq (vals.map (.int .i64)), .str text])), .box false (.p (.st 229 [.int .i64 fn, .int .i64 fv, .bool ft, fnv]))]⟩) (fun i => i ≤ vals.length ∧ chkNums vals = chkNums (vals.drop i)) (fun i => vals.length - i) 0 (by simp) ?_ (he := by simp [h1, h3])
    rintro i ⟨k1, k2⟩
    have hw := wi1 (i := i) (by omega)
    by_cases hi : i < vals.length
    · rw [List.drop_eq_getElem_cons hi, chkNums] at k2
      simp [hi]
      refine c3 (c_within vals[i] 0 999999999) ?_
      by_cases hn : vals[i] < 0 ∨ vals[i] > 999999999
      · rw [if_pos hn] at k2
        have e : withinE vals[i] 0 999999999 = 3 := by
          rcases hn with hn | hn <;> simp [withinE, whenE, hn]
        simp [e, k2, firstE]
      · rw [if_neg hn] at k2
        have e : withinE vals[i] 0 999999999 = 0 := by
          simp only [not_or] at hn
          simp [withinE, whenE, hn]
        simp [e, hw]
        exact rd (i + 1) ⟨hi, k2⟩
    · have : i = vals.length := by omega
      subst this
      rw [List.drop_length, chkNums] at k2
      simp [k2]
  rintro ⟨env4, heap4⟩ ⟨h1, h3, hs, hp⟩
  dsimp only at h1 h3 hp
  subst hp
  rw [show firstE [chkNums vals, chkText ft text] = chkText ft text by rw [firstE, if_pos hs, chkText]; simp only [firstE]; split <;> simp_all]
  clear hs
  have hC := c_contains text 10
  rw [cutN_has] at hC
  rw [chkText]
  by_cases q0 : text = []
  · subst q0
    cases ft
    all_goals
      simp [h1, h3]
      refine e2 hC ?_
      simp
      refine e2 (c_when false 1) ?_
      simp [h1, h3]
      refine e2 (c_when false 26) ?_
      simp
      refine ep (h1 := ?g1) (c_first [whenE false 1, whenE false 26] (by simp)) (by simp; exact ⟨rfl, rfl⟩) (by simp; exact ⟨rfl, rfl⟩) ?_
      case g1 => simp
      simp
      rfl
  · cases ft
    · simp [h1, h3, q0]
      refine e2 (c_when true 1) ?_
      simp [h1, h3]
      refine e2 (c_when (decide (4096 < text.length)) 26) ?_ (h1 := by simp; omega)
      simp
      refine ep (h1 := ?g1) (c_first [whenE true 1, whenE (decide (4096 < text.length)) 26] (by simp)) (by simp; exact ⟨rfl, rfl⟩) (by simp; exact ⟨rfl, rfl⟩) ?_
      case g1 => simp
      simp [q0]
      rfl
    · simp [h1, h3, q0]
      refine e2 hC ?_
      simp
      refine e2 (c_when (decide (10 ∈ text)) 1) ?_
      simp [h1, h3]
      refine e2 (c_when (decide (4096 < text.length)) 26) ?_ (h1 := by simp; omega)
      simp
      refine ep (h1 := ?g1) (c_first [whenE (decide (10 ∈ text)) 1, whenE (decide (4096 < text.length)) 26] (by simp)) (by simp; exact ⟨rfl, rfl⟩) (by simp; exact ⟨rfl, rfl⟩) ?_
      case g1 => simp
      simp
      rfl
end Go.Abs
namespace Go.Abs
open Go.Proofs
set_option maxHeartbeats 4000000
set_option maxRecDepth 100000
def evP (num : Int) (kind : List Nat) (names : List (List Nat)) (vals : List Int) (text : List Nat) : PV := .st 60 [.int .i64 num, .str kind, .seq (names.map .str), .seq (vals.map (.int .i64)), .str text]
theorem c_checkEventR (e : EventD) (h : evB e) : GoodC Tryz.prog 38 [eEvent e] (.int .i64 (chkEvent e)) := by
  obtain ⟨num, kind, names, vals, text⟩ := e
  obtain ⟨b1, b2, b3, b4, b5, b6⟩ := h
  dsimp only at b1 b2 b3 b4 b5 b6
  refine good_fn nf isF38 mix (by simp [Tryz.f38]) ?_
  have hF := c_form kind
  have hc : chkEvent ⟨num, kind, names, vals, text⟩ = firstE [firstE [withinE num 1 1000, whenE (!(formS kind).2.2.2) 13, whenE (decide (names.length ≠ (formS kind).1) || decide (vals.length ≠ (formS kind).2.1)) 2], chkNames names, chkNums vals, chkText (formS kind).2.2.1 text] := rfl
  rw [hc]
  clear hc
  generalize formS kind = f at *
  obtain ⟨fn, fv, ft, fk⟩ := f
  dsimp only at hF ⊢
  have hH : ∀ (a b c : Int), withinE a b c = whenE (decide (a < b) || decide (c < a)) 3 := fun _ _ _ => rfl
  simp [Tryz.f38, eEvent, -w_seq']
  rw [w_seq']
  simp [-w_seq']
  refine join (fun s => getE s.env 1 = .ptr 0 [] ∧ withinE num 1 1000 = 0 ∧ s.heap = [.box false (.p (.st 60 [.int .i64 num, .str kind, .seq (names.map .str), .seq (vals.map (.int .i64)), .str text]))]) ?_ ?_
  · simp
    refine c3 (c_out _ _ _) ?_
    by_cases ho : num < 1 ∨ 1000 < num
    · have e : withinE num 1 1000 = 3 := by
        rcases ho with hn | hn <;> simp [withinE, whenE, hn]
      have e2 : (decide (num < 1) || decide (1000 < num)) = true := by simpa using ho
      simp [e, e2, firstE]
    · have e : withinE num 1 1000 = 0 := by
        simp only [not_or] at ho
        simp [withinE, whenE, ho]
      have e2 : (decide (num < 1) || decide (1000 < num)) = false := by simpa using ho
      simp [e, e2]
  rintro ⟨env, heap⟩ ⟨g1, hs1, hp⟩
  dsimp only at g1 hp
  subst hp
  rw [w_seq']
  simp [-w_seq', g1]
  refine c1 hF ?_
  simp [-w_seq']
  refine join (fun s => getE s.env 1 = .ptr 0 [] ∧ getE s.env 3 = .p (.int .i64 fn) ∧ getE s.env 4 = .p (.int .i64 fv) ∧ getE s.env 5 = .p (.bool ft) ∧ fk = true ∧ s.heap = [.box false (.p (.st 60 [.int .i64 num, .str kind, .seq (names.map .str), .seq (vals.map (.int .i64)), .str text]))]) ?_ ?_
  · cases fk
    · simp [hs1, firstE, whenE]
    · simp [g1]
  rintro ⟨env, heap⟩ ⟨g1, g3, g4, g5, rfl, hp⟩
  dsimp only at g1 g3 g4 g5 hp
  subst hp
  refine join (fun s => getE s.env 1 = .ptr 0 [] ∧ getE s.env 3 = .p (.int .i64 fn) ∧ getE s.env 4 = .p (.int .i64 fv) ∧ getE s.env 5 = .p (.bool ft) ∧ names.length = fn ∧ vals.length = fv ∧ s.heap = [.box false (.p (.st 60 [.int .i64 num, .str kind, .seq (names.map .str), .seq (vals.map (.int .i64)), .str text]))]) ?_ ?_
  · by_cases q1 : names.length = fn
    · by_cases q2 : vals.length = fv
      · have q1' : (names.length : Int) = fn := by omega
        have q2' : (vals.length : Int) = fv := by omega
        simp [g1, g3, g4, g5, q1', q2']
        exact ⟨q1, q2⟩
      · have q1' : (names.length : Int) = fn := by omega
        have q2' : ¬ (vals.length : Int) = fv := by omega
        simp [g1, g3, g4, g5, q1', q2', hs1, q1, q2, firstE, whenE]
    · have q1' : ¬ (names.length : Int) = fn := by omega
      simp [g1, g3, g4, g5, q1', hs1, q1, firstE, whenE]
  rintro ⟨env, heap⟩ ⟨g1, g3, g4, g5, q1, q2, hp⟩
  dsimp only at g1 g3 g4 g5 hp
  subst hp
  subst q1
  subst q2
  rw [show firstE [firstE [withinE num 1 1000, whenE (!true) 13, whenE (decide (names.length ≠ names.length) || decide (vals.length ≠ vals.length)) 2], chkNames names, chkNums vals, chkText ft text] = firstE [chkNames names, chkNums vals, chkText ft text] by simp [firstE, hs1, whenE]]
  clear hs1 hF
  refine join (fun s => getE s.env 1 = .ptr 0 [] ∧ getE s.env 4 = .p (.int .i64 vals.length) ∧ getE s.env 5 = .p (.bool ft) ∧ chkNames names = 0 ∧ s.heap = [.box false (.p (.st 60 [.int .i64 num, .str kind, .seq (names.map .str), .seq (vals.map (.int .i64)), .str text]))]) ?_ ?_
  · simp [g1, g3, g4, g5]
    refine lp (α := Nat) (fun i => ⟨[(7, .p (.int .i64 i)), (1, .ptr 0 []), (3, .p (.int .i64 names.length)), (4, .p (.int .i64 vals.length)), (5, .p (.bool ft))], [.box false (.p (.st 60 [.int .i64 num, .str kind, .seq (names.map .str), .seq (vals.map (.int .i64)), .str text]))]⟩) (fun i => i ≤ names.length ∧ chkNames names = chkNames (names.drop i)) (fun i => names.length - i) 0 (by simp) ?_ (he := by simp [g1, g3, g4, g5])
    rintro i ⟨k1, k2⟩
    have hw := wi1 (i := i) (by omega)
    by_cases hi : i < names.length
    · rw [List.drop_eq_getElem_cons hi, chkNames] at k2
      have hs := b3 _ (List.getElem_mem hi)
      simp [hi]
      refine c1 (c_refIsName names[i] (by omega)) ?_
      by_cases hn : isName names[i] = true
      · rw [if_pos hn] at k2
        simp [hn, hw]
        exact rd (i + 1) ⟨hi, k2⟩
      · rw [if_neg hn] at k2
        simp [hn, k2, firstE]
    · have : i = names.length := by omega
      subst this
      rw [List.drop_length, chkNames] at k2
      simp [k2]
  rintro ⟨env, heap⟩ ⟨g1, g4, g5, hs, hp⟩
  dsimp only at g1 g4 g5 hp
  subst hp
  rw [show firstE [chkNames names, chkNums vals, chkText ft text] = firstE [chkNums vals, chkText ft text] by rw [firstE, if_pos hs]]
  clear hs
  refine join (fun s => getE s.env 1 = .ptr 0 [] ∧ getE s.env 5 = .p (.bool ft) ∧ chkNums vals = 0 ∧ s.heap = [.box false (.p (.st 60 [.int .i64 num, .str kind, .seq (names.map .str), .seq (vals.map (.int .i64)), .str text]))]) ?_ ?_
  · simp [g1, g4, g5]
    refine lp (α := Nat) (fun i => ⟨[(8, .p (.int .i64 i)), (1, .ptr 0 []), (4, .p (.int .i64 vals.length)), (5, .p (.bool ft))], [.box false (.p (.st 60 [.int .i64 num, .str kind, .seq (names.map .str), .seq (vals.map (.int .i64)), .str text]))]⟩) (fun i => i ≤ vals.length ∧ chkNums vals = chkNums (vals.drop i)) (fun i => vals.length - i) 0 (by simp) ?_ (he := by simp [g1, g4, g5])
    rintro i ⟨k1, k2⟩
    have hw := wi1 (i := i) (by omega)
    by_cases hi : i < vals.length
    · rw [List.drop_eq_getElem_cons hi, chkNums] at k2
      simp [hi]
      refine c3 (c_out _ _ _) ?_
      by_cases hn : vals[i] < 0 ∨ vals[i] > 999999999
      · rw [if_pos hn] at k2
        have e : (decide (vals[i] < 0) || decide (999999999 < vals[i])) = true := by simpa using hn
        simp [e, k2, firstE]
      · rw [if_neg hn] at k2
        have e : (decide (vals[i] < 0) || decide (999999999 < vals[i])) = false := by simpa using hn
        simp [e, hw]
        exact rd (i + 1) ⟨hi, k2⟩
    · have : i = vals.length := by omega
      subst this
      rw [List.drop_length, chkNums] at k2
      simp [k2]
  rintro ⟨env, heap⟩ ⟨g1, g5, hs, hp⟩
  dsimp only at g1 g5 hp
  subst hp
  rw [show firstE [chkNums vals, chkText ft text] = chkText ft text by rw [firstE, if_pos hs, chkText]; simp only [firstE]; split <;> simp_all]
  clear hs
  rw [chkText]
  refine join (fun s => getE s.env 1 = .ptr 0 [] ∧ (ft = true ∨ text = []) ∧ s.heap = [.box false (.p (.st 60 [.int .i64 num, .str kind, .seq (names.map .str), .seq (vals.map (.int .i64)), .str text]))]) ?_ ?_
  · cases ft
    · by_cases q0 : text = []
      · subst q0
        simp [g1, g5]
      · simp [g1, g5, q0, firstE, whenE]
    · simp [g1, g5]
  rintro ⟨env, heap⟩ ⟨g1, hq, hp⟩
  dsimp only at g1 hp
  subst hp
  have hq2 : (!ft && !decide (text = [])) = false := by
    rcases hq with rfl | rfl <;> simp
  rw [hq2, Bool.false_or]
  refine join (fun s => getE s.env 1 = .ptr 0 [] ∧ 10 ∉ text ∧ s.heap = [.box false (.p (.st 60 [.int .i64 num, .str kind, .seq (names.map .str), .seq (vals.map (.int .i64)), .str text]))]) ?_ ?_
  · simp [g1]
    refine lp (α := Nat) (fun i => ⟨[(9, .p (.int .i64 i)), (1, .ptr 0 [])], [.box false (.p (.st 60 [.int .i64 num, .str kind, .seq (names.map .str), .seq (vals.map (.int .i64)), .str text]))]⟩) (fun i => i ≤ text.length ∧ 10 ∉ text.take i) (fun i => text.length - i) 0 (by simp) ?_ (he := by simp [g1])
    rintro i ⟨k1, k2⟩
    have hw := wi1 (i := i) (by omega)
    by_cases hi : i < text.length
    · by_cases hn : text[i] = 10
      · have hm : 10 ∈ text := hn ▸ List.getElem_mem hi
        have hn' : ((text[i] : Nat) : Int) = 10 := by omega
        simp [hi, hn', hm, firstE, whenE]
      · have hn' : ¬ ((text[i] : Nat) : Int) = 10 := by omega
        simp [hi, hn', hw]
        refine rd (i + 1) ⟨hi, ?_⟩
        rw [List.take_succ_eq_append_getElem hi, List.mem_append]
        simp only [List.mem_singleton, not_or]
        exact ⟨k2, fun e => hn e.symm⟩
    · have : i = text.length := by omega
      subst this
      rw [List.take_length] at k2
      simp [k2]
  rintro ⟨env, heap⟩ ⟨g1, hm, hp⟩
  dsimp only at g1 hp
  subst hp
  by_cases hl : 4096 < text.length
  · have hl' : (4096 : Int) < text.length := by omega
    simp [g1, hm, hl, hl', firstE, whenE]
  · have hl' : ¬ (4096 : Int) < text.length := by omega
    simp [g1, hm, hl, hl', firstE, whenE]
end Go.Abs
namespace Go.Abs
open Go.Proofs
set_option maxHeartbeats 4000000
set_option maxRecDepth 100000
@[simp] def rowsX (l : List RowD) : Obj := .arr .exact 0 2 (l.map (AV.p ∘ eRow))
end Go.Abs
namespace Go.Abs
open Go.Proofs
set_option maxHeartbeats 4000000
set_option maxRecDepth 100000
def zRow : AV := .p (.st 54 [.str [], .nsl])
end Go.Abs
namespace Go.Abs
open Go.Proofs
set_option maxHeartbeats 4000000
set_option maxRecDepth 100000
@[simp] theorem renL_app {σ : Nat → Nat} : ∀ {a b : List AV}, renL σ (a ++ b) = renL σ a ++ renL σ b
  | [], b => by simp [renL]
  | x :: a, b => by simp [renL, renL_app (a := a)]
def pairP (r : List RowD × Int) : PV := .tup [.seq (r.1.map eRow), .int .i64 r.2]
end Go.Abs
namespace Go.Abs
open Go.Proofs
set_option maxHeartbeats 4000000
set_option maxRecDepth 100000
@[simp] theorem renL_pp {σ : Nat → Nat} {Q : List PV} : renL σ (Q.map AV.p) = Q.map AV.p := by
  induction Q with
  | nil => simp [renL]
  | cons x Q ih => simp [renL, ren, ih]
@[simp] theorem refsL_pp {N : Nat × Nat → Prop} {Q : List PV} : refsLtl N (Q.map AV.p) = True := by
  rw [refsLtl_mem, eq_iff_iff, iff_true]; intro v hv; obtain ⟨x, _, rfl⟩ := List.mem_map.1 hv; trivial
end Go.Abs
namespace Go.Abs
def sumS : List Nat → Nat → Nat → Nat
  | [], _, n => n
  | c :: r, i, n => sumS r (i + 1) ((n + c * (i + 1)) % 999983)
def sumT (s : List Nat) : List Nat := low 6 (sumS s 0 0)
def textW (e : EventD) : List (List Nat) := if (formS e.kind).2.2.1 = true then [e.text] else []
def bodyW (e : EventD) : List (List Nat) := e.kind :: (e.names ++ (e.vals.map itoaN ++ textW e))
def lineT (e : EventD) : List Nat := joinN [32] (bodyW e)
def bodyT (e : EventD) : List Nat := itoaN e.num ++ 32 :: lineT e
def recN (e : EventD) : List Nat := sumT (bodyT e) ++ 58 :: bodyT e
def recT (e : EventD) : List Nat := recN e ++ [10]
def logT (l : List EventD) : List Nat := l.flatMap recT
def noEv : EventD := ⟨0, [], [], [], []⟩
def fldS : Nat → Nat → List Nat → Bool → Option (List (List Nat) × List Int × List Nat × Bool)
  | 0, 0, s, m => some ([], [], s, m)
  | 0, v + 1, s, m => if m = false then none else if (cutN 32 s).1 = [] then none else if (intR (cutN 32 s).1).2 = false then none
    else (fldS 0 v (cutN 32 s).2.1 (cutN 32 s).2.2).map fun x => (x.1, (intR (cutN 32 s).1).1 :: x.2.1, x.2.2)
  | n + 1, v, s, m => if m = false then none else if (cutN 32 s).1 = [] then none
    else (fldS n v (cutN 32 s).2.1 (cutN 32 s).2.2).map fun x => ((cutN 32 s).1 :: x.1, x.2)
def parsedS (s : List Nat) : EventD × Bool :=
  if (formS (cutN 32 s).1).2.2.2 = false then (noEv, false)
  else match fldS (formS (cutN 32 s).1).1 (formS (cutN 32 s).1).2.1 (cutN 32 s).2.1 (cutN 32 s).2.2 with
    | none => (noEv, false)
    | some x => (⟨0, (cutN 32 s).1, x.1, x.2.1, if (formS (cutN 32 s).1).2.2.1 = true then x.2.2.1 else []⟩, x.2.2.2 == (formS (cutN 32 s).1).2.2.1)
def EventD.at (e : EventD) (n : Int) : EventD := ⟨n, e.kind, e.names, e.vals, e.text⟩
def bodyRd (s : List Nat) : EventD × Bool :=
  if (cutN 32 s).2.2 = false ∨ (intR (cutN 32 s).1).2 = false then (noEv, false)
  else ((parsedS (cutN 32 s).2.1).1.at (intR (cutN 32 s).1).1, (parsedS (cutN 32 s).2.1).2 && decide (chkEvent ((parsedS (cutN 32 s).2.1).1.at (intR (cutN 32 s).1).1) = 0))
def recR (s : List Nat) (number : Int) : EventD × Int :=
  if s.length ≤ 6 ∨ s[6]? ≠ some 58 ∨ (s.take 6).all isD = false then (noEv, 25)
  else if s.take 6 ≠ sumT (s.drop 7) then (noEv, 27)
  else ((bodyRd (s.drop 7)).1, firstE [whenE (!(bodyRd (s.drop 7)).2) 25, whenE (decide ((bodyRd (s.drop 7)).1.num ≠ number)) 11])
def recL : List (Nat × List Nat) → List EventD → Nat → List EventD × Nat × Int
  | [], out, n => (out, n, 0)
  | x :: r, out, n => if x.2.getLast? ≠ some 10 then (out, n, 28) else if (recR x.2.dropLast (out.length + 1)).2 ≠ 0 then (out, n, (recR x.2.dropLast (out.length + 1)).2)
    else recL r (out ++ [(recR x.2.dropLast (out.length + 1)).1]) x.1
def recoverS (s : List Nat) : List EventD × Nat × Int := if 1000000 < s.length then ([], 0, 26) else recL (lns s) [] 0
def appendE (s : List Nat) (e : EventD) : Int := firstE [(recoverS s).2.2, chkEvent e, whenE (decide (e.num ≠ (recoverS s).1.length + 1)) 11]
def appendS (s : List Nat) (e : EventD) : List Nat × Int :=
  if appendE s e ≠ 0 then ([], appendE s e) else if 1000000 < (s ++ recT e).length then ([], 26) else (s ++ recT e, 0)
theorem cutN_eq (c : Nat) : ∀ (s : List Nat), ((cutN c s).2.2 = true ∧ s = (cutN c s).1 ++ c :: (cutN c s).2.1) ∨ ((cutN c s).2.2 = false ∧ (cutN c s).1 = s ∧ (cutN c s).2.1 = [])
  | [] => by simp [cutN]
  | x :: r => by
    rw [cutN]
    by_cases h : x = c
    · simp [h]
    · rw [if_neg h]
      rcases cutN_eq c r with ⟨h1, h2⟩ | ⟨h1, h2, h3⟩
      · left; refine ⟨h1, ?_⟩
        dsimp only
        rw [List.cons_append, ← h2]
      · right; exact ⟨h1, by simp only [h2], h3⟩
theorem cutN_not (c : Nat) : ∀ (s : List Nat), c ∉ (cutN c s).1
  | [] => by simp [cutN]
  | x :: r => by
    rw [cutN]
    by_cases h : x = c
    · simp [h]
    · rw [if_neg h]
      have := cutN_not c r
      simp only [List.mem_cons, not_or]
      exact ⟨fun e => h e.symm, this⟩
theorem form_cases (k : List Nat) : k = kAdd ∨ k = kSet ∨ k = kDrop ∨ k = kMove ∨ k = kUndo ∨ (formS k = (0, 0, false, false)) := by
  by_cases h1 : k = kAdd
  · exact .inl h1
  by_cases h2 : k = kSet
  · exact .inr (.inl h2)
  by_cases h3 : k = kDrop
  · exact .inr (.inr (.inl h3))
  by_cases h4 : k = kMove
  · exact .inr (.inr (.inr (.inl h4)))
  by_cases h5 : k = kUndo
  · exact .inr (.inr (.inr (.inr (.inl h5))))
  · exact .inr (.inr (.inr (.inr (.inr (by simp [formS, h1, h2, h3, h4, h5])))))
theorem form_add : formS kAdd = (1, 0, true, true) := rfl
theorem form_set : formS kSet = (1, 0, true, true) := rfl
theorem form_drop : formS kDrop = (1, 0, false, true) := rfl
theorem form_move : formS kMove = (1, 1, false, true) := rfl
theorem form_undo : formS kUndo = (0, 0, false, true) := rfl
theorem low_succ' (i n : Nat) : low (i + 1) n = low i (n / 10) ++ [48 + n % 10] := by
  have := low_app 1 n i
  rw [Nat.pow_one] at this
  rw [this]; simp [low]
theorem low_digN : ∀ (i n : Nat), (low i n).all digN = true
  | 0, _ => rfl
  | i + 1, n => by
    have ih := low_digN i n
    have : n / 10 ^ i % 10 < 10 := Nat.mod_lt _ (by omega)
    simp only [low, List.all_cons, ih, Bool.and_true, digN, Bool.and_eq_true, decide_eq_true_eq]
    omega
theorem nd_bound' (n : Nat) : n < 10 ^ nd n := by
  have h := nd_lt (nd n) n
  have : ¬ nd n < nd n := Nat.lt_irrefl _
  rw [h] at this; omega
theorem low_numT : ∀ (k : Nat) (s : List Nat), s.length = k → s.all digN = true → low k (numT s) = s
  | 0, s, h, _ => by rw [List.length_eq_zero_iff.1 h]; rfl
  | k + 1, s, h, ha => by
    have hne : s ≠ [] := by intro e; subst e; simp at h
    obtain ⟨t, c, rfl⟩ : ∃ t c, s = t ++ [c] := ⟨s.dropLast, s.getLast hne, (List.dropLast_concat_getLast hne).symm⟩
    simp only [List.all_append, List.all_cons, List.all_nil, Bool.and_true, Bool.and_eq_true] at ha
    have hc := ha.2
    simp only [digN, Bool.and_eq_true, decide_eq_true_eq] at hc
    have e1 : (numT t * 10 + (c - 48)) / 10 = numT t := by omega
    have e2 : 48 + (numT t * 10 + (c - 48)) % 10 = c := by omega
    rw [numT_snoc, low_succ', e1, e2, low_numT k t (by simpa using h) ha.1]
theorem numT_ge : ∀ (k : Nat) (c : Nat) (s : List Nat), s.length = k → 49 ≤ c → 10 ^ k ≤ numT (c :: s)
  | 0, c, s, h, hc => by
    rw [List.length_eq_zero_iff.1 h]; simp [numT, decV]; omega
  | k + 1, c, s, h, hc => by
    have hne : s ≠ [] := by intro e; subst e; simp at h
    obtain ⟨t, d, rfl⟩ : ∃ t d, s = t ++ [d] := ⟨s.dropLast, s.getLast hne, (List.dropLast_concat_getLast hne).symm⟩
    have ih := numT_ge k c t (by simpa using h) hc
    rw [← List.cons_append, numT_snoc, Nat.pow_succ]; omega
theorem itoa_plain {s : List Nat} (h : plainN s = true) : itoaN (numT s : Int) = s := by
  simp only [plainN, Bool.and_eq_true, Bool.not_eq_true', decide_eq_false_iff_not] at h
  obtain ⟨⟨⟨h0, h9⟩, hz⟩, hd⟩ := h
  have hlt := numT_lt s.length s rfl hd
  have h20 : numT s < 10 ^ 20 := Nat.lt_of_lt_of_le hlt (Nat.pow_le_pow_right (by omega) (by omega))
  rw [itoaN_nat h20]
  have hnd : max 1 (nd (numT s)) = s.length := by
    have h1 := nd_le hlt
    cases s with
    | nil => simp at h0
    | cons c t =>
      by_cases hc : c = 48
      · subst hc
        have : t = [] := by
          cases t with
          | nil => rfl
          | cons a b => simp at hz
        subst this
        simp only [List.length_cons, List.length_nil] at h1 ⊢; omega
      · have hc2 : 49 ≤ c := by
          simp only [List.all_cons, Bool.and_eq_true, digN, decide_eq_true_eq] at hd; omega
        have hge := numT_ge t.length c t rfl hc2
        have := (nd_lt t.length (numT (c :: t))).2 hge
        simp only [List.length_cons] at h1 ⊢; omega
  rw [hnd, low_numT _ s rfl hd]
theorem low_length (n : Nat) : ∀ i, (low i n).length = i
  | 0 => rfl
  | i + 1 => by simp [low, low_length n i]
theorem intR_plain {s : List Nat} (h : (intR s).2 = true) : itoaN (intR s).1 = s ∧ 0 ≤ (intR s).1 ∧ (intR s).1 < 10 ^ 9 := by
  refine ⟨?_, intR_lt s⟩
  rw [intR] at h ⊢
  by_cases hp : plainN s = true
  · rw [if_pos hp]; exact itoa_plain hp
  · rw [if_neg hp] at h; cases h
end Go.Abs
namespace Go.Abs
theorem first4 {a b c d : Int} : firstE [a, b, c, d] = 0 ↔ a = 0 ∧ b = 0 ∧ c = 0 ∧ d = 0 := by
  simp only [firstE]
  by_cases h1 : a = 0 <;> by_cases h2 : b = 0 <;> by_cases h3 : c = 0 <;> by_cases h4 : d = 0 <;> simp [h1, h2, h3, h4]
theorem first3z {a b c : Int} : firstE [a, b, c] = 0 ↔ a = 0 ∧ b = 0 ∧ c = 0 := by
  simp only [firstE]
  by_cases h1 : a = 0 <;> by_cases h2 : b = 0 <;> by_cases h3 : c = 0 <;> simp [h1, h2, h3]
theorem first2z {a b : Int} : firstE [a, b] = 0 ↔ a = 0 ∧ b = 0 := by
  simp only [firstE]
  by_cases h1 : a = 0 <;> by_cases h2 : b = 0 <;> simp [h1, h2]
theorem when_zero {b : Bool} {e : Int} (he : e ≠ 0) : whenE b e = 0 ↔ b = false := by cases b <;> simp [whenE, he]
theorem chkNames_all : ∀ {l : List (List Nat)}, chkNames l = 0 ↔ ∀ s ∈ l, isName s = true
  | [] => by simp [chkNames]
  | s :: r => by
    rw [chkNames]
    by_cases h : isName s = true
    · rw [if_pos h, chkNames_all (l := r)]; simp [h]
    · rw [if_neg h]; simp [h]
theorem chkNums_all : ∀ {l : List Int}, chkNums l = 0 ↔ ∀ n ∈ l, 0 ≤ n ∧ n ≤ 999999999
  | [] => by simp [chkNums]
  | n :: r => by
    rw [chkNums]
    by_cases h : n < 0 ∨ n > 999999999
    · rw [if_pos h]; simp; intro h1; omega
    · rw [if_neg h, chkNums_all (l := r)]; simp; intro _; omega
inductive EvK (e : EventD) : Prop
  | row (k : List Nat) (hk : e.kind = kAdd ∨ e.kind = kSet) (hn : e.names = [k]) (hv : e.vals = []) (ht : 10 ∉ e.text) (hi : isName k = true)
  | drop (k : List Nat) (hk : e.kind = kDrop) (hn : e.names = [k]) (hv : e.vals = []) (ht : e.text = []) (hi : isName k = true)
  | move (k : List Nat) (n : Nat) (hk : e.kind = kMove) (hn : e.names = [k]) (hv : e.vals = [(n : Int)]) (ht : e.text = []) (hi : isName k = true) (hl : n < 10 ^ 9)
  | undo (hk : e.kind = kUndo) (hn : e.names = []) (hv : e.vals = []) (ht : e.text = [])
theorem oneL {α : Type} {l : List α} (h : l.length = 1) : ∃ x, l = [x] := by
  cases l with
  | nil => simp at h
  | cons a r =>
    have : r = [] := List.length_eq_zero_iff.1 (by simpa using h)
    exact ⟨a, by rw [this]⟩
theorem evK {e : EventD} (h : chkEvent e = 0) : EvK e ∧ 1 ≤ e.num ∧ e.num ≤ 1000 ∧ e.text.length ≤ 4096 := by
  rw [chkEvent, first4] at h
  obtain ⟨h1, h2, h3, h4⟩ := h
  rw [chkShape, first3z] at h1
  obtain ⟨g1, g2, g3⟩ := h1
  rw [withinE, when_zero (by omega)] at g1
  rw [when_zero (by omega)] at g2 g3
  simp only [Bool.or_eq_false_iff, decide_eq_false_iff_not] at g1
  simp only [Bool.not_eq_false'] at g2
  simp only [Bool.or_eq_false_iff, decide_eq_false_iff_not, ne_eq, Decidable.not_not] at g3
  rw [chkNames_all] at h2
  rw [chkNums_all] at h3
  rw [chkText, first2z] at h4
  obtain ⟨g4, g5⟩ := h4
  rw [when_zero (by omega)] at g4 g5
  simp only [Bool.or_eq_false_iff, decide_eq_false_iff_not] at g4 g5
  refine ⟨?_, by omega, by omega, by omega⟩
  rcases form_cases e.kind with k | k | k | k | k | k
  · rw [k, form_add] at g3
    obtain ⟨s, hs⟩ := oneL g3.1
    exact .row s (.inl k) hs (List.length_eq_zero_iff.1 g3.2) g4.2 (h2 s (by rw [hs]; simp))
  · rw [k, form_set] at g3
    obtain ⟨s, hs⟩ := oneL g3.1
    exact .row s (.inr k) hs (List.length_eq_zero_iff.1 g3.2) g4.2 (h2 s (by rw [hs]; simp))
  · rw [k, form_drop] at g3 g4
    obtain ⟨s, hs⟩ := oneL g3.1
    exact .drop s k hs (List.length_eq_zero_iff.1 g3.2) (by simpa using g4.1) (h2 s (by rw [hs]; simp))
  · rw [k, form_move] at g3 g4
    obtain ⟨s, hs⟩ := oneL g3.1
    obtain ⟨n, hn⟩ := oneL g3.2
    have hb := h3 n (by rw [hn]; simp)
    exact .move s n.toNat k hs (by rw [hn]; congr 1; omega) (by simpa using g4.1) (h2 s (by rw [hs]; simp)) (by omega)
  · rw [k, form_undo] at g3 g4
    exact .undo k (List.length_eq_zero_iff.1 g3.1) (List.length_eq_zero_iff.1 g3.2) (by simpa using g4.1)
  · rw [k] at g2; cases g2
theorem parsed_inv {s : List Nat} (h : (parsedS s).2 = true) : lineT (parsedS s).1 = s := by
  have q1 := cutN_eq 32 s
  rw [parsedS] at h ⊢
  generalize hc : cutN 32 s = c at *
  obtain ⟨k, r, m⟩ := c
  dsimp only at *
  have q2 := cutN_eq 32 r
  have q3 := cutN_eq 32 (cutN 32 r).2.1
  generalize hd : cutN 32 r = d at *
  obtain ⟨k2, r2, m2⟩ := d
  dsimp only at *
  have q4 := @intR_plain (cutN 32 r2).1
  generalize hf : cutN 32 r2 = f at *
  obtain ⟨k3, r3, m3⟩ := f
  dsimp only at *
  have row : ∀ K, formS K = (1, 0, true, true) → k = K → lineT (if (formS k).2.2.2 = false then (noEv, false) else match fldS (formS k).1 (formS k).2.1 r m with
      | none => (noEv, false)
      | some x => (⟨0, k, x.1, x.2.1, if (formS k).2.2.1 = true then x.2.2.1 else []⟩, x.2.2.2 == (formS k).2.2.1)).1 = s := by
    rintro K hK rfl
    simp only [hK] at h ⊢
    cases m with
    | false => simp [fldS] at h
    | true =>
      by_cases hk2 : k2 = []
      · simp [fldS, hd, hk2] at h
      · simp [fldS, hd, hk2] at h
        subst h
        rcases q1 with ⟨_, e1⟩ | ⟨e1, _⟩
        · rcases q2 with ⟨_, e2⟩ | ⟨e2, _⟩
          · simp [fldS, hd, hk2, lineT, bodyW, textW, hK, joinN]
            rw [e1, e2]
          · cases e2
        · cases e1
  rcases form_cases k with hk | hk | hk | hk | hk | hk
  · exact row kAdd form_add hk
  · exact row kSet form_set hk
  · subst hk
    simp only [form_drop] at h ⊢
    cases m with
    | false => simp [fldS] at h
    | true =>
      by_cases hk2 : k2 = []
      · simp [fldS, hd, hk2] at h
      · simp [fldS, hd, hk2] at h
        subst h
        rcases q1 with ⟨_, e1⟩ | ⟨e1, _⟩
        · rcases q2 with ⟨e2, _⟩ | ⟨_, e2, e3⟩
          · cases e2
          · simp [fldS, hd, hk2, lineT, bodyW, textW, form_drop, joinN]
            rw [e1, e2]
        · cases e1
  · subst hk
    simp only [form_move] at h ⊢
    cases m with
    | false => simp [fldS] at h
    | true =>
      by_cases hk2 : k2 = []
      · simp [fldS, hd, hk2] at h
      · cases m2 with
        | false => simp [fldS, hd, hk2] at h
        | true =>
          by_cases hk3 : k3 = []
          · simp [fldS, hd, hf, hk2, hk3] at h
          · cases hi : (intR k3).2 with
            | false => simp [fldS, hd, hf, hk2, hk3, hi] at h
            | true =>
              simp [fldS, hd, hf, hk2, hk3, hi] at h
              subst h
              rcases q1 with ⟨_, e1⟩ | ⟨e1, _⟩
              · rcases q2 with ⟨_, e2⟩ | ⟨e2, _⟩
                · rcases q3 with ⟨e3, _⟩ | ⟨_, e3, _⟩
                  · cases e3
                  · simp [fldS, hd, hf, hk2, hk3, hi, lineT, bodyW, textW, form_move, joinN]
                    rw [(q4 hi).1, e1, e2, e3]
                · cases e2
              · cases e1
  · subst hk
    simp only [form_undo] at h ⊢
    simp [fldS] at h
    subst h
    rcases q1 with ⟨e1, _⟩ | ⟨_, e1, _⟩
    · cases e1
    · simp [fldS, lineT, bodyW, textW, form_undo, joinN]
      exact e1
  · simp [hk] at h
theorem body_inv {s : List Nat} (h : (bodyRd s).2 = true) : bodyT (bodyRd s).1 = s ∧ chkEvent (bodyRd s).1 = 0 := by
  have q1 := cutN_eq 32 s
  rw [bodyRd] at h ⊢
  by_cases hc : (cutN 32 s).2.2 = false ∨ (intR (cutN 32 s).1).2 = false
  · rw [if_pos hc] at h; cases h
  · rw [if_neg hc] at h ⊢
    simp only [not_or, Bool.not_eq_false] at hc
    simp only [Bool.and_eq_true, decide_eq_true_eq] at h
    refine ⟨?_, h.2⟩
    have h1 := parsed_inv h.1
    rcases q1 with ⟨_, e1⟩ | ⟨e1, _⟩
    · have e2 : lineT ((parsedS (cutN 32 s).2.1).1.at (intR (cutN 32 s).1).1) = lineT (parsedS (cutN 32 s).2.1).1 := rfl
      rw [bodyT, e2, h1]
      show itoaN (intR (cutN 32 s).1).1 ++ _ = _
      rw [(intR_plain hc.2).1, ← e1]
    · rw [e1] at hc; cases hc.1
theorem sumT_len (s : List Nat) : (sumT s).length = 6 := low_length _ _
theorem rec_inv {s : List Nat} {number : Int} (h : (recR s number).2 = 0) : recN (recR s number).1 = s ∧ chkEvent (recR s number).1 = 0 ∧ (recR s number).1.num = number := by
  rw [recR] at h ⊢
  split at h
  · cases h
  rename_i h1
  rw [if_neg h1]
  split at h
  · cases h
  rename_i h2
  rw [if_neg h2]
  simp only [not_or, Bool.not_eq_false, ne_eq, Decidable.not_not] at h1 h2
  obtain ⟨g1, g2, g3⟩ := h1
  dsimp only at h ⊢
  have h3 : (bodyRd (s.drop 7)).2 = true ∧ (bodyRd (s.drop 7)).1.num = number := by
    simp only [firstE] at h
    cases hb : (bodyRd (s.drop 7)).2
    · simp [hb, whenE] at h
    · by_cases hn : (bodyRd (s.drop 7)).1.num = number
      · exact ⟨rfl, hn⟩
      · simp [hb, hn, whenE] at h
  obtain ⟨k1, k2⟩ := body_inv h3.1
  refine ⟨?_, k2, h3.2⟩
  rw [recN, k1, ← h2]
  have e7 : s.drop 6 = 58 :: s.drop 7 := by
    have hlt : 6 < s.length := by omega
    rw [List.drop_eq_getElem_cons hlt]
    congr 1
    rw [List.getElem?_eq_getElem hlt] at g2
    injection g2
  rw [← e7, List.take_append_drop]
end Go.Abs
namespace Go.Abs
open Go.Proofs
set_option maxHeartbeats 4000000
set_option maxRecDepth 100000
def storyV (ve ne vs ns : Nat) : AV := .st 237 [.sl 1 ve 5 0 ne, .sl 2 vs 1 0 ns]
def stH (d : StoryD) (ve vs : Nat) (J : List PV) : Heap := [.box false (storyV ve d.evs.length vs d.sts.length), .arr .grow ve 5 (d.evs.map (AV.p ∘ eEvent)), .arr .grow vs 1 (d.sts.map (AV.p ∘ eRows) ++ J.map AV.p)]
@[simp] theorem ft_do {u : TypeId} {fs : List PV} : fieldV Tryz.prog 230 3 (.p (.st u fs)) = (match fs[3]? with
    | some g => some (u = 229 ∧ Shp.leaf = shp g, ({ v := .p g } : Eff))
    | none => none) := fieldV_st (show fieldT Tryz.prog 230 3 = some (229, .leaf) by kernel_rfl)
end Go.Abs
namespace Go.Abs
open Go.Proofs
set_option maxHeartbeats 4000000
set_option maxRecDepth 100000
def nextD (d : StoryD) (e : EventD) : StoryD := if addE d e = 0 then acceptD d e else d
structure StoryB (d : StoryD) (J : List PV) : Prop where
  ev : d.evs.length ≤ 1000
  sj : d.sts.length + J.length ≤ d.evs.length
  rw : ∀ l ∈ d.sts, l.length ≤ 1000 ∧ ∀ r ∈ l, rowB r
end Go.Abs
namespace Go.Abs
open Go.Proofs
set_option maxHeartbeats 4000000
set_option maxRecDepth 100000
def replayQ (R : StoryD × Int × Int) (v : AV) (H' : Heap) : Prop :=
  if R.2.2 = 0 then ∃ ve vs J, StoryB R.1 J ∧ H' = stH R.1 ve vs J ∧ v = .tup [.ptr 0 [], .p (.int .i64 0), .p (.int .i64 0)]
  else H' = [] ∧ v = .p (.tup [.nptr, .int .i64 R.2.1, .int .i64 R.2.2])
end Go.Abs
namespace Go.Abs
open Go.Proofs
set_option maxHeartbeats 4000000
set_option maxRecDepth 100000
theorem purl_of {H : Heap} {n : Nat} : ∀ {X : List AV} {Y : List PV}, X = Y.map AV.p → Purl H n X Y
  | X, [], h => by rw [h]; simp
  | X, y :: Y, h => by
    rw [h, List.map_cons]
    simp only [purl_cons, pur_p]
    exact ⟨Wk.refl _, purl_of rfl⟩
def retR (l : List RowD) (S : List RowD × Int) : List RowD × Int := if S.2 = 0 then S else (l, S.2)
end Go.Abs
namespace Go.Abs
open Go.Proofs
set_option maxHeartbeats 4000000
set_option maxRecDepth 100000
def diaryV (d : StoryD) : PV := .st 223 [.seq (d.evs.map eEvent), .seq (.seq [] :: d.sts.map eRows)]
theorem shpE (l : List EventD) : allShp Tryz.prog 5 (l.map (AV.p ∘ eEvent)) := shp_map fun r => ⟨by simp [shpA], by simp [shpA]⟩
end Go.Abs
namespace Go.Abs
open Go.Proofs
set_option maxHeartbeats 4000000
set_option maxRecDepth 100000
@[simp] theorem shp_diary (d : StoryD) : shp (diaryV d) = .agg 223 := rfl
def rawD (i : Nat) (d : StoryD) : AV := if i = 0 then .st 223 [.p .nsl, .sl 1 0 1 0 1] else .p (diaryV d)
end Go.Abs
