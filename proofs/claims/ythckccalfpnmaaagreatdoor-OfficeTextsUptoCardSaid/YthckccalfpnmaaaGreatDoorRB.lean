import Derived.Test.YthckccalfpnmaaaGreatDoorRA
import Derived.Test.YthckccalfpnmaaaGreatDoorPB
import Derived.Shelf.Strings.Prefix
import Derived.Shelf.Strings.Trim
/- Parts of a proof. -/
set_option linter.unusedSimpArgs false
set_option linter.unusedVariables false
set_option linter.unusedSectionVars false
namespace Go.Abs
open Go.Proofs
set_option maxHeartbeats 4000000
set_option maxRecDepth 100000
theorem low_len (n : Nat) : ∀ i, (low i n).length = i
  | 0 => rfl
  | i + 1 => by simp [low, low_len n i]
theorem c_text (neg : Bool) (n : Nat) (hn : n < 10 ^ 20) : GoodC Tryz.prog 257 [eInt neg (d9 n)] (.str (if n = 0 then [48] else if neg = true then 45 :: low (nd n) n else low (nd n) n)) := by
  refine good_fn nf isF257 mix (by simp [Tryz.f257]) ?_
  by_cases h0 : n = 0
  · subst h0
    have e0 : d9 0 = [] := by rw [d9, dif_pos rfl]
    simp [Tryz.f257, eInt, e0]
  have hL : (d9 n).length ≤ 3 := d9_len (by simp; omega)
  have hne : d9 n ≠ [] := by rw [d9_step (by omega)]; simp
  have hp : 0 < (d9 n).length := List.length_pos_iff.2 hne
  have l1 := (d9_lt ((d9 n).length - 1) n).1 (by omega)
  have l2 : ¬ (10 ^ 9) ^ (d9 n).length ≤ n := by rw [← d9_lt]; omega
  have gl := fun i h => d9_get i n h
  have ll := fun i => d9_lt i n
  have hnd : nd n ≤ 20 := nd_le hn
  generalize d9 n = l at *
  obtain ⟨k, hk⟩ : ∃ k, l.length = k + 1 := ⟨l.length - 1, by omega⟩
  rw [hk] at l1 l2
  simp only [Nat.add_sub_cancel] at l1
  have l3 : n / (10 ^ 9) ^ k < 10 ^ 9 := by
    rw [Nat.pow_succ] at l2
    rw [Nat.div_lt_iff_lt_mul (Nat.pow_pos (by omega)), Nat.mul_comm]; omega
  have l4 := Nat.div_pos l1 (Nat.pow_pos (by omega))
  have g1 : l[k]'(by omega) = n / (10 ^ 9) ^ k := by rw [gl k (by omega), Nat.mod_eq_of_lt l3]
  generalize hM : n / (10 ^ 9) ^ k = M at *
  have hp' : ¬ (k : Int) + 1 = 0 := by omega
  have i1 : IntKind.i64.wrap (k : Int) = (k : Int) := wi64 _ (by omega) (by omega)
  have i2 : IntKind.i64.wrap ((k : Int) + 1 - 2) = (k : Int) - 1 := by rw [wi64 _ (by omega) (by omega)]; omega
  have hkl : k < l.length := by omega
  have em : max 1 (nd M) = nd M := by have := nd_pos l4; omega
  simp [Tryz.f257, eInt, hk, hp', i1, i2, hkl, g1, h0]
  have dc := c_decimal M 1 (by omega) (by omega)
  rw [em] at dc
  refine c2 dc ?_
  simp
  refine lp (α := Nat × Nat) (fun (j, m) => ⟨[(4, .p (.int .i64 ((j : Int) - 1))), (3, .p (.str (low (nd m) m))), (1, .ptr 0 [])], [.box false (.p (.st 345 [.bool neg, .seq (l.map fun (x : Nat) => .int .i64 x)]))]⟩)
    (fun (j, m) => j ≤ k ∧ m = n / (10 ^ 9) ^ j ∧ 0 < m) (fun (j, _) => j) (k, M) ⟨Nat.le_refl _, hM.symm, l4⟩ ?_ (he := by simp [hk, i2])
  rintro ⟨j, m⟩ ⟨h1, h2, h3⟩
  dsimp only at h1 h2 h3 ⊢
  cases j with
  | zero =>
    rw [Nat.pow_zero, Nat.div_one] at h2
    subst h2
    have q : ¬ (0 : Int) ≤ 0 - 1 := by omega
    cases neg
    · simp [low_len, h0]
    · simp [low_len, h0]
      omega
  | succ j =>
    have hjl : j < l.length := by omega
    have g := gl j hjl
    have hd : n / (10 ^ 9) ^ j / 10 ^ 9 = m := by rw [h2, Nat.div_div_eq_div_mul, ← Nat.pow_succ]
    have hge : 10 ^ 9 ≤ n / (10 ^ 9) ^ j := by
      rcases Nat.lt_or_ge (n / (10 ^ 9) ^ j) (10 ^ 9) with h | h
      · rw [Nat.div_eq_of_lt h] at hd; omega
      · exact h
    have hj := low_join hge
    have hle : n / (10 ^ 9) ^ j ≤ n := Nat.div_le_self _ _
    rw [hd] at hj
    generalize hm' : n / (10 ^ 9) ^ j = m' at *
    have hx : m' % 10 ^ 9 < 10 ^ 9 := Nat.mod_lt _ (by omega)
    have e9 : max 9 (nd (m' % 10 ^ 9)) = 9 := by have := nd_le hx; omega
    have dc := c_decimal (m' % 10 ^ 9) 9 (by omega) (by omega)
    rw [e9, ← g] at dc
    rw [← g] at hj
    have hmd : nd m ≤ 20 := by
      have : m ≤ n := by rw [h2]; exact Nat.div_le_self _ _
      exact nd_le (by omega)
    have i3 : IntKind.i64.wrap ((j : Int) - 1) = (j : Int) - 1 := wi64 _ (by omega) (by omega)
    simp [hjl]
    refine c2 dc ?_
    simp [low_len, i3]
    exact ⟨by omega, rd (j, m') ⟨by dsimp only; omega, hm'.symm, by dsimp only; omega⟩ (h1 := by dsimp only; omega) (he := by simp [hj])⟩
theorem text_itoa {n : Int} (hn : inI n) : (if n.natAbs = 0 then [48] else if decide (n < 0) = true then 45 :: low (nd n.natAbs) n.natAbs else low (nd n.natAbs) n.natAbs) = itoaN n := by
  have h1 := hn.1
  have h2 := hn.2
  by_cases h0 : n < 0
  · obtain ⟨k, rfl⟩ : ∃ k : Nat, n = -(k : Int) := ⟨n.natAbs, by omega⟩
    have ek : (-(k : Int)).natAbs = k := by omega
    rw [ek, if_neg (by omega), if_pos (by simpa using h0), itoaN_neg (by omega) (by omega)]
  · obtain ⟨k, rfl⟩ : ∃ k : Nat, n = k := ⟨n.natAbs, by omega⟩
    have ek : (k : Int).natAbs = k := by omega
    rw [ek, itoaN_nat (by omega)]
    by_cases hk : k = 0
    · subst hk
      have : nd 0 = 0 := by rw [nd, dif_pos rfl]
      simp [this, low]
    · have := nd_pos (n := k) (by omega)
      have e : max 1 (nd k) = nd k := by omega
      rw [if_neg hk, if_neg (by simp), e]
theorem c_fromInt (n : Int) (hn : inI n) : GoodC Tryz.prog 213 [.int .i64 n] (.str (itoaN n)) := by
  refine good_fn nf isF213 mix (by simp [Tryz.f213]) ?_
  simp [Tryz.f213]
  refine c1 (c_whole n hn) ?_
  simp
  have hc := c_text (decide (n < 0)) n.natAbs (by have := hn.1; have := hn.2; omega)
  rw [text_itoa hn] at hc
  refine c1 hc ?_
  simp
theorem c_textR (n : Int) (hn : inI n) : GoodC Tryz.prog 151 [.int .i64 n] (.str (itoaN n)) := by
  refine good_fn nf isF151 mix (by simp [Tryz.f151]) ?_
  simp [Tryz.f151]
  refine c1 (c_fromInt n hn) ?_
  simp
end Go.Abs
namespace Go.Abs
open Go.Proofs
set_option maxHeartbeats 4000000
set_option maxRecDepth 100000
theorem joinN_snoc (sep x : List Nat) : ∀ (l : List (List Nat)), joinN sep (l ++ [x]) = if l = [] then x else joinN sep l ++ (sep ++ x)
  | [] => by simp [joinN]
  | [a] => by simp [joinN]
  | a :: b :: r => by
    have ih := joinN_snoc sep x (b :: r)
    rw [if_neg (by simp)] at ih ⊢
    simp only [List.cons_append] at ih ⊢
    simp only [joinN, ih, List.append_assoc]
theorem valsT_snoc (l : List Int) (x : Int) : valsT (l ++ [x]) = if l = [] then itoaN x else valsT l ++ (44 :: itoaN x) := by
  rw [valsT, List.map_append, List.map_cons, List.map_nil, joinN_snoc]
  by_cases h : l = []
  · simp [h]
  · simp [h, valsT]
theorem c_valuesR (l : List Int) (h : l.length ≤ 1048576) (hb : ∀ n ∈ l, inI n) : GoodC Tryz.prog 108 [.seq (l.map (.int .i64))] (.str (valsT l)) := by
  refine good_fn nf isF108 mix (by simp [Tryz.f108]) ?_
  simp [Tryz.f108]
  refine lp (α := Nat) (fun i => ⟨[(4, .p (.int .i64 i)), (3, .p (.str (valsT (l.take i)))), (0, .p (.seq (l.map (.int .i64))))], []⟩) (fun i => i ≤ l.length) (fun i => l.length - i) 0 (by simp) ?_ (he := by simp [valsT, joinN])
  rintro i h1
  have hw := wi1 (i := i) (by omega)
  by_cases hi : i < l.length
  · have hs := valsT_snoc (l.take i) l[i]
    rw [← List.take_succ_eq_append_getElem hi] at hs
    have hl := valsT_len (l.take i)
    have hl2 : (l.take i).length = i := by simp; omega
    have hl3 := itoaN_len l[i]
    rw [hl2] at hl
    by_cases h0 : i = 0
    · subst h0
      simp at hs
      simp [hi]
      refine c1 (c_textR l[0] (hb _ (List.getElem_mem hi))) ?_
      have e0 : valsT [] = [] := rfl
      have w1 : IntKind.i64.wrap 1 = 1 := by decide
      simp [e0, w1]
      refine ⟨by omega, ?_⟩
      exact rd 1 hi (he := by simp [hs])
    · have h0' : (0 : Int) < (i : Int) := by omega
      have h0n : 0 < i := by omega
      have hne : ¬ l.take i = [] := by intro e; rw [e] at hl2; simp at hl2; omega
      rw [if_neg hne] at hs
      simp [hi, h0', h0n]
      refine ⟨by omega, ?_⟩
      refine c1 (c_textR l[i] (hb _ (List.getElem_mem hi))) ?_
      simp [hw]
      refine ⟨by omega, ?_⟩
      exact rd (i + 1) hi (he := by simp [hs])
  · have : i = l.length := by omega
    subst this
    simp
def rowT (r : RowD) : List Nat := r.key ++ (32 :: (valsT r.vals ++ [10]))
def rowsT (l : List RowD) : List Nat := l.flatMap rowT
def bookT (b : BookD) : List Nat := [98, 111, 111, 107, 32] ++ b.name ++ [10] ++ rowsT b.rows
theorem rowT_len {r : RowD} (h : rowB r) : (rowT r).length ≤ 25165824 := by
  have := valsT_len r.vals
  have h1 := h.1
  have h2 := h.2
  simp only [rowT, List.length_append, List.length_cons, List.length_nil]
  omega
theorem rowsT_len : ∀ {l : List RowD}, (∀ r ∈ l, rowB r) → (rowsT l).length ≤ l.length * 25165824
  | [], _ => by simp [rowsT]
  | r :: l, h => by
    have ih := rowsT_len (l := l) fun x hx => h x (List.mem_cons_of_mem _ hx)
    have h1 := rowT_len (h r List.mem_cons_self)
    simp only [rowsT, List.flatMap_cons, List.length_append, List.length_cons] at *
    omega
def bookT0 (b : BookD) (i : Nat) : List Nat := [98, 111, 111, 107, 32] ++ b.name ++ [10] ++ rowsT (b.rows.take i)
theorem bookT0_next (b : BookD) {i : Nat} (hi : i < b.rows.length) : bookT0 b (i + 1) = bookT0 b i ++ rowT b.rows[i] := by
  simp only [bookT0, rowsT, List.take_succ_eq_append_getElem hi, List.flatMap_append, List.flatMap_cons, List.flatMap_nil, List.append_nil, List.append_assoc]
def printS (b : BookD) : List Nat × Int := if 4096 < (bookT b).length then ([], 26) else (bookT b, 0)
theorem c_printR (b : BookD) (h : bookB b) (hI : rowsI b.rows) : GoodC Tryz.prog 22 [rBook b] (.tup [.str (printS b).1, .int .i64 (printS b).2]) := by
  refine good_fn nf isF22 mix (by simp [Tryz.f22]) ?_
  obtain ⟨hn, hl, hr⟩ := h
  have hlen : ∀ i, (bookT0 b i).length ≤ 6 + b.name.length + b.rows.length * 25165824 := by
    intro i
    have := rowsT_len (l := b.rows.take i) fun x hx => hr x (List.mem_of_mem_take hx)
    have h2 : (b.rows.take i).length ≤ b.rows.length := by simp; omega
    simp only [bookT0, List.length_append, List.length_cons, List.length_nil]
    have := Nat.mul_le_mul_right 25165824 h2
    omega
  have hend : bookT0 b b.rows.length = bookT b := by rw [bookT0, List.take_length]; rfl
  have h00 : bookT0 b 0 = 98 :: 111 :: 111 :: 107 :: 32 :: (b.name ++ [10]) := by simp [bookT0, rowsT]
  simp [Tryz.f22, rBook]
  refine ⟨by omega, by omega, ?_⟩
  refine lp (α := Nat) (fun i => ⟨[(5, .p (.int .i64 i)), (4, .p (.str (bookT0 b i))), (1, .ptr 0 [])], [.box false (.p (.st 26 [.str b.name, .seq (b.rows.map eRow)]))]⟩) (fun i => i ≤ b.rows.length) (fun i => b.rows.length - i) 0 (by simp) ?_ (he := by simp [h00])
  rintro i h1
  have hw := wi1 (i := i) (by omega)
  have hli := hlen i
  by_cases hi : i < b.rows.length
  · have hE : eRow b.rows[i] = .st 54 [.str b.rows[i].key, .seq (b.rows[i].vals.map (.int .i64))] := rfl
    have hB := hr _ (List.getElem_mem hi)
    have hR := rowT_len hB
    have hnx := bookT0_next b hi
    have hx : bookT0 b i ++ rowT b.rows[i] = bookT0 b i ++ b.rows[i].key ++ [32] ++ valsT b.rows[i].vals ++ [10] := by simp [rowT]
    rw [hx] at hnx
    simp only [rowT, List.length_append, List.length_cons, List.length_nil] at hR
    simp [hi, hE]
    refine ⟨by omega, by omega, ?_⟩
    refine e1 (c_valuesR b.rows[i].vals hB.2 (hI _ (List.getElem_mem hi))) ?_
    simp [hw]
    refine ⟨by omega, by omega, ?_⟩
    exact rd (i + 1) hi (he := by simp [hnx])
  · have : i = b.rows.length := by omega
    subst this
    rw [hend] at *
    by_cases h4 : 4096 < (bookT b).length
    · have h4' : (4096 : Int) < ((bookT b).length : Int) := by omega
      simp [h4, h4', printS]
    · have h4' : ¬ (4096 : Int) < ((bookT b).length : Int) := by omega
      simp [h4, h4', printS]
end Go.Abs
namespace Go.Abs
open Go.Proofs
set_option maxHeartbeats 4000000
set_option maxRecDepth 100000
def digN (c : Nat) : Bool := decide (48 ≤ c) && decide (c ≤ 57)
def numT (s : List Nat) : Nat := s.foldl decV 0
def plainN (s : List Nat) : Bool := !decide (s.length = 0) && !decide (9 < s.length) && !(decide (1 < s.length) && decide (s.head? = some 48)) && s.all digN
def intR (s : List Nat) : Int × Bool := if plainN s = true then (numT s, true) else (0, false)
theorem wu8 (n : Int) (h1 : 0 ≤ n) (h2 : n < 256) : IntKind.u8.wrap n = n := by
  simp only [IntKind.wrap, IntKind.bits, IntKind.signed, Bool.false_and, Bool.false_eq_true, if_false]
  omega
theorem numT_snoc (s : List Nat) (c : Nat) : numT (s ++ [c]) = numT s * 10 + (c - 48) := by simp [numT, decV]
theorem numT_lt : ∀ (n : Nat) (s : List Nat), s.length = n → s.all digN = true → numT s < 10 ^ n
  | 0, s, h, _ => by have : s = [] := List.length_eq_zero_iff.1 h
                     subst this; simp [numT]
  | n + 1, s, h, ha => by
    have hne : s ≠ [] := by intro e; subst e; simp at h
    obtain ⟨t, c, rfl⟩ : ∃ t c, s = t ++ [c] := ⟨s.dropLast, s.getLast hne, (List.dropLast_concat_getLast hne).symm⟩
    simp only [List.all_append, List.all_cons, List.all_nil, Bool.and_true, Bool.and_eq_true] at ha
    have ih := numT_lt n t (by simpa using h) ha.1
    have hc := ha.2
    simp only [digN, Bool.and_eq_true, decide_eq_true_eq] at hc
    rw [numT_snoc, Nat.pow_succ]; omega
theorem c_integerR (s : List Nat) (h : s.length ≤ 1048576) (hb : ∀ c ∈ s, c < 256) : GoodC Tryz.prog 188 [.str s] (.tup [.int .i64 (intR s).1, .bool (intR s).2]) := by
  refine good_fn nf isF188 mix (by simp [Tryz.f188]) ?_
  by_cases h0 : s.length = 0
  · have e : plainN s = false := by simp [plainN, h0]
    simp [Tryz.f188, h0, intR, e]
  by_cases h9 : 9 < s.length
  · have e : plainN s = false := by simp [plainN, h9]
    have h0' : ¬ (s.length : Int) = 0 := by omega
    have h9' : (9 : Int) < (s.length : Int) := by omega
    simp [Tryz.f188, h0, h0', h9, h9', intR, e]
  have h0' : ¬ (s.length : Int) = 0 := by omega
  have h9' : ¬ (9 : Int) < (s.length : Int) := by omega
  have hp : 0 < s.length := by omega
  have hh : s.head? = some s[0] := by rw [List.head?_eq_getElem?, List.getElem?_eq_getElem hp]
  by_cases hz : 1 < s.length ∧ s[0] = 48
  · have e : plainN s = false := by simp [plainN, hh, hz.1, hz.2]
    have h1' : (1 : Int) < (s.length : Int) := by omega
    simp [Tryz.f188, h0, h0', h9, h9', h1', hz.1, hz.2, hp, intR, e]
  have hall : plainN s = s.all digN := by
    have : ¬ (1 < s.length ∧ s.head? = some 48) := by rw [hh]; intro h; exact hz ⟨h.1, by injection h.2⟩
    have h3 : (!(decide (1 < s.length) && decide (s.head? = some 48))) = true := by
      rw [Bool.not_eq_true', Bool.and_eq_false_iff, decide_eq_false_iff_not, decide_eq_false_iff_not]
      exact Decidable.not_and_iff_or_not.1 this
    simp only [plainN, h3, h0, h9, decide_false, Bool.not_false, Bool.true_and]
  have loop : 1 < s.length ∧ ¬ s[0] = 48 ∨ ¬ 1 < s.length := by
    by_cases h : 1 < s.length
    · exact .inl ⟨h, fun e => hz ⟨h, e⟩⟩
    · exact .inr h
  clear hz hh
  rcases loop with ⟨g1, g2⟩ | g1
  · have g1' : (1 : Int) < (s.length : Int) := by omega
    have g2' : ¬ ((s[0] : Nat) : Int) = 48 := by omega
    simp [Tryz.f188, h0, h0', h9, h9', g1', g1, g2, g2', hp]
    refine lp (α := Nat) (fun i => ⟨[(5, .p (.int .i64 i)), (4, .p (.int .i64 (numT (s.take i)))), (0, .p (.str s))], []⟩) (fun i => i ≤ s.length ∧ (s.take i).all digN = true) (fun i => s.length - i) 0 (by simp) ?_ (he := by simp [numT])
    rintro i ⟨k1, k2⟩
    have hw := wi1 (i := i) (by omega)
    by_cases hi : i < s.length
    · have hs := numT_snoc (s.take i) s[i]
      rw [← List.take_succ_eq_append_getElem hi] at hs
      have hall2 : (s.take (i + 1)).all digN = digN s[i] := by rw [List.take_succ_eq_append_getElem hi, List.all_append, k2]; simp
      have hlt := numT_lt i (s.take i) (by simp; omega) k2
      have hlt2 : numT (s.take i) < 10 ^ 9 := Nat.lt_of_lt_of_le hlt (Nat.pow_le_pow_right (by omega) (by omega))
      have hc := hb _ (List.getElem_mem hi)
      generalize hcc : s[i] = c at *
      by_cases q1 : c < 48
      · have q1' : (c : Int) < 48 := by omega
        have e : s.all digN = false := by
          rw [List.all_eq_false]; exact ⟨c, hcc ▸ List.getElem_mem hi, by simp [digN]; omega⟩
        simp [hi, hcc, q1, q1', intR, hall, e]
      · have q1' : ¬ (c : Int) < 48 := by omega
        by_cases q2 : 57 < c
        · have q2' : (57 : Int) < (c : Int) := by omega
          have e : s.all digN = false := by
            rw [List.all_eq_false]; exact ⟨c, hcc ▸ List.getElem_mem hi, by simp [digN]; omega⟩
          simp [hi, hcc, q1, q1', q2, q2', intR, hall, e]
        · have q2' : ¬ (57 : Int) < (c : Int) := by omega
          have w1 : IntKind.u8.wrap ((c : Int) - 48) = (c : Int) - 48 := wu8 _ (by omega) (by omega)
          have w2 : IntKind.i64.wrap ((c : Int) - 48) = (c : Int) - 48 := wi64 _ (by omega) (by omega)
          have w3 : IntKind.i64.wrap (10 * (numT (s.take i) : Int)) = 10 * (numT (s.take i) : Int) := wi64 _ (by omega) (by omega)
          have w4 : IntKind.i64.wrap (10 * (numT (s.take i) : Int) + ((c : Int) - 48)) = (numT (s.take (i + 1)) : Int) := by rw [wi64 _ (by omega) (by omega), hs]; omega
          simp [hi, hcc, q1, q1', q2, q2', w1, w2, w3, w4, hw]
          exact rd (i + 1) ⟨hi, by rw [hall2]; simp [digN]; omega⟩
    · have : i = s.length := by omega
      subst this
      rw [List.take_length] at k2
      simp [intR, hall, k2]
  · have g1' : ¬ (1 : Int) < (s.length : Int) := by omega
    simp [Tryz.f188, h0, h0', h9, h9', g1', g1, hp]
    refine lp (α := Nat) (fun i => ⟨[(5, .p (.int .i64 i)), (4, .p (.int .i64 (numT (s.take i)))), (0, .p (.str s))], []⟩) (fun i => i ≤ s.length ∧ (s.take i).all digN = true) (fun i => s.length - i) 0 (by simp) ?_ (he := by simp [numT])
    rintro i ⟨k1, k2⟩
    have hw := wi1 (i := i) (by omega)
    by_cases hi : i < s.length
    · have hs := numT_snoc (s.take i) s[i]
      rw [← List.take_succ_eq_append_getElem hi] at hs
      have hall2 : (s.take (i + 1)).all digN = digN s[i] := by rw [List.take_succ_eq_append_getElem hi, List.all_append, k2]; simp
      have hlt := numT_lt i (s.take i) (by simp; omega) k2
      have hlt2 : numT (s.take i) < 10 ^ 9 := Nat.lt_of_lt_of_le hlt (Nat.pow_le_pow_right (by omega) (by omega))
      have hc := hb _ (List.getElem_mem hi)
      generalize hcc : s[i] = c at *
      by_cases q1 : c < 48
      · have q1' : (c : Int) < 48 := by omega
        have e : s.all digN = false := by
          rw [List.all_eq_false]; exact ⟨c, hcc ▸ List.getElem_mem hi, by simp [digN]; omega⟩
        simp [hi, hcc, q1, q1', intR, hall, e]
      · have q1' : ¬ (c : Int) < 48 := by omega
        by_cases q2 : 57 < c
        · have q2' : (57 : Int) < (c : Int) := by omega
          have e : s.all digN = false := by
            rw [List.all_eq_false]; exact ⟨c, hcc ▸ List.getElem_mem hi, by simp [digN]; omega⟩
          simp [hi, hcc, q1, q1', q2, q2', intR, hall, e]
        · have q2' : ¬ (57 : Int) < (c : Int) := by omega
          have w1 : IntKind.u8.wrap ((c : Int) - 48) = (c : Int) - 48 := wu8 _ (by omega) (by omega)
          have w2 : IntKind.i64.wrap ((c : Int) - 48) = (c : Int) - 48 := wi64 _ (by omega) (by omega)
          have w3 : IntKind.i64.wrap (10 * (numT (s.take i) : Int)) = 10 * (numT (s.take i) : Int) := wi64 _ (by omega) (by omega)
          have w4 : IntKind.i64.wrap (10 * (numT (s.take i) : Int) + ((c : Int) - 48)) = (numT (s.take (i + 1)) : Int) := by rw [wi64 _ (by omega) (by omega), hs]; omega
          simp [hi, hcc, q1, q1', q2, q2', w1, w2, w3, w4, hw]
          exact rd (i + 1) ⟨hi, by rw [hall2]; simp [digN]; omega⟩
    · have : i = s.length := by omega
      subst this
      rw [List.take_length] at k2
      simp [intR, hall, k2]
end Go.Abs
namespace Go.Abs
open Go.Proofs
set_option maxHeartbeats 4000000
set_option maxRecDepth 100000
theorem splAux_len (c : Nat) : ∀ (s cur : List Nat), (splAux c cur s).length ≤ s.length + 1
  | [], cur => by simp [splAux]
  | x :: s, cur => by
    have h1 := splAux_len c s []
    have h2 := splAux_len c s (cur ++ [x])
    rw [splAux]; split <;> simp <;> omega
theorem splAux_mem (c : Nat) : ∀ (s cur p : List Nat), p ∈ splAux c cur s → p.length ≤ cur.length + s.length ∧ ∀ x ∈ p, x ∈ cur ∨ x ∈ s
  | [], cur, p, h => by
    simp only [splAux, List.mem_singleton] at h
    subst h
    exact ⟨by simp, fun x hx => .inl hx⟩
  | a :: s, cur, p, h => by
    rw [splAux] at h
    split at h
    · rcases List.mem_cons.1 h with rfl | h
      · exact ⟨by simp, fun x hx => .inl hx⟩
      · obtain ⟨h1, h2⟩ := splAux_mem c s [] p h
        refine ⟨by simp at h1 ⊢; omega, fun x hx => .inr ?_⟩
        rcases h2 x hx with h | h
        · cases h
        · exact List.mem_cons_of_mem _ h
    · obtain ⟨h1, h2⟩ := splAux_mem c s _ p h
      refine ⟨by simp at h1 ⊢; omega, fun x hx => ?_⟩
      rcases h2 x hx with h | h
      · rcases List.mem_append.1 h with h | h
        · exact .inl h
        · rw [List.mem_singleton.1 h]; exact .inr List.mem_cons_self
      · exact .inr (List.mem_cons_of_mem _ h)
theorem spl_len (c : Nat) (s : List Nat) : (spl c s).length ≤ s.length + 1 := splAux_len c s []
theorem spl_mem {c : Nat} {s p : List Nat} (h : p ∈ spl c s) : p.length ≤ s.length ∧ ∀ x ∈ p, x ∈ s := by
  obtain ⟨h1, h2⟩ := splAux_mem c s [] p h
  refine ⟨by simpa using h1, fun x hx => ?_⟩
  rcases h2 x hx with h | h
  · cases h
  · exact h
def readI (s : List Nat) : Option Int :=
  if s.head? = some 45 then (if (intR s.tail).2 = true ∧ (intR s.tail).1 ≠ 0 then some (-(intR s.tail).1) else none)
  else if (intR s).2 = true then some (intR s).1 else none
def valI (s : List Nat) : Int := (readI s).getD 0
def readV (s : List Nat) : List Int × Bool := if (spl 44 s).all (fun p => (readI p).isSome) = true then ((spl 44 s).map valI, true) else ([], false)
theorem intR_lt (s : List Nat) : 0 ≤ (intR s).1 ∧ (intR s).1 < 10 ^ 9 := by
  rw [intR]; split
  · rename_i h
    simp only [plainN, Bool.and_eq_true, Bool.not_eq_true', decide_eq_false_iff_not] at h
    have h1 := numT_lt s.length s rfl h.2
    have h2 : 10 ^ s.length ≤ 10 ^ 9 := Nat.pow_le_pow_right (by omega) (by omega)
    dsimp only; omega
  · exact ⟨by simp, by simp⟩
theorem c_readValuesR (s : List Nat) (h : s.length ≤ 1000000) (hb : ∀ c ∈ s, c < 256) : GoodC Tryz.prog 110 [.str s] (.tup [.seq ((readV s).1.map (.int .i64)), .bool (readV s).2]) := by
  refine good_fn nf isF110 mix (by simp [Tryz.f110]) ?_
  simp [Tryz.f110]
  refine c2 (c_splitR s 44 (by omega) (by omega)) ?_
  have hl := spl_len 44 s
  have hm := fun p => spl_mem (c := 44) (s := s) (p := p)
  have hv : readV s = if (spl 44 s).all (fun p => (readI p).isSome) = true then ((spl 44 s).map valI, true) else ([], false) := rfl
  rw [hv]
  clear hv
  generalize spl 44 s = l at *
  simp
  refine lp (α := Nat) (fun i => ⟨[(6, .p (.int .i64 i)), (5, .p (.seq (l.map .str))), (4, .sl 0 i 1 0 i)], [.arr .grow i 1 ((l.map fun p => .p (.int .i64 (valI p))).take i)]⟩) (fun i => i ≤ l.length ∧ (l.take i).all (fun p => (readI p).isSome) = true) (fun i => l.length - i) 0 (by simp) ?_
  rintro i ⟨k1, k2⟩
  have hw := wi1 (i := i) (by omega)
  by_cases hi : i < l.length
  · have ht := take_next (fun p => AV.p (.int .i64 (valI p))) hi
    have hall : (l.take (i + 1)).all (fun p => (readI p).isSome) = (readI l[i]).isSome := by rw [List.take_succ_eq_append_getElem hi, List.all_append, k2]; simp
    have hno : (readI l[i]).isSome = false → l.all (fun p => (readI p).isSome) = false := fun h => by
      rw [List.all_eq_false]; exact ⟨l[i], List.getElem_mem hi, by simpa using h⟩
    have hp := hm _ (List.getElem_mem hi)
    generalize hq : l[i] = q at *
    have hqb : ∀ c ∈ q, c < 256 := fun c hc => hb c (hp.2 c hc)
    by_cases hs : q.head? = some 45
    · obtain ⟨t, rfl⟩ : ∃ t, q = 45 :: t := by
        cases q with
        | nil => cases hs
        | cons a t => injection hs with hs; subst hs; exact ⟨t, rfl⟩
      have hlt := intR_lt t
      have c1' := c_integerR t (by have := hp.1; simp at this; omega) (fun c hc => hqb c (List.mem_cons_of_mem _ hc))
      have hr : readI (45 :: t) = if (intR t).2 = true ∧ (intR t).1 ≠ 0 then some (-(intR t).1) else none := rfl
      generalize intR t = v at *
      obtain ⟨v, ok⟩ := v
      dsimp only at hlt hr c1'
      have g1 : (0 : Int) < (t.length : Int) + 1 := by omega
      simp [hi, hq, g1]
      refine c1 c1' ?_
      by_cases hok : ok = true
      · subst hok
        by_cases hv0 : v = 0
        · subst hv0
          have hz : (readI (45 :: t)).isSome = false := by rw [hr]; simp
          simp [hno hz]
        · have hr2 : readI (45 :: t) = some (-v) := by rw [hr, if_pos ⟨rfl, hv0⟩]
          have hval : valI (45 :: t) = -v := by rw [valI, hr2]; rfl
          have hsome : (readI (45 :: t)).isSome = true := by rw [hr2]; rfl
          have wv : IntKind.i64.wrap (-v) = -v := wi64 _ (by omega) (by omega)
          rw [hval] at ht
          simp [hv0, wv, hw]
          refine ⟨by simp only [maxL]; omega, ?_⟩
          exact rd (i + 1) ⟨hi, by rw [hall, hsome]⟩ (hh := by simp [ht]) (hr2 := by simp [ht])
      · have hok : ok = false := by simpa using hok
        subst hok
        have hz : (readI (45 :: t)).isSome = false := by rw [hr]; simp
        simp [hno hz]
    · have hlt := intR_lt q
      have c1' := c_integerR q (by have := hp.1; omega) hqb
      have hr : readI q = if (intR q).2 = true then some (intR q).1 else none := by rw [readI, if_neg hs]
      generalize intR q = v at *
      obtain ⟨v, ok⟩ := v
      dsimp only at hlt hr c1'
      have fin : ∀ {p : Prop}, (q.length = 0 ∨ ∃ h : 0 < q.length, ¬ q[0] = 45) := by
        intro _
        cases q with
        | nil => exact .inl rfl
        | cons a t => exact .inr ⟨by simp, fun e => hs (by rw [List.getElem_cons_zero] at e; rw [e]; rfl)⟩
      rcases fin (p := True) with h0 | ⟨h0, h45⟩
      · have hq0 : q = [] := List.length_eq_zero_iff.1 h0
        subst hq0
        simp [hi, hq]
        refine c1 c1' ?_
        by_cases hok : ok = true
        · subst hok
          rw [if_pos rfl] at hr
          have hval : valI [] = v := by rw [valI, hr]; rfl
          have hsome : (readI []).isSome = true := by rw [hr]; rfl
          rw [hval] at ht
          simp [hw]
          refine ⟨by simp only [maxL]; omega, ?_⟩
          exact rd (i + 1) ⟨hi, by rw [hall, hsome]⟩ (hh := by simp [ht]) (hr2 := by simp [ht])
        · have hok : ok = false := by simpa using hok
          subst hok
          have hz : (readI []).isSome = false := by rw [hr]; simp
          simp [hno hz]
      · have g1 : (0 : Int) < (q.length : Int) := by omega
        have g2 : ¬ ((q[0] : Nat) : Int) = 45 := by omega
        simp [hi, hq, g1, h0, g2]
        have g3 : (((q[0] : Nat) : Int) == 45) = false := by rw [beq_eq_false_iff_ne]; exact g2
        refine c1 c1' ?_
        by_cases hok : ok = true
        · subst hok
          rw [if_pos rfl] at hr
          have hval : valI q = v := by rw [valI, hr]; rfl
          have hsome : (readI q).isSome = true := by rw [hr]; rfl
          rw [hval] at ht
          simp [hw, g3]
          refine ⟨by simp only [maxL]; omega, ?_⟩
          exact rd (i + 1) ⟨hi, by rw [hall, hsome]⟩ (hh := by simp [ht]) (hr2 := by simp [ht])
        · have hok : ok = false := by simpa using hok
          subst hok
          have hz : (readI q).isSome = false := by rw [hr]; simp
          simp [hno hz, g3]
  · have : i = l.length := by omega
    subst this
    rw [List.take_length] at k2
    rw [if_pos k2]
    simp
end Go.Abs
namespace Go.Abs
open Go.Proofs
set_option maxHeartbeats 4000000
set_option maxRecDepth 100000
theorem g_checkBook (o0 o1 : Obj) (nm : List Nat) (r : RowD) (rs : List RowD) (h : bookB ⟨nm, r :: rs⟩) :
    GoodI Tryz.prog 18 [o0, o1, .arr .grow (rs.length + 1) 2 ((r :: rs).map fun r => AV.p (eRow r))] [.st 26 [.p (.str nm), .sl 2 (rs.length + 1) 2 0 (rs.length + 1)]]
      (if isName nm = true then [o0, o1, .arr .frozen (rs.length + 1) 2 ((r :: rs).map fun r => AV.p (eRow r)), .box false (.st 26 [.p (.str nm), .sl 2 (rs.length + 1) 2 0 (rs.length + 1)])] else [o0, o1, .arr .grow (rs.length + 1) 2 ((r :: rs).map fun r => AV.p (eRow r)), .box false (.st 26 [.p (.str nm), .sl 2 (rs.length + 1) 2 0 (rs.length + 1)])]) (.p (.int .i64 (chkBook ⟨nm, r :: rs⟩))) := by
  refine goodI_fn nf isF18 mix (by simp [Tryz.f18]) ?_
  simp [Tryz.f18]
  refine c1 (c_refIsName nm h.1) ?_
  cases hn : isName nm
  · simp [chkBook, hn, firstE, whenE]
  · simp
    refine cp (h1 := ?g1) (c_checkRowsR (r :: rs) h.2) (by simp; first | rfl | exact ⟨rfl, rfl⟩) ?_
    case g1 => simp
    simp [chkBook, hn, firstE, whenE]
    all_goals (by_cases h0 : chkRows (r :: rs) = 0 <;> simp [h0])
theorem g_checkBook0 (o0 o1 : Obj) (nm : List Nat) (h : bookB ⟨nm, []⟩) :
    GoodI Tryz.prog 18 [o0, o1, .arr .grow 0 2 []] [.st 26 [.p (.str nm), .sl 2 0 2 0 0]]
      [o0, o1, .arr .grow 0 2 [], .box false (.st 26 [.p (.str nm), .sl 2 0 2 0 0])] (.p (.int .i64 (chkBook ⟨nm, []⟩))) := by
  refine goodI_fn nf isF18 mix (by simp [Tryz.f18]) ?_
  simp [Tryz.f18]
  refine c1 (c_refIsName nm h.1) ?_
  cases hn : isName nm
  · simp [chkBook, hn, firstE, whenE]
  · simp
    refine cp (h1 := ?g1) (c_checkRowsR [] h.2) (by simp; first | rfl | exact ⟨rfl, rfl⟩) ?_
    case g1 => simp
    simp [chkBook, hn, firstE, whenE]
    all_goals (by_cases h0 : chkRows [] = 0 <;> simp [h0])
end Go.Abs
namespace Go.Abs
open Go.Proofs
set_option maxHeartbeats 4000000
set_option maxRecDepth 100000
def pairT (s : List Nat) : Option (List Nat × List Nat) := match spl 32 s with
  | [a, b] => if a = [] ∨ b = [] then none else some (a, b)
  | _ => none
def parseL : List (List Nat) → Nat → BookD → Option BookD × Nat
  | [], _, b => (some b, 0)
  | s :: r, i, b => match pairT s with
    | none => (none, i + 1)
    | some (x, y) =>
      if i = 0 then (if x = [98, 111, 111, 107] then parseL r 1 ⟨y, b.rows⟩ else (none, 1))
      else if (readV y).2 = true then parseL r (i + 1) ⟨b.name, b.rows ++ [⟨x, (readV y).1⟩]⟩
      else (none, i + 1)
def parseS (s : List Nat) : BookD × Int × Int :=
  if 4096 < s.length then (⟨[], []⟩, 0, 26)
  else if s.getLast? ≠ some 10 then (⟨[], []⟩, 0, 28)
  else match parseL (spl 10 s.dropLast) 0 ⟨[], []⟩ with
    | (none, k) => (⟨[], []⟩, k, 25)
    | (some b, _) => if chkBook b ≠ 0 then (⟨[], []⟩, 0, chkBook b) else (b, 0, 0)
theorem readV_len (s : List Nat) : (readV s).1.length ≤ s.length + 1 := by
  have := spl_len 44 s
  rw [readV]; split <;> simp
  exact this
theorem c_parseR (s : List Nat) (h : s.length ≤ 1000000) (hb : ∀ c ∈ s, c < 256) : GoodC Tryz.prog 23 [.str s] (.tup [rBook (parseS s).1, .int .i64 (parseS s).2.1, .int .i64 (parseS s).2.2]) := by
  refine good_fn nf isF23 mix (by simp [Tryz.f23]) ?_
  by_cases h4 : 4096 < s.length
  · have h4' : (4096 : Int) < (s.length : Int) := by omega
    simp [Tryz.f23, h4', parseS, h4, rBook]
  have h4' : ¬ (4096 : Int) < (s.length : Int) := by omega
  by_cases h0 : s = []
  · subst h0
    simp [Tryz.f23, parseS, rBook]
  have hp : 0 < s.length := List.length_pos_iff.2 h0
  have h0' : ¬ (s.length : Int) = 0 := by omega
  have i1 : IntKind.i64.wrap ((s.length : Int) - 1) = (s.length : Int) - 1 := wi64 _ (by omega) (by omega)
  have i2 : ((s.length : Int) - 1).toNat = s.length - 1 := by omega
  have hg : s.getLast? = s[s.length - 1]? := List.getLast?_eq_getElem?
  have hlt : s.length - 1 < s.length := by omega
  rw [List.getElem?_eq_getElem hlt] at hg
  by_cases hz : s[s.length - 1] = 10
  case neg =>
    have hz' : ¬ ((s[s.length - 1] : Nat) : Int) = 10 := by omega
    simp [Tryz.f23, h4', h0, h0', hp, i1, i2, hlt, hz, hz', parseS, h4, hg, rBook]
    omega
  have hz' : ((s[s.length - 1] : Nat) : Int) = 10 := by omega
  simp [Tryz.f23, h4', h0, h0', hp, i1, i2, hlt, hz, hz', rBook]
  refine ⟨by omega, ?_⟩
  have hS := c_splitR (s.take (s.length - 1)) 10 (by simp; omega) (by omega)
  have hl := spl_len 10 (s.take (s.length - 1))
  have hm := fun p => spl_mem (c := 10) (s := s.take (s.length - 1)) (p := p)
  have hres : parseS s = match parseL (spl 10 (s.take (s.length - 1))) 0 ⟨[], []⟩ with
    | (none, k) => (⟨[], []⟩, (k : Int), 25)
    | (some b, _) => if chkBook b ≠ 0 then (⟨[], []⟩, 0, chkBook b) else (b, 0, 0) := by
    rw [parseS, if_neg h4, if_neg (by rw [hg, hz]; simp), List.dropLast_eq_take]
  have hm : ∀ p ∈ spl 10 (s.take (s.length - 1)), p.length ≤ s.length ∧ ∀ c ∈ p, c < 256 := by
    intro p hp
    obtain ⟨h1, h2⟩ := hm p hp
    exact ⟨by simp at h1; omega, fun c hc => hb c (List.mem_of_mem_take (h2 c hc))⟩
  generalize spl 10 (s.take (s.length - 1)) = l at *
  refine c2 hS ?_
  simp
  have hll : l.length ≤ 1000000 := by simp at hl; omega
  refine lp (α := Nat × BookD) (fun (i, b) => ⟨[(7, .p (.int .i64 i)), (6, .p (.seq (l.map .str))), (5, .ptr 1 []), (2, .ptr 0 [])], [.box false (.p (.st 26 [.str [], .nsl])), .box false (.st 26 [.p (.str b.name), .sl 2 b.rows.length 2 0 b.rows.length]), .arr .grow b.rows.length 2 (b.rows.map (AV.p ∘ eRow))]⟩)
    (fun (i, b) => i ≤ l.length ∧ b.rows.length ≤ i ∧ bookB b ∧ parseL l 0 ⟨[], []⟩ = parseL (l.drop i) i b) (fun (i, _) => l.length - i) (0, ⟨[], []⟩) ⟨by simp, by simp, ⟨by simp, by simp, fun r hr => by cases hr⟩, rfl⟩ ?_
  rintro ⟨i, b⟩ ⟨k1, k2, k3, k4⟩
  dsimp only at k1 k2 k3 k4 ⊢
  have hw := wi1 (i := i) (by omega)
  by_cases hi : i < l.length
  · rw [List.drop_eq_getElem_cons hi, parseL] at k4
    obtain ⟨p1, p2⟩ := hm _ (List.getElem_mem hi)
    generalize hq : l[i] = q at *
    have hSq := c_splitR q 32 (by omega) (by omega)
    have hmq := fun p => spl_mem (c := 32) (s := q) (p := p)
    simp [hi, hq]
    refine c2 hSq ?_
    have hpair : pairT q = match spl 32 q with
      | [a, b] => if a = [] ∨ b = [] then none else some (a, b)
      | _ => none := rfl
    rw [hpair] at k4
    clear hpair hSq
    generalize spl 32 q = P at *
    have bad : ∀ {k : Nat}, parseL l 0 ⟨[], []⟩ = (none, k) → parseS s = (⟨[], []⟩, (k : Int), 25) := fun e => by rw [hres, e]
    have two : (∃ x y, P = [x, y]) ∨ ¬ P.length = 2 := by
      match P with
      | [] => exact .inr (by simp)
      | [_] => exact .inr (by simp)
      | [x, y] => exact .inl ⟨x, y, rfl⟩
      | _ :: _ :: _ :: _ => exact .inr (by simp)
    rcases two with ⟨x, y, rfl⟩ | h2
    · have hx := hmq x (by simp)
      have hy := hmq y (by simp)
      by_cases x0 : x = []
      · subst x0
        have k5 := bad (k := i + 1) (by rw [k4]; simp)
        simp [hw, k5, rBook]
      by_cases y0 : y = []
      · subst y0
        have k5 := bad (k := i + 1) (by rw [k4]; simp)
        simp [x0, hw, k5, rBook]
      simp only [x0, y0, or_self, if_false] at k4
      by_cases iz : i = 0
      · subst iz
        rw [if_pos rfl] at k4
        have w1 : IntKind.i64.wrap 1 = 1 := by decide
        by_cases xb : x = [98, 111, 111, 107]
        · rw [if_pos xb] at k4
          subst xb
          simp [y0, w1]
          exact rd (1, ⟨y, b.rows⟩) ⟨hi, by dsimp only; omega, ⟨by dsimp only; omega, k3.2⟩, k4⟩ (h1 := by dsimp only; omega)
        · rw [if_neg xb] at k4
          have k5 := bad k4
          simp [x0, y0, xb, k5, rBook]
      · have iz' : ¬ (i : Int) = 0 := by omega
        rw [if_neg iz] at k4
        simp [x0, y0, iz, iz']
        have hrl := readV_len y
        have hRV := c_readValuesR y (by omega) (fun c hc => p2 c (hy.2 c hc))
        generalize readV y = rv at *
        obtain ⟨vs, ok⟩ := rv
        refine c1 hRV ?_
        cases ok
        · have k5 := bad (k := i + 1) (by rw [k4]; simp)
          simp [hw, k5, rBook]
        · simp only [if_true] at k4
          simp [hw]
          dsimp only at hrl
          refine ⟨by simp only [maxL]; omega, by first | rfl | exact ⟨rfl, rfl⟩, ?_⟩
          exact rd (i + 1, ⟨b.name, b.rows ++ [⟨x, vs⟩]⟩) ⟨hi, by simp; omega, ⟨k3.1, by simp; omega, fun r hr => by
            rcases List.mem_append.1 hr with h | h
            · exact k3.2.2 r h
            · rw [List.mem_singleton.1 h]; exact ⟨by dsimp only; omega, by dsimp only; omega⟩⟩, k4⟩ (h1 := by dsimp only; omega) (hh := by simp [eRow])
    · have h2' : ¬ (P.length : Int) = 2 := by omega
      have k5 := bad (k := i + 1) (by
        rw [k4]
        match P with
        | [] => rfl
        | [_] => rfl
        | [_, _] => exact (h2 rfl).elim
        | _ :: _ :: _ :: _ => rfl)
      simp [h2, h2', hw, k5, rBook]
  · have : i = l.length := by omega
    subst this
    rw [List.drop_length, parseL] at k4
    rw [k4] at hres
    dsimp only at hres
    simp
    obtain ⟨nm, rows⟩ := b
    cases rows with
    | nil =>
      refine ci (g_checkBook0 _ _ nm k3) ?_
      by_cases hz : chkBook ⟨nm, []⟩ = 0
      · simp only [hz, ne_eq, not_true, if_false] at hres
        simp [hz, hres, rBook]
      · simp only [hz, ne_eq, not_false_eq_true, if_true] at hres
        simp [hz, hres, rBook]
    | cons r rs =>
      refine ci (g_checkBook _ _ nm r rs k3) ?_
      by_cases hn : isName nm = true
      · by_cases hz : chkBook ⟨nm, r :: rs⟩ = 0
        · simp only [hz, ne_eq, not_true, if_false] at hres
          simp [hn, hz, hres, rBook]
        · simp only [hz, ne_eq, not_false_eq_true, if_true] at hres
          simp [hn, hz, hres, rBook]
      · have hz : ¬ chkBook ⟨nm, r :: rs⟩ = 0 := by
          intro e; rw [chkBook, first2] at e
          have h1 := e.1
          simp [hn, whenE] at h1
        simp only [hz, ne_eq, not_false_eq_true, if_true] at hres
        simp [hn, hz, hres, rBook]
end Go.Abs
namespace Go.Abs
def cutN (c : Nat) : List Nat → List Nat × List Nat × Bool
  | [] => ([], [], false)
  | x :: r => if x = c then ([], r, true) else (x :: (cutN c r).1, (cutN c r).2.1, (cutN c r).2.2)
theorem idxB_cut (c : Nat) : ∀ (s : List Nat) (k : Nat), ((cutN c s).2.2 = false ∧ idxB c s k = -1 ∧ cutN c s = (s, [], false)) ∨
    ∃ i, i < s.length ∧ idxB c s k = ((k + i : Nat) : Int) ∧ cutN c s = (s.take i, s.drop (i + 1), true)
  | [], k => by simp [cutN, idxB]
  | x :: r, k => by
    rw [cutN, idxB]
    by_cases h : x = c
    · subst h
      right
      refine ⟨0, by simp, ?_, ?_⟩
      · simp
      · simp
    · have hb : Nat.beq x c = false := by
        cases hb : Nat.beq x c
        · rfl
        · exact (h (Nat.eq_of_beq_eq_true hb)).elim
      rcases idxB_cut c r (k + 1) with ⟨h1, h2, h3⟩ | ⟨i, h1, h2, h3⟩
      · left
        rw [if_neg h, hb, cond_false, h2, h3]
        exact ⟨rfl, rfl, rfl⟩
      · right
        refine ⟨i + 1, by simpa using h1, ?_, ?_⟩
        · rw [hb, cond_false, h2]; omega
        · rw [if_neg h, h3]; simp
theorem splAux_cur (c : Nat) : ∀ (s cur : List Nat), splAux c cur s = (cur ++ (cutN c s).1) :: if (cutN c s).2.2 = true then splAux c [] (cutN c s).2.1 else []
  | [], cur => by simp [splAux, cutN]
  | x :: r, cur => by
    rw [splAux, cutN]
    by_cases h : x = c
    · rw [if_pos h, if_pos h]; simp
    · rw [if_neg h, if_neg h, splAux_cur c r]; simp
theorem spl_cut (c : Nat) (s : List Nat) : spl c s = (cutN c s).1 :: if (cutN c s).2.2 = true then spl c (cutN c s).2.1 else [] := by
  rw [spl, splAux_cur]; rfl
theorem cntB_add (c : Nat) : ∀ (s : List Nat) (n : Nat), cntB c s n = n + cntB c s 0
  | [], n => by simp [cntB]
  | x :: r, n => by
    rw [cntB, cntB, cntB_add c r (n + 1), cntB_add c r (0 + 1), cntB_add c r n]
    cases Nat.beq x c <;> simp <;> omega
theorem splAux_cnt (c : Nat) : ∀ (s cur : List Nat), (splAux c cur s).length = cntB c s 0 + 1
  | [], cur => by simp [splAux, cntB]
  | x :: r, cur => by
    rw [splAux, cntB]
    by_cases h : x = c
    · subst h
      rw [if_pos rfl, List.length_cons, splAux_cnt _ r, Nat.beq_refl, cond_true, cntB_add _ r (0 + 1)]; omega
    · have hb : Nat.beq x c = false := by
        cases hb : Nat.beq x c
        · rfl
        · exact (h (Nat.eq_of_beq_eq_true hb)).elim
      rw [if_neg h, splAux_cnt c r, hb, cond_false]
theorem spl_cnt (c : Nat) (s : List Nat) : (spl c s).length = cntB c s 0 + 1 := splAux_cnt c s []
theorem cntB_le (c : Nat) : ∀ s : List Nat, cntB c s 0 ≤ s.length
  | [] => by simp [cntB]
  | x :: r => by
    rw [cntB, cntB_add c r (0 + 1)]
    have := cntB_le c r
    cases Nat.beq x c <;> simp <;> omega
def isD (c : Nat) : Bool := decide (48 ≤ c) && decide (c ≤ 57)
def trimL (s : List Nat) : List Nat := s.dropWhile isD
def trimR (s : List Nat) : List Nat := (s.reverse.dropWhile isD).reverse
theorem dropWhile_nil_iff {p : Nat → Bool} : ∀ {s : List Nat}, s.dropWhile p = [] ↔ s.all p = true
  | [] => by simp
  | x :: r => by
    rw [List.dropWhile_cons, List.all_cons]
    cases hp : p x
    · simp
    · simp [dropWhile_nil_iff (s := r)]
theorem trimLR_nil (s : List Nat) : trimL (trimR s) = [] ↔ s.all isD = true := by
  rw [trimL, dropWhile_nil_iff, trimR]
  constructor
  · intro h
    by_cases h2 : s.reverse.dropWhile isD = []
    · rw [dropWhile_nil_iff, List.all_reverse] at h2; exact h2
    · have h3 := List.head_dropWhile_not isD h2
      rw [List.all_reverse, List.all_eq_true] at h
      rw [h _ (List.head_mem h2)] at h3
      cases h3
  · intro h
    have : s.reverse.dropWhile isD = [] := by rw [dropWhile_nil_iff, List.all_reverse]; exact h
    rw [this]; rfl
end Go.Abs
namespace Go.Abs
open Go.Proofs
set_option maxHeartbeats 4000000
set_option maxRecDepth 100000
theorem c_cutL (s : List Nat) (c : Nat) (h : s.length ≤ 1048576) : GoodC Tryz.prog 232 [.str s, .str [c]] (.tup [.str (cutN c s).1, .str (cutN c s).2.1, .bool (cutN c s).2.2]) := by
  refine good_fn nf isF232 mix (by simp [Tryz.f232]) ?_
  simp [Tryz.f232]
  refine c2 (h166 s c) ?_
  rcases idxB_cut c s 0 with ⟨_, h2, h3⟩ | ⟨i, h1, h2, h3⟩
  · simp [h2, h3]
  · rw [Nat.zero_add] at h2
    have w := wi1 (i := i) (by omega)
    have e1 : ((i : Int) + 1).toNat = i + 1 := by omega
    simp [h2, h3, w, e1]
    omega
theorem c_cut (s : List Nat) (c : Nat) (h : s.length ≤ 1048576) : GoodC Tryz.prog 177 [.str s, .str [c]] (.tup [.str (cutN c s).1, .str (cutN c s).2.1, .bool (cutN c s).2.2]) := by
  refine good_fn nf isF177 mix (by simp [Tryz.f177]) ?_
  simp [Tryz.f177]
  refine c2 (c_cutL s c h) ?_
  simp
theorem c_index (s : List Nat) (c : Nat) : GoodC Tryz.prog 72 [.str s, .str [c]] (.int .i64 (idxB c s 0)) := by
  refine good_fn nf isF72 mix (by simp [Tryz.f72]) ?_
  simp [Tryz.f72]
  refine c2 (h166 s c) ?_
  simp
theorem c_contains (s : List Nat) (c : Nat) : GoodC Tryz.prog 145 [.str s, .str [c]] (.bool (cutN c s).2.2) := by
  refine good_fn nf isF145 mix (by simp [Tryz.f145]) ?_
  simp [Tryz.f145]
  refine c2 (c_index s c) ?_
  rcases idxB_cut c s 0 with ⟨_, h2, h3⟩ | ⟨i, h1, h2, h3⟩
  · simp [h2, h3]
  · simp [h2, h3]
theorem c_genSplit (s : List Nat) (c : Nat) (h : s.length ≤ 1048576) : GoodC Tryz.prog 212 [.str s, .str [c], .int .i64 0, .int .i64 (-1)] (.seq ((spl c s).map .str)) := by
  refine good_fn nf isF212 mix (by simp [Tryz.f212]) ?_
  simp [Tryz.f212]
  refine c2 (h256 s c) ?_
  have hc := cntB_le c s
  have hn := spl_cnt c s
  generalize cntB c s 0 = n at *
  have w1 := wi1 (i := n) (by omega)
  have w2 := wi1 (i := s.length) (by omega)
  have w3 : IntKind.i64.wrap (n : Int) = n := wi64 _ (by omega) (by omega)
  have e1 : ¬ s.length < n := by omega
  have e2 : ((n : Int) + 1).toNat = n + 1 := by omega
  simp [w1, w2, w3, e1, e2, maxL]
  refine ⟨by omega, ?_⟩
  refine lp (α := Nat × List Nat × List (List Nat)) (fun (i, r, out) => ⟨[(10, .p (.int .i64 i)), (9, .sl 0 0 1 0 (n + 1)), (3, .p (.int .i64 n)), (2, .p (.int .i64 0)), (1, .p (.str [c])), (0, .p (.str r))], [.arr .exact 0 1 (out.map (fun x => .p (.str x)) ++ List.replicate (n + 1 - i) (.p (.str [])))]⟩)
    (fun (i, r, out) => i ≤ n ∧ out.length = i ∧ r.length ≤ s.length ∧ out ++ spl c r = spl c s) (fun (i, _, _) => n - i) (0, s, []) (by simp) ?_
  rintro ⟨i, r, out⟩ ⟨h1, h2, h3, h4⟩
  dsimp only at h1 h2 h3 h4 ⊢
  have hl : (spl c r).length = n - i + 1 := by have := congrArg List.length h4; rw [List.length_append, hn] at this; omega
  have hs := spl_cut c r
  have wi := wi1 (i := i) (by omega)
  by_cases hi : i < n
  · rcases idxB_cut c r 0 with ⟨_, g2, g3⟩ | ⟨k, g1, g2, g3⟩
    · rw [g3] at hs; rw [hs] at hl; simp at hl; omega
    · rw [Nat.zero_add] at g2
      rw [g3] at hs
      simp at hs
      have wk := wi1 (i := k) (by omega)
      have wk0 : IntKind.i64.wrap (k : Int) = k := wi64 _ (by omega) (by omega)
      have e3 : ((k : Int) + 1).toNat = k + 1 := by omega
      simp [hi]
      refine c2 (c_index r c) ?_
      have hset : ∀ v : AV, (out.map (fun x => AV.p (.str x)) ++ List.replicate (n + 1 - i) (AV.p (.str []))).set i v = out.map (fun x => AV.p (.str x)) ++ v :: List.replicate (n - i) (AV.p (.str [])) := by
        intro v
        rw [List.set_append_right _ _ (by simp [h2])]
        have e : n + 1 - i = (n - i) + 1 := by omega
        rw [e, List.replicate_succ, List.length_map, h2, Nat.sub_self]
        rfl
      have hget : ∃ v, (out.map (fun x => AV.p (.str x)) ++ List.replicate (n + 1 - i) (AV.p (.str [])))[i]? = some (AV.p (.str v)) := by
        refine ⟨[], ?_⟩
        rw [List.getElem?_append_right (by simp [h2]), List.length_map, h2, Nat.sub_self, List.getElem?_replicate, if_pos (by omega)]
      obtain ⟨v0, hget⟩ := hget
      have hk0 : ¬ (k : Int) < 0 := by omega
      simp [g2, wk, wk0, e3, wi, h2, hset, hget, hk0]
      refine ⟨by omega, by omega, ⟨by omega, by omega⟩, ?_⟩
      exact rd (i + 1, r.drop (k + 1), out ++ [r.take k]) ⟨hi, by simp [h2], by simp; omega, by rw [← h4, spl_cut c r, g3]; simp⟩ (h1 := by dsimp only; omega)
        (hh := by simp [show n + 1 - (i + 1) = n - i by omega]) (hr2 := by simp [rl_p])
  · have hi : i = n := by omega
    subst hi
    have hset : ∀ v w : AV, (out.map (fun x => AV.p (.str x)) ++ [w]).set i v = out.map (fun x => AV.p (.str x)) ++ [v] := by
      intro v w
      rw [List.set_append_right _ _ (by simp [h2]), List.length_map, h2, Nat.sub_self]
      rfl
    have hget : ∀ w : AV, (out.map (fun x => AV.p (.str x)) ++ [w])[i]? = some w := by
      intro w
      rw [List.getElem?_append_right (by simp [h2]), List.length_map, h2, Nat.sub_self]
      rfl
    have hsp : spl c r = [r] := by
      rcases idxB_cut c r 0 with ⟨g1, g2, g3⟩ | ⟨k, g1, g2, g3⟩
      · rw [spl_cut, g3]; rfl
      · rw [spl_cut, g3] at hl
        simp at hl
        have := spl_cnt c (r.drop (k + 1))
        rw [hl] at this; simp at this
    rw [hsp] at h4
    simp [h2, hset, hget, wi, e2, ← h4]
    refine ⟨by omega, ?_⟩
    rw [List.take_of_length_le (by simp [h2])]
    have ea : out.map (fun x => AV.p (.str x)) ++ [AV.p (.str r)] = (out ++ [r]).map (fun x => AV.p (.str x)) := by simp
    have eb : out.map PV.str ++ [PV.str r] = (out ++ [r]).map PV.str := by simp
    rw [ea, eb]
    simp only [purl_map]
    intro x _
    simp
theorem c_split (s : List Nat) (c : Nat) (h : s.length ≤ 1048576) : GoodC Tryz.prog 148 [.str s, .str [c]] (.seq ((spl c s).map .str)) := by
  refine good_fn nf isF148 mix (by simp [Tryz.f148]) ?_
  simp [Tryz.f148]
  refine c4 (c_genSplit s c h) ?_
  simp
def setD : PV := .st 329 ((List.range 256).map fun i => .bool (isD i))
theorem c_setHas (c : Nat) (hc : c < 256) : GoodC Tryz.prog 280 [.fptr setD, .int .u8 c] (.bool (isD c)) := by
  refine good_fn nf isF280 mix (by simp [Tryz.f280]) ?_
  have hg : (List.range 256)[c]? = some c := List.getElem?_range hc
  simp [Tryz.f280, setD, hg, hc]
theorem c_trimLeftA (s : List Nat) (h : s.length ≤ 1048576) (hb : ∀ c ∈ s, c < 256) : GoodC Tryz.prog 243 [.str s, .fptr setD] (.str (trimL s)) := by
  refine good_fn nf isF243 mix (by simp [Tryz.f243]) ?_
  simp [Tryz.f243]
  refine lp (α := List Nat) (fun r => ⟨[(1, .p (.fptr setD)), (0, .p (.str r))], []⟩) (fun r => trimL r = trimL s ∧ r.length ≤ s.length ∧ ∀ c ∈ r, c < 256) (fun r => r.length) s (by exact ⟨rfl, Nat.le_refl _, hb⟩) ?_
  rintro r ⟨h1, h2, h3⟩
  cases r with
  | nil =>
    have e : trimL s = [] := by rw [← h1]; rfl
    simp [e]
  | cons x r =>
    have hx := h3 x (by simp)
    have hr : trimL (x :: r) = if isD x = true then trimL r else x :: r := by
      rw [trimL, List.dropWhile_cons]; split <;> rfl
    rw [hr] at h1
    have q2 : (0 : Int) < (r.length : Int) + 1 := by omega
    simp [q2]
    refine c2 (c_setHas x hx) ?_
    cases hd : isD x
    · rw [hd] at h1
      simp [← h1]
    · rw [hd] at h1
      simp
      exact rd r ⟨by simpa using h1, by simp at h2; omega, fun c hc => h3 c (by simp [hc])⟩ (h1 := by simp)
theorem c_trimRightA (s : List Nat) (h : s.length ≤ 1048576) (hb : ∀ c ∈ s, c < 256) : GoodC Tryz.prog 244 [.str s, .fptr setD] (.str (trimR s)) := by
  refine good_fn nf isF244 mix (by simp [Tryz.f244]) ?_
  simp [Tryz.f244]
  refine lp (α := List Nat) (fun r => ⟨[(1, .p (.fptr setD)), (0, .p (.str r))], []⟩) (fun r => trimR r = trimR s ∧ r.length ≤ s.length ∧ ∀ c ∈ r, c < 256) (fun r => r.length) s (by exact ⟨rfl, Nat.le_refl _, hb⟩) ?_
  rintro r ⟨h1, h2, h3⟩
  rcases List.eq_nil_or_concat r with rfl | ⟨t, x, rfl⟩
  · have e : trimR s = [] := by rw [← h1]; rfl
    simp [e]
  · simp only [List.concat_eq_append] at h1 h2 h3 ⊢
    have hx := h3 x (by simp)
    have hr : trimR (t ++ [x]) = if isD x = true then trimR t else t ++ [x] := by
      rw [trimR, List.reverse_append, List.reverse_cons, List.reverse_nil, List.nil_append, List.singleton_append, List.dropWhile_cons]
      split
      · rfl
      · simp
    rw [hr] at h1
    have q2 : (0 : Int) < (t.length : Int) + 1 := by omega
    have w1 : IntKind.i64.wrap (t.length : Int) = t.length := wi64 _ (by omega) (by simp at h2; omega)
    simp [q2, w1]
    refine c2 (c_setHas x hx) ?_
    cases hd : isD x
    · rw [hd] at h1
      simp [← h1]
    · rw [hd] at h1
      simp [w1]
      exact rd t ⟨by simpa using h1, by simp at h2; omega, fun c hc => h3 c (by simp [hc])⟩ (h1 := by simp)
end Go.Abs
namespace Go.Abs
open Go.Proofs
set_option maxHeartbeats 4000000
set_option maxRecDepth 100000
def digS : List Nat := [48, 49, 50, 51, 52, 53, 54, 55, 56, 57]
theorem c_makeSet : GoodC Tryz.prog 242 [.str digS] (.tup [setD, .bool true]) := run0_ok (facts := noF) (fun _ _ _ h => by cases h) (by kernel_rfl)
theorem tzSet : tzero Tryz.prog 330 = some (.st 329 (List.replicate 256 (.bool false))) := by kernel_rfl
theorem c_trim10 (s : List Nat) (h : s.length ≤ 1048576) (hb : ∀ c ∈ s, c < 256) : GoodC Tryz.prog 196 [.str s, .str digS] (.str (trimL (trimR s))) := by
  refine good_fn nf isF196 mix (by simp [Tryz.f196]) ?_
  by_cases h0 : s = []
  · subst h0
    simp [Tryz.f196, digS, trimL, trimR]
  simp [Tryz.f196, digS, h0]
  refine c1 c_makeSet ?_
  have hr : (trimR s).length ≤ s.length := by
    rw [trimR, List.length_reverse]
    have := (List.dropWhile_sublist isD (l := s.reverse)).length_le
    simpa using this
  have hm : ∀ c ∈ trimR s, c < 256 := by
    intro c hc
    rw [trimR, List.mem_reverse] at hc
    exact hb c (by simpa using (List.dropWhile_sublist isD (l := s.reverse)).subset hc)
  simp [tzSet]
  have hsh : shp setD = .agg 329 := rfl
  refine ⟨⟨⟨hsh.symm, by rw [hsh]; intro e; cases e⟩, hsh.symm⟩, ?_⟩
  refine cp (c_trimRightA s h hb) (by simp; exact ⟨rfl, rfl⟩) ?_
  simp
  refine cp (c_trimLeftA (trimR s) (by omega) hm) (by simp; exact ⟨rfl, rfl⟩) ?_
  simp
end Go.Abs
namespace Go.Proofs
open Go.Shelf
def Tryz.lays144_ren : Go.Shelf.Ren := ⟨fun | 144 => 145 | 143 => 72 | 219 => 166 | 217 => 223 | 225 => 224 | 224 => 225 | 267 => 226 | 266 => 272 | 314 => 273 | n => n, fun | 9 => 9 | 4 => 4 | 3 => 3 | 5 => 5 | 46 => 261 | 146 => 318 | 51 => 317 | n => n, fun | 1 => 0 | n => n⟩
def Tryz.lays100_ren : Go.Shelf.Ren := ⟨fun | 100 => 103 | 207 => 183 | n => n, fun | 9 => 9 | 4 => 4 | 3 => 3 | n => n, fun | n => n⟩
theorem Tryz.lays100 : Go.Proofs.Lays.n100 Tryz.prog Tryz.lays100_ren := {
  mixed := by kernel_rfl
  f100 := Tryz.func103.trans (congrArg some (by kernel_rfl))
  f207 := Tryz.func183.trans (congrArg some (by kernel_rfl))
  t3 := Tryz.underlying3
  a3 := Tryz.isAgg3
  z3 := Tryz.sizeOf3
  v3 := Tryz.zeroValue3
  t4 := Tryz.underlying4
  a4 := Tryz.isAgg4
  z4 := Tryz.sizeOf4
  v4 := Tryz.zeroValue4
  t9 := Tryz.underlying9
  a9 := Tryz.isAgg9
  z9 := Tryz.sizeOf9
  v9 := Tryz.zeroValue9 }
open Go.RowKit Go.Lib in
theorem Tryz.strings_HasSuffix (s p : ByteArray) (w : World) (hs : s.size ≤ 9223372036854775807) :
    Calls Tryz.prog 103 #[.string s, .string p] w fun e w' => e = .returned (.bool (Lib.hasSuffix s.data.toList p.data.toList)) ∧ w' = w := Any.strings_HasSuffix Tryz.lays100 s p w hs
def Tryz.lays101_ren : Go.Shelf.Ren := ⟨fun | 101 => 238 | 208 => 277 | 206 => 229 | n => n, fun | 9 => 9 | 4 => 4 | 3 => 3 | n => n, fun | n => n⟩
theorem Tryz.lays101 : Go.Proofs.Lays.n101 Tryz.prog Tryz.lays101_ren := {
  mixed := by kernel_rfl
  f101 := Tryz.func238.trans (congrArg some (by kernel_rfl))
  f206 := Tryz.func229.trans (congrArg some (by kernel_rfl))
  f208 := Tryz.func277.trans (congrArg some (by kernel_rfl))
  t3 := Tryz.underlying3
  a3 := Tryz.isAgg3
  z3 := Tryz.sizeOf3
  v3 := Tryz.zeroValue3
  t4 := Tryz.underlying4
  a4 := Tryz.isAgg4
  z4 := Tryz.sizeOf4
  v4 := Tryz.zeroValue4
  t9 := Tryz.underlying9
  a9 := Tryz.isAgg9
  z9 := Tryz.sizeOf9
  v9 := Tryz.zeroValue9 }
open Go.RowKit Go.Lib in
theorem Tryz.strings_TrimPrefix (s p : ByteArray) (w : World) :
    Calls Tryz.prog 238 #[.string s, .string p] w fun e w' => e = .returned (.string ⟨(Lib.trimPrefix s.data.toList p.data.toList).toArray⟩) ∧ w' = w := Any.strings_TrimPrefix Tryz.lays101 s p w
def Tryz.lays102_ren : Go.Shelf.Ren := ⟨fun | 102 => 106 | 209 => 186 | 207 => 183 | n => n, fun | 9 => 9 | 4 => 4 | 3 => 3 | n => n, fun | n => n⟩
theorem Tryz.lays102 : Go.Proofs.Lays.n102 Tryz.prog Tryz.lays102_ren := {
  mixed := by kernel_rfl
  f102 := Tryz.func106.trans (congrArg some (by kernel_rfl))
  f207 := Tryz.func183.trans (congrArg some (by kernel_rfl))
  f209 := Tryz.func186.trans (congrArg some (by kernel_rfl))
  t3 := Tryz.underlying3
  a3 := Tryz.isAgg3
  z3 := Tryz.sizeOf3
  v3 := Tryz.zeroValue3
  t4 := Tryz.underlying4
  a4 := Tryz.isAgg4
  z4 := Tryz.sizeOf4
  v4 := Tryz.zeroValue4
  t9 := Tryz.underlying9
  a9 := Tryz.isAgg9
  z9 := Tryz.sizeOf9
  v9 := Tryz.zeroValue9 }
open Go.RowKit Go.Lib in
theorem Tryz.strings_TrimSuffix (s p : ByteArray) (w : World) (hs : s.size ≤ 9223372036854775807) :
    Calls Tryz.prog 106 #[.string s, .string p] w fun e w' => e = .returned (.string ⟨(Lib.trimSuffix s.data.toList p.data.toList).toArray⟩) ∧ w' = w := Any.strings_TrimSuffix Tryz.lays102 s p w hs
end Go.Proofs
namespace Go.Abs
open Go.Proofs
theorem h103 (s p : List Nat) (v : Bool) (h : Lib.hasSuffix (s.map UInt8.ofNat) (p.map UInt8.ofNat) = v) (hl : s.length ≤ 9223372036854775807) : GoodC Tryz.prog 103 [.str s, .str p] (.bool v) := by
  refine goodP_flat (enters_fn Tryz.func103 (by kernel_rfl)) fun w Imm cargs _ hg ha => ?_
  obtain ⟨x, y, rfl, h1, h2⟩ := PVVl_two ha
  simp only [PVV] at h1 h2
  obtain ⟨bs, rfl, rfl⟩ := h1
  obtain ⟨cs, rfl, rfl⟩ := h2
  have e1 := ofNat_natsB bs.data.toList
  have e2 := ofNat_natsB cs.data.toList
  simp only [natsB] at e1 e2
  rw [e1, e2] at h
  refine (Tryz.strings_HasSuffix bs cs w (by simpa using hl)).mono ?_
  rintro e w' ⟨rfl, rfl⟩
  exact ⟨_, rfl, ⟨Nat.le_refl _, fun _ _ => rfl, rfl, rfl⟩, fun w Imm => by rw [h]; simp [PVV]⟩
theorem h106 (s p t : List Nat) (h : natsB (Lib.trimSuffix (s.map UInt8.ofNat) (p.map UInt8.ofNat)) = t) (hl : s.length ≤ 9223372036854775807) : GoodC Tryz.prog 106 [.str s, .str p] (.str t) := by
  refine goodP_flat (enters_fn Tryz.func106 (by kernel_rfl)) fun w Imm cargs _ hg ha => ?_
  obtain ⟨x, y, rfl, h1, h2⟩ := PVVl_two ha
  simp only [PVV] at h1 h2
  obtain ⟨bs, rfl, rfl⟩ := h1
  obtain ⟨cs, rfl, rfl⟩ := h2
  have e1 := ofNat_natsB bs.data.toList
  have e2 := ofNat_natsB cs.data.toList
  simp only [natsB] at e1 e2
  rw [e1, e2] at h
  refine (Tryz.strings_TrimSuffix bs cs w (by simpa using hl)).mono ?_
  rintro e w' ⟨rfl, rfl⟩
  exact ⟨_, rfl, ⟨Nat.le_refl _, fun _ _ => rfl, rfl, rfl⟩, fun w Imm => by rw [← h]; exact PVV_strB _⟩
theorem h238 (s p t : List Nat) (h : natsB (Lib.trimPrefix (s.map UInt8.ofNat) (p.map UInt8.ofNat)) = t) : GoodC Tryz.prog 238 [.str s, .str p] (.str t) := by
  refine goodP_flat (enters_fn Tryz.func238 (by kernel_rfl)) fun w Imm cargs _ hg ha => ?_
  obtain ⟨x, y, rfl, h1, h2⟩ := PVVl_two ha
  simp only [PVV] at h1 h2
  obtain ⟨bs, rfl, rfl⟩ := h1
  obtain ⟨cs, rfl, rfl⟩ := h2
  have e1 := ofNat_natsB bs.data.toList
  have e2 := ofNat_natsB cs.data.toList
  simp only [natsB] at e1 e2
  rw [e1, e2] at h
  refine (Tryz.strings_TrimPrefix bs cs w).mono ?_
  rintro e w' ⟨rfl, rfl⟩
  exact ⟨_, rfl, ⟨Nat.le_refl _, fun _ _ => rfl, rfl, rfl⟩, fun w Imm => by rw [← h]; exact PVV_strB _⟩
end Go.Abs
namespace Go.Abs
open Go.Proofs
set_option maxHeartbeats 4000000
set_option maxRecDepth 100000
theorem parse_dig : ∀ (d : List Nat) (acc : Nat), d.all isD = true → (∀ c ∈ d, c < 256) → d.foldl decV acc < 1000000000 → Lib.parseUint10 acc (d.map UInt8.ofNat) = .ok (d.foldl decV acc)
  | [], acc, _, _, _ => rfl
  | c :: r, acc, h, hb, hl => by
    simp only [List.all_cons, Bool.and_eq_true] at h
    have hc := h.1
    simp only [isD, Bool.and_eq_true, decide_eq_true_eq] at hc
    have hmono : ∀ (r : List Nat) (a : Nat), a ≤ r.foldl decV a := by
      intro r
      induction r with
      | nil => intro a; exact Nat.le_refl _
      | cons x r ih => intro a; exact Nat.le_trans (by simp only [decV]; omega) (ih _)
    have h2 := hmono r (decV acc c)
    rw [List.foldl_cons] at hl ⊢
    have e : (UInt8.ofNat c).toNat = c := by simp; omega
    have e2 : acc * 10 + (c - 48) = decV acc c := rfl
    have h3 : decV acc c < 1000000000 := by omega
    have h4 : acc ≤ decV acc c := by simp only [decV]; omega
    rw [List.map_cons, Lib.parseUint10, e, if_pos hc, if_neg (by omega), e2, if_neg (by omega)]
    exact parse_dig r _ h.2 (fun c hc => hb c (by simp [hc])) hl
theorem atoi_dig {d : List Nat} (h : d.all isD = true) (hb : ∀ c ∈ d, c < 256) (h0 : d ≠ []) (h9 : d.length ≤ 9) : Lib.atoiAll (d.map UInt8.ofNat) = .ok (numT d) := by
  have hl := numT_lt _ d rfl h
  have hp : 10 ^ d.length ≤ 10 ^ 9 := Nat.pow_le_pow_right (by omega) h9
  cases d with
  | nil => exact (h0 rfl).elim
  | cons c r =>
    have hc := (Bool.and_eq_true .. ▸ (List.all_cons ▸ h) : isD c = true ∧ r.all isD = true).1
    simp only [isD, Bool.and_eq_true, decide_eq_true_eq] at hc
    have e : (UInt8.ofNat c).toNat = c := by simp; omega
    have hl9 : numT (c :: r) < 1000000000 := by omega
    have hpar := parse_dig (c :: r) 0 h hb hl9
    rw [← numT] at hpar
    rw [List.map_cons] at hpar
    rw [List.map_cons, Lib.atoiAll]
    simp only [e]
    rw [if_neg (by omega), Lib.parseMag, if_neg (by simp), hpar]
    dsimp only
    rw [if_neg (by omega), if_neg (by omega), if_neg (by omega)]
theorem atoi_neg {d : List Nat} (h : d.all isD = true) (hb : ∀ c ∈ d, c < 256) (h0 : d ≠ []) (h9 : d.length ≤ 9) : Lib.atoiAll ((45 :: d).map UInt8.ofNat) = .ok (-(numT d : Int)) := by
  have hl := numT_lt _ d rfl h
  have hp : 10 ^ d.length ≤ 10 ^ 9 := Nat.pow_le_pow_right (by omega) h9
  have hl9 : numT d < 1000000000 := by omega
  have hpar := parse_dig d 0 h hb hl9
  rw [← numT] at hpar
  have e : (UInt8.ofNat 45).toNat = 45 := rfl
  have hne : d.map UInt8.ofNat ≠ [] := by simpa using h0
  rw [List.map_cons, Lib.atoiAll]
  simp only [e]
  have hor : (45 : Nat) = 43 ∨ True := .inr trivial
  simp only [or_true, if_true]
  rw [Lib.parseMag, if_neg hne, hpar]
  dsimp only
  rw [if_neg (by simp), if_neg (by omega)]
theorem trimPre_eq {s : List Nat} (hb : ∀ c ∈ s, c < 256) : natsB (Lib.trimPrefix (s.map UInt8.ofNat) (([45] : List Nat).map UInt8.ofNat)) = if s.head? = some 45 then s.tail else s := by
  have hn : ∀ l : List Nat, (∀ c ∈ l, c < 256) → natsB (l.map UInt8.ofNat) = l := by
    intro l hl
    rw [natsB, List.map_map]
    conv => rhs; rw [← List.map_id l]
    apply List.map_congr_left
    intro c hc
    have := hl c hc
    simp; omega
  cases s with
  | nil => rfl
  | cons c r =>
    have hc := hb c (by simp)
    have hr := hn r fun c hc => hb c (by simp [hc])
    have hcr := hn (c :: r) hb
    rw [Lib.trimPrefix, Lib.hasPrefix]
    by_cases h : c = 45
    · subst h
      simpa using hr
    · have hne : ¬ (45 : UInt8) = UInt8.ofNat c := by
        intro e
        have := congrArg UInt8.toNat e
        simp at this; omega
      have h2 : (([45] : List Nat).map UInt8.ofNat).isPrefixOf ((c :: r).map UInt8.ofNat) = false := by
        simp only [List.map_cons, List.map_nil, List.isPrefixOf, Bool.and_eq_false_iff, beq_eq_false_iff_ne, ne_eq]
        exact .inl hne
      rw [h2]
      simpa [h] using hcr
theorem num_cons {c : Nat} (s : List Nat) (h : 49 ≤ c) : 1 ≤ numT (c :: s) := by
  have key : ∀ (s : List Nat) (a : Nat), a ≤ s.foldl decV a := by
    intro r
    induction r with
    | nil => intro a; exact Nat.le_refl _
    | cons x r ih => intro a; exact Nat.le_trans (by simp only [decV]; omega) (ih _)
  have := key s (decV 0 c)
  simp only [numT, List.foldl_cons]
  simp only [decV] at this ⊢
  omega
def okP (d : List Nat) (z : Bool) : Bool := !decide (d = []) && !decide (9 < d.length) && d.all isD && !(decide (d.head? = some 48) && z)
def intP (sign : Bool) (s : List Nat) : Int × Bool := if sign = true then (valI s, (readI s).isSome) else intR s
theorem okP_int {s : List Nat} : okP s (decide (s ≠ [48])) = plainN s := by
  rw [okP, plainN]
  have e1 : decide (s.length = 0) = decide (s = []) := by simp
  have e2 : s.all digN = s.all isD := rfl
  rw [e1, e2]
  by_cases h : s.all isD = true
  · rw [h]
    simp only [Bool.and_true]
    congr 2
    cases s with
    | nil => simp
    | cons c r => cases r with
      | nil => simp
      | cons x r => simp
  · have : s.all isD = false := by simpa using h
    rw [this]; simp
theorem intP_eq (sign : Bool) (s d : List Nat) (hd : d = if sign = true ∧ s.head? = some 45 then s.tail else s) :
    intP sign s = if okP d (decide (s ≠ [48])) = true then (if sign = true ∧ s.head? = some 45 then -(numT d : Int) else numT d, true) else (0, false) := by
  by_cases hs : sign = true ∧ s.head? = some 45
  · rw [if_pos hs] at hd
    obtain ⟨rfl, hs2⟩ := hs
    simp only [intP, if_true, hs2, and_self]
    cases s with
    | nil => simp at hs2
    | cons c r =>
      simp at hs2 hd
      subst hs2; subst hd
      have e1 : okP d (decide ((45 : Nat) :: d ≠ [48])) = (plainN d && !decide (d.head? = some 48)) := by
        have : decide ((45 : Nat) :: d ≠ [48]) = true := by simp
        rw [this, ← okP_int, okP, okP]
        cases decide (d.head? = some 48) <;> simp
      rw [e1]
      have hr : readI (45 :: d) = if (intR d).2 = true ∧ (intR d).1 ≠ 0 then some (-(intR d).1) else none := by
        have : (45 :: d : List Nat).head? = some 45 := rfl
        rw [readI, if_pos this]; rfl
      rw [valI, hr]
      by_cases hp : plainN d = true
      · have hi : intR d = ((numT d : Int), true) := by rw [intR, if_pos hp]
        rw [hi, hp]
        by_cases h48 : d.head? = some 48
        · have : numT d = 0 := by
            have hq := hp
            simp only [plainN, Bool.and_eq_true, Bool.not_eq_true', Bool.and_eq_false_iff, decide_eq_false_iff_not] at hq
            cases d with
            | nil => simp at h48
            | cons x r =>
              simp at h48
              subst h48
              cases r with
              | nil => rfl
              | cons y r => simp at hq
          simp [this, h48]
        · have : numT d ≠ 0 := by
            have hq := hp
            simp only [plainN, Bool.and_eq_true, Bool.not_eq_true', decide_eq_false_iff_not] at hq
            cases d with
            | nil => simp at hq
            | cons x r =>
              have hx := (Bool.and_eq_true .. ▸ (List.all_cons ▸ hq.2) : digN x = true ∧ r.all digN = true).1
              simp only [digN, Bool.and_eq_true, decide_eq_true_eq] at hx
              have : x ≠ 48 := fun e => h48 (by simp [e])
              have := num_cons r (c := x) (by omega)
              omega
          have h2 : ¬ (numT d : Int) = 0 := by omega
          simp [this, h48]
      · have hi : intR d = (0, false) := by rw [intR, if_neg hp]
        have hp : plainN d = false := by simpa using hp
        rw [hi, hp]; simp
  · rw [if_neg hs] at hd
    rw [hd, if_neg hs, okP_int]
    clear hd
    cases sign
    · rw [intP, if_neg (by simp), intR]
    · have h45 : ¬ s.head? = some 45 := fun e => hs ⟨rfl, e⟩
      have hr : readI s = if (intR s).2 = true then some (intR s).1 else none := by rw [readI, if_neg h45]
      rw [intP, if_pos rfl, valI, hr, intR]
      by_cases hp : plainN s = true
      · simp [hp]
      · simp [hp]
theorem c_integer (s : List Nat) (sign : Bool) (h : s.length ≤ 1048576) (hb : ∀ c ∈ s, c < 256) : GoodC Tryz.prog 187 [.str s, .bool sign] (.tup [.int .i64 (intP sign s).1, .bool (intP sign s).2]) := by
  refine good_fn nf isF187 mix (by simp [Tryz.f187]) ?_
  obtain ⟨d, hd⟩ : ∃ d, d = if sign = true ∧ s.head? = some 45 then s.tail else s := ⟨_, rfl⟩
  rw [intP_eq sign s d hd]
  have hdl : d.length ≤ s.length := by rw [hd]; split <;> simp
  have hdb : ∀ c ∈ d, c < 256 := by
    intro c hc
    rw [hd] at hc
    split at hc
    · exact hb c (List.mem_of_mem_tail hc)
    · exact hb c hc
  have hT := c_trim10 d (by omega) hdb
  have hnil := trimLR_nil d
  have hA : okP d (decide (s ≠ [48])) = true → GoodC Tryz.prog 239 [.str s] (.tup [.int .i64 (if sign = true ∧ s.head? = some 45 then -(numT d : Int) else numT d), .nif]) := by
    intro hok
    simp only [okP, Bool.and_eq_true, Bool.not_eq_true', decide_eq_false_iff_not] at hok
    obtain ⟨⟨⟨k1, k2⟩, k3⟩, _⟩ := hok
    refine h239 s _ ?_ (by omega)
    by_cases hs : sign = true ∧ s.head? = some 45
    · rw [if_pos hs] at hd ⊢
      have : s = 45 :: d := by
        cases s with
        | nil => simp at hs
        | cons c r => simp at hs hd; rw [hs.2, hd]
      rw [this]
      exact atoi_neg k3 hdb k1 (by omega)
    · rw [if_neg hs] at hd ⊢
      subst hd
      exact atoi_dig k3 hdb k1 (by omega)
  cases sign
  · simp only [Bool.false_eq_true, false_and, if_false] at hd hA ⊢
    obtain rfl : s = d := hd.symm
    by_cases k0 : s = []
    · have ok : okP s (decide (s ≠ [48])) = false := by simp [okP, k0]
      rw [if_neg (by rw [ok]; simp)]
      simp [Tryz.f187, k0]
    by_cases k9 : 9 < s.length
    · have ok : okP s (decide (s ≠ [48])) = false := by simp [okP, k9]
      have k9' : (9 : Int) < (s.length : Int) := by omega
      rw [if_neg (by rw [ok]; simp)]
      simp [Tryz.f187, k0, k9, k9']
    have k9' : ¬ (9 : Int) < (s.length : Int) := by omega
    by_cases ka : s.all isD = true
    case neg =>
      have ok : okP s (decide (s ≠ [48])) = false := by
        have : s.all isD = false := by simpa using ka
        rw [okP, this]; simp
      have kt : ¬ trimL (trimR s) = [] := fun e => ka (hnil.1 e)
      rw [if_neg (by rw [ok]; simp)]
      simp [Tryz.f187, k0, k9, k9']
      refine c2 hT ?_
      simp [kt]
    have kt := hnil.2 ka
    rw [kt] at hT
    obtain ⟨x, r, hx⟩ : ∃ x r, s = x :: r := by
      cases s with
      | nil => exact (k0 rfl).elim
      | cons x r => exact ⟨x, r, rfl⟩
    have hg : s[0]? = some x := by rw [hx]; rfl
    have hh : s.head? = some x := by rw [hx]; rfl
    have hl0 : 0 < s.length := by rw [hx]; simp
    have hg2 : s[0] = x := by simp [hx]
    by_cases kx : x = 48
    · have kx' : (x : Int) = 48 := by omega
      by_cases kz : s = [48]
      · have ok : okP s (decide (s ≠ [48])) = true := by
          have e : decide (s ≠ [48]) = false := by simp [kz]
          rw [e]; simp only [okP, k0, k9, ka]; simp
        rw [if_pos ok]
        simp [Tryz.f187, k0, k9, k9']
        refine c2 hT ?_
        simp [hl0, hg2, kx', eq_true kz]
        refine c1 (hA ok) ?_
        simp
      · have ok : okP s (decide (s ≠ [48])) = false := by
          have e : decide (s ≠ [48]) = true := by simp [kz]
          rw [e]; simp only [okP, k0, k9, ka, hh, kx]; simp
        rw [if_neg (by rw [ok]; simp)]
        simp [Tryz.f187, k0, k9, k9']
        refine c2 hT ?_
        simp [hl0, hg2, kx', kz]
    · have kx' : ¬ (x : Int) = 48 := by omega
      have ok : okP s (decide (s ≠ [48])) = true := by
        have : ¬ (some x = some 48) := fun e => kx (by injection e)
        simp only [okP, k0, k9, ka, hh, this]; simp
      rw [if_pos ok]
      simp [Tryz.f187, k0, k9, k9']
      refine c2 hT ?_
      simp [hl0, hg2, kx']
      refine c1 (hA ok) ?_
      simp
  · have hP : GoodC Tryz.prog 238 [.str s, .str [45]] (.str d) := h238 s [45] d (by rw [trimPre_eq hb, hd]; simp)
    by_cases k0 : d = []
    · have ok : okP d (decide (s ≠ [48])) = false := by simp [okP, k0]
      rw [if_neg (by rw [ok]; simp)]
      simp [Tryz.f187]
      refine c2 hP ?_
      simp [k0]
    by_cases k9 : 9 < d.length
    · have ok : okP d (decide (s ≠ [48])) = false := by simp [okP, k9]
      have k9' : (9 : Int) < (d.length : Int) := by omega
      rw [if_neg (by rw [ok]; simp)]
      simp [Tryz.f187]
      refine c2 hP ?_
      simp [k0, k9, k9']
    have k9' : ¬ (9 : Int) < (d.length : Int) := by omega
    by_cases ka : d.all isD = true
    case neg =>
      have ok : okP d (decide (s ≠ [48])) = false := by
        have : d.all isD = false := by simpa using ka
        rw [okP, this]; simp
      have kt : ¬ trimL (trimR d) = [] := fun e => ka (hnil.1 e)
      rw [if_neg (by rw [ok]; simp)]
      simp [Tryz.f187]
      refine c2 hP ?_
      simp [k0, k9, k9']
      refine c2 hT ?_
      simp [kt]
    have kt := hnil.2 ka
    rw [kt] at hT
    obtain ⟨x, r, hx⟩ : ∃ x r, d = x :: r := by
      cases d with
      | nil => exact (k0 rfl).elim
      | cons x r => exact ⟨x, r, rfl⟩
    have hg : d[0]? = some x := by rw [hx]; rfl
    have hh : d.head? = some x := by rw [hx]; rfl
    have hl0 : 0 < d.length := by rw [hx]; simp
    have hg2 : d[0] = x := by simp [hx]
    by_cases kx : x = 48
    · have kx' : (x : Int) = 48 := by omega
      by_cases kz : s = [48]
      · have ok : okP d (decide (s ≠ [48])) = true := by
          have e : decide (s ≠ [48]) = false := by simp [kz]
          rw [e]; simp only [okP, k0, k9, ka]; simp
        rw [if_pos ok]
        simp [Tryz.f187]
        refine c2 hP ?_
        simp [k0, k9, k9']
        refine c2 hT ?_
        simp [hl0, hg2, kx', eq_true kz]
        refine c1 (hA ok) ?_
        simp
      · have ok : okP d (decide (s ≠ [48])) = false := by
          have e : decide (s ≠ [48]) = true := by simp [kz]
          rw [e]; simp only [okP, k0, k9, ka, hh, kx]; simp
        rw [if_neg (by rw [ok]; simp)]
        simp [Tryz.f187]
        refine c2 hP ?_
        simp [k0, k9, k9']
        refine c2 hT ?_
        simp [hl0, hg2, kx', kz]
    · have kx' : ¬ (x : Int) = 48 := by omega
      have ok : okP d (decide (s ≠ [48])) = true := by
        have : ¬ (some x = some 48) := fun e => kx (by injection e)
        simp only [okP, k0, k9, ka, hh, this]; simp
      rw [if_pos ok]
      simp [Tryz.f187]
      refine c2 hP ?_
      simp [k0, k9, k9']
      refine c2 hT ?_
      simp [hl0, hg2, kx']
      refine c1 (hA ok) ?_
      simp
end Go.Abs
namespace Go.Abs
open Go.Proofs
set_option maxHeartbeats 4000000
set_option maxRecDepth 100000
def pairB (s : List Nat) : Bool := (cutN 32 s).2.2 && !decide ((cutN 32 s).1 = []) && !decide ((cutN 32 s).2.1 = []) && !(cutN 32 (cutN 32 s).2.1).2.2
theorem pairT_eq (s : List Nat) : pairT s = if pairB s = true then some ((cutN 32 s).1, (cutN 32 s).2.1) else none := by
  rw [pairT, pairB, spl_cut]
  cases h1 : (cutN 32 s).2.2
  · simp
  · simp only [if_true, Bool.true_and]
    rw [spl_cut]
    cases h2 : (cutN 32 (cutN 32 s).2.1).2.2
    · have e : (cutN 32 (cutN 32 s).2.1).1 = (cutN 32 s).2.1 := by
        rcases idxB_cut 32 (cutN 32 s).2.1 0 with ⟨_, _, h3⟩ | ⟨i, _, _, h3⟩
        · rw [h3]
        · rw [h3] at h2; cases h2
      rw [e]
      by_cases ha : (cutN 32 s).1 = []
      · simp [ha]
      · by_cases hb : (cutN 32 s).2.1 = []
        · simp [hb]
        · simp [ha, hb]
    · rw [spl_cut]; simp
theorem cutN_len (c : Nat) : ∀ s : List Nat, (cutN c s).1.length ≤ s.length ∧ (cutN c s).2.1.length ≤ s.length ∧ (∀ x ∈ (cutN c s).1, x ∈ s) ∧ (∀ x ∈ (cutN c s).2.1, x ∈ s)
  | [] => by simp [cutN]
  | x :: r => by
    obtain ⟨h1, h2, h3, h4⟩ := cutN_len c r
    rw [cutN]
    by_cases h : x = c
    · rw [if_pos h]; exact ⟨by simp, by simp, by simp, fun y hy => List.mem_cons_of_mem _ hy⟩
    · rw [if_neg h]
      refine ⟨by simpa using h1, by simp; omega, fun y hy => ?_, fun y hy => List.mem_cons_of_mem _ (h4 y hy)⟩
      rcases List.mem_cons.1 hy with rfl | hy
      · exact List.mem_cons_self
      · exact List.mem_cons_of_mem _ (h3 y hy)
theorem c_pair (s : List Nat) (h : s.length ≤ 1048576) : GoodC Tryz.prog 105 [.str s] (.tup [.str (cutN 32 s).1, .str (cutN 32 s).2.1, .bool (pairB s)]) := by
  refine good_fn nf isF105 mix (by simp [Tryz.f105]) ?_
  simp [Tryz.f105]
  refine c2 (c_cut s 32 h) ?_
  have hl := cutN_len 32 s
  have hp : pairB s = ((cutN 32 s).2.2 && !decide ((cutN 32 s).1 = []) && !decide ((cutN 32 s).2.1 = []) && !(cutN 32 (cutN 32 s).2.1).2.2) := rfl
  have hC := c_contains (cutN 32 s).2.1 32
  rw [hp]
  clear hp
  generalize cutN 32 s = t at *
  obtain ⟨a, b, k⟩ := t
  dsimp only at hl hC ⊢
  cases k
  · simp
  · by_cases ha : a = []
    · simp [ha]
    · by_cases hb : b = []
      · simp [ha, hb]
      · simp [ha, hb]
        refine c2 hC ?_
        simp [ha, hb]
theorem c_readValues (s : List Nat) (h : s.length ≤ 1000000) (hb : ∀ c ∈ s, c < 256) : GoodC Tryz.prog 107 [.str s] (.tup [.seq ((readV s).1.map (.int .i64)), .bool (readV s).2]) := by
  refine good_fn nf isF107 mix (by simp [Tryz.f107]) ?_
  simp [Tryz.f107]
  refine c2 (c_split s 44 (by omega)) ?_
  have hl := spl_len 44 s
  have hm := fun p => spl_mem (c := 44) (s := s) (p := p)
  have hv : readV s = if (spl 44 s).all (fun p => (readI p).isSome) = true then ((spl 44 s).map valI, true) else ([], false) := rfl
  rw [hv]
  clear hv
  generalize spl 44 s = l at *
  simp
  refine lp (α := Nat) (fun i => ⟨[(12, .p (.int .i64 i)), (11, .p (.int .i64 l.length)), (10, .p (.seq (l.map .str))), (4, .sl 0 i 1 0 i)], [.arr .grow i 1 ((l.map fun p => .p (.int .i64 (valI p))).take i)]⟩) (fun i => i ≤ l.length ∧ (l.take i).all (fun p => (readI p).isSome) = true) (fun i => l.length - i) 0 (by simp) ?_
  rintro i ⟨k1, k2⟩
  have hw := wi1 (i := i) (by omega)
  by_cases hi : i < l.length
  · have hm1 := hm l[i] (List.getElem_mem hi)
    have hall : (l.take (i + 1)).all (fun p => (readI p).isSome) = (readI l[i]).isSome := by
      rw [List.take_succ_eq_append_getElem hi, List.all_append, k2]; simp
    simp [hi]
    refine c2 (c_integer l[i] true (by omega) (fun c hc => hb c (hm1.2 c hc))) ?_
    cases hr : (readI l[i]).isSome
    · have e : l.all (fun p => (readI p).isSome) = false := by
        rw [List.all_eq_false]; exact ⟨l[i], List.getElem_mem hi, by simp [hr]⟩
      simp [intP, hr, e]
    · have hl2 : ((l.map fun p => AV.p (.int .i64 (valI p))).take i).length = i := by simp; omega
      simp [intP, hr, hw, hl2]
      refine ⟨by simp only [maxL]; omega, ?_⟩
      have hs : (l.map fun p => AV.p (.int .i64 (valI p))).take (i + 1) = (l.map fun p => AV.p (.int .i64 (valI p))).take i ++ [AV.p (.int .i64 (valI l[i]))] := by
        rw [List.take_succ_eq_append_getElem (by simpa using hi), List.getElem_map]
      exact rd (i + 1) ⟨hi, by rw [hall]; exact hr⟩ (hh := by simp only [hs]; simp) (hr2 := by rw [hs]; simp)
  · have : i = l.length := by omega
    subst this
    rw [List.take_length] at k2
    simp [k2]
end Go.Abs
namespace Go.Abs
open Go.Proofs
set_option maxHeartbeats 4000000
set_option maxRecDepth 100000
def lnC : Nat → List Nat → List Nat → List (Nat × List Nat)
  | k, cur, [] => if cur = [] then [] else [(k, cur)]
  | k, cur, x :: r => if x = 10 then (k + 1, cur ++ [10]) :: lnC (k + 1) [] r else lnC (k + 1) (cur ++ [x]) r
def lns (s : List Nat) : List (Nat × List Nat) := lnC 0 [] s
theorem lnC_cut : ∀ (t : List Nat) (k : Nat) (cur : List Nat), lnC k cur t =
    if (cutN 10 t).2.2 = true then (k + (cutN 10 t).1.length + 1, cur ++ (cutN 10 t).1 ++ [10]) :: lnC (k + (cutN 10 t).1.length + 1) [] (cutN 10 t).2.1
    else if cur ++ t = [] then [] else [(k + t.length, cur ++ t)]
  | [], k, cur => by simp [lnC, cutN]
  | x :: r, k, cur => by
    rw [lnC, cutN]
    by_cases h : x = 10
    · subst h; simp
    · rw [if_neg h, if_neg h, lnC_cut r]
      have e1 : k + 1 + (cutN 10 r).1.length + 1 = k + ((cutN 10 r).1.length + 1) + 1 := by omega
      have e2 : k + 1 + r.length = k + (r.length + 1) := by omega
      cases (cutN 10 r).2.2 <;> simp [e1, e2]
def itemL (x : Nat × List Nat) : List PV := [.int .i64 x.1, .str x.2]
theorem c_indexByte (s : List Nat) (c : Nat) (hc : c < 256) : GoodC Tryz.prog 185 [.str s, .int .u8 c] (.int .i64 (idxB c s 0)) := by
  refine good_fn nf isF185 mix (by simp [Tryz.f185]) ?_
  simp [Tryz.f185]
  refine c2 (h223 s c hc) ?_
  simp
theorem c_lines (s : List Nat) : GoodC Tryz.prog 104 [.str s] (.func 184 [] [.fptr (.str s)]) := by
  refine good_fn nf isF104 mix (by simp [Tryz.f104]) ?_
  simp [Tryz.f104]
  exact Wk.refl (.str s)
theorem cutN_whole (c : Nat) : ∀ (s : List Nat), (cutN c s).2.2 = true → s = (cutN c s).1 ++ c :: (cutN c s).2.1
  | [], h => by simp [cutN] at h
  | x :: s, h => by
    rw [cutN] at h ⊢
    by_cases hx : x = c
    · subst hx; simp
    · rw [if_neg hx] at h ⊢
      have := cutN_whole c s h
      dsimp only
      rw [List.cons_append, ← this]
theorem s_lines (s : List Nat) (h : s.length ≤ 1000000) : Stream Tryz.prog 184 [] [.fptr (.str s)] ((lns s).map itemL) := by
  intro b k Hs H' hk hR hy he
  refine goodI_fn nf isF184 mix (by simp [Tryz.f184]) ?_
  simp [Tryz.f184]
  refine lp (α := Nat × Nat) (fun (i, a) => ⟨[(3, .p (.int .i64 a)), (1, .p (.fptr (.str s))), (0, .map b)], Hs i⟩) (fun (i, a) => i ≤ k ∧ a ≤ s.length ∧ (lns s).drop i = lnC a [] (s.drop a)) (fun (_, a) => s.length - a) (0, 0) (by simp [lns]) ?_ (hr := by simp; exact (hR 0 (by omega)).2) (hr2 := (hR 0 (by omega)).1)
  rintro ⟨i, a⟩ ⟨h1, h2, h3⟩
  dsimp only at h1 h2 h3 ⊢
  rw [List.length_map] at hk
  by_cases ha : a < s.length
  · have hget : ∀ x r, lnC a [] (s.drop a) = x :: r → i < (lns s).length ∧ ((lns s).map itemL)[i]? = some (itemL x) ∧ (lns s).drop (i + 1) = r := by
      intro x r hx
      rw [hx] at h3
      have hl : i < (lns s).length := by
        rcases Nat.lt_or_ge i (lns s).length with h | h
        · exact h
        · rw [List.drop_eq_nil_of_le h] at h3; cases h3
      rw [List.drop_eq_getElem_cons hl] at h3
      injection h3 with e1 e2
      exact ⟨hl, by rw [List.getElem?_map, List.getElem?_eq_getElem hl, e1]; rfl, e2⟩
    have hstep : ∀ x r, lnC a [] (s.drop a) = x :: r → (i < k ∧ GoodY Tryz.prog b (Hs i) ((itemL x).map .p) (Hs (i + 1)) (.p (.bool true))) ∨ GoodY Tryz.prog b (Hs i) ((itemL x).map .p) H' (.p (.bool false)) := by
      intro x r hx
      obtain ⟨g1, g2, g3⟩ := hget x r hx
      by_cases hik : i < k
      · exact .inl ⟨hik, hy i _ hik g2⟩
      · have : i = k := by omega
        subst this
        rcases he with ⟨e1, _⟩ | ⟨y, e1, e2⟩
        · rw [List.length_map] at e1; omega
        · rw [g2] at e1; injection e1 with e1; subst e1; exact .inr e2
    simp [ha]
    refine ⟨h2, ?_⟩
    refine c2 (c_indexByte (s.drop a) 10 (by omega)) ?_
    have hcut := lnC_cut (s.drop a) a []
    rcases idxB_cut 10 (s.drop a) 0 with ⟨g1, g2, g3⟩ | ⟨j, g1, g2, g3⟩
    · rw [g3] at hcut
      have hne : ¬ s.drop a = [] := by simp; omega
      have el : a + (s.drop a).length = s.length := by simp; omega
      simp only [Bool.false_eq_true, if_false, List.nil_append, hne, el] at hcut
      simp [g2]
      refine ⟨h2, ?_⟩
      rcases hstep _ _ hcut with ⟨hik, hY⟩ | hY
      · refine ⟨Hs (i + 1), _, hY, ?_⟩
        simp
        exact rd (i + 1, s.length) ⟨hik, Nat.le_refl _, by rw [(hget _ _ hcut).2.2]; simp [lnC]⟩ (h1 := by dsimp only; omega) (hr := by simp; exact (hR (i + 1) (by omega)).2) (hr2 := (hR (i + 1) (by omega)).1)
      · refine ⟨H', _, hY, ?_⟩
        simp
    · rw [Nat.zero_add] at g2
      have hw := cutN_whole 10 (s.drop a) (by rw [g3])
      rw [g3] at hcut hw
      dsimp only at hw
      have hlen : ((s.drop a).take j).length = j := by simp at g1 ⊢; omega
      simp only [if_true, List.nil_append, hlen] at hcut
      simp only [List.length_drop] at g1
      have ed : (s.drop a).drop (j + 1) = s.drop (a + j + 1) := by rw [List.drop_drop]; congr 1
      rw [ed] at hcut
      have w1 : IntKind.i64.wrap ((a : Int) + j) = (a : Int) + j := wi64 _ (by omega) (by omega)
      have w2 : IntKind.i64.wrap ((a : Int) + j + 1) = (a : Int) + j + 1 := wi64 _ (by omega) (by omega)
      have e2 : ((a : Int) + j + 1).toNat = a + j + 1 := by omega
      have e3 : (((a + j + 1 : Nat) : Int)) = (a : Int) + j + 1 := by omega
      have hslice : (s.take (a + j + 1)).drop a = (s.drop a).take j ++ [10] := by
        rw [List.drop_take, show a + j + 1 - a = j + 1 by omega]
        conv => lhs; rw [hw]
        rw [List.take_append, hlen, show j + 1 - j = 1 by omega, List.take_of_length_le (by omega)]
        rfl
      have hj0 : (0 : Int) ≤ (j : Int) := by omega
      simp [g2, hj0, w1, w2, e2, hslice]
      refine ⟨⟨by omega, by omega, by omega⟩, ?_⟩
      rcases hstep _ _ hcut with ⟨hik, hY⟩ | hY
      · simp only [itemL, List.map_cons, List.map_nil, e3] at hY
        refine ⟨Hs (i + 1), _, hY, ?_⟩
        simp
        exact rd (i + 1, a + j + 1) ⟨hik, by dsimp only; omega, (hget _ _ hcut).2.2⟩ (h1 := by dsimp only; omega) (hr := by simp; exact (hR (i + 1) (by omega)).2) (hr2 := (hR (i + 1) (by omega)).1)
      · simp only [itemL, List.map_cons, List.map_nil, e3] at hY
        refine ⟨H', _, hY, ?_⟩
        simp
  · have : a = s.length := by omega
    subst this
    simp
    have hend : i = (lns s).length ∨ i < (lns s).length := by
      rcases Nat.lt_trichotomy i (lns s).length with h | h | h
      · exact .inr h
      · exact .inl h
      · omega
    rcases hend with hend | hend
    · left
      rcases he with ⟨_, e2⟩ | ⟨y, e1, _⟩
      · rw [e2]; congr 1; omega
      · rw [List.getElem?_eq_none (by rw [List.length_map]; omega)] at e1; cases e1
    · rw [List.drop_eq_getElem_cons hend] at h3
      simp [lnC] at h3
      omega
end Go.Abs
namespace Go.Abs
open Go.Proofs
set_option maxHeartbeats 4000000
set_option maxRecDepth 100000
theorem g_checkBookP (nm : List Nat) (l : List RowD) (v : Nat) (h0 : l ≠ []) (h : bookB ⟨nm, l⟩) :
    GoodI Tryz.prog 19 [.arr .grow v 2 (l.map fun r => AV.p (eRow r))] [.st 23 [.p (.str nm), .sl 0 v 2 0 l.length]]
      [.arr .frozen v 2 (l.map fun r => AV.p (eRow r))] (.p (.int .i64 (chkBook ⟨nm, l⟩))) := by
  refine goodI_fn nf isF19 mix (by simp [Tryz.f19]) ?_
  simp [Tryz.f19]
  refine e1 (c_named nm h.1) ?_
  simp
  obtain ⟨r, rs, rfl⟩ : ∃ r rs, l = r :: rs := by
    cases l with
    | nil => exact (h0 rfl).elim
    | cons r rs => exact ⟨r, rs, rfl⟩
  refine ep (h1 := ?g0) (c_checkRows (r :: rs) h.2) (by simp; exact ⟨rfl, rfl⟩) (by simp; exact ⟨rfl, rfl⟩) ?_
  case g0 => simp
  simp
  refine ep (h1 := ?g1) (c_first [whenE (!isName nm) 8, chkRows (r :: rs)] (by simp)) (by simp; exact ⟨rfl, rfl⟩) (by simp; exact ⟨rfl, rfl⟩) ?_
  case g1 => simp
  simp [chkBook]
  exact ⟨rfl, ForgetN.og (by simp) (by simp) (by simp) (by simp) (by simp)⟩
end Go.Abs
