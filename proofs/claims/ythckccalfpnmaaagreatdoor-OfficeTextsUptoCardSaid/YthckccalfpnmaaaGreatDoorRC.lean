import Derived.Test.YthckccalfpnmaaaGreatDoorRB
import Derived.Test.YthckccalfpnmaaaGreatDoorPB
/- Parts of a proof. -/
set_option linter.unusedSimpArgs false
set_option linter.unusedVariables false
set_option linter.unusedSectionVars false
namespace Go.Abs
open Go.Proofs
set_option maxHeartbeats 4000000
set_option maxRecDepth 100000
theorem sufN (s : List Nat) (hb : ∀ c ∈ s, c < 256) : Lib.hasSuffix (s.map UInt8.ofNat) (([10] : List Nat).map UInt8.ofNat) = decide (s.getLast? = some 10) := by
  rw [Lib.hasSuffix]
  rcases List.eq_nil_or_concat s with rfl | ⟨t, x, rfl⟩
  · rfl
  · simp only [List.concat_eq_append] at hb ⊢
    have hx := hb x (by simp)
    rw [List.getLast?_append, List.getLast?_singleton]
    by_cases h : x = 10
    · subst h
      simp [List.isSuffixOf]
    · have hne : ¬ (10 : UInt8) = UInt8.ofNat x := by
        intro e
        have := congrArg UInt8.toNat e
        simp at this; omega
      have e1 : decide ((some x).or t.getLast? = some 10) = false := by simp [h]
      rw [e1]
      simp only [List.isSuffixOf, List.map_append, List.map_cons, List.map_nil, List.reverse_append, List.reverse_cons, List.reverse_nil, List.nil_append, List.singleton_append, List.isPrefixOf, Bool.and_eq_false_iff, beq_eq_false_iff_ne, ne_eq]
      exact .inl hne
theorem c_sufN (s : List Nat) (h : s.length ≤ 1048576) (hb : ∀ c ∈ s, c < 256) : GoodC Tryz.prog 103 [.str s, .str [10]] (.bool (decide (s.getLast? = some 10))) := h103 s [10] _ (sufN s hb) (by omega)
theorem lnC_spl : ∀ (t : List Nat) (k : Nat) (cur : List Nat), (lnC k cur (t ++ [10])).map (·.2) = (splAux 10 cur t).map (· ++ [10])
  | [], k, cur => by simp [lnC, splAux]
  | x :: r, k, cur => by
    rw [List.cons_append, lnC, splAux]
    by_cases h : x = 10
    · rw [if_pos h, if_pos h, List.map_cons, List.map_cons, lnC_spl r]
    · rw [if_neg h, if_neg h, lnC_spl r]
theorem lns_spl {s : List Nat} (h : s.getLast? = some 10) : (lns s).map (·.2) = (spl 10 s.dropLast).map (· ++ [10]) := by
  have hs : s = s.dropLast ++ [10] := by
    have hne : s ≠ [] := by intro e; subst e; simp at h
    have := List.dropLast_concat_getLast hne
    rw [List.getLast?_eq_some_getLast hne] at h
    injection h with h
    rw [h] at this; exact this.symm
  conv => lhs; rw [hs]
  exact lnC_spl s.dropLast 0 []
theorem trimSuf_eq {x : List Nat} (hb : ∀ c ∈ x, c < 256) : natsB (Lib.trimSuffix ((x ++ [10]).map UInt8.ofNat) (([10] : List Nat).map UInt8.ofNat)) = x := by
  have hn : natsB (x.map UInt8.ofNat) = x := by
    rw [natsB, List.map_map]
    conv => rhs; rw [← List.map_id x]
    apply List.map_congr_left
    intro c hc
    have := hb c hc
    simp; omega
  have hs := sufN (x ++ [10]) (by
    intro c hc
    rcases List.mem_append.1 hc with hc | hc
    · exact hb c hc
    · simp at hc; omega)
  rw [Lib.trimSuffix, hs]
  simp [hn]
def rwL (x : List Nat) : RowD := ⟨(cutN 32 x).1, (readV (cutN 32 x).2.1).1⟩
def okL (i : Nat) (x : List Nat) : Bool := pairB x && (if i = 0 then decide ((cutN 32 x).1 = [98, 111, 111, 107]) else (readV (cutN 32 x).2.1).2)
def bkL (l : List (List Nat)) : Nat → BookD
  | 0 => ⟨[], []⟩
  | k + 1 => ⟨(cutN 32 (l.headD [])).2.1, ((l.drop 1).take k).map rwL⟩
theorem parseL_run (l : List (List Nat)) : ∀ k, k ≤ l.length → (∀ j (h : j < l.length), j < k → okL j l[j] = true) → parseL l 0 ⟨[], []⟩ = parseL (l.drop k) k (bkL l k)
  | 0, _, _ => rfl
  | k + 1, hk, hok => by
    rw [parseL_run l k (by omega) fun j h hj => hok j h (by omega)]
    have hkl : k < l.length := by omega
    have ho := hok k hkl (by omega)
    simp only [okL, Bool.and_eq_true] at ho
    rw [List.drop_eq_getElem_cons hkl, parseL, pairT_eq, if_pos ho.1]
    dsimp only
    by_cases h0 : k = 0
    · subst h0
      have h1 : (cutN 32 l[0]).1 = [98, 111, 111, 107] := by simpa using ho.2
      rw [if_pos rfl, if_pos h1]
      cases l with
      | nil => simp at hkl
      | cons a r => rfl
    · rw [if_neg h0] at ho ⊢
      rw [if_pos ho.2]
      obtain ⟨m, rfl⟩ : ∃ m, k = m + 1 := ⟨k - 1, by omega⟩
      congr 1
      simp only [bkL, BookD.mk.injEq, true_and]
      have hm : m < (l.drop 1).length := by simp; omega
      rw [List.take_succ_eq_append_getElem hm, List.map_append, List.map_cons, List.map_nil]
      congr 2
      simp only [rwL, List.getElem_drop, Nat.add_comm 1 m]
theorem parseL_bad (l : List (List Nat)) (k : Nat) (hk : k < l.length) (hok : ∀ j (h : j < l.length), j < k → okL j l[j] = true) (hb : okL k l[k] = false) : parseL l 0 ⟨[], []⟩ = (none, k + 1) := by
  rw [parseL_run l k (by omega) hok, List.drop_eq_getElem_cons hk, parseL, pairT_eq]
  by_cases hp : pairB l[k] = true
  · rw [if_pos hp]
    simp only [okL, hp, Bool.true_and] at hb
    dsimp only
    by_cases h0 : k = 0
    · subst h0
      rw [if_pos rfl] at hb ⊢
      rw [if_neg (by simpa using hb)]
    · rw [if_neg h0] at hb ⊢
      rw [if_neg (by rw [hb]; simp)]
  · rw [if_neg hp]
theorem bad_ex (l : List (List Nat)) : ∃ k, k ≤ l.length ∧ (∀ j (h : j < l.length), j < k → okL j l[j] = true) ∧ (k = l.length ∨ ∃ h : k < l.length, okL k l[k] = false) := by
  have key : ∀ n, n ≤ l.length → (∃ k, k ≤ l.length ∧ (∀ j (h : j < l.length), j < k → okL j l[j] = true) ∧ (k = l.length ∨ ∃ h : k < l.length, okL k l[k] = false)) ∨ (∀ j (h : j < l.length), j < n → okL j l[j] = true) := by
    intro n
    induction n with
    | zero => intro _; right; intro j _ hj; omega
    | succ n ih =>
      intro hn
      rcases ih (by omega) with h | h
      · exact .inl h
      · have hl : n < l.length := by omega
        cases ho : okL n l[n]
        · exact .inl ⟨n, by omega, h, .inr ⟨hl, ho⟩⟩
        · right
          intro j hj hjn
          by_cases e : j = n
          · subst e; exact ho
          · exact h j hj (by omega)
  rcases key l.length (Nat.le_refl _) with h | h
  · exact h
  · exact ⟨l.length, Nat.le_refl _, h, .inl rfl⟩
def pB (nm : List Nat) : Nat → AV
  | 0 => .p (.st 23 [.str [], .nsl])
  | 1 => .p (.st 23 [.str nm, .nsl])
  | j + 2 => .st 23 [.p (.str nm), .sl 8 j 2 0 (j + 1)]
def pT (rows : List RowD) : Nat → Heap
  | 0 | 1 => []
  | j + 2 => [.hole, .arr .grow j 2 ((rows.take (j + 1)).map fun r => .p (eRow r))]
def pX (w1 w2 : Int) (nm : List Nat) (rows : List RowD) (L : LoopA) (i : Nat) : Heap :=
  [.box false (.p (.st 23 [.str [], .nsl])), .box false (.p (.int .i64 0)), .box false (.p (.int .i64 0)), .arr .frozen 0 1 [.p (.int .i64 w1), .p (.int .i64 w2)], .box false (pB nm i), .box false (.p (.int .i64 i)), .loop L] ++ pT rows i
def pF (w1 w2 : Int) (nm : List Nat) (rows : List RowD) (L : LoopA) (i : Nat) : Heap :=
  [.box false (.p (.st 23 [.str [], .nsl])), .box false (.p (.int .i64 i)), .box false (.p (.int .i64 25)), .arr .frozen 0 1 [.p (.int .i64 w1), .p (.int .i64 w2)], .box false (pB nm i), .box false (.p (.int .i64 i)), .loop (L.dn .ret)] ++ pT rows i
theorem c_parse (s : List Nat) (h : s.length ≤ 1000000) (hb : ∀ c ∈ s, c < 256) : GoodC Tryz.prog 21 [.str s] (.tup [eBook (parseS s).1, .int .i64 (parseS s).2.1, .int .i64 (parseS s).2.2]) := by
  refine good_fn nf isF21 mix (by simp [Tryz.f21]) ?_
  simp [Tryz.f21]
  refine c2 (c_when (decide (4096 < s.length)) 26) ?_ (h1 := by simp; omega)
  simp
  refine c2 (c_sufN s (by omega) hb) ?_
  simp
  refine c2 (c_when (!decide (s.getLast? = some 10)) 28) ?_ (h1 := by simp)
  simp
  refine cp (h1 := ?g1) (c_first [whenE (decide (4096 < s.length)) 26, whenE (!decide (s.getLast? = some 10)) 28] (by simp)) (by simp; exact ⟨rfl, rfl⟩) ?_
  case g1 => simp
  generalize hE : firstE [whenE (decide (4096 < s.length)) 26, whenE (!decide (s.getLast? = some 10)) 28] = e0
  generalize hW1 : whenE (decide (4096 < s.length)) 26 = w1 at *
  generalize hW2 : whenE (!decide (s.getLast? = some 10)) 28 = w2 at *
  by_cases h4 : 4096 < s.length
  · have e : e0 = 26 := by rw [← hE, ← hW1]; simp [firstE, whenE, h4]
    have hr : parseS s = (⟨[], []⟩, 0, 26) := by simp [parseS, h4]
    rw [hr]
    simp [e, eBook]
  by_cases hz : s.getLast? = some 10
  case neg =>
    have e : e0 = 28 := by rw [← hE, ← hW1, ← hW2]; simp [firstE, whenE, h4, hz]
    have hr : parseS s = (⟨[], []⟩, 0, 28) := by simp [parseS, h4, hz]
    rw [hr]
    simp [e, eBook]
  have e : e0 = 0 := by rw [← hE, ← hW1, ← hW2]; simp [firstE, whenE, h4, hz]
  clear hW1 hW2 hE
  subst e
  have hr : parseS s = match parseL (spl 10 s.dropLast) 0 ⟨[], []⟩ with
    | (none, k) => (⟨[], []⟩, (k : Int), 25)
    | (some b, _) => if chkBook b ≠ 0 then (⟨[], []⟩, 0, chkBook b) else (b, 0, 0) := by simp only [parseS, h4, hz, if_false, ne_eq, not_true_eq_false]; rfl
  generalize hP : parseS s = R at *
  simp
  refine c1 (c_lines s) ?_
  simp
  clear h4
  have hln := lns_spl hz
  have hm := fun p => spl_mem (c := 10) (s := s.dropLast) (p := p)
  have hsl := spl_len 10 s.dropLast
  have hdl : s.dropLast.length ≤ s.length := by simp
  have hds : ∀ c ∈ s.dropLast, c < 256 := fun c hc => hb c (List.dropLast_subset s hc)
  have hpos : 0 < (spl 10 s.dropLast).length := by rw [spl_cnt]; omega
  generalize spl 10 s.dropLast = l at *
  obtain ⟨k, hk, hok, hbad⟩ := bad_ex l
  have hll : (lns s).length = l.length := by have := congrArg List.length hln; simpa using this
  have hitem : ∀ (i : Nat) x, ((lns s).map itemL)[i]? = some x → ∃ (h : i < l.length) (e : Nat), x = [.int .i64 e, .str (l[i] ++ [10])] := by
    intro i x hx
    rw [List.getElem?_map] at hx
    have hi : i < l.length := by
      rw [← hll]
      rcases Nat.lt_or_ge i (lns s).length with h | h
      · exact h
      · rw [List.getElem?_eq_none h] at hx; cases hx
    rw [List.getElem?_eq_getElem (by omega)] at hx
    have h2 := congrArg (fun l => l[i]?) hln
    simp only [List.getElem?_map] at h2
    rw [List.getElem?_eq_getElem (by omega), List.getElem?_eq_getElem hi] at h2
    simp only [Option.map_some, Option.some.injEq] at h2 hx
    exact ⟨hi, _, by rw [← hx, itemL, h2]⟩
  have hw1 : IntKind.i64.wrap 1 = 1 := by decide
  refine rf2 (s_lines s h) rfl (by simp) (pX w1 w2 (cutN 32 (l.headD [])).2.1 ((l.drop 1).map rwL)) (pF w1 w2 (cutN 32 (l.headD [])).2.1 ((l.drop 1).map rwL)) (fun i => okL i (l[i]?.getD [])) .ret k (by rw [List.length_map, hll]; exact hk) ?_ ?_ (fun L => rfl) ?_ ?_ (fun L => rfl) ?_ ?_
  · intro i hi
    have hil : i < l.length := by omega
    rw [List.getElem?_eq_getElem hil]; exact hok i hil hi
  · rw [List.length_map, hll]
    rcases hbad with hb | ⟨hb, hb2⟩
    · exact .inl hb
    · exact .inr ⟨hb, by rw [List.getElem?_eq_getElem hb]; exact hb2⟩
  · intro L hL i hi
    clear hL
    generalize (l.drop 1).map rwL = rows
    rcases i with _ | _ | j
    · refine ⟨rfl, by simp [pX, pB, pT], fun _ hl => ?_⟩
      simp [pX, pB, pT] at hl ⊢
      exact hl
    · refine ⟨rfl, by simp [pX, pB, pT], fun _ hl => ?_⟩
      simp [pX, pB, pT] at hl ⊢
      exact hl
    · refine ⟨rfl, by simp [pX, pB, pT], fun _ hl => ?_⟩
      simp [pX, pB, pT] at hl ⊢
      exact hl
  · intro L hL i x hi hx
    obtain ⟨hil, e, rfl⟩ := hitem i x hx
    rw [List.getElem?_eq_getElem hil, Option.getD_some]
    have hmi := hm l[i] (List.getElem_mem hil)
    have hbi : ∀ c ∈ l[i], c < 256 := fun c hc => hds c (hmi.2 c hc)
    have hT := h106 (l[i] ++ [10]) [10] l[i] (trimSuf_eq hbi) (by simp; omega)
    have hPr := c_pair l[i] (by omega)
    have hcl := cutN_len 32 l[i]
    have hrw : ∀ j, i = j + 1 → (((l.drop 1).map rwL).take i) = ((l.drop 1).map rwL).take j ++ [rwL l[i]] := by
      rintro j rfl
      rw [List.take_succ_eq_append_getElem (by simp; omega)]
      simp [List.getElem_drop, Nat.add_comm 1 j]
    have hhd : i = 0 → l.headD [] = l[i] := by
      rintro rfl
      cases l with
      | nil => simp at hil
      | cons a r => rfl
    have hrl : ((l.drop 1).map rwL).length = l.length - 1 := by simp
    generalize l[i] = x at *
    generalize (l.drop 1).map rwL = rows at *
    generalize hnm : (cutN 32 (l.headD [])).2.1 = nm at *
    have hR := c_readValues (cutN 32 x).2.1 (by omega) (fun c hc => hbi c (hcl.2.2.2 c hc))
    refine y_round nf mix hL rfl rfl (by kernel_rfl) ?_
    have hLe := congrArg LoopA.env hL
    dsimp only at hLe
    clear hL hitem hx hok hbad
    have hrow : eRow (rwL x) = .st 54 [.str (cutN 32 x).1, .seq ((readV (cutN 32 x).2.1).1.map (.int .i64))] := rfl
    rcases i with _ | _ | j
    · have ho : okL 0 x = (pairB x && decide ((cutN 32 x).1 = [98, 111, 111, 107])) := by rw [okL, if_pos rfl]
      rw [hhd rfl] at hnm
      rw [ho]
      simp [pX, pF, pB, pT]
      refine c2 hT ?_
      simp
      refine c1 hPr ?_
      simp [hw1, ← hnm]
      cases h1 : pairB x
      · simp
        rw [hnm]; exact .inl rfl
      · by_cases h2 : (cutN 32 x).1 = [98, 111, 111, 107]
        · simp [h2]
          rw [hnm]; exact .inl rfl
        · simp [h2]
          rw [hnm]; exact .inl rfl
    · have ho : okL 1 x = (pairB x && (readV (cutN 32 x).2.1).2) := by rw [okL, if_neg (by omega)]
      have hw2 : IntKind.i64.wrap 2 = 2 := by decide
      have ht := hrw 0 rfl
      have ht' : List.take 1 (List.map (fun r => AV.p (eRow r)) rows) = [AV.p (eRow (rwL x))] := by rw [← List.map_take, show (1 : Nat) = 0 + 1 from rfl, ht]; rfl
      rw [ho]
      simp [pX, pF, pB, pT, ht', hrow]
      refine c2 hT ?_
      simp
      refine c1 hPr ?_
      simp [hw2]
      refine c1 hR ?_
      cases h1 : pairB x <;> cases h2 : (readV (cutN 32 x).2.1).2
      all_goals simp
      all_goals refine ⟨by simp only [maxL]; omega, ForgetN.og (by simp) (by simp) (by simp [ht', hrow]) (by simp) ?_⟩
      all_goals simp [ht']
      all_goals first | exact refsLd hLe (by simp) | exact refsL hLe (by simp)
    · have ho : okL (j + 2) x = (pairB x && (readV (cutN 32 x).2.1).2) := by rw [okL, if_neg (by omega)]
      have hw2 : IntKind.i64.wrap ((j : Int) + 1 + 1 + 1) = (j : Int) + 1 + 1 + 1 := wi64 _ (by omega) (by omega)
      have hj1 : ¬ (j : Int) + 1 + 1 + 1 = 1 := by omega
      have hj2 : ((j : Int) + 1 + 1 + 1 == 1) = false := by rw [beq_eq_false_iff_ne]; exact hj1
      have ht := hrw (j + 1) rfl
      have hjl : min (j + 1) rows.length = j + 1 := by omega
      have ht' : List.take (j + 1 + 1) (List.map (fun r => AV.p (eRow r)) rows) = List.take (j + 1) (List.map (fun r => AV.p (eRow r)) rows) ++ [AV.p (eRow (rwL x))] := by
        rw [← List.map_take, ht, List.map_append, List.map_take]; rfl
      rw [ho]
      simp [pX, pF, pB, pT, ht', hrow]
      refine c2 hT ?_
      simp
      refine c1 hPr ?_
      simp [hw2, hj1, hj2]
      refine c1 hR ?_
      cases h1 : pairB x <;> cases h2 : (readV (cutN 32 x).2.1).2
      all_goals simp [hjl]
      all_goals refine ⟨by simp only [maxL]; omega, ForgetN.og (by simp; rw [ht', hrow]) (by simp) (by simp; rw [ht', hrow, KO_same]; trivial) (by simp) ?_⟩
      all_goals simp
      all_goals first | exact refsLd hLe (by simp) | exact refsL hLe (by simp)
  · intro hkl L
    rw [List.length_map, hll] at hkl
    subst hkl
    rw [parseL_run l l.length (Nat.le_refl _) hok, List.drop_length, parseL] at hr
    have hbB : bookB (bkL l l.length) := by
      have hx : ∀ x ∈ l, rowB (rwL x) := by
        intro x hx
        have h1 := hm x hx
        have h2 := cutN_len 32 x
        have h3 := readV_len (cutN 32 x).2.1
        exact ⟨by dsimp only [rwL]; omega, by dsimp only [rwL]; omega⟩
      cases l with
      | nil => simp at hpos
      | cons a r =>
        have h1 := hm a (by simp)
        have h2 := cutN_len 32 a
        refine ⟨by simp [bkL]; omega, ?_, ?_⟩
        · simp only [bkL, List.drop_succ_cons, List.drop_zero, List.length_map, List.length_take, List.length_cons] at hsl ⊢; omega
        · intro y hy
          have e : (bkL (a :: r) (a :: r).length).rows = (r.take r.length).map rwL := rfl
          rw [e] at hy
          obtain ⟨z, hz, rfl⟩ := List.mem_map.1 hy
          exact hx z (List.mem_cons_of_mem _ (List.mem_of_mem_take hz))
    rcases l with _ | ⟨a, _ | ⟨b, r⟩⟩
    · simp at hpos
    · have hbk : bkL [a] [a].length = ⟨(cutN 32 a).2.1, []⟩ := rfl
      rw [hbk] at hr hbB
      dsimp only at hr
      simp [pX, pB, pT]
      refine c1 (c_checkBook _ hbB) ?_ (h1 := by simp [eBook])
      by_cases hz : chkBook ⟨(cutN 32 a).2.1, []⟩ = 0
      · simp only [hz, ne_eq, not_true, if_false] at hr
        simp [hz, hr, eBook]
      · simp only [hz, ne_eq, not_false_eq_true, if_true] at hr
        simp [hz, hr, eBook]
    · have hbk : bkL (a :: b :: r) (a :: b :: r).length = ⟨(cutN 32 a).2.1, (b :: r).map rwL⟩ := by
        simp only [bkL, List.headD_cons, List.drop_succ_cons, List.drop_zero, List.length_cons]
        rw [List.take_of_length_le (by simp)]
      rw [hbk] at hr hbB
      dsimp only at hr
      have hlen : (a :: b :: r).length = r.length + 2 := by simp
      have hG := g_checkBookP (cutN 32 a).2.1 ((b :: r).map rwL) r.length (by simp) hbB
      have hT : pT (List.map rwL (List.drop 1 (a :: b :: r))) (r.length + 2) = [.hole, .arr .grow r.length 2 (((b :: r).map rwL).map fun r => .p (eRow r))] := by
        simp only [pT, List.drop_succ_cons, List.drop_zero]
        rw [List.take_of_length_le (by simp)]
      rw [hlen]
      simp only [pX, hT, pB]
      generalize hrows : (b :: r).map rwL = rows at *
      have hrl : rows.length = r.length + 1 := by rw [← hrows]; simp
      rw [hrl] at hG
      simp
      refine cf hG [8] ?_
      by_cases hz : chkBook ⟨(cutN 32 a).2.1, rows⟩ = 0
      · simp only [hz, ne_eq, not_true, if_false] at hr
        simp [hz, hr, eBook, setAll, hrl]
        rw [List.take_of_length_le (by simp [hrl])]
        simp only [purl_map]
        intro x _
        simp
      · simp only [hz, ne_eq, not_false_eq_true, if_true] at hr
        simp [hz, hr, eBook, setAll]
  · intro hkl L
    rw [List.length_map, hll] at hkl
    have hbk : okL k l[k] = false := by
      rcases hbad with hb | ⟨hb, hb2⟩
      · omega
      · exact hb2
    rw [parseL_bad l k hkl hok hbk] at hr
    subst hr
    simp [jumpQ, pF, eBook]
end Go.Abs
namespace Go.Abs
open Go.Proofs
set_option maxHeartbeats 4000000
set_option maxRecDepth 100000
def u8s (t : List Nat) : List AV := t.map fun (c : Nat) => AV.p (.int .u8 (c : Int))
theorem u8s_len (t : List Nat) : (u8s t).length = t.length := by simp [u8s]
theorem u8s_app (a t : List Nat) : u8s (a ++ t) = u8s a ++ u8s t := by simp [u8s]
theorem u8s_shp : ∀ t : List Nat, allShp Tryz.prog 1 (u8s t)
  | [] => by simp [u8s, allShp]
  | c :: t => by
    have := u8s_shp t
    simp only [u8s, List.map_cons] at this ⊢
    simp [allShp]
    exact this
theorem u8s_bytes : ∀ (t : List Nat), (∀ c ∈ t, c < 256) → bytesOf (u8s t) = some t
  | [], _ => rfl
  | c :: t, hb => by
    have h1 := hb c (by simp)
    have := u8s_bytes t fun c hc => hb c (by simp [hc])
    show bytesOf (.p (.int .u8 (c : Int)) :: u8s t) = some (c :: t)
    rw [bytesOf, if_pos ⟨by omega, by omega⟩, this]
    simp
theorem g_ws1 (t : List Nat) (h0 : t ≠ []) (h : t.length ≤ 1048576) : GoodI Tryz.prog 97 [.box false (.p (.st 161 [.nptr, .nsl]))] [.ptr 0 [], .p (.str t)]
    [.box false (.st 161 [.ptr 0 [], .sl 1 0 1 0 t.length]), .arr .bytes 0 1 (u8s t)] (.p (.tup [.int .i64 t.length, .nif])) := by
  refine goodI_fn nf isF97 mix (by simp [Tryz.f97]) ?_
  simp [Tryz.f97]
  refine ci (g180f (b := 0) (t := .p (.st 161 [.nptr, .nsl])) (x := .p .nsl) rfl (.inl rfl)) ?_
  simp
  refine ⟨⟨u8s_shp t, by simp only [maxL]; omega⟩, ?_⟩
  simp [h0, u8s]
theorem g_ws2 (a t : List Nat) (v n : Nat) (hn : n = a.length) (h0 : t ≠ []) (h : t.length ≤ 1048576) (ha : a.length ≤ 1048576) : GoodI Tryz.prog 97 [.box false (.st 161 [.ptr 0 [], .sl 1 v 1 0 n]), .arr .bytes v 1 (u8s a)] [.ptr 0 [], .p (.str t)]
    [.box false (.st 161 [.ptr 0 [], .sl 1 (v + 1) 1 0 (n + t.length)]), .arr .bytes (v + 1) 1 (u8s (a ++ t))] (.p (.tup [.int .i64 t.length, .nif])) := by
  refine goodI_fn nf isF97 mix (by simp [Tryz.f97]) ?_
  simp [Tryz.f97]
  refine ci (g180u (b := 0) (x := .sl 1 v 1 0 n) rfl) ?_
  simp
  refine ⟨⟨u8s_shp t, by rw [u8s_len]; omega, by rw [u8s_len]; simp only [maxL]; omega⟩, ?_⟩
  have htk : List.take n (u8s a) = u8s a := List.take_of_length_le (by rw [u8s_len]; omega)
  simp [h0, htk, u8s_app]
  exact .inl rfl
theorem g_len (a : List Nat) (v n : Nat) (hn : n = a.length) : GoodI Tryz.prog 100 [.box false (.st 161 [.ptr 0 [], .sl 1 v 1 0 n]), .arr .bytes v 1 (u8s a)] [.ptr 0 []]
    [.box false (.st 161 [.ptr 0 [], .sl 1 v 1 0 n]), .arr .bytes v 1 (u8s a)] (.p (.int .i64 n)) := by
  refine goodI_fn nf isF100 mix (by simp [Tryz.f100]) ?_
  simp [Tryz.f100]
theorem g_str (a : List Nat) (v n : Nat) (hn : n = a.length) (h0 : a ≠ []) (ha : a.length ≤ 1048576) (hb : ∀ c ∈ a, c < 256) : GoodI Tryz.prog 101 [.box false (.st 161 [.ptr 0 [], .sl 1 v 1 0 n]), .arr .bytes v 1 (u8s a)] [.ptr 0 []]
    [.box false (.st 161 [.ptr 0 [], .sl 1 v 1 0 n]), .dead] (.p (.str a)) := by
  refine goodI_fn nf isF101 mix (by simp [Tryz.f101]) ?_
  have hp : 0 < a.length := List.length_pos_iff.2 h0
  simp [Tryz.f101]
  refine d_sdata (ver := v) (es := u8s a) rfl rfl (by rw [hn]; exact hp) (by simp [u8s, hn]) ?_
  simp
  refine d_ustr (ver := v) (es := u8s a) (l := a) rfl rfl rfl (by omega) (by simp [u8s_len, hn]) (by omega) rfl ?_ ?_ ?_ ?_
  · kernel_rfl
  · kernel_rfl
  · rw [List.take_of_length_le (by rw [u8s_len]; simp [hn])]
    exact u8s_bytes a hb
  simp
  repeat' with_reducible refine And.intro ?_ ?_
  all_goals rfl
theorem renL_apd {σ : Nat → Nat} : ∀ {a b : List AV}, renL σ (a ++ b) = renL σ a ++ renL σ b
  | [], b => by simp [renL]
  | x :: a, b => by simp [renL, renL_apd (a := a)]
theorem c_joinW (l : List (List Nat)) (hl : l.length ≤ 1048576) (hj : (joinN [32] l).length ≤ 140737488355328) : GoodC Tryz.prog 98 [.seq (l.map .str)] (.str (joinN [32] l)) := by
  refine good_fn nf isF98 mix (by simp [Tryz.f98]) ?_
  simp [Tryz.f98]
  refine c2 (c_join l [32] hl hj) ?_
  simp
theorem okN_byte : ∀ (s : List Nat) (i : Nat), okN i s = true → ∀ c ∈ s, c < 256
  | [], _, _, c, hc => by simp at hc
  | x :: s, i, h, c, hc => by
    rw [okN] at h
    simp only [Bool.and_eq_true] at h
    rcases List.mem_cons.1 hc with rfl | hc
    · have h1 := h.1
      simp only [isLet, isDig, Bool.or_eq_true, Bool.and_eq_true, decide_eq_true_eq] at h1
      omega
    · exact okN_byte s _ h.2 c hc
theorem isName_byte {s : List Nat} (h : isName s = true) : ∀ c ∈ s, c < 256 := by
  simp only [isName, Bool.and_eq_true] at h
  exact okN_byte s _ h.2
theorem itoaN_byte {n : Int} (hn : inI n) : ∀ c ∈ itoaN n, c < 256 := by
  have hlow : ∀ (k m : Nat), ∀ c ∈ low k m, c < 256 := by
    intro k
    induction k with
    | zero => intro m c hc; simp [low] at hc
    | succ k ih =>
      intro m c hc
      rw [low] at hc
      rcases List.mem_cons.1 hc with rfl | hc
      · omega
      · exact ih m c hc
  obtain ⟨h1, h2⟩ := hn
  by_cases h0 : n < 0
  · obtain ⟨k, rfl⟩ : ∃ k : Nat, n = -(k : Int) := ⟨n.natAbs, by omega⟩
    rw [itoaN_neg (by omega) (by omega)]
    intro c hc
    rcases List.mem_cons.1 hc with rfl | hc
    · omega
    · exact hlow _ _ c hc
  · obtain ⟨k, rfl⟩ : ∃ k : Nat, n = (k : Int) := ⟨n.natAbs, by omega⟩
    rw [itoaN_nat (by omega)]
    exact hlow _ _
theorem joinN_byte {sep : List Nat} (hs : ∀ c ∈ sep, c < 256) : ∀ {l : List (List Nat)}, (∀ x ∈ l, ∀ c ∈ x, c < 256) → ∀ c ∈ joinN sep l, c < 256
  | [], _, c, hc => by simp [joinN] at hc
  | [x], h, c, hc => h x (by simp) c (by simpa [joinN] using hc)
  | x :: y :: r, h, c, hc => by
    rw [joinN] at hc
    · rcases List.mem_append.1 hc with hc | hc
      · exact h x (by simp) c hc
      · rcases List.mem_append.1 hc with hc | hc
        · exact hs c hc
        · exact joinN_byte hs (l := y :: r) (fun x hx => h x (List.mem_cons_of_mem _ hx)) c hc
    · simp
theorem valsT_byte {l : List Int} (h : ∀ n ∈ l, inI n) : ∀ c ∈ valsT l, c < 256 := by
  rw [valsT]
  refine joinN_byte (by simp) fun x hx => ?_
  obtain ⟨n, hn, rfl⟩ := List.mem_map.1 hx
  exact itoaN_byte (h n hn)
theorem bookT_byte {b : BookD} (hz : chkBook b = 0) (hI : rowsI b.rows) (hn : isName b.name = true) (hk : ∀ r ∈ b.rows, isName r.key = true) : ∀ c ∈ bookT b, c < 256 := by
  intro c hc
  simp only [bookT, List.mem_append, rowsT, List.mem_flatMap] at hc
  rcases hc with ((hc | hc) | hc) | ⟨r, hr, hc⟩
  · simp at hc; omega
  · exact isName_byte hn c hc
  · simp at hc; omega
  · rw [rowT] at hc
    rcases List.mem_append.1 hc with hc | hc
    · exact isName_byte (hk r hr) c hc
    · rcases List.mem_cons.1 hc with rfl | hc
      · omega
      · rcases List.mem_append.1 hc with hc | hc
        · exact valsT_byte (hI r hr) c hc
        · simp at hc; omega
theorem rowT_small {r : RowD} (h : okRow r) : (rowT r).length ≤ 400 := by
  obtain ⟨h1, h2⟩ := h
  simp only [isName, Bool.and_eq_true, decide_eq_true_eq] at h1
  rw [chkVals, first3, when0 (by omega), when0 (by omega), when0 (by omega)] at h2
  have h3 : r.vals.length ≤ 16 := by
    have := h2.2.1
    simp at this; omega
  have h4 := valsT_len r.vals
  rw [rowT, List.length_append, List.length_cons, List.length_append]
  simp; omega
theorem rowsT_small : ∀ {l : List RowD}, (∀ r ∈ l, okRow r) → (rowsT l).length ≤ l.length * 400
  | [], _ => by simp [rowsT]
  | r :: l, h => by
    have h1 := rowT_small (h r (by simp))
    have h2 := rowsT_small (l := l) fun x hx => h x (by simp [hx])
    simp only [rowsT, List.flatMap_cons, List.length_append, List.length_cons] at h2 ⊢
    omega
theorem c_print (b : BookD) (h : bookB b) : GoodC Tryz.prog 20 [eBook b] (.tup [.str (if chkBook b ≠ 0 then [] else (printS b).1), .int .i64 (if chkBook b ≠ 0 then chkBook b else (printS b).2)]) := by
  refine good_fn nf isF20 mix (by simp [Tryz.f20]) ?_
  simp [Tryz.f20, eBook]
  refine c1 (c_checkBook b h) ?_
  by_cases hz : chkBook b = 0
  case neg => simp [hz]
  have hI := chkRows_I (chkBook_zero hz)
  obtain ⟨hnl, hrl, hr⟩ := h
  have hname : isName b.name = true := by
    rw [chkBook, first2] at hz
    have h1 := hz.1
    cases hn : isName b.name
    · rw [hn] at h1; simp [whenE] at h1
    · rfl
  have hkeys : ∀ r ∈ b.rows, isName r.key = true := fun r hr => by
    have := (chkRows_ok (chkBook_zero hz)).2 r hr
    exact this.1
  have h256 := (chkRows_ok (chkBook_zero hz)).1
  have hB := bookT_byte hz hI hname hkeys
  have hnm24 : b.name.length ≤ 24 := by
    simp only [isName, Bool.and_eq_true, decide_eq_true_eq] at hname; exact hname.1.2
  have hlen : ∀ i, (bookT0 b i).length ≤ 200000 := by
    intro i
    have := rowsT_small (l := b.rows.take i) fun x hx => (chkRows_ok (chkBook_zero hz)).2 x (List.mem_of_mem_take hx)
    have h2 : (b.rows.take i).length ≤ b.rows.length := by simp; omega
    simp only [bookT0, List.length_append, List.length_cons, List.length_nil]; omega
  have e0 : joinN [32] [[98, 111, 111, 107], b.name] ++ [10] = bookT0 b 0 := by simp [joinN, bookT0, rowsT]
  have l0 : (joinN [32] [[98, 111, 111, 107], b.name]).length ≤ 2000000 := by simp [joinN]; omega
  simp [hz]
  refine cp (h1 := ?g1) (c_joinW [[98, 111, 111, 107], b.name] (by simp) (by omega)) (by simp; exact ⟨rfl, rfl⟩) ?_
  case g1 => simp
  simp
  refine ⟨by omega, ?_⟩
  rw [e0]
  have hne : ∀ i, bookT0 b i ≠ [] := by intro i; simp [bookT0]
  refine cf (g_ws1 (bookT0 b 0) (hne 0) (by have := hlen 0; omega)) [1] ?_
  simp [setAll, sig]
  refine lp (α := Nat) (fun i => ⟨[(22, .p (.int .i64 i)), (21, .p (.int .i64 b.rows.length)), (20, .p (.seq (b.rows.map eRow))), (5, .ptr 1 [])], [.hole, .box false (.st 161 [.ptr 1 [], .sl 3 i 1 0 (bookT0 b i).length]), .hole, .arr .bytes i 1 (u8s (bookT0 b i))]⟩)
    (fun i => i ≤ b.rows.length) (fun i => b.rows.length - i) 0 (by simp) ?_ (hh := by simp [u8s]) (hr2 := by simp [u8s])
  intro i hi
  have hw := wi1 (i := i) (by omega)
  by_cases hil : i < b.rows.length
  · have hro := hr b.rows[i] (List.getElem_mem hil)
    have hIo := hI b.rows[i] (List.getElem_mem hil)
    have hko := rowT_small ((chkRows_ok (chkBook_zero hz)).2 b.rows[i] (List.getElem_mem hil))
    have hnx := bookT0_next b hil
    have hrow : joinN [32] [b.rows[i].key, valsT b.rows[i].vals] ++ [10] = rowT b.rows[i] := by simp [joinN, rowT]
    have hrl : (joinN [32] [b.rows[i].key, valsT b.rows[i].vals]).length ≤ 400 := by rw [← hrow] at hko; simp at hko; omega
    have hrne : rowT b.rows[i] ≠ [] := by simp [rowT]
    have hl1 := hlen i
    simp [hil, eRow]
    refine e1 (c_values b.rows[i].vals hro.2 hIo) ?_
    simp
    refine ep (h1 := ?g2) (c_joinW [b.rows[i].key, valsT b.rows[i].vals] (by simp) (by omega)) (by simp; exact ⟨rfl, rfl⟩) (by simp; exact ⟨rfl, rfl⟩) ?_
    case g2 => simp
    simp
    refine ⟨by omega, ?_⟩
    rw [hrow]
    refine ef (g_ws2 (bookT0 b i) (rowT b.rows[i]) i _ rfl hrne (by omega) (by omega)) [1, 3] ?_ (hin := by simp [sig, u8s]) (hset := by simp [sig]) (hr := by simp [u8s])
    simp [sig, u8s, setAll, renL_apd, hw]
    refine ⟨rfl, ?_⟩
    exact rd (i + 1) hil (he := by simp [hnx]) (hh := by simp [hnx]) (hr2 := by simp)
  · have : i = b.rows.length := by omega
    subst this
    have hbt : bookT b = bookT0 b b.rows.length := by simp [bookT, bookT0]
    have hps : printS b = if 4096 < (bookT b).length then ([], 26) else (bookT b, 0) := rfl
    rw [hbt] at hps hB
    have hl1 := hlen b.rows.length
    have hne1 := hne b.rows.length
    rw [hps]
    clear hps hbt hne hlen e0 l0
    generalize bookT0 b b.rows.length = T at *
    simp
    refine cf (g_len T b.rows.length T.length rfl) [1, 3] ?_ (hin := by simp [sig, u8s]) (hset := by simp [sig]) (hr := by simp [u8s])
    by_cases h4 : 4096 < T.length
    · have h4' : (4096 : Int) < (T.length : Int) := by omega
      simp [setAll, sig, u8s, h4, h4', hz]
    · have h4' : ¬ (4096 : Int) < (T.length : Int) := by omega
      simp [setAll, sig, u8s, h4, h4', hz]
      refine cf (g_str T b.rows.length T.length rfl hne1 (by omega) hB) [1, 3] ?_ (hin := by simp [sig, u8s]) (hset := by simp [sig]) (hr := by simp [u8s])
      simp [h4, hz]
end Go.Abs
namespace Go.Abs
open Go.Proofs
set_option maxHeartbeats 4000000
set_option maxRecDepth 100000
theorem parseL_byte : ∀ (l : List (List Nat)) (i : Nat) (b c : BookD) (n : Nat), (∀ x ∈ l, x.length ≤ 1000000) → l.length ≤ 1000001 → bookB b → b.rows.length + l.length ≤ 1000001 → parseL l i b = (some c, n) → bookB c
  | [], i, b, c, n, _, _, hb, _, h => by
    simp only [parseL, Prod.mk.injEq, Option.some.injEq] at h
    rw [← h.1]; exact hb
  | s :: r, i, b, c, n, hs, hl, hb, hr, h => by
    have h1 := hs s (by simp)
    have h2 := cutN_len 32 s
    have h3 := readV_len (cutN 32 s).2.1
    rw [parseL, pairT_eq] at h
    by_cases hp : pairB s = true
    · rw [if_pos hp] at h
      dsimp only at h
      have go := fun (i : Nat) (b : BookD) (hb : bookB b) (hr : b.rows.length + r.length ≤ 1000001) => parseL_byte r i b c n (fun x hx => hs x (by simp [hx])) (by simp at hl; omega) hb hr
      by_cases h0 : i = 0
      · rw [if_pos h0] at h
        split at h
        · exact go 1 ⟨(cutN 32 s).2.1, b.rows⟩ ⟨by dsimp only; omega, hb.2⟩ (by simp at hr ⊢; omega) h
        · simp at h
      · rw [if_neg h0] at h
        split at h
        · refine go (i + 1) ⟨b.name, b.rows ++ [⟨(cutN 32 s).1, (readV (cutN 32 s).2.1).1⟩]⟩ ⟨hb.1, ?_, ?_⟩ (by simp at hr ⊢; omega) h
          · simp at hr ⊢; omega
          · intro y hy
            rcases List.mem_append.1 hy with hy | hy
            · exact hb.2.2 y hy
            · rw [List.mem_singleton.1 hy]
              exact ⟨by dsimp only; omega, by dsimp only; omega⟩
        · simp at h
    · rw [if_neg hp] at h
      simp at h
theorem parseS_B {s : List Nat} (h : s.length ≤ 600) : bookB (parseS s).1 := by
  have h0 : bookB ⟨[], []⟩ := ⟨by simp, by simp, by simp⟩
  rw [parseS]
  split
  · exact h0
  · split
    · exact h0
    · have hl := spl_len 10 s.dropLast
      have hd : s.dropLast.length ≤ s.length := by simp
      cases hp : parseL (spl 10 s.dropLast) 0 ⟨[], []⟩ with
      | mk o n => cases o with
        | none => exact h0
        | some b =>
          dsimp only
          split
          · exact h0
          · refine parseL_byte _ 0 ⟨[], []⟩ b n (fun x hx => ?_) (by omega) h0 (by simp; omega) hp
            have := (spl_mem hx).1; omega
theorem c_law3 (hw : GoodC Tryz.prog 17 [] (.bool true)) (b : BookD) (s : List Nat) (hb : b.rows.length ≤ 1048576) (hs : s.length ≤ 1048576) (hby : ∀ c ∈ s, c < 256) :
    GoodC Tryz.prog 3 [eBook b, .str s] (.bool true) := by
  refine good_fn nf isF3 mix (by simp [Tryz.f3]) ?_
  simp [Tryz.f3, eBook]
  refine c1 (c_book b hb) ?_ (h1 := by simp [eBook])
  simp [rBook]
  have hSB := c_shortBook b 12 hb (by omega)
  rw [rBook] at hSB
  refine c2 hSB ?_
  by_cases s1 : shortBook b 12 = true
  case neg =>
    simp [s1]
    refine c0 hw ?_
    simp
  by_cases s2 : 600 < s.length
  · have s2' : (600 : Int) < (s.length : Int) := by omega
    simp [s1, s2, s2']
    refine c0 hw ?_
    simp
  have s2' : ¬ (600 : Int) < (s.length : Int) := by omega
  simp [s1, s2, s2']
  obtain ⟨rb, lb⟩ := short_bookB s1
  clear s1
  have hCR := c_checkBookR b rb
  rw [rBook] at hCR
  refine c1 hCR ?_
  simp
  have hC := c_checkBook b rb
  rw [eBook] at hC
  refine c1 hC ?_
  simp
  have hP := c_print b rb
  rw [eBook] at hP
  refine c1 hP ?_
  simp
  refine c1 (c_parse s (by omega) hby) ?_
  have hB := parseS_B (s := s) (by omega)
  have hR := c_parseR s (by omega) hby
  generalize parseS s = R at *
  obtain ⟨R, line, no⟩ := R
  dsimp only at hB hR ⊢
  have hSm := c_sameBook R R hB hB
  have hBk := c_book R (by have := hB.2.1; omega)
  by_cases hz : chkBook b = 0
  · have hI := chkRows_I (chkBook_zero hz)
    have hPR := c_printR b rb hI
    rw [rBook] at hPR
    generalize printS b = T at *
    obtain ⟨T, e⟩ := T
    simp [hz, eBook, rBook] at hBk hSm hR ⊢
    refine c1 hPR ?_
    simp
    refine c1 hR ?_
    simp
    refine e1 hBk ?_
    simp
    refine e2 hSm ?_
    simp
    refine e0 hw ?_
    simp
    repeat' with_reducible refine And.intro ?_ ?_
    all_goals rfl
  · simp [hz, eBook, rBook] at hBk hSm hR ⊢
    refine c1 hR ?_
    simp
    refine e1 hBk ?_
    simp
    refine e2 hSm ?_
    simp
    refine e0 hw ?_
    simp
    repeat' with_reducible refine And.intro ?_ ?_
    all_goals rfl
end Go.Abs
