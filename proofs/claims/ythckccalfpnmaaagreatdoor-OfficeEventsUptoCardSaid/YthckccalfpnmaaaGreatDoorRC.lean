import Derived.Test.YthckccalfpnmaaaGreatDoorRB
import Derived.Test.YthckccalfpnmaaaGreatDoorRA
import Derived.Test.YthckccalfpnmaaaGreatDoorPB
/- Parts of a proof. -/
set_option linter.unusedSimpArgs false
set_option linter.unusedVariables false
set_option linter.unusedSectionVars false
namespace Go.Abs
theorem first4 {a b c d : Int} : firstE [a, b, c, d] = 0 ↔ a = 0 ∧ b = 0 ∧ c = 0 ∧ d = 0 := by
  simp only [firstE]
  by_cases h1 : a = 0 <;> by_cases h2 : b = 0 <;> by_cases h3 : c = 0 <;> by_cases h4 : d = 0 <;> simp [h1, h2, h3, h4]
theorem first3z {a b c : Int} : firstE [a, b, c] = 0 ↔ a = 0 ∧ b = 0 ∧ c = 0 := by
  simp only [firstE]
  by_cases h1 : a = 0 <;> by_cases h2 : b = 0 <;> by_cases h3 : c = 0 <;> simp [h1, h2, h3]
theorem first2z {a b : Int} : firstE [a, b] = 0 ↔ a = 0 ∧ b = 0 := by
  simp only [firstE]
  by_cases h1 : a = 0 <;> by_cases h2 : b = 0 <;> simp [h1, h2]
theorem when_zero {b : Bool} {e : Int} (he : e ≠ 0) : whenE b e = 0 ↔ b = false := by cases b <;> simp [whenE, he]
theorem chkNames_all : ∀ {l : List (List Nat)}, chkNames l = 0 ↔ ∀ s ∈ l, isName s = true
  | [] => by simp [chkNames]
  | s :: r => by
    rw [chkNames]
    by_cases h : isName s = true
    · rw [if_pos h, chkNames_all (l := r)]; simp [h]
    · rw [if_neg h]; simp [h]
theorem chkNums_all : ∀ {l : List Int}, chkNums l = 0 ↔ ∀ n ∈ l, 0 ≤ n ∧ n ≤ 999999999
  | [] => by simp [chkNums]
  | n :: r => by
    rw [chkNums]
    by_cases h : n < 0 ∨ n > 999999999
    · rw [if_pos h]; simp; intro h1; omega
    · rw [if_neg h, chkNums_all (l := r)]; simp; intro _; omega
inductive EvK (e : EventD) : Prop
  | row (k : List Nat) (hk : e.kind = kAdd ∨ e.kind = kSet) (hn : e.names = [k]) (hv : e.vals = []) (ht : 10 ∉ e.text) (hi : isName k = true)
  | drop (k : List Nat) (hk : e.kind = kDrop) (hn : e.names = [k]) (hv : e.vals = []) (ht : e.text = []) (hi : isName k = true)
  | move (k : List Nat) (n : Nat) (hk : e.kind = kMove) (hn : e.names = [k]) (hv : e.vals = [(n : Int)]) (ht : e.text = []) (hi : isName k = true) (hl : n < 10 ^ 9)
  | undo (hk : e.kind = kUndo) (hn : e.names = []) (hv : e.vals = []) (ht : e.text = [])
theorem oneL {α : Type} {l : List α} (h : l.length = 1) : ∃ x, l = [x] := by
  cases l with
  | nil => simp at h
  | cons a r =>
    have : r = [] := List.length_eq_zero_iff.1 (by simpa using h)
    exact ⟨a, by rw [this]⟩
theorem evK {e : EventD} (h : chkEvent e = 0) : EvK e ∧ 1 ≤ e.num ∧ e.num ≤ 1000 ∧ e.text.length ≤ 4096 := by
  rw [chkEvent, first4] at h
  obtain ⟨h1, h2, h3, h4⟩ := h
  rw [chkShape, first3z] at h1
  obtain ⟨g1, g2, g3⟩ := h1
  rw [withinE, when_zero (by omega)] at g1
  rw [when_zero (by omega)] at g2 g3
  simp only [Bool.or_eq_false_iff, decide_eq_false_iff_not] at g1
  simp only [Bool.not_eq_false'] at g2
  simp only [Bool.or_eq_false_iff, decide_eq_false_iff_not, ne_eq, Decidable.not_not] at g3
  rw [chkNames_all] at h2
  rw [chkNums_all] at h3
  rw [chkText, first2z] at h4
  obtain ⟨g4, g5⟩ := h4
  rw [when_zero (by omega)] at g4 g5
  simp only [Bool.or_eq_false_iff, decide_eq_false_iff_not] at g4 g5
  refine ⟨?_, by omega, by omega, by omega⟩
  rcases form_cases e.kind with k | k | k | k | k | k
  · rw [k, form_add] at g3
    obtain ⟨s, hs⟩ := oneL g3.1
    exact .row s (.inl k) hs (List.length_eq_zero_iff.1 g3.2) g4.2 (h2 s (by rw [hs]; simp))
  · rw [k, form_set] at g3
    obtain ⟨s, hs⟩ := oneL g3.1
    exact .row s (.inr k) hs (List.length_eq_zero_iff.1 g3.2) g4.2 (h2 s (by rw [hs]; simp))
  · rw [k, form_drop] at g3 g4
    obtain ⟨s, hs⟩ := oneL g3.1
    exact .drop s k hs (List.length_eq_zero_iff.1 g3.2) (by simpa using g4.1) (h2 s (by rw [hs]; simp))
  · rw [k, form_move] at g3 g4
    obtain ⟨s, hs⟩ := oneL g3.1
    obtain ⟨n, hn⟩ := oneL g3.2
    have hb := h3 n (by rw [hn]; simp)
    exact .move s n.toNat k hs (by rw [hn]; congr 1; omega) (by simpa using g4.1) (h2 s (by rw [hs]; simp)) (by omega)
  · rw [k, form_undo] at g3 g4
    exact .undo k (List.length_eq_zero_iff.1 g3.1) (List.length_eq_zero_iff.1 g3.2) (by simpa using g4.1)
  · rw [k] at g2; cases g2
end Go.Abs
namespace Go.Abs
open Go.Proofs
set_option maxHeartbeats 4000000
set_option maxRecDepth 100000
def storyV (ve ne vs ns : Nat) : AV := .st 237 [.sl 1 ve 5 0 ne, .sl 2 vs 1 0 ns]
def stH (d : StoryD) (ve vs : Nat) (J : List PV) : Heap := [.box false (storyV ve d.evs.length vs d.sts.length), .arr .grow ve 5 (d.evs.map (AV.p ∘ eEvent)), .arr .grow vs 1 (d.sts.map (AV.p ∘ eRows) ++ J.map AV.p)]
theorem g_rows (d : StoryD) (ve vs : Nat) (J : List PV) (hb : d.sts.length ≤ 1000) : GoodI Tryz.prog 140 (stH d ve vs J) [.ptr 0 []] (stH d ve vs J) (.p (.seq (d.now.map eRow))) := by
  obtain ⟨evs, sts⟩ := d
  rcases List.eq_nil_or_concat sts with rfl | ⟨t, x, rfl⟩
  · refine GoodI.weak (v := .nsl) ?_ (by simp [StoryD.now])
    refine goodI_fn nf isF140 mix (by simp [Tryz.f140]) ?_
    simp [Tryz.f140, stH, storyV]
  · simp only [List.concat_eq_append] at hb ⊢
    refine goodI_fn nf isF140 mix (by simp [Tryz.f140]) ?_
    have hl : IntKind.i64.wrap (t.length : Int) = t.length := wi64 _ (by omega) (by simp at hb; omega)
    have hz : ¬ (t.length : Int) + 1 = 0 := by omega
    simp [Tryz.f140, stH, storyV, hl, hz, StoryD.now, eRows]
theorem do_of (l : List RowD) (e : EventD) (he : evB e) (hc : chkEvent e = 0) (hu : e.kind ≠ kUndo) (h : l.length ≤ 1000) (hl : ∀ r ∈ l, rowB r) :
    ∃ f, kindF e.kind = .func f [] [] ∧ (formS e.kind).2.2.2 = true ∧ GoodI Tryz.prog f [rowsX l] [.sl 0 0 2 0 l.length, .p (eEvent e)] [.dead] (.p (pairP (stepS l e))) := by
  have sd : ¬ kDrop = kAdd ∧ ¬ kDrop = kSet := by decide
  have sm : ¬ kMove = kAdd ∧ ¬ kMove = kSet ∧ ¬ kMove = kDrop := by decide
  have ss : ¬ kSet = kAdd := by decide
  rcases (evK hc).1 with ⟨k, hk, hn, hv, ht, hi⟩ | ⟨k, hk, hn, hv, ht, hi⟩ | ⟨k, n, hk, hn, hv, ht, hi, hl9⟩ | ⟨hk, _⟩
  · have h0 : e.names ≠ [] := by rw [hn]; simp
    rcases hk with hk | hk
    · refine ⟨207, by simp [kindF, hk], by rw [hk]; rfl, ?_⟩
      have : stepS l e = addS l e := by rw [stepS, if_pos hk]
      rw [this]; exact g_added l e he h0 h
    · refine ⟨208, by simp [kindF, hk, ss], by rw [hk]; rfl, ?_⟩
      have : stepS l e = setS l e := by rw [stepS, if_neg (by rw [hk]; exact ss), if_pos hk]
      rw [this]; exact g_changed l e he h0 h hl
  · have h0 : e.names ≠ [] := by rw [hn]; simp
    refine ⟨209, by simp [kindF, hk, sd], by rw [hk]; rfl, ?_⟩
    have : stepS l e = dropS l e := by rw [stepS, if_neg (by rw [hk]; exact sd.1), if_neg (by rw [hk]; exact sd.2), if_pos hk]
    rw [this]; exact g_dropped l e he h0 h
  · have h0 : e.names ≠ [] := by rw [hn]; simp
    refine ⟨210, by simp [kindF, hk, sm], by rw [hk]; rfl, ?_⟩
    have : stepS l e = moveS l e := by rw [stepS, if_neg (by rw [hk]; exact sm.1), if_neg (by rw [hk]; exact sm.2.1), if_neg (by rw [hk]; exact sm.2.2)]
    rw [this]; exact g_moved l e he h0 (by rw [hv]; simp) (by rw [hv]; simp; omega) h
  · exact (hu hk).elim
theorem keyN_B {e : EventD} (he : evB e) : (keyN e).length ≤ 1000000 := by
  rw [keyN]
  cases h : e.names with
  | nil => simp
  | cons k ns => exact he.2.2.1 k (by rw [h]; simp)
theorem step_B {l : List RowD} {e : EventD} (he : evB e) (h : l.length ≤ 1000) (hl : ∀ r ∈ l, rowB r) : (stepS l e).1.length ≤ 1000 ∧ ∀ r ∈ (stepS l e).1, rowB r := by
  have hk := keyN_B he
  have hv := readV_len e.text
  have ht := he.2.2.2.2.1
  have hrow : rowB ⟨keyN e, (readV e.text).1⟩ := ⟨by dsimp only; omega, by dsimp only; omega⟩
  have nil : ([] : List RowD).length ≤ 1000 ∧ ∀ r ∈ ([] : List RowD), rowB r := ⟨by simp, by simp⟩
  rw [stepS]
  split
  · rw [addS]
    split
    · exact nil
    · split
      · exact nil
      · rename_i q
        rw [ne_eq, Decidable.not_not, first2, when0 (by omega), decide_eq_false_iff_not] at q
        refine ⟨by simp; omega, fun r hr => ?_⟩
        rcases List.mem_append.1 hr with hr | hr
        · exact hl r hr
        · rw [List.mem_singleton.1 hr]; exact hrow
  split
  · rw [setS]
    split
    · exact nil
    · split
      · exact nil
      · refine ⟨by simpa using h, fun r hr => ?_⟩
        rcases List.mem_or_eq_of_mem_set hr with hr | rfl
        · exact hl r hr
        · exact hrow
  split
  · rw [dropS]
    split
    · exact nil
    · refine ⟨?_, fun r hr => hl r (List.mem_of_mem_eraseIdx hr)⟩
      have := List.length_eraseIdx_le l (atK l (keyN e)).toNat
      exact Nat.le_trans this h
  · rw [moveS]
    split
    · exact nil
    · rename_i q
      rw [ne_eq, Decidable.not_not, moveE, first3, when0 (by omega), when0 (by omega), withinE, when0 (by omega)] at q
      simp only [decide_eq_false_iff_not, Bool.or_eq_false_iff] at q
      rcases idx_look (keyN e) l 0 with ⟨p1, p2⟩ | ⟨i, hi, p1, p2, p3⟩
      · have e1 : atK l (keyN e) = -1 := p2
        rw [e1] at q; exact (q.1 (by omega)).elim
      rw [Int.natCast_zero, Int.zero_add] at p1
      have e1 : atK l (keyN e) = i := p1
      have hel : (l.eraseIdx i).length = l.length - 1 := by rw [List.length_eraseIdx, if_pos hi]
      rw [e1, Int.toNat_natCast, List.getElem?_eq_getElem hi, Option.getD_some, ins_eq _ _ _ (by omega)]
      refine ⟨by simp [hel]; omega, fun r hr => ?_⟩
      rcases List.mem_append.1 hr with hr | hr
      · exact hl r (List.mem_of_mem_eraseIdx (List.mem_of_mem_take hr))
      rcases List.mem_cons.1 hr with rfl | hr
      · exact hl _ (List.getElem_mem hi)
      · exact hl r (List.mem_of_mem_eraseIdx (List.mem_of_mem_drop hr))
@[simp] theorem ft_do {u : TypeId} {fs : List PV} : fieldV Tryz.prog 230 3 (.p (.st u fs)) = (match fs[3]? with
    | some g => some (u = 229 ∧ Shp.leaf = shp g, ({ v := .p g } : Eff))
    | none => none) := fieldV_st (show fieldT Tryz.prog 230 3 = some (229, .leaf) by kernel_rfl)
theorem g_accept (d : StoryD) (ve vs : Nat) (J : List PV) (e : EventD) (he : evB e) (hc : chkEvent e = 0) (hb : d.evs.length ≤ 1000) (hj : d.sts.length + J.length ≤ d.evs.length) (hr : ∀ l ∈ d.sts, l.length ≤ 1000 ∧ ∀ r ∈ l, rowB r) :
    ∃ ve' vs' J', GoodI Tryz.prog 146 (stH d ve vs J) [.ptr 0 [], .p (eEvent e)] (stH (if acceptE d e = 0 then acceptD d e else d) ve' vs' J') (.p (.int .i64 (acceptE d e))) ∧
      (if acceptE d e = 0 then acceptD d e else d).sts.length + J'.length ≤ (if acceptE d e = 0 then acceptD d e else d).evs.length := by
  have hnow : d.now.length ≤ 1000 ∧ ∀ r ∈ d.now, rowB r := by
    rw [StoryD.now]
    cases hg : d.sts.getLast? with
    | none => simp
    | some l => exact hr l (List.mem_of_getLast? hg)
  have hdo := fun hu => do_of d.now e he hc hu hnow.1 hnow.2
  have hrows := g_rows d ve vs J (by omega)
  have hnl := hnow.1
  have hcl1 := c_cloneS e.names (by have := he.2.1; omega)
  have hcl2 := c_clone e.vals (by have := he.2.2.2.1; omega)
  obtain ⟨num, kind, names, vals, text⟩ := e
  dsimp only at hcl1 hcl2 hdo
  have hwn : IntKind.i64.wrap ((d.evs.length : Int) + 1) = d.evs.length + 1 := wi1 (by omega)
  by_cases q1 : num = d.evs.length + 1
  case neg =>
    have hA : acceptE d ⟨num, kind, names, vals, text⟩ = 11 := by simp [acceptE, q1]
    refine ⟨ve, vs, J, ?_, by simpa [hA] using hj⟩
    rw [hA, if_neg (by omega)]
    refine goodI_fn nf isF146 mix (by simp [Tryz.f146]) ?_
    simp [Tryz.f146, stH, storyV, eEvent, hwn, q1]
    refine ForgetN.og (by simp) (by simp) (by simp) (by simp) (by simp)
  by_cases q2 : kind = kUndo
  · subst q2
    rcases List.eq_nil_or_concat d.sts with hs | ⟨t, x, hs⟩
    · have hA : acceptE d ⟨num, kUndo, names, vals, text⟩ = 12 := by simp [acceptE, q1, hs]
      refine ⟨ve, vs, J, ?_, by simpa [hA] using hj⟩
      rw [hA, if_neg (by omega)]
      refine goodI_fn nf isF146 mix (by simp [Tryz.f146]) ?_
      simp [Tryz.f146, stH, storyV, eEvent, hwn, q1, hs, kUndo]
      refine ForgetN.og (by simp) (by simp) (by simp) (by simp) (by simp)
    · have hA : acceptE d ⟨num, kUndo, names, vals, text⟩ = 0 := by simp [acceptE, q1, hs]
      have hD : acceptD d ⟨num, kUndo, names, vals, text⟩ = ⟨d.evs ++ [⟨num, kUndo, names, vals, text⟩], t⟩ := by simp [acceptD, hs]
      rw [hs] at hj
      simp at hj
      refine ⟨ve + 1, vs, eRows x :: J, ?_, by rw [if_pos hA, hD]; simp; omega⟩
      rw [if_pos hA, hD, hA]
      refine goodI_fn nf isF146 mix (by simp [Tryz.f146]) ?_
      have hw1 : IntKind.i64.wrap (t.length : Int) = t.length := wi64 _ (by omega) (by omega)
      have hz : ¬ (t.length : Int) + 1 = 0 := by omega
      have hm : d.evs.length + 1 ≤ maxL := by simp only [maxL]; omega
      simp [Tryz.f146, stH, storyV, eEvent, hwn, q1, hs, kUndo, hw1, hz]
      refine ⟨⟨rfl, rfl⟩, ?_⟩
      refine e1 hcl1 ?_
      simp
      refine e1 hcl2 ?_
      simp [hm]
      refine ⟨⟨⟨rfl, rfl, rfl⟩, rfl, rfl⟩, ⟨rfl, rfl⟩, ForgetN.og (by simp [eEvent, q1]) (by simp) (by simp [eEvent, q1]) (by simp) (by simp)⟩
  · obtain ⟨f, f1, f2, f3⟩ := hdo q2
    have hA : acceptE d ⟨num, kind, names, vals, text⟩ = (stepS d.now ⟨num, kind, names, vals, text⟩).2 := by simp [acceptE, q1, q2]
    have hD : acceptD d ⟨num, kind, names, vals, text⟩ = ⟨d.evs ++ [⟨num, kind, names, vals, text⟩], d.sts ++ [(stepS d.now ⟨num, kind, names, vals, text⟩).1]⟩ := by simp [acceptD, q2]
    have hlk := kinds_look kind
    rw [if_pos f2] at hlk
    rw [f1] at hlk
    have q2' : ¬ kind = [117, 110, 100, 111] := q2
    rw [hA, hD]
    generalize stepS d.now ⟨num, kind, names, vals, text⟩ = S at *
    obtain ⟨S, err⟩ := S
    dsimp only at hA hD ⊢
    by_cases q3 : err = 0
    · subst q3
      refine ⟨ve + 1, vs + 1, [], ?_, by simp; omega⟩
      rw [if_pos rfl]
      refine goodI_fn nf isF146 mix (by simp [Tryz.f146]) ?_
      have hm : d.evs.length + 1 ≤ maxL := by simp only [maxL]; omega
      have hm2 : d.sts.length + J.length + 1 ≤ maxL := by simp only [maxL]; omega
      have hm3 : d.now.length ≤ maxL := by simp only [maxL]; omega
      simp only [stH, storyV] at hrows
      simp [Tryz.f146, stH, storyV, eEvent, hwn, q1, q2']
      refine cf hrows [0, 1, 2] ?_
      simp [setAll, hm3, sig]
      refine cf hrows [0, 1, 2] ?_
      simp [setAll, hm3, sig]
      refine ⟨shp_map fun r => ⟨by simp [shpA], by simp [shpA]⟩, ?_⟩
      refine e0 c_kinds ?_
      simp [hlk, kindV]
      simp only [eEvent, q1] at f3
      refine ef f3 [4] ?_
      simp [sig, setAll, pairP, hm2]
      refine e1 hcl1 ?_
      simp
      refine e1 hcl2 ?_
      simp [hm]
      refine ⟨⟨⟨rfl, rfl, rfl⟩, rfl, rfl⟩, ⟨rfl, rfl⟩, ForgetN.og (by simp [eEvent, q1, eRows]) (by simp) (by simp [eEvent, q1, eRows]) (by simp) (by simp)⟩
    · refine ⟨ve, vs, J, ?_, by rw [if_neg q3]; exact hj⟩
      rw [if_neg q3]
      refine goodI_fn nf isF146 mix (by simp [Tryz.f146]) ?_
      have hm3 : d.now.length ≤ maxL := by simp only [maxL]; omega
      simp only [stH, storyV] at hrows
      simp [Tryz.f146, stH, storyV, eEvent, hwn, q1, q2']
      refine cf hrows [0, 1, 2] ?_
      simp [setAll, hm3, sig]
      refine cf hrows [0, 1, 2] ?_
      simp [setAll, hm3, sig]
      refine ⟨shp_map fun r => ⟨by simp [shpA], by simp [shpA]⟩, ?_⟩
      refine e0 c_kinds ?_
      simp [hlk, kindV]
      simp only [eEvent, q1] at f3
      refine ef f3 [4] ?_
      simp [sig, setAll, pairP, q3]
      refine ForgetN.og (by simp) (by simp) (by simp) (by simp) (by simp)
end Go.Abs
namespace Go.Abs
open Go.Proofs
set_option maxHeartbeats 4000000
set_option maxRecDepth 100000
def nextD (d : StoryD) (e : EventD) : StoryD := if addE d e = 0 then acceptD d e else d
structure StoryB (d : StoryD) (J : List PV) : Prop where
  ev : d.evs.length ≤ 1000
  sj : d.sts.length + J.length ≤ d.evs.length
  rw : ∀ l ∈ d.sts, l.length ≤ 1000 ∧ ∀ r ∈ l, rowB r
theorem now_B {d : StoryD} {J : List PV} (h : StoryB d J) : d.now.length ≤ 1000 ∧ ∀ r ∈ d.now, rowB r := by
  rw [StoryD.now]
  cases hg : d.sts.getLast? with
  | none => simp
  | some l => exact h.rw l (List.mem_of_getLast? hg)
theorem accept_rw {d : StoryD} {J : List PV} {e : EventD} (h : StoryB d J) (he : evB e) : ∀ l ∈ (acceptD d e).sts, l.length ≤ 1000 ∧ ∀ r ∈ l, rowB r := by
  intro l hl
  have hn := now_B h
  rw [acceptD] at hl
  split at hl
  · exact h.rw l (List.dropLast_subset _ hl)
  · rcases List.mem_append.1 hl with hl | hl
    · exact h.rw l hl
    · rw [List.mem_singleton.1 hl]; exact step_B he hn.1 hn.2
theorem g_add (d : StoryD) (ve vs : Nat) (J : List PV) (e : EventD) (he : evB e) (hb : StoryB d J) :
    ∃ ve' vs' J', GoodI Tryz.prog 206 (stH d ve vs J) [.ptr 0 [], .p (eEvent e)] (stH (nextD d e) ve' vs' J') (.p (.int .i64 (addE d e))) ∧ (nextD d e).sts.length + J'.length ≤ (nextD d e).evs.length := by
  have hC := c_checkEvent e he
  have hA : addE d e = firstE [chkEvent e, acceptE d e] := rfl
  by_cases hc : chkEvent e = 0
  · have hA2 : addE d e = acceptE d e := by
      rw [hA, firstE, if_pos hc]; simp only [firstE]; split <;> simp_all
    obtain ⟨ve', vs', J', g1, g2⟩ := g_accept d ve vs J e he hc hb.ev hb.sj hb.rw
    refine ⟨ve', vs', J', ?_, by rw [nextD, hA2]; exact g2⟩
    rw [nextD, hA2]
    generalize (if acceptE d e = 0 then acceptD d e else d) = d' at *
    refine goodI_fn nf isF206 mix (by simp [Tryz.f206]) ?_
    simp [Tryz.f206, stH, storyV]
    refine c1 hC ?_
    simp only [stH, storyV] at g1
    simp [hc]
    refine cf g1 [0, 1, 2] ?_
    simp [setAll, sig]
    refine ForgetN.og (by simp) (by simp) (by simp) (by simp) (by simp)
  · have hA2 : addE d e = chkEvent e := by rw [hA, firstE, if_neg hc]
    have hN : nextD d e = d := by rw [nextD, hA2, if_neg hc]
    refine ⟨ve, vs, J, ?_, by rw [hN]; exact hb.sj⟩
    rw [hN, hA2]
    refine goodI_fn nf isF206 mix (by simp [Tryz.f206]) ?_
    simp [Tryz.f206, stH, storyV]
    refine c1 hC ?_
    simp [hc]
    refine ForgetN.og (by simp) (by simp) (by simp) (by simp) (by simp)
theorem next_B {d : StoryD} {J J' : List PV} {e : EventD} (h : StoryB d J) (he : evB e) (hl : d.evs.length < 1000) (hj : (nextD d e).sts.length + J'.length ≤ (nextD d e).evs.length) : StoryB (nextD d e) J' := by
  refine ⟨?_, hj, ?_⟩
  · rw [nextD]; split
    · simp [acceptD]; omega
    · exact h.ev
  · rw [nextD]; split
    · exact accept_rw h he
    · exact h.rw
end Go.Abs
namespace Go.Abs
open Go.Proofs
set_option maxHeartbeats 4000000
set_option maxRecDepth 100000
def replayQ (R : StoryD × Int × Int) (v : AV) (H' : Heap) : Prop :=
  if R.2.2 = 0 then ∃ ve vs J, StoryB R.1 J ∧ H' = stH R.1 ve vs J ∧ v = .tup [.ptr 0 [], .p (.int .i64 0), .p (.int .i64 0)]
  else H' = [] ∧ v = .p (.tup [.nptr, .int .i64 R.2.1, .int .i64 R.2.2])
theorem g_replay (l : List EventD) (hl : l.length ≤ 1048576) (he : ∀ e ∈ l, evB e) : ∃ v H', replayQ (playS l) v H' ∧ GoodI Tryz.prog 138 [] [.p (.seq (l.map eEvent))] H' v := by
  refine goodX_fn nf isF138 mix (replayQ (playS l)) (by simp [Tryz.f138]) ?_
  by_cases h1 : 1000 < l.length
  · have h1' : (1000 : Int) < l.length := by omega
    have hp : playS l = (⟨[], []⟩, 0, 5) := by rw [playS, if_pos h1]
    rw [hp]
    simp [Tryz.f138, h1']
    refine ⟨[], by simp [replayQ], .inr (ForgetN.og (by simp) (by simp) (by simp) (by simp) (by simp))⟩
  have h1' : ¬ (1000 : Int) < l.length := by omega
  have hp : playS l = playL l 0 ⟨[], []⟩ := by rw [playS, if_neg h1]
  rw [hp]
  generalize hR : playL l 0 ⟨[], []⟩ = R
  simp [Tryz.f138, h1']
  refine lp (α := Nat × StoryD × Nat × Nat × List PV) (fun (i, d, ve, vs, J) => ⟨[(16, .p (.int .i64 i)), (15, .p (.int .i64 l.length)), (14, .p (.seq (l.map eEvent))), (5, .ptr 0 [])], stH d ve vs J⟩)
    (fun (i, d, ve, vs, J) => i ≤ l.length ∧ R = playL (l.drop i) i d ∧ d.evs.length = i ∧ StoryB d J) (fun (i, _) => l.length - i) (0, ⟨[], []⟩, 0, 0, []) ⟨by simp, by simp [hR], rfl, ⟨by simp, by simp, by simp⟩⟩ ?_ (hh := by simp [stH, storyV]) (hr := by simp [stH]) (hr2 := by simp [stH, storyV])
  rintro ⟨i, d, ve, vs, J⟩ ⟨k1, k2, k3, k4⟩
  dsimp only at k1 k2 k3 k4 ⊢
  have hw := wi1 (i := i) (by omega)
  by_cases hi : i < l.length
  · rw [List.drop_eq_getElem_cons hi, playL] at k2
    have hei := he _ (List.getElem_mem hi)
    obtain ⟨ve', vs', J', g1, g2⟩ := g_add d ve vs J l[i] hei k4
    have hB := next_B k4 hei (by omega) g2
    simp only [stH, storyV] at g1
    simp [hi, stH, storyV]
    refine cf g1 [0, 1, 2] ?_
    by_cases ha : addE d l[i] = 0
    · rw [if_neg (by simpa using ha)] at k2
      have hN : nextD d l[i] = acceptD d l[i] := by rw [nextD, if_pos ha]
      rw [hN] at hB ⊢
      simp [setAll, sig, ha, hw]
      refine rd (i + 1, acceptD d l[i], ve', vs', J') ⟨hi, k2, by simp [acceptD, k3], hB⟩ (h1 := by dsimp only; omega) (hh := by simp [stH, storyV]) (hr := by simp [stH]) (hr2 := by simp [stH, storyV])
    · rw [if_pos ha] at k2
      simp [setAll, sig, ha, hw]
      refine ⟨[], by rw [k2]; simp [replayQ, ha], .inr (ForgetN.og (by simp) (by simp) (by simp) (by simp) (by simp))⟩
  · have : i = l.length := by omega
    subst this
    rw [List.drop_length, playL] at k2
    simp
    refine ⟨stH d ve vs J, by rw [k2]; simp [replayQ]; exact ⟨ve, vs, J, k4, rfl⟩, .inl rfl⟩
theorem c_mappedRR (l : List RowD) (h : rowsB l) : GoodC Tryz.prog 139 [.seq (l.map eRow), .func 141 [] []] (.seq (l.map eRow)) := by
  refine good_fn nf isF139 mix (by simp [Tryz.f139]) ?_
  have hl := h.1
  simp [Tryz.f139]
  refine lp (α := Nat) (fun i => ⟨[(10, .p (.int .i64 i)), (9, .p (.int .i64 l.length)), (8, .p (.seq (l.map eRow))), (5, .sl 0 i 2 0 i), (1, .p (.func 141 [] []))], [.arr .grow i 2 ((l.map fun r => .p (eRow r)).take i)]⟩) (fun i => i ≤ l.length) (fun i => l.length - i) 0 (by simp) ?_
  rintro i k1
  by_cases hi : i < l.length
  · have hw := wi1 (i := i) (by omega)
    have ht := take_next (fun r => AV.p (eRow r)) hi
    simp [hi]
    refine c1 (c_copied l[i] (h.2 _ (List.getElem_mem hi))) ?_
    simp
    refine ⟨⟨by omega, by simp only [maxL]; omega⟩, ?_⟩
    exact rd (i + 1) hi (he := by simp [hw]) (hh := by simp [ht]) (hr2 := by simp [ht])
  · have : i = l.length := by omega
    subst this
    simp
theorem c_Replay (l : List EventD) (hl : l.length ≤ 1048576) (he : ∀ e ∈ l, evB e) : GoodC Tryz.prog 53 [.seq (l.map eEvent)] (.tup [.seq ((replayS l).1.map eRow), .int .i64 (replayS l).2.1, .int .i64 (replayS l).2.2]) := by
  refine good_fn nf isF53 mix (by simp [Tryz.f53]) ?_
  obtain ⟨v, H', hq, hg⟩ := g_replay l hl he
  have hS : replayS l = if (playS l).2.2 ≠ 0 then ([], (playS l).2.1, (playS l).2.2) else ((playS l).1.now, 0, 0) := rfl
  rw [hS]
  generalize playS l = R at *
  obtain ⟨d, pl, err⟩ := R
  simp only [replayQ] at hq
  dsimp only at hq ⊢
  simp [Tryz.f53]
  refine cn1 hg ?_
  by_cases hz : err = 0
  · subst hz
    rw [if_pos rfl] at hq
    obtain ⟨ve, vs, J, hB, rfl, rfl⟩ := hq
    have hr := g_rows d ve vs J (by have := hB.sj; have := hB.ev; omega)
    have hn := now_B hB
    have hM := c_mappedRR d.now ⟨by omega, hn.2⟩
    simp only [stH, storyV] at hr
    simp [stH, storyV, ren, sig]
    refine cf hr [0, 1, 2] ?_
    simp [setAll, sig]
    refine c2 hM ?_
    simp
  · rw [if_neg hz] at hq
    obtain ⟨rfl, rfl⟩ := hq
    simp [ren, hz]
theorem c_Accepts (l : List EventD) (e : EventD) (hl : l.length ≤ 1048576) (he : ∀ e ∈ l, evB e) (hee : evB e) : GoodC Tryz.prog 57 [.seq (l.map eEvent), eEvent e] (.int .i64 (acceptsS l e)) := by
  refine good_fn nf isF57 mix (by simp [Tryz.f57]) ?_
  obtain ⟨v, H', hq, hg⟩ := g_replay l hl he
  have hC := c_checkEvent e hee
  have hS : acceptsS l e = if firstE [(playS l).2.2, chkEvent e, whenE (decide (1000 ≤ l.length)) 5] ≠ 0 then firstE [(playS l).2.2, chkEvent e, whenE (decide (1000 ≤ l.length)) 5] else acceptE (playS l).1 e := rfl
  rw [hS]
  generalize playS l = R at *
  obtain ⟨d, pl, err⟩ := R
  simp only [replayQ] at hq
  dsimp only at hq ⊢
  simp [Tryz.f57]
  refine cn1 hg ?_
  by_cases hz : err = 0
  · subst hz
    rw [if_pos rfl] at hq
    obtain ⟨ve, vs, J, hB, rfl, rfl⟩ := hq
    simp [stH, storyV, ren, sig]
    refine c1 hC ?_
    simp
    refine c2 (c_when (decide (1000 ≤ l.length)) 5) ?_ (h1 := by simp; omega)
    simp
    refine cp (h1 := ?g1) (c_first [0, chkEvent e, whenE (decide (1000 ≤ l.length)) 5] (by simp)) (by simp; exact ⟨rfl, rfl⟩) ?_
    case g1 => simp
    by_cases hf : firstE [0, chkEvent e, whenE (decide (1000 ≤ l.length)) 5] = 0
    · simp [hf]
      have hf0 := hf
      rw [first3] at hf
      obtain ⟨ve', vs', J', g1, g2⟩ := g_accept d ve vs J e hee hf.2.1 hB.ev hB.sj hB.rw
      generalize (if acceptE d e = 0 then acceptD d e else d) = d' at *
      simp only [stH, storyV] at g1
      refine cf g1 [1, 2, 3] ?_
      simp [setAll, sig, hf0]
    · simp [hf]
  · rw [if_neg hz] at hq
    obtain ⟨rfl, rfl⟩ := hq
    simp [ren]
    refine c1 hC ?_
    simp
    refine c2 (c_when (decide (1000 ≤ l.length)) 5) ?_ (h1 := by simp; omega)
    simp
    refine cp (h1 := ?g1) (c_first [err, chkEvent e, whenE (decide (1000 ≤ l.length)) 5] (by simp)) (by simp; exact ⟨rfl, rfl⟩) ?_
    case g1 => simp
    have hf : ¬ firstE [err, chkEvent e, whenE (decide (1000 ≤ l.length)) 5] = 0 := by rw [first3]; exact fun h => hz h.1
    simp [hf]
end Go.Abs
namespace Go.Abs
open Go.Proofs
set_option maxHeartbeats 4000000
set_option maxRecDepth 100000
theorem shpR (l : List RowD) : allShp Tryz.prog 2 (l.map (AV.p ∘ eRow)) := shp_map fun r => ⟨by simp [shpA], by simp [shpA]⟩
theorem purl_of {H : Heap} {n : Nat} : ∀ {X : List AV} {Y : List PV}, X = Y.map AV.p → Purl H n X Y
  | X, [], h => by rw [h]; simp
  | X, y :: Y, h => by
    rw [h, List.map_cons]
    simp only [purl_cons, pur_p]
    exact ⟨Wk.refl _, purl_of rfl⟩
theorem c_without (l : List RowD) (i : Nat) (hi : i < l.length) (h : l.length ≤ 1048576) : GoodC Tryz.prog 254 [.seq (l.map eRow), .int .i64 i] (.seq ((l.eraseIdx i).map eRow)) := by
  refine good_fn nf isF254 mix (by simp [Tryz.f254]) ?_
  have hw := wi1 (i := i) (by omega)
  have hl0 : l ≠ [] := by intro e; subst e; simp at hi
  rw [List.eraseIdx_eq_take_drop_succ]
  have q1 : i ≤ l.length := by omega
  have q2 : 0 ≤ (i : Int) + 1 := by omega
  have q3 : i + 1 ≤ l.length := by omega
  have s1 := shpR (l.take i)
  have s2 := shpR (l.drop (i + 1))
  have s3 := shpR l
  rw [List.map_take] at s1
  rw [List.map_drop] at s2
  have m1 : i ≤ maxL := by simp only [maxL]; omega
  have m2 : l.length - (i + 1) ≤ maxL := by simp only [maxL]; omega
  have m3 : i + (l.length - (i + 1)) ≤ maxL := by simp only [maxL]; omega
  have hA : (l.take i).map (AV.p ∘ eRow) ++ (l.drop (i + 1)).map (AV.p ∘ eRow) = (l.take i ++ l.drop (i + 1)).map (AV.p ∘ eRow) := by simp
  have w1 : IntKind.i64.wrap 1 = 1 := by decide
  by_cases h0 : i = 0
  · subst h0
    cases l with
    | nil => exact (hl0 rfl).elim
    | cons x r =>
      by_cases hr : r = []
      · subst hr
        simp [Tryz.f254, w1]
        exact ⟨rfl, rfl⟩
      · have sr := shpR r
        have mr : r.length ≤ maxL := by simp only [maxL]; simp at h; omega
        have hrl : ¬ r.length = 0 := by simpa using hr
        simp [Tryz.f254, w1, hr, sr, mr, hrl]
        exact ⟨rfl, rfl⟩
  · by_cases hn : l.length ≤ i + 1
    · simp [Tryz.f254, hw, hl0, q1, q2, q3, s1, s2, s3, hn, m1, m2, m3, h0]
      refine ⟨⟨rfl, rfl⟩, purl_of ?_⟩
      rw [List.drop_eq_nil_of_le (by simp; omega)]
      simp
    · simp [Tryz.f254, hw, hl0, q1, q2, q3, s1, s2, s3, hn, m1, m2, m3, h0]
      refine ⟨⟨rfl, rfl⟩, purl_of ?_⟩
      rw [List.take_of_length_le (by simp; omega)]
      simp
def retR (l : List RowD) (S : List RowD × Int) : List RowD × Int := if S.2 = 0 then S else (l, S.2)
theorem c_changedR (l : List RowD) (a : Int) (e : EventD) (he : evB e) (h0 : e.names ≠ []) (h : l.length ≤ 1000) (hl : ∀ r ∈ l, rowB r) (ha : a = atK l (keyN e)) :
    GoodC Tryz.prog 253 [.seq (l.map eRow), .int .i64 a, eEvent e] (pairP (retR l (if a < 0 then addS l e else setS l e))) := by
  refine good_fn nf isF253 mix (by simp [Tryz.f253]) ?_
  have hrl := readV_len e.text
  have htx := he.2.2.2.2.1
  have hV := c_readValuesR e.text (by have := he.2.2.2.2.1; omega) he.2.2.2.2.2
  obtain ⟨num, kind, names, vals, text⟩ := e
  obtain ⟨k, ns, rfl⟩ : ∃ k ns, names = k :: ns := by
    cases names with
    | nil => exact (h0 rfl).elim
    | cons k ns => exact ⟨k, ns, rfl⟩
  have hK : keyN ⟨num, kind, k :: ns, vals, text⟩ = k := rfl
  dsimp only at hV hrl htx
  rw [hK] at ha
  simp [Tryz.f253, eEvent]
  refine c1 hV ?_
  have hT : ∀ X, toldE text ≠ 0 → retR l (if a < 0 then addS l ⟨num, kind, k :: ns, vals, text⟩ else setS l ⟨num, kind, k :: ns, vals, text⟩) = X → X = (l, toldE text) := by
    rintro X ht rfl
    have f1 : ∀ x, firstE [toldE text, x] = toldE text := fun x => by rw [firstE, if_neg ht]
    by_cases q : a < 0
    · rw [if_pos q, addS, hK, ← ha, if_neg (by omega), f1, if_pos ht, retR, if_neg ht]
    · rw [if_neg q, setS, hK, ← ha, if_neg (by omega), f1, if_pos ht, retR, if_neg ht]
  generalize hX : retR l (if a < 0 then addS l ⟨num, kind, k :: ns, vals, text⟩ else setS l ⟨num, kind, k :: ns, vals, text⟩) = X at *
  have hT := hT X
  cases hr : (readV text).2
  · have ht : toldE text = 25 := by simp [toldE, hr, firstE, whenE]
    rw [hT (by rw [ht]; omega) rfl, ht]
    simp [pairP]
  by_cases h16 : 16 < (readV text).1.length
  · have h16' : (16 : Int) < (readV text).1.length := by omega
    have ht : toldE text = 5 := by simp [toldE, hr, firstE, whenE, h16]
    rw [hT (by rw [ht]; omega) rfl, ht]
    simp [pairP, h16']
  have h16' : ¬ (16 : Int) < (readV text).1.length := by omega
  have ht : toldE text = 0 := by simp [toldE, hr, firstE, whenE, h16]
  clear hT
  have sl := shpR l
  have hm : l.length + 1 ≤ maxL := by simp only [maxL]; omega
  have hm1 : l.length ≤ maxL := by simp only [maxL]; omega
  by_cases q : a < 0
  · have hX2 : X = if 256 ≤ l.length then (l, 5) else (l ++ [⟨k, (readV text).1⟩], 0) := by
      rw [← hX, if_pos q, addS, hK, ← ha, if_neg (by omega), ht]
      by_cases q2 : 256 ≤ l.length <;> simp [firstE, whenE, q2, retR]
    by_cases q2 : 256 ≤ l.length
    · have q2' : (256 : Int) ≤ l.length := by omega
      rw [hX2, if_pos q2]
      simp [pairP, h16', q, q2']
    · have q2' : ¬ (256 : Int) ≤ l.length := by omega
      rw [hX2, if_neg q2]
      by_cases hl0 : l = []
      · subst hl0
        simp [pairP, h16', q, eRow]
        exact ⟨by decide, ⟨rfl, rfl⟩, rfl⟩
      · simp [pairP, h16', q, q2', hl0, sl, hm, hm1]
        refine ⟨?_, purl_of ?_⟩
        · exact ⟨⟨rfl, rfl⟩, rfl⟩
        · rw [List.take_of_length_le (by simp)]
          simp [eRow]
  · rcases idx_look k l 0 with ⟨p1, p2⟩ | ⟨i, hi, p1, p2, p3⟩
    · have e1 : atK l k = -1 := p2
      omega
    rw [Int.natCast_zero, Int.zero_add] at p1
    have e1 : atK l k = i := p1
    rw [e1] at ha
    subst ha
    have hl0 : l ≠ [] := by intro e; subst e; simp at hi
    have hB := hl _ (List.getElem_mem hi)
    have hnB : rowB ⟨k, (readV text).1⟩ := ⟨by have := he.2.2.1 k (by simp); dsimp only; omega, by dsimp only; omega⟩
    have hd : decide ((l[i]?.map (·.vals)) = some (readV text).1) = decide (l[i] = ⟨k, (readV text).1⟩) := by
      rw [List.getElem?_eq_getElem hi, Option.map_some]
      have : l[i] = ⟨l[i].key, l[i].vals⟩ := rfl
      rw [this, p3]
      simp
    have hX2 : X = if l[i] = ⟨k, (readV text).1⟩ then (l, 9) else (l.set i ⟨k, (readV text).1⟩, 0) := by
      rw [← hX, if_neg q, setS, hK, e1, if_neg (by omega), ht, Int.toNat_natCast, hd]
      by_cases q2 : l[i] = ⟨k, (readV text).1⟩ <;> simp [firstE, whenE, q2, retR]
    have hSR := c_sameRow l[i] ⟨k, (readV text).1⟩ hB hnB
    have hE : eRow ⟨k, (readV text).1⟩ = .st 54 [.str k, .seq ((readV text).1.map (.int .i64))] := rfl
    rw [hE] at hSR
    simp [h16', q, hi]
    refine e2 hSR ?_
    by_cases q2 : l[i] = ⟨k, (readV text).1⟩
    · rw [hX2, if_pos q2]
      simp [q2, pairP]
    · rw [hX2, if_neg q2]
      simp [q2, pairP, hl0, sl, hm, hm1, hi]
      refine purl_of ?_
      rw [List.take_of_length_le (by simp), List.map_set, hE]
      simp
theorem ret_add {l : List RowD} {e : EventD} (h : 0 ≤ atK l (keyN e)) : retR l (addS l e) = (l, 9) := by rw [addS, if_pos h, retR]; simp
theorem c_follow (l : List RowD) (e : EventD) (he : evB e) (hc : chkEvent e = 0) (hu : e.kind ≠ kUndo) (h : l.length ≤ 1000) (hl : ∀ r ∈ l, rowB r) :
    GoodC Tryz.prog 211 [.seq (l.map eRow), eEvent e] (pairP (retR l (stepS l e))) := by
  have hev := (evK hc).1
  have hA := fun h0 => c_changedR l (atK l (keyN e)) e he h0 h hl rfl
  refine good_fn nf isF211 mix (by simp [Tryz.f211]) ?_
  obtain ⟨num, kind, names, vals, text⟩ := e
  obtain ⟨k, ns, rfl⟩ : ∃ k ns, names = k :: ns := by
    rcases hev with ⟨k, hk, hn, hv, ht, hi⟩ | ⟨k, hk, hn, hv, ht, hi⟩ | ⟨k, n, hk, hn, hv, ht, hi, hl9⟩ | ⟨hk, _⟩
    · exact ⟨k, [], hn⟩
    · exact ⟨k, [], hn⟩
    · exact ⟨k, [], hn⟩
    · exact (hu hk).elim
  have hK : keyN ⟨num, kind, k :: ns, vals, text⟩ = k := rfl
  have hA := hA (by simp)
  rw [hK] at hA
  simp [Tryz.f211, eEvent]
  simp only [eEvent, List.map_cons] at hA
  refine c2 (c_find l k (by omega)) ?_
  have hat : idxFrom (keyIs k) l 0 = atK l k := rfl
  rw [hat]
  by_cases k1 : kind = kAdd
  · subst k1
    have hS : stepS l ⟨num, kAdd, k :: ns, vals, text⟩ = addS l ⟨num, kAdd, k :: ns, vals, text⟩ := by rw [stepS, if_pos rfl]
    rw [hS]
    by_cases q : 0 ≤ atK l k
    · rw [ret_add (by rw [hK]; exact q)]
      simp [kAdd, q, pairP]
    · rw [if_pos (by omega)] at hA
      simp [kAdd, q]
      simp only [kAdd] at hA
      refine c3 hA ?_
      simp [pairP]
  have k1' : ¬ kind = [97, 100, 100] := k1
  rcases idx_look k l 0 with ⟨p1, p2⟩ | ⟨i, hi, p1, p2, p3⟩
  · have e1 : atK l k = -1 := p2
    have hX : retR l (stepS l ⟨num, kind, k :: ns, vals, text⟩) = (l, 10) := by
      rw [stepS, if_neg k1]
      split
      · rw [setS, hK, e1]; simp [retR]
      · split
        · rw [dropS, hK, e1]; simp [retR]
        · have : moveE l ⟨num, kind, k :: ns, vals, text⟩ = 10 := by
            rw [moveE, hK, e1]; simp [firstE, whenE]
          rw [moveS, this]; simp [retR]
    rw [hX]
    simp [k1', e1, pairP]
  rw [Int.natCast_zero, Int.zero_add] at p1
  have e1 : atK l k = i := p1
  have e2 : ¬ (i : Int) < 0 := by omega
  rw [e1, if_neg e2] at hA
  by_cases k2 : kind = kSet
  · subst k2
    have hS : stepS l ⟨num, kSet, k :: ns, vals, text⟩ = setS l ⟨num, kSet, k :: ns, vals, text⟩ := by rw [stepS, if_neg k1, if_pos rfl]
    rw [hS]
    simp [kSet, e1, e2]
    simp only [kSet] at hA
    refine c3 hA ?_
    simp [pairP]
  have k2' : ¬ kind = [115, 101, 116] := k2
  have hW := c_without l i hi (by omega)
  have hel : (l.eraseIdx i).length = l.length - 1 := by rw [List.length_eraseIdx, if_pos hi]
  by_cases k3 : kind = kDrop
  · subst k3
    have hS : stepS l ⟨num, kDrop, k :: ns, vals, text⟩ = (l.eraseIdx i, 0) := by
      rw [stepS, if_neg k1, if_neg k2, if_pos rfl, dropS, hK, e1, if_neg e2, Int.toNat_natCast]
    rw [hS]
    simp [kDrop, e1, e2]
    refine c2 hW ?_
    simp [pairP, retR]
  have k3' : ¬ kind = [100, 114, 111, 112] := k3
  obtain ⟨n, rfl, hn9⟩ : ∃ n : Nat, vals = [(n : Int)] ∧ n < 10 ^ 9 := by
    rcases hev with ⟨k, hk, hn, hv, ht, hi⟩ | ⟨k, hk, hn, hv, ht, hi⟩ | ⟨k, n, hk, hn, hv, ht, hi, hl9⟩ | ⟨hk, _⟩
    · rcases hk with hk | hk
      · exact (k1 hk).elim
      · exact (k2 hk).elim
    · exact (k3 hk).elim
    · exact ⟨n, hv, hl9⟩
    · exact (hu hk).elim
  have hwn : IntKind.i64.wrap ((n : Int) - 1) = n - 1 := wi64 _ (by omega) (by omega)
  have hS : stepS l ⟨num, kind, k :: ns, [(n : Int)], text⟩ = moveS l ⟨num, kind, k :: ns, [(n : Int)], text⟩ := by
    rw [stepS, if_neg k1, if_neg k2, if_neg k3]
  have hM : moveE l ⟨num, kind, k :: ns, [(n : Int)], text⟩ = firstE [withinE (n - 1) 0 (l.length - 1), whenE (decide ((i : Int) = n - 1)) 9] := by
    rw [moveE, hK, e1]
    simp [firstE, whenE, e2, placeN]
  rw [hS]
  simp [k1', k2', k3', e1, e2]
  refine c2 hW ?_
  simp [hwn, hel, k3']
  refine c3 (c_out _ _ _) ?_
  by_cases q4 : (n : Int) - 1 < 0 ∨ (n : Int) - 1 > (l.length - 1 : Nat)
  · have hM2 : moveE l ⟨num, kind, k :: ns, [(n : Int)], text⟩ = 3 := by
      rw [hM, withinE]
      have : (decide ((n : Int) - 1 < 0) || decide ((n : Int) - 1 > (l.length : Int) - 1)) = true := by
        simp; omega
      rw [this]; simp [firstE, whenE]
    have q4' : (decide ((n : Int) - 1 < 0) || decide (((l.length - 1 : Nat) : Int) < (n : Int) - 1)) = true := by simpa using q4
    have hX : retR l (moveS l ⟨num, kind, k :: ns, [(n : Int)], text⟩) = (l, 3) := by rw [moveS, hM2]; simp [retR]
    rw [hX]
    simp [pairP, q4']
  have q4' : (decide ((n : Int) - 1 < 0) || decide (((l.length - 1 : Nat) : Int) < (n : Int) - 1)) = false := by
    simp at q4 ⊢; omega
  have hWi : withinE ((n : Int) - 1) 0 ((l.length : Int) - 1) = 0 := by
    rw [withinE]
    have : (decide ((n : Int) - 1 < 0) || decide ((n : Int) - 1 > (l.length : Int) - 1)) = false := by
      simp at q4 ⊢; omega
    rw [this]; rfl
  rw [hWi] at hM
  obtain ⟨tt, ht⟩ : ∃ tt : Nat, (n : Int) - 1 = tt := ⟨n - 1, by simp at q4; omega⟩
  rw [ht] at hM q4'
  by_cases q5 : i = tt
  · subst q5
    have hM2 : moveE l ⟨num, kind, k :: ns, [(n : Int)], text⟩ = 9 := by rw [hM]; simp [firstE, whenE]
    have hX : retR l (moveS l ⟨num, kind, k :: ns, [(n : Int)], text⟩) = (l, 9) := by rw [moveS, hM2]; simp [retR]
    rw [hX]
    simp [pairP, ht, q4']
    omega
  · have q5' : ¬ (tt : Int) = i := by omega
    have q5'' : ¬ (i : Int) = tt := by omega
    have hM2 : moveE l ⟨num, kind, k :: ns, [(n : Int)], text⟩ = 0 := by rw [hM]; simp [firstE, whenE, q5'']
    have hX : retR l (moveS l ⟨num, kind, k :: ns, [(n : Int)], text⟩) = ((l.eraseIdx i).insertIdx tt l[i], 0) := by
      have hP : placeN ⟨num, kind, k :: ns, [(n : Int)], text⟩ = tt := ht
      rw [moveS, hM2]; simp [retR, hK, hP, e1, hi]
    have htl : tt ≤ (l.eraseIdx i).length := by simp at q4'; omega
    rw [hX, ins_eq _ _ _ htl]
    have sE := shpR (l.eraseIdx i)
    generalize hQ : l.eraseIdx i = E at *
    have s1 := shpR (E.take tt)
    have s2 := shpR (E.drop tt)
    rw [List.map_take] at s1
    rw [List.map_drop] at s2
    have m1 : tt + 1 ≤ maxL := by simp only [maxL]; omega
    have m2 : E.length - tt ≤ maxL := by simp only [maxL]; omega
    have m3 : tt + 1 + (E.length - tt) ≤ maxL := by simp only [maxL]; omega
    have m4 : tt ≤ maxL := by simp only [maxL]; omega
    have hR : shp (eRow l[i]) = .agg 54 := rfl
    have ql : tt ≤ l.length - 1 := by omega
    by_cases h0 : tt = 0
    · subst h0
      by_cases hn : E = []
      · subst hn
        simp [pairP, ht, q4', q5', hi, hR, m1]
        exact ⟨by omega, ⟨rfl, rfl⟩, rfl⟩
      · simp [pairP, ht, q4', q5', hi, hn, hR, m1, m2, m3, s1, s2]
        refine ⟨by omega, sE, ⟨⟨rfl, rfl⟩, rfl⟩, sE, ⟨sE, by simp only [maxL]; omega⟩, by omega, purl_of ?_⟩
        rw [List.take_of_length_le (by simp; omega)]
        simp
    · have h0E : E ≠ [] := by intro e; subst e; simp at htl; omega
      by_cases hn : E.length ≤ tt
      · simp [pairP, ht, q4', q5', hi, hn, hR, m1, m2, m3, m4, s1, s2, h0, h0E, htl, ql]
        refine ⟨sE, ⟨⟨rfl, rfl⟩, rfl⟩, sE, purl_of ?_⟩
        rw [List.take_of_length_le (by simp; omega), List.drop_eq_nil_of_le (by simpa using hn)]
        simp
      · simp [pairP, ht, q4', q5', hi, hn, hR, m1, m2, m3, m4, s1, s2, h0, h0E, htl, ql]
        refine ⟨sE, ⟨⟨rfl, rfl⟩, rfl⟩, sE, purl_of ?_⟩
        rw [List.take_of_length_le (by simp; omega), List.take_of_length_le (by simp; omega)]
        simp
end Go.Abs
namespace Go.Abs
open Go.Proofs
set_option maxHeartbeats 4000000
set_option maxRecDepth 100000
def diaryV (d : StoryD) : PV := .st 223 [.seq (d.evs.map eEvent), .seq (.seq [] :: d.sts.map eRows)]
theorem c_now (d : StoryD) (h : d.sts.length ≤ 1000) : GoodC Tryz.prog 143 [diaryV d] (.seq (d.now.map eRow)) := by
  refine good_fn nf isF143 mix (by simp [Tryz.f143]) ?_
  obtain ⟨evs, sts⟩ := d
  dsimp only at h
  rcases List.eq_nil_or_concat sts with rfl | ⟨t, x, rfl⟩
  · have hw : IntKind.i64.wrap 0 = 0 := by decide
    simp [Tryz.f143, diaryV, StoryD.now, hw]
  · simp only [List.concat_eq_append] at h ⊢
    simp at h
    have hl : IntKind.i64.wrap ((t.length : Int) + 1) = t.length + 1 := wi1 (by omega)
    have hz : 0 ≤ (t.length : Int) + 1 := by omega
    simp [Tryz.f143, diaryV, StoryD.now, hl, hz, eRows]
theorem shpE (l : List EventD) : allShp Tryz.prog 5 (l.map (AV.p ∘ eEvent)) := shp_map fun r => ⟨by simp [shpA], by simp [shpA]⟩
theorem shpS (l : List (List RowD)) : allShp Tryz.prog 1 (l.map (AV.p ∘ eRows)) := shp_map fun r => ⟨by simp [shpA, eRows, shp], by simp [shpA, eRows, shp, shpSize]⟩
theorem c_acceptR (d : StoryD) (J : List PV) (e : EventD) (he : evB e) (hc : chkEvent e = 0) (hb : StoryB d J) :
    GoodC Tryz.prog 147 [diaryV d, eEvent e] (.tup [diaryV (if acceptE d e = 0 then acceptD d e else d), .int .i64 (acceptE d e)]) := by
  have hn := now_B hb
  have hF := fun hu => c_follow d.now e he hc hu hn.1 hn.2
  have hN := c_now d (by have := hb.sj; have := hb.ev; omega)
  refine good_fn nf isF147 mix (by simp [Tryz.f147]) ?_
  have hev := hb.ev
  have hst : d.sts.length ≤ 1000 := by have := hb.sj; omega
  obtain ⟨evs, sts⟩ := d
  obtain ⟨num, kind, names, vals, text⟩ := e
  dsimp only at hev hst
  have hwn : IntKind.i64.wrap ((evs.length : Int) + 1) = evs.length + 1 := wi1 (by omega)
  by_cases q1 : num = evs.length + 1
  case neg =>
    have hA : acceptE ⟨evs, sts⟩ ⟨num, kind, names, vals, text⟩ = 11 := by simp [acceptE, q1]
    rw [hA]
    simp [Tryz.f147, diaryV, eEvent, hwn, q1]
  subst q1
  have s1 := shpE evs
  have s2 := shpS sts
  have m1 : evs.length + 1 ≤ maxL := by simp only [maxL]; omega
  have m2 : sts.length + 1 ≤ maxL := by simp only [maxL]; omega
  have m3 : evs.length ≤ maxL := by simp only [maxL]; omega
  by_cases q2 : kind = kUndo
  · subst q2
    rcases List.eq_nil_or_concat sts with rfl | ⟨t, x, rfl⟩
    · have hA : acceptE ⟨evs, []⟩ ⟨evs.length + 1, kUndo, names, vals, text⟩ = 12 := by simp [acceptE]
      rw [hA]
      by_cases h0 : evs = []
      · subst h0
        simp [Tryz.f147, diaryV, eEvent, hwn, kUndo]
        refine ⟨rfl, by decide, rfl, rfl, ⟨rfl, rfl⟩, rfl⟩
      · simp [Tryz.f147, diaryV, eEvent, hwn, kUndo, h0, s1, s2, m1, m2, m3]
        refine ⟨by decide, rfl, rfl, ⟨rfl, rfl⟩, rfl⟩
    · rw [List.concat_eq_append] at *
      have hA : acceptE ⟨evs, t ++ [x]⟩ ⟨evs.length + 1, kUndo, names, vals, text⟩ = 0 := by simp [acceptE]
      have hD : acceptD ⟨evs, t ++ [x]⟩ ⟨evs.length + 1, kUndo, names, vals, text⟩ = ⟨evs ++ [⟨evs.length + 1, kUndo, names, vals, text⟩], t⟩ := by simp [acceptD]
      rw [hA, hD]
      simp at hst
      have st := shpS t
      have stx : allShp Tryz.prog 1 (t.map (AV.p ∘ eRows) ++ [AV.p (eRows x)]) := by simpa using shpS (t ++ [x])
      have hw1 : IntKind.i64.wrap 1 = 1 := by decide
      have m5 : 1 ≤ maxL := by decide
      have sx : shpA (AV.p (eRows x)) = .leaf := rfl
      have w1 : IntKind.i64.wrap ((t.length : Int) + 1) = t.length + 1 := wi1 (by omega)
      have z1 : ¬ (t.length : Int) + 1 = 0 := by omega
      have z2 : 0 ≤ (t.length : Int) + 1 := by omega
      have m4 : t.length + 1 + 1 ≤ maxL := by simp only [maxL]; omega
      by_cases h0 : evs = []
      · subst h0
        simp [Tryz.f147, diaryV, eEvent, hwn, kUndo, w1, z1, z2, st, m4, stx, hw1, m5]
        refine ⟨⟨rfl, rfl, ⟨rfl, rfl⟩, rfl⟩, ?_⟩
        omega
      · simp [Tryz.f147, diaryV, eEvent, hwn, kUndo, h0, s1, st, m1, m2, m3, w1, z1, z2, m4, stx]
        refine ⟨⟨rfl, rfl, ⟨rfl, rfl⟩, rfl⟩, by omega, ?_⟩
        refine purl_of ?_
        rw [List.take_of_length_le (by simp)]
        simp [eEvent]
  · have hA : acceptE ⟨evs, sts⟩ ⟨evs.length + 1, kind, names, vals, text⟩ = (stepS (StoryD.now ⟨evs, sts⟩) ⟨evs.length + 1, kind, names, vals, text⟩).2 := by simp [acceptE, q2]
    have hD : acceptD ⟨evs, sts⟩ ⟨evs.length + 1, kind, names, vals, text⟩ = ⟨evs ++ [⟨evs.length + 1, kind, names, vals, text⟩], sts ++ [(stepS (StoryD.now ⟨evs, sts⟩) ⟨evs.length + 1, kind, names, vals, text⟩).1]⟩ := by simp [acceptD, q2]
    have hF := hF q2
    have q2' : ¬ kind = [117, 110, 100, 111] := q2
    rw [hA, hD]
    generalize stepS (StoryD.now ⟨evs, sts⟩) ⟨evs.length + 1, kind, names, vals, text⟩ = S at *
    obtain ⟨S, err⟩ := S
    simp only [diaryV] at hN
    simp only [eEvent, pairP] at hF
    have m4 : sts.length + 1 + 1 ≤ maxL := by simp only [maxL]; omega
    have hw1 : IntKind.i64.wrap 1 = 1 := by decide
    have m5 : 1 ≤ maxL := by decide
    by_cases h0 : evs = []
    · subst h0
      simp [Tryz.f147, diaryV, eEvent, hwn, q2', s2, m2, m4, hw1, m5]
      refine ⟨⟨rfl, rfl, ⟨rfl, rfl⟩, rfl⟩, ?_⟩
      refine e1 hN ?_
      simp
      refine e2 hF ?_
      by_cases hz : err = 0
      · simp [hz, retR, eEvent, m4]
        first
        | refine ⟨purl_of ?_, purl_of ?_⟩ <;> rw [List.take_of_length_le (by simp)] <;> simp [eEvent, eRows]
        | refine purl_of ?_; rw [List.take_of_length_le (by simp)]; simp [eRows]
      · simp [hz, retR]
    · simp [Tryz.f147, diaryV, eEvent, hwn, q2', h0, s1, s2, m1, m2, m3, m4, hw1, m5]
      refine ⟨⟨rfl, rfl, ⟨rfl, rfl⟩, rfl⟩, ?_⟩
      refine e1 hN ?_
      simp
      refine e2 hF ?_
      by_cases hz : err = 0
      · simp [hz, retR, eEvent, m4]
        first
        | refine ⟨purl_of ?_, purl_of ?_⟩ <;> rw [List.take_of_length_le (by simp)] <;> simp [eEvent, eRows]
        | refine purl_of ?_; rw [List.take_of_length_le (by simp)]; simp [eRows]
      · simp [hz, retR]
end Go.Abs
namespace Go.Abs
open Go.Proofs
set_option maxHeartbeats 4000000
set_option maxRecDepth 100000
theorem next_B0 {d : StoryD} {e : EventD} (h : StoryB d []) (he : evB e) (hl : d.evs.length < 1000) (ha : addE d e = 0) : StoryB (acceptD d e) [] := by
  have hN : nextD d e = acceptD d e := by rw [nextD, if_pos ha]
  rw [← hN]
  refine next_B h he hl ?_
  rw [hN]
  have := h.sj
  simp [acceptD] at this ⊢
  split <;> simp <;> omega
@[simp] theorem shp_diary (d : StoryD) : shp (diaryV d) = .agg 223 := rfl
def rawD (i : Nat) (d : StoryD) : AV := if i = 0 then .st 223 [.p .nsl, .sl 1 0 1 0 1] else .p (diaryV d)
theorem c_played (l : List EventD) (hl : l.length ≤ 1048576) (he : ∀ e ∈ l, evB e) : GoodC Tryz.prog 142 [.seq (l.map eEvent)] (.tup [diaryV (playS l).1, .int .i64 (playS l).2.1, .int .i64 (playS l).2.2]) := by
  refine good_fn nf isF142 mix (by simp [Tryz.f142]) ?_
  by_cases h1 : 1000 < l.length
  · have h1' : (1000 : Int) < l.length := by omega
    have hp : playS l = (⟨[], []⟩, 0, 5) := by rw [playS, if_pos h1]
    rw [hp]
    simp [Tryz.f142, h1', diaryV]
  have h1' : ¬ (1000 : Int) < l.length := by omega
  have hp : playS l = playL l 0 ⟨[], []⟩ := by rw [playS, if_neg h1]
  rw [hp]
  generalize hR : playL l 0 ⟨[], []⟩ = R
  simp [Tryz.f142, h1']
  refine lp (α := Nat × StoryD) (fun (i, d) => ⟨[(6, .p (.int .i64 i)), (5, .ptr 2 []), (2, .ptr 0 []), (0, .p (.seq (l.map eEvent)))], [.box false (.p (.st 223 [.nsl, .nsl])), if i = 0 then .arr .exact 0 1 [.p .nsl] else .dead, .box false (rawD i d)]⟩)
    (fun (i, d) => i ≤ l.length ∧ R = playL (l.drop i) i d ∧ d.evs.length = i ∧ StoryB d [] ∧ (i = 0 → d = ⟨[], []⟩)) (fun (i, _) => l.length - i) (0, ⟨[], []⟩) ⟨by simp, by simp [hR], rfl, ⟨by simp, by simp, by simp⟩, fun _ => rfl⟩ ?_ (hh := by simp [rawD]) (hr2 := by simp [rawD])
  rintro ⟨i, d⟩ ⟨k1, k2, k3, k4, k5⟩
  dsimp only at k1 k2 k3 k4 k5 ⊢
  have hw := wi1 (i := i) (by omega)
  by_cases hi : i < l.length
  · rw [List.drop_eq_getElem_cons hi, playL] at k2
    have hei := he _ (List.getElem_mem hi)
    have hge : l[i]? = some l[i] := List.getElem?_eq_getElem hi
    have hgm : (l.map eEvent)[i]? = some (eEvent l[i]) := by rw [List.getElem?_map, hge]; rfl
    have hse : shp (eEvent l[i]) = .agg 60 := rfl
    have hC := c_checkEventR l[i] hei
    have hA : addE d l[i] = firstE [chkEvent l[i], acceptE d l[i]] := rfl
    simp [hi]
    refine c1 hC ?_
    by_cases hc : chkEvent l[i] = 0
    · have hA2 : addE d l[i] = acceptE d l[i] := by
        rw [hA, firstE, if_pos hc]; simp only [firstE]; split <;> simp_all
      have hG := c_acceptR d [] l[i] hei hc k4
      by_cases h0 : i = 0
      · have hd := k5 h0
        subst h0
        have hw1 : IntKind.i64.wrap 1 = 1 := by decide
        simp [hc, rawD, hge, hse]
        have hI : GoodI Tryz.prog 147 [.arr .exact 0 1 [.p .nsl]] [.st 223 [.p .nsl, .sl 0 0 1 0 1], .p (eEvent l[0])] [.dead] (.p (.tup [diaryV (if acceptE d l[0] = 0 then acceptD d l[0] else d), .int .i64 (acceptE d l[0])])) :=
          GoodC.eat 9 hG isF147.enters (by subst hd; simp [diaryV]) (by intro b L h; rcases b with _ | b <;> simp at h)
        refine ef hI [1] ?_
        by_cases ha : acceptE d l[0] = 0
        · rw [if_neg (by rw [hA2]; simpa using ha)] at k2
          have hN := next_B0 k4 hei (by omega) (by rw [hA2]; exact ha)
          simp [ha, hw, setAll, sig]
          refine ⟨rfl, ?_⟩
          exact rd (1, acceptD d l[0]) ⟨hi, k2, by simp [acceptD, k3], hN, by omega⟩ (h1 := by dsimp only; omega) (he := by simp [hw1]) (hh := by simp [rawD]) (hr2 := by simp [rawD])
        · rw [if_pos (by rw [hA2]; exact ha)] at k2
          simp [ha, k2, hA2, hw1, setAll, sig]
          rfl
      · simp [hc, rawD, h0, hge, hse]
        refine e2 hG ?_
        by_cases ha : acceptE d l[i] = 0
        · rw [if_neg (by rw [hA2]; simpa using ha)] at k2
          have hN := next_B0 k4 hei (by omega) (by rw [hA2]; exact ha)
          simp [ha, hw, setAll, sig]
          refine ⟨rfl, ?_⟩
          exact rd (i + 1, acceptD d l[i]) ⟨hi, k2, by simp [acceptD, k3], hN, by omega⟩ (h1 := by dsimp only; omega) (hh := by simp [rawD]) (hr2 := by simp [rawD])
        · rw [if_pos (by rw [hA2]; exact ha)] at k2
          simp [ha, k2, hA2, hw, setAll, sig]
          rfl
    · have hA2 : addE d l[i] = chkEvent l[i] := by rw [hA, firstE, if_neg hc]
      rw [if_pos (by rw [hA2]; exact hc)] at k2
      simp [hc, hw, k2, hA2]
      by_cases h0 : i = 0
      · have hd := k5 h0
        subst h0
        subst hd
        simp [rawD, diaryV]
      · simp [rawD, h0]
  · have : i = l.length := by omega
    subst this
    rw [List.drop_length, playL] at k2
    simp [k2]
    by_cases h0 : l.length = 0
    · have hd := k5 h0
      subst hd
      have hl0 : l = [] := List.eq_nil_of_length_eq_zero h0
      simp [rawD, diaryV, hl0]
    · simp [rawD, h0]
end Go.Abs
namespace Go.Abs
open Go.Proofs
set_option maxHeartbeats 4000000
set_option maxRecDepth 100000
theorem playL_B {l : List EventD} : ∀ {i : Nat} {d : StoryD}, StoryB d [] → (∀ e ∈ l, evB e) → d.evs.length + l.length ≤ 1000 → StoryB (playL l i d).1 [] := by
  induction l with
  | nil => intro i d h _ _; exact h
  | cons a r ih =>
    intro i d h he hn
    rw [playL]
    simp only [List.length_cons] at hn
    split
    · exact h
    · rename_i ha
      have ha := Classical.not_not.1 ha
      exact ih (next_B0 h (he a (by simp)) (by omega) ha) (fun e h => he e (List.mem_cons_of_mem _ h)) (by simp [acceptD]; omega)
theorem playS_B {l : List EventD} (he : ∀ e ∈ l, evB e) : StoryB (playS l).1 [] := by
  have h0 : StoryB ⟨[], []⟩ [] := ⟨by simp, by simp, by simp⟩
  rw [playS]
  split
  · exact h0
  · exact playL_B h0 he (by simp; omega)
theorem c_ReplayR (l : List EventD) (hl : l.length ≤ 1048576) (he : ∀ e ∈ l, evB e) : GoodC Tryz.prog 54 [.seq (l.map eEvent)] (.tup [.seq ((replayS l).1.map eRow), .int .i64 (replayS l).2.1, .int .i64 (replayS l).2.2]) := by
  refine good_fn nf isF54 mix (by simp [Tryz.f54]) ?_
  have hP := c_played l hl he
  have hB := playS_B he
  have hS : replayS l = if (playS l).2.2 ≠ 0 then ([], (playS l).2.1, (playS l).2.2) else ((playS l).1.now, 0, 0) := rfl
  rw [hS]
  generalize playS l = R at *
  obtain ⟨d, pl, err⟩ := R
  dsimp only at hP hB ⊢
  have hN := c_now d (by have := hB.sj; have := hB.ev; simp at *; omega)
  simp [Tryz.f54]
  refine c1 hP ?_
  by_cases hz : err = 0
  · subst hz
    simp
    refine c1 hN ?_
    simp
  · simp [hz]
theorem c_AcceptsR (l : List EventD) (e : EventD) (hl : l.length ≤ 1048576) (he : ∀ e ∈ l, evB e) (hee : evB e) : GoodC Tryz.prog 58 [.seq (l.map eEvent), eEvent e] (.int .i64 (acceptsS l e)) := by
  refine good_fn nf isF58 mix (by simp [Tryz.f58]) ?_
  have hP := c_played l hl he
  have hB := playS_B he
  have hC := c_checkEventR e hee
  have hS : acceptsS l e = if firstE [(playS l).2.2, chkEvent e, whenE (decide (1000 ≤ l.length)) 5] ≠ 0 then firstE [(playS l).2.2, chkEvent e, whenE (decide (1000 ≤ l.length)) 5] else acceptE (playS l).1 e := rfl
  rw [hS]
  generalize playS l = R at *
  obtain ⟨d, pl, err⟩ := R
  dsimp only at hP hB ⊢
  simp [Tryz.f58]
  refine c1 hP ?_
  by_cases hz : err = 0
  · subst hz
    simp
    refine c1 hC ?_
    by_cases hc : chkEvent e = 0
    · by_cases hm : 1000 ≤ l.length
      · have hm' : (1000 : Int) ≤ l.length := by omega
        simp [hc, hm, hm', firstE, whenE]
      · have hm' : ¬ (1000 : Int) ≤ l.length := by omega
        simp [hc, hm, hm', firstE, whenE]
        refine c2 (c_acceptR d [] e hee hc hB) ?_
        have hm2 : l.length < 1000 := by omega
        simp [hc, hm2]
    · simp [hc, firstE]
  · simp [hz, firstE]
def evW (e : EventD) : Prop := ∀ c ∈ e.text, c < 256
theorem c_heard (l : List EventD) (hl : l.length ≤ 1048576) (he : ∀ e ∈ l, evW e) : GoodC Tryz.prog 34 [.seq (l.map eEvent)] (.bool (heardS l)) := by
  refine good_fn nf isF34 mix (by simp [Tryz.f34]) ?_
  have hS : heardS l = (l.all heardE && decide (l.length ≤ 24)) := rfl
  rw [hS]
  simp [Tryz.f34]
  refine lp (α := Nat) (fun i => ⟨[(9, .p (.int .i64 i)), (8, .p (.int .i64 l.length)), (7, .p (.seq (l.map eEvent))), (0, .p (.seq (l.map eEvent)))], []⟩)
    (fun i => i ≤ l.length ∧ (l.take i).all heardE = true) (fun i => l.length - i) 0 (by simp) ?_
  rintro i ⟨k1, k2⟩
  have hw := wi1 (i := i) (by omega)
  by_cases hi : i < l.length
  · have hei := he _ (List.getElem_mem hi)
    have hge : l[i]? = some l[i] := List.getElem?_eq_getElem hi
    have hall : heardE l[i] = false → (∀ x ∈ l, heardE x = true) → 24 < l.length := fun h h' => by
      rw [h' _ (List.getElem_mem hi)] at h; cases h
    have hnext : heardE l[i] = true → (l.take (i + 1)).all heardE = true := fun h => by
      rw [List.take_succ_eq_append_getElem hi, List.all_append, k2]; simpa using h
    generalize hl1 : l[i] = e at *
    obtain ⟨num, kind, names, vals, text⟩ := e
    have hH : heardE ⟨num, kind, names, vals, text⟩ = (decide (kind.length ≤ 60) && decide (names.length ≤ 5) && decide (vals.length ≤ 5) && decide (text.length ≤ 300) && names.all fun s => decide (s.length ≤ 60)) := rfl
    by_cases c1 : kind.length ≤ 60
    case neg =>
      have c1' : ¬ (kind.length : Int) ≤ 60 := by omega
      have d1 : (60 : Int) < kind.length := by omega
      simp [hi, hl1, eEvent, c1', d1]
      exact hall (by simp [hH, c1])
    have c1' : (kind.length : Int) ≤ 60 := by omega
    have d1 : ¬ (60 : Int) < kind.length := by omega
    by_cases c2 : names.length ≤ 5
    case neg =>
      have c2' : ¬ (names.length : Int) ≤ 5 := by omega
      have d2 : (5 : Int) < names.length := by omega
      simp [hi, hl1, eEvent, c1', d1, c2', d2]
      exact hall (by simp [hH, c2])
    have c2' : (names.length : Int) ≤ 5 := by omega
    have d2 : ¬ (5 : Int) < names.length := by omega
    by_cases c3 : vals.length ≤ 5
    case neg =>
      have c3' : ¬ (vals.length : Int) ≤ 5 := by omega
      have d3 : (5 : Int) < vals.length := by omega
      simp [hi, hl1, eEvent, c1', d1, c2', d2, c3', d3]
      exact hall (by simp [hH, c3])
    have c3' : (vals.length : Int) ≤ 5 := by omega
    have d3 : ¬ (5 : Int) < vals.length := by omega
    by_cases c4 : text.length ≤ 300
    case neg =>
      have c4' : ¬ (text.length : Int) ≤ 300 := by omega
      have d4 : (300 : Int) < text.length := by omega
      simp [hi, hl1, eEvent, c1', d1, c2', d2, c3', d3, c4', d4]
      exact hall (by simp [hH, c4])
    have c4' : (text.length : Int) ≤ 300 := by omega
    have d4 : ¬ (300 : Int) < text.length := by omega
    simp [hi, hl1, eEvent, c1', d1, c2', d2, c3', d3, c4', d4]
    refine lp (α := Nat) (fun k => ⟨[(38, .p (.int .i64 k)), (37, .p (.int .i64 names.length)), (36, .p (.seq (names.map .str))), (9, .p (.int .i64 i)), (8, .p (.int .i64 l.length)), (7, .p (.seq (l.map eEvent))), (0, .p (.seq (l.map eEvent)))], []⟩)
      (fun k => k ≤ names.length ∧ (names.take k).all (fun s => decide (s.length ≤ 60)) = true) (fun k => names.length - k) 0 (by simp) ?_
    rintro k ⟨q1, q2⟩
    by_cases hk : k < names.length
    · have hwk := wi1 (i := k) (by omega)
      by_cases c5 : names[k].length ≤ 60
      · have c5' : ¬ (60 : Int) < names[k].length := by omega
        simp [hk, c5']
        refine rd (k + 1) ⟨hk, ?_⟩ (he := by simp [hwk])
        rw [List.take_succ_eq_append_getElem hk, List.all_append, q2]
        simpa using c5
      · have c5' : (60 : Int) < names[k].length := by omega
        simp [hk, c5']
        refine hall ?_
        have : (names.all fun s => decide (s.length ≤ 60)) = false := by
          rw [List.all_eq_false]; exact ⟨names[k], List.getElem_mem hk, by simpa using c5⟩
        rw [hH, this, Bool.and_false]
    · have : k = names.length := by omega
      subst this
      rw [List.take_length] at q2
      simp
      refine rd (i + 1) ⟨hi, hnext ?_⟩ (he := by simp [hw])
      rw [hH, q2]
      simp [c1, c2, c3, c4]
  · have : i = l.length := by omega
    subst this
    rw [List.take_length] at k2
    simp [k2]
    omega
theorem heard_B {e : EventD} (h : heardE e = true) (hw : evW e) : evB e := by
  simp only [heardE, Bool.and_eq_true, decide_eq_true_eq, List.all_eq_true] at h
  obtain ⟨⟨⟨⟨h1, h2⟩, h3⟩, h4⟩, h5⟩ := h
  exact ⟨by omega, by omega, fun s hs => by have := h5 s hs; omega, by omega, by omega, hw⟩
theorem heardS_B {l : List EventD} (h : heardS l = true) (hw : ∀ e ∈ l, evW e) : ∀ e ∈ l, evB e := by
  simp only [heardS, Bool.and_eq_true, List.all_eq_true] at h
  exact fun e he => heard_B (h.1 e he) (hw e he)
end Go.Abs
namespace Go.Abs
open Go.Proofs Go.Proofs.YthckccalfpnmaaaGreatDoor
set_option maxRecDepth 100000
section
variable {H : Type} {W : World} {Imm : Nat → Prop}
theorem five_of {P : Program} {n : Nat} {t : TypeId} {f0 f1 f2 f3 f4 : Field} {k0 k1 k2 k3 k4 : Nat} (ht : P.underlying t = some (.struct #[f0, f1, f2, f3, f4])) (hs : szs P (P.underlyingId t) = some [k0, k1, k2, k3, k4])
    {d : DataW H} {cs : List Value} (h : PVC P W Imm (toPV P (n + 1) t d) cs) :
    ∃ (a b c d' e : DataW H) (c0 c1 c2 c3 c4 : List Value), toPV P (n + 1) t d = .st (P.underlyingId t) [toPV P n f0.type a, toPV P n f1.type b, toPV P n f2.type c, toPV P n f3.type d', toPV P n f4.type e] ∧
      PVC P W Imm (toPV P n f0.type a) c0 ∧ PVC P W Imm (toPV P n f1.type b) c1 ∧ PVC P W Imm (toPV P n f2.type c) c2 ∧ PVC P W Imm (toPV P n f3.type d') c3 ∧ PVC P W Imm (toPV P n f4.type e) c4 := by
  cases d with
  | agg l =>
    simp only [toPV, ht, PVC] at h ⊢
    obtain ⟨l', css, h1, h2, _⟩ := h
    rw [hs] at h1; cases h1
    match l, h2 with
    | [], h2 => simp [PVCl] at h2
    | [_], h2 => simp [PVCl] at h2
    | [_, _], h2 => simp [PVCl] at h2
    | [_, _, _], h2 => simp [PVCl] at h2
    | [_, _, _, _], h2 => simp [PVCl] at h2
    | a :: b :: c :: d' :: e :: r, h2 =>
      simp only [List.zip_cons_cons, List.map_cons, PVCl, List.zip_nil_left, List.map_nil] at h2 ⊢
      obtain ⟨c0, _, _, g0, _, c1, _, _, g1, _, c2, _, _, g2, _, c3, _, _, g3, _, c4, _, _, g4, _⟩ := h2
      exact ⟨a, b, c, d', e, c0, c1, c2, c3, c4, rfl, g0, g1, g2, g3, g4⟩
  | _ => simp only [toPV, ht, PVC] at h
theorem un61' : ∃ f0 f1 f2 f3 f4 : Field, Tryz.prog.underlying 61 = some (.struct #[f0, f1, f2, f3, f4]) ∧ f0.type = 3 ∧ f1.type = 9 ∧ f2.type = 44 ∧ f3.type = 53 ∧ f4.type = 9 := ⟨_, _, _, _, _, Tryz.underlying61, rfl, rfl, rfl, rfl, rfl⟩
theorem uid61 : Tryz.prog.underlyingId 61 = 60 := by kernel_rfl
theorem strB_of {n : Nat} (d : DataW H) (c) (h : PVC Tryz.prog W Imm (toPV Tryz.prog (n + 1) 9 d) c) : ∃ s : List Nat, toPV Tryz.prog (n + 1) 9 d = .str s ∧ ∀ c ∈ s, c < 256 := by
  cases d with
  | lit l =>
    cases l with
    | string bytes =>
      refine ⟨bytes.map (·.toNat), by simp only [toPV, un9], ?_⟩
      intro c hc
      obtain ⟨u, _, rfl⟩ := List.mem_map.1 hc
      exact u.toNat_lt
    | _ => simp only [toPV, un9, PVC] at h
  | _ => simp only [toPV, un9, PVC] at h
theorem event_of {n : Nat} (d : DataW H) (c) (h : PVC Tryz.prog W Imm (toPV Tryz.prog (n + 3) 61 d) c) : ∃ e : { e : EventD // evW e }, toPV Tryz.prog (n + 3) 61 d = eEvent e.1 := by
  obtain ⟨f0, f1, f2, f3, f4, hu, t0, t1, t2, t3, t4⟩ := un61'
  obtain ⟨a, b, x, y, z, c0, c1, c2, c3, c4, h1, g0, g1, g2, g3, g4⟩ := five_of hu (by rw [uid61]; exact sz60) h
  rw [t0] at h1 g0; rw [t1] at h1 g1; rw [t2] at h1 g2; rw [t3] at h1 g3; rw [t4] at h1 g4
  obtain ⟨num, e0⟩ := int_of a c0 g0
  obtain ⟨kind, e1⟩ := str_of b c1 g1
  obtain ⟨names, e2, _⟩ := seq_of un44 (fun d c hh => str_of d c hh) g2
  obtain ⟨vals, e3, _⟩ := seq_of un53 (fun d c hh => int_of d c hh) g3
  obtain ⟨text, e4, hb⟩ := strB_of z c4 g4
  exact ⟨⟨⟨num, kind, names, vals, text⟩, hb⟩, by rw [h1, e0, e1, e2, e3, e4, uid61]; rfl⟩
theorem event_arg {d : DataW H} (h : ∃ cs, PVC Tryz.prog W Imm (toPV Tryz.prog 8 61 d) cs) (_hb : Rows.uptoBulk d ≤ 1048576) : ∃ e : EventD, toPV Tryz.prog 8 61 d = eEvent e ∧ True ∧ evW e := by
  obtain ⟨cs, h⟩ := h
  obtain ⟨e, he⟩ := event_of (n := 5) d cs h
  exact ⟨e.1, he, trivial, e.2⟩
theorem events_arg {d : DataW H} (h : ∃ cs, PVC Tryz.prog W Imm (toPV Tryz.prog 8 63 d) cs) (hb : Rows.uptoBulk d ≤ 1048576) : ∃ l : List EventD, toPV Tryz.prog 8 63 d = .seq (l.map eEvent) ∧ l.length ≤ 1048576 ∧ ∀ e ∈ l, evW e := by
  obtain ⟨l, h1, h2⟩ := list_arg (n := 7) un63 (fun d c hc => event_of (n := 4) d c hc) h hb
  refine ⟨l.map (·.1), by rw [h1, List.map_map]; rfl, by simpa using h2, ?_⟩
  intro e he
  obtain ⟨x, _, rfl⟩ := List.mem_map.1 he
  exact x.2
end
end Go.Abs
namespace Go.Abs
open Go.Proofs
set_option maxHeartbeats 4000000
set_option maxRecDepth 100000
theorem replay_B {l : List EventD} (he : ∀ e ∈ l, evB e) : rowsB (replayS l).1 := by
  have hB := now_B (playS_B he)
  rw [replayS]
  split
  · exact ⟨by simp, by simp⟩
  · exact ⟨by have := hB.1; simp; omega, hB.2⟩
theorem c_law8 (hw : GoodC Tryz.prog 17 [] (.bool true)) (l : List EventD) (e : EventD) (hl : l.length ≤ 1048576) (_ : True) (hW : ∀ e ∈ l, evW e) (hWe : evW e) :
    GoodC Tryz.prog 8 [.seq (l.map eEvent), eEvent e] (.bool true) := by
  refine good_fn nf isF8 mix (by simp [Tryz.f8]) ?_
  have hse : shp (eEvent e) = .agg 60 := rfl
  simp [Tryz.f8]
  refine c1 (c_heard l hl hW) ?_
  by_cases s1 : heardS l = true
  case neg =>
    simp [s1]
    refine c0 hw ?_
    simp
  simp [s1, hse]
  have hH1 := c_heard [e] (by simp) (by simpa using hWe)
  refine cp hH1 (by simp; exact ⟨rfl, rfl⟩) ?_ (h1 := by simp)
  by_cases s2 : heardS [e] = true
  case neg =>
    simp [s2]
    refine c0 hw ?_
    simp
  simp [s2, hse]
  have he := heardS_B s1 hW
  have hee := heardS_B s2 (by simpa using hWe) e (by simp)
  refine c1 (c_Replay l hl he) ?_
  simp
  refine c1 (c_ReplayR l hl he) ?_
  have hB := replay_B he
  have hSm := c_sameRows (replayS l).1 (replayS l).1 hB hB
  have hOw := c_own (replayS l).1 hB.1
  generalize replayS l = R at *
  obtain ⟨R, at', no⟩ := R
  dsimp only at hB hSm hOw ⊢
  rw [eRows] at hSm
  simp [hse]
  refine e1 (c_checkEvent e hee) ?_
  simp [hse]
  refine e1 (c_checkEventR e hee) ?_
  simp
  refine e1 hOw ?_
  simp
  refine e2 hSm ?_
  simp [hse]
  refine e2 (c_Accepts l e hl he hee) ?_
  simp [hse]
  refine e2 (c_AcceptsR l e hl he hee) ?_
  simp
  refine e0 hw ?_
  simp
end Go.Abs
