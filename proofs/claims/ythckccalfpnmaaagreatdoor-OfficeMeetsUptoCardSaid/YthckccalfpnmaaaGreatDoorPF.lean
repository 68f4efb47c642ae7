import Derived.Test.YthckccalfpnmaaaGreatDoorPE
/-
  Walks: the least script, by the office.
-/
set_option linter.unusedSimpArgs false
set_option linter.unusedVariables false
set_option linter.unusedSectionVars false
namespace Go.Abs
open Go.Proofs
set_option maxHeartbeats 4000000
set_option maxRecDepth 100000
theorem c_script (a b : List RowD) (ha : rowsB a) (hb : rowsB b) (la : a.length ≤ 1000) (lb : b.length ≤ 1000) : GoodC Tryz.prog 170 [.seq (a.map eRow), .seq (b.map eRow), .func 171 [] [], .func 172 [] []] (.seq ((diffS a b).map eEdit)) := by
  refine good_fn nf isF170 mix (by simp [Tryz.f170]) ?_
  have wa := wi1 (i := a.length) (by omega)
  have wb := wi1 (i := b.length) (by omega)
  simp [Tryz.f170, wa, maxL]
  refine ⟨by omega, ?_⟩
  refine lp (α := Nat) (fun j => ⟨[(10, .p (.int .i64 ((a.length : Int) - j))), (9, .sl 0 0 1 0 (a.length + 1)), (3, .p (.func 172 [] [])), (2, .p (.func 171 [] [])), (1, .p (.seq (b.map eRow))), (0, .p (.seq (a.map eRow)))], tabG a b j⟩) (fun j => j ≤ a.length + 1) (fun j => a.length + 1 - j) 0 (by simp) ?_ (he := by simp) (hh := by simp [tabG, outR_zero, rowsR]) (hr := by simp [tabG]) (hr2 := tabG_refs fun q hq => tabG_in hq)
  intro j hj
  by_cases hji : j ≤ a.length
  · obtain ⟨i, hi⟩ : ∃ i, i + j = a.length := ⟨a.length - j, by omega⟩
    have ej : (a.length : Int) - j = (i : Int) := by omega
    have w1 : IntKind.i64.wrap ((i : Int) - 1) = (i : Int) - 1 := wi64 _ (by omega) (by omega)
    rw [ej]
    have hO := outR_get (b := b) (j := j) (show i ≤ a.length by omega)
    rw [if_neg (by omega)] at hO
    simp [wb, maxL, tabG_new, tabN_0, tabG_len, outR_len, hO, tabN_set hi]
    refine ⟨by omega, by omega, ?_⟩
    refine lp (α := Nat) (fun t => ⟨[(11, .p (.int .i64 ((b.length : Int) - t))), (10, .p (.int .i64 i)), (9, .sl 0 0 1 0 (a.length + 1)), (3, .p (.func 172 [] [])), (2, .p (.func 171 [] [])), (1, .p (.seq (b.map eRow))), (0, .p (.seq (a.map eRow)))], tabH a b j (partR a b i t)⟩) (fun t => t ≤ b.length + 1) (fun t => b.length + 1 - t) 0 (by simp) ?_ (he := by simp) (hh := keepHg_refl) (hr := by simp only [RefsE, refsLt, and_true, true_and]; exact tabH_in (by omega)) (hr2 := tabH_refs fun q hq => tabH_in hq)
    intro t ht
    by_cases htk : t ≤ b.length
    · obtain ⟨k, hk⟩ : ∃ k, k + t = b.length := ⟨b.length - t, by omega⟩
      have et : (b.length : Int) - t = (k : Int) := by omega
      rw [et]
      have w2 : IntKind.i64.wrap ((k : Int) - 1) = (k : Int) - 1 := wi64 _ (by omega) (by omega)
      have hO1 := outR_get (b := b) (j := j + 1) (show i ≤ a.length by omega)
      rw [if_pos (by omega), show a.length + 1 - i = j + 1 by omega] at hO1
      have hs := partR_set (a := a) (i := i) hk
      have hset := fun v => partR_set2 (a := a) (i := i) hk v
      have hP := fun c : List AV => tabH_set (a := a) (b := b) j c
      by_cases hia : i = a.length
      · have hv := costC_a (a := a) (b := b) (k := k) (by omega)
        have wv : IntKind.i64.wrap ((b.length : Int) - k) = costC a b i k := by rw [hia, hv]; exact wi64 _ (by omega) (by omega)
        subst hia
        simp [tabH_0, hO1, tabH_cur, wv, partR_get (show k ≤ b.length by omega), hs, tabH_set, w2]
        refine ⟨by omega, ?_⟩
        exact rd (t + 1) (by omega) (he := by simp; omega) (hh := keepHg_refl) (hr := by simp only [RefsE, refsLt, and_true, true_and]; exact tabH_in (by omega)) (hr2 := tabH_refs fun q hq => tabH_in hq)
      · have hia' : ¬ (i : Int) = a.length := by omega
        by_cases hkb : k = b.length
        · have hv := costC_b (a := a) (b := b) (i := i) (by omega)
          have wv : IntKind.i64.wrap ((a.length : Int) - i) = costC a b i k := by rw [hkb, hv]; exact wi64 _ (by omega) (by omega)
          subst hkb
          simp [tabH_0, hO1, tabH_cur, wv, partR_get (show b.length ≤ b.length by omega), hs, tabH_set, w2, hia, hia']
          refine ⟨by omega, ?_⟩
          exact rd (t + 1) (by omega) (he := by simp; omega) (hh := keepHg_refl) (hr := by simp only [RefsE, refsLt, and_true, true_and]; exact tabH_in (by omega)) (hr2 := tabH_refs fun q hq => tabH_in hq)
        · have hkb' : ¬ (k : Int) = b.length := by omega
          have hia2 : i < a.length := by omega
          have hkb2 : k < b.length := by omega
          have hO2 := outR_get (b := b) (j := j + 1) (show i + 1 ≤ a.length by omega)
          rw [if_pos (by omega), show a.length + 1 - (i + 1) = j by omega] at hO2
          have hR := fun c : List AV => tabH_row (a := a) (b := b) (j := j) (p := i + 1) c (by omega) (by omega)
          simp only [show a.length + 1 - (i + 1) = j by omega] at hR
          have hF1 := fullR_get (a := a) (b := b) (i := i + 1) (k := k) (by omega)
          have hF2 := fullR_get (a := a) (b := b) (i := i + 1) (k := k + 1) (by omega)
          have hP1 := partR_get (a := a) (b := b) (i := i) (t := t) (k := k + 1) (by omega)
          rw [if_pos (by omega)] at hP1
          have hP0 := partR_get (a := a) (b := b) (i := i) (t := t) (k := k) (by omega)
          have wi := wi1 (i := i) (by omega)
          have wk := wi1 (i := k) (by omega)
          have hst := costC_step hia2 hkb2
          have q1 := costC_bd a b (i + 1) k
          have q2 := costC_bd a b i (k + 1)
          have q3 := costC_bd a b (i + 1) (k + 1)
          generalize hC1 : costC a b (i + 1) k = C1 at *
          generalize hC2 : costC a b i (k + 1) = C2 at *
          generalize hC3 : costC a b (i + 1) (k + 1) = C3 at *
          have hm : (if C2 < C1 then C2 else C1) = min C1 C2 := by omega
          have wm : IntKind.i64.wrap (1 + min C1 C2) = 1 + min C1 C2 := wi64 _ (by omega) (by omega)
          simp [tabH_0, hO1, hO2, hR, hF1, hF2, hP1, hP0, tabH_cur, tabH_set, w2, hia, hia', hkb, hkb', wi, wk, hm, wm, hi, hkb2, hia2]
          refine ⟨by omega, by omega, by omega, by omega, by omega, by omega, ?_, ?_⟩
          · repeat' (first | exact rfl | refine ⟨?_, ?_⟩)
          refine e2 (c_same a[i] b[k] (ha.2 _ (List.getElem_mem hia2)) (hb.2 _ (List.getElem_mem hkb2))) ?_
          have hself : ((partR a b i t).set k (AV.p (PV.int IntKind.i64 (1 + min C1 C2))))[k]? = some (.p (.int .i64 (1 + min C1 C2))) := List.getElem?_set_self (by rw [partR_len]; omega)
          by_cases hab : a[i] = b[k]
          · rw [if_pos hab] at hst
            have hm2 : (if C3 < 1 + min C1 C2 then C3 else 1 + min C1 C2) = costC a b i k := by rw [hst]; omega
            simp [tabH_0, hO1, hO2, hR, hF1, hF2, tabH_cur, tabH_set, w2, hab, wi, wk, hself, hset, hm2]
            refine ⟨by omega, by omega, ⟨by omega, by omega⟩, ⟨by omega, by omega⟩, by omega, ?_, ?_⟩
            · repeat' (first | exact rfl | refine ⟨?_, ?_⟩)
            exact rd (t + 1) (by omega) (he := by simp; omega) (hh := keepHg_refl) (hr := by simp only [RefsE, refsLt, and_true, true_and]; exact tabH_in (by omega)) (hr2 := tabH_refs fun q hq => tabH_in hq)
          · rw [if_neg hab] at hst
            rw [hst] at hs
            simp [hab, w2, hs]
            exact rd (t + 1) (by omega) (he := by simp; omega) (hh := keepHg_refl) (hr := by simp only [RefsE, refsLt, and_true, true_and]; exact tabH_in (by omega)) (hr2 := tabH_refs fun q hq => tabH_in hq)
    · have htm : t = b.length + 1 := by omega
      subst htm
      have et : (b.length : Int) - ((b.length + 1 : Nat) : Int) = -1 := by omega
      rw [et]
      simp [partR_full, tabH_full hi, w1]
      exact rd (j + 1) (by omega) (he := by simp; omega) (hh := keepHg_refl) (hr := by simp only [RefsE, refsLt, and_true, true_and]; exact tabG_in (by omega)) (hr2 := tabG_refs fun q hq => tabG_in hq)
  · have hjm : j = a.length + 1 := by omega
    subst hjm
    have ej : (a.length : Int) - ((a.length + 1 : Nat) : Int) = -1 := by omega
    rw [ej]
    simp
    refine lp (α := Nat × Nat × List EditD) (fun (i, k, out) => ⟨[(14, .p (.int .i64 k)), (13, .p (.int .i64 i)), (12, .sl (a.length + 2) out.length 3 0 out.length), (9, .sl 0 0 1 0 (a.length + 1)), (3, .p (.func 172 [] [])), (2, .p (.func 171 [] [])), (1, .p (.seq (b.map eRow))), (0, .p (.seq (a.map eRow)))], tabE a b out⟩)
      (fun (i, k, out) => i ≤ a.length ∧ k ≤ b.length ∧ out.length ≤ i + k ∧ diffS a b = out ++ diffS (a.drop i) (b.drop k)) (fun (i, k, _) => (a.length - i) + (b.length - k)) (0, 0, []) (by simp) ?_
      (he := by simp [tabE_cur]) (hh := by show KeepHg (tabE a b []) (tabG a b (a.length + 1)) (tabG a b (a.length + 1) ++ [.arr .grow 0 3 []]); exact keepHg_app (by simp)) (hr := by simp only [RefsE, refsLt, and_true, true_and]; exact ⟨tabE_inE [], tabE_in (by omega)⟩) (hr2 := tabE_refs _)
    rintro ⟨i, k, out⟩ ⟨h1, h2, h3, h4⟩
    dsimp only at h1 h2 h3 h4 ⊢
    have wi := wi1 (i := i) (by omega)
    have wk := wi1 (i := k) (by omega)
    have hT := tabE_out (b := b) h1
    have hR := fun l => tabE_row (b := b) (p := i) l h1
    have hF := fullR_get (a := a) (i := i) h2
    have h0 := tabE_0 (a := a) (b := b)
    by_cases hi : i < a.length
    · have hT1 := tabE_out (b := b) (show i + 1 ≤ a.length by omega)
      have hR1 := fun l => tabE_row (b := b) (p := i + 1) l (show i + 1 ≤ a.length by omega)
      simp only [Nat.add_sub_add_right] at hT1 hR1
      have hF1 := fullR_get (a := a) (i := i + 1) h2
      have q2 := costC_bd a b (i + 1) k
      have wc : IntKind.i64.wrap (1 + costC a b (i + 1) k) = 1 + costC a b (i + 1) k := wi64 _ (by omega) (by omega)
      by_cases hk : k < b.length
      · have hF2 := fullR_get (a := a) (i := i + 1) (show k + 1 ≤ b.length by omega)
        rw [diff_both hi hk] at h4
        simp [hi, hk]
        refine e2 (c_same a[i] b[k] (ha.2 _ (List.getElem_mem hi)) (hb.2 _ (List.getElem_mem hk))) ?_
        by_cases hab : a[i] = b[k]
        · by_cases hc : costC a b i k = costC a b (i + 1) (k + 1)
          · rw [if_pos ⟨hab, hc⟩] at h4
            rw [decide_eq_true hab]
            simp [hi, hk, h0, hT, hT1, hR, hR1, hF, hF2, hc, wi, wk]
            repeat' with_reducible refine And.intro ?_ ?_
            all_goals first | omega | refine c2 (c_edited kKeep a[i] (ha.2 _ (List.getElem_mem hi))) ?_ | exact rfl
            simp [tabE_len, tabE_get, shp_edit, tabE_push, wi, wk]
            repeat' with_reducible refine And.intro ?_ ?_
            all_goals first | omega | (simp only [maxL]; omega) | exact rd (i + 1, k + 1, out ++ [(⟨kKeep, a[i]⟩ : EditD)]) ⟨hi, hk, by simp; omega, by rw [h4, List.append_assoc]; rfl⟩ (h1 := by simp; omega) (he := by simp) (hh := keepHg_pre) (hr := by simp only [RefsE, refsLt, and_true, true_and]; exact ⟨tabE_inE _, tabE_in (by omega)⟩) (hr2 := tabE_refs _)
          · rw [if_neg (fun h => hc h.2)] at h4
            rw [decide_eq_true hab]
            by_cases hd : costC a b i k = 1 + costC a b (i + 1) k
            · rw [if_pos hd] at h4
              have hc' : ¬ (1 + costC a b (i + 1) k = costC a b (i + 1) (k + 1)) := hd ▸ hc
              simp [hi, hk, h0, hT, hT1, hR, hR1, hF, hF1, hF2, hc', hd, wi, wk, wc]
              repeat' with_reducible refine And.intro ?_ ?_
              all_goals first | omega | refine c2 (c_edited kDrop a[i] (ha.2 _ (List.getElem_mem hi))) ?_ | exact rfl
              simp [tabE_len, tabE_get, shp_edit, tabE_push, wi, wk]
              repeat' with_reducible refine And.intro ?_ ?_
              all_goals first | omega | (simp only [maxL]; omega) | exact rd (i + 1, k, out ++ [(⟨kDrop, a[i]⟩ : EditD)]) ⟨hi, h2, by simp; omega, by rw [h4, List.append_assoc]; rfl⟩ (h1 := by simp; omega) (he := by simp) (hh := keepHg_pre) (hr := by simp only [RefsE, refsLt, and_true, true_and]; exact ⟨tabE_inE _, tabE_in (by omega)⟩) (hr2 := tabE_refs _)
            · rw [if_neg hd] at h4
              simp [hi, hk, h0, hT, hT1, hR, hR1, hF, hF1, hF2, hc, hd, wi, wk, wc]
              repeat' with_reducible refine And.intro ?_ ?_
              all_goals first | omega | refine c2 (c_edited kAdd b[k] (hb.2 _ (List.getElem_mem hk))) ?_ | exact rfl
              simp [tabE_len, tabE_get, shp_edit, tabE_push, wi, wk]
              repeat' with_reducible refine And.intro ?_ ?_
              all_goals first | omega | (simp only [maxL]; omega) | exact rd (i, k + 1, out ++ [(⟨kAdd, b[k]⟩ : EditD)]) ⟨h1, hk, by simp; omega, by rw [h4, List.append_assoc]; rfl⟩ (h1 := by simp; omega) (he := by simp) (hh := keepHg_pre) (hr := by simp only [RefsE, refsLt, and_true, true_and]; exact ⟨tabE_inE _, tabE_in (by omega)⟩) (hr2 := tabE_refs _)
        · rw [if_neg (fun h => hab h.1)] at h4
          rw [decide_eq_false hab]
          by_cases hd : costC a b i k = 1 + costC a b (i + 1) k
          · rw [if_pos hd] at h4
            simp [hi, hk, h0, hT, hT1, hR, hR1, hF, hF1, hd, wi, wk, wc]
            repeat' with_reducible refine And.intro ?_ ?_
            all_goals first | omega | refine c2 (c_edited kDrop a[i] (ha.2 _ (List.getElem_mem hi))) ?_ | exact rfl
            simp [tabE_len, tabE_get, shp_edit, tabE_push, wi, wk]
            repeat' with_reducible refine And.intro ?_ ?_
            all_goals first | omega | (simp only [maxL]; omega) | exact rd (i + 1, k, out ++ [(⟨kDrop, a[i]⟩ : EditD)]) ⟨hi, h2, by simp; omega, by rw [h4, List.append_assoc]; rfl⟩ (h1 := by simp; omega) (he := by simp) (hh := keepHg_pre) (hr := by simp only [RefsE, refsLt, and_true, true_and]; exact ⟨tabE_inE _, tabE_in (by omega)⟩) (hr2 := tabE_refs _)
          · rw [if_neg hd] at h4
            simp [hi, hk, h0, hT, hT1, hR, hR1, hF, hF1, hd, wi, wk, wc]
            repeat' with_reducible refine And.intro ?_ ?_
            all_goals first | omega | refine c2 (c_edited kAdd b[k] (hb.2 _ (List.getElem_mem hk))) ?_ | exact rfl
            simp [tabE_len, tabE_get, shp_edit, tabE_push, wi, wk]
            repeat' with_reducible refine And.intro ?_ ?_
            all_goals first | omega | (simp only [maxL]; omega) | exact rd (i, k + 1, out ++ [(⟨kAdd, b[k]⟩ : EditD)]) ⟨h1, hk, by simp; omega, by rw [h4, List.append_assoc]; rfl⟩ (h1 := by simp; omega) (he := by simp) (hh := keepHg_pre) (hr := by simp only [RefsE, refsLt, and_true, true_and]; exact ⟨tabE_inE _, tabE_in (by omega)⟩) (hr2 := tabE_refs _)
      · rw [diff_drop hi hk] at h4
        have hd := cost_last hi hk h2
        simp [hi, hk, h0, hT, hT1, hR, hR1, hF, hF1, hd, wi, wk, wc]
        repeat' with_reducible refine And.intro ?_ ?_
        all_goals first | omega | refine c2 (c_edited kDrop a[i] (ha.2 _ (List.getElem_mem hi))) ?_ | exact rfl
        simp [tabE_len, tabE_get, shp_edit, tabE_push, wi, wk]
        repeat' with_reducible refine And.intro ?_ ?_
        all_goals first | omega | (simp only [maxL]; omega) | exact rd (i + 1, k, out ++ [(⟨kDrop, a[i]⟩ : EditD)]) ⟨hi, h2, by simp; omega, by rw [h4, List.append_assoc]; rfl⟩ (h1 := by simp; omega) (he := by simp) (hh := keepHg_pre) (hr := by simp only [RefsE, refsLt, and_true, true_and]; exact ⟨tabE_inE _, tabE_in (by omega)⟩) (hr2 := tabE_refs _)
    · by_cases hk : k < b.length
      · rw [diff_add hi hk] at h4
        simp [hi, hk, wi, wk]
        repeat' with_reducible refine And.intro ?_ ?_
        all_goals first | omega | refine c2 (c_edited kAdd b[k] (hb.2 _ (List.getElem_mem hk))) ?_ | exact rfl
        simp [tabE_len, tabE_get, shp_edit, tabE_push, wi, wk]
        repeat' with_reducible refine And.intro ?_ ?_
        all_goals first | omega | (simp only [maxL]; omega) | exact rd (i, k + 1, out ++ [(⟨kAdd, b[k]⟩ : EditD)]) ⟨h1, hk, by simp; omega, by rw [h4, List.append_assoc]; rfl⟩ (h1 := by simp; omega) (he := by simp) (hh := keepHg_pre) (hr := by simp only [RefsE, refsLt, and_true, true_and]; exact ⟨tabE_inE _, tabE_in (by omega)⟩) (hr2 := tabE_refs _)
      · rw [diff_end hi hk, List.append_nil] at h4
        rw [h4]
        simp [hi, hk, tabE_cur]
end Go.Abs

/-
  Walks: the least script, by the reference.
-/
namespace Go.Abs
open Go.Proofs
set_option maxHeartbeats 4000000
set_option maxRecDepth 100000
theorem rEdit_mk (k : List Nat) (r : RowD) : rEdit ⟨k, r⟩ = .st 267 [.str k, eRow r] := rfl
theorem c_diffR (a b : List RowD) (ha : rowsB a) (hb : rowsB b) (la : a.length ≤ 1000) (lb : b.length ≤ 1000) : GoodC Tryz.prog 81 [.seq (a.map eRow), .seq (b.map eRow)] (.seq ((diffS a b).map rEdit)) := by
  refine good_fn nf isF81 mix (by simp [Tryz.f81]) ?_
  simp [Tryz.f81]
  refine c2 (c_costs a b ha hb la lb) ?_
  simp [tabPV]
  refine lp (α := Nat × Nat × List EditD) (fun (i, k, out) => ⟨[(8, .p (.int .i64 k)), (7, .p (.int .i64 i)), (6, .sl 0 out.length 3 0 out.length), (5, .p (.seq (tblL a b))), (1, .p (.seq (b.map eRow))), (0, .p (.seq (a.map eRow)))], [.arr .grow out.length 3 (out.map fun e => .p (rEdit e))]⟩)
    (fun (i, k, out) => i ≤ a.length ∧ k ≤ b.length ∧ out.length ≤ i + k ∧ diffS a b = out ++ diffS (a.drop i) (b.drop k)) (fun (i, k, _) => (a.length - i) + (b.length - k)) (0, 0, []) (by simp) ?_
  rintro ⟨i, k, out⟩ ⟨h1, h2, h3, h4⟩
  dsimp only at h1 h2 h3 h4 ⊢
  have wi := wi1 (i := i) (by omega)
  have wk := wi1 (i := k) (by omega)
  have hT := tblL_get (b := b) h1
  have hF := rowL_get (a := a) (i := i) h2
  have hF1 := rowL_get (a := a) (i := i + 1) h2
  by_cases hi : i < a.length
  · have hT1 := tblL_get (b := b) (show i + 1 ≤ a.length by omega)
    have c2 := costC_bd a b (i + 1) k
    have wc : IntKind.i64.wrap (1 + costC a b (i + 1) k) = 1 + costC a b (i + 1) k := wi64 _ (by omega) (by omega)
    by_cases hk : k < b.length
    · have hF2 := rowL_get (a := a) (i := i + 1) (show k + 1 ≤ b.length by omega)
      rw [diff_both hi hk] at h4
      simp [hi, hk]
      refine e2 (c_sameRow a[i] b[k] (ha.2 _ (List.getElem_mem hi)) (hb.2 _ (List.getElem_mem hk))) ?_
      by_cases hab : a[i] = b[k]
      · by_cases hc : costC a b i k = costC a b (i + 1) (k + 1)
        · rw [if_pos ⟨hab, hc⟩] at h4
          simp [hab, hi, hk, hT, hT1, hF, hF2, hc, wi, wk]
          repeat' refine And.intro ?_ ?_
          all_goals first | omega | (simp only [maxL]; omega) | exact rd (i + 1, k + 1, out ++ [(⟨kKeep, b[k]⟩ : EditD)]) ⟨hi, hk, by simp; omega, by rw [h4, List.append_assoc, hab]; rfl⟩ (h1 := by simp; omega) (hh := by simp [rEdit_mk, kKeep, kDrop, kAdd])
        · rw [if_neg (fun h => hc h.2)] at h4
          by_cases hd : costC a b i k = 1 + costC a b (i + 1) k
          · rw [if_pos hd] at h4
            have hc' : ¬ (1 + costC a b (i + 1) k = costC a b (i + 1) (k + 1)) := hd ▸ hc
            simp [hab, hi, hk, hT, hT1, hF, hF1, hF2, hc', hd, wi, wk, wc]
            repeat' refine And.intro ?_ ?_
            all_goals first | omega | (simp only [maxL]; omega) | exact rd (i + 1, k, out ++ [(⟨kDrop, b[k]⟩ : EditD)]) ⟨hi, h2, by simp; omega, by rw [h4, List.append_assoc, hab]; rfl⟩ (h1 := by simp; omega) (hh := by simp [rEdit_mk, kKeep, kDrop, kAdd])
          · rw [if_neg hd] at h4
            simp [hab, hi, hk, hT, hT1, hF, hF1, hF2, hc, hd, wi, wk, wc]
            repeat' refine And.intro ?_ ?_
            all_goals first | omega | (simp only [maxL]; omega) | exact rd (i, k + 1, out ++ [(⟨kAdd, b[k]⟩ : EditD)]) ⟨h1, hk, by simp; omega, by rw [h4, List.append_assoc]; rfl⟩ (h1 := by simp; omega) (hh := by simp [rEdit_mk, kKeep, kDrop, kAdd])
      · rw [if_neg (fun h => hab h.1)] at h4
        by_cases hd : costC a b i k = 1 + costC a b (i + 1) k
        · rw [if_pos hd] at h4
          simp [hab, hi, hk, hT, hT1, hF, hF1, hd, wi, wk, wc]
          repeat' refine And.intro ?_ ?_
          all_goals first | omega | (simp only [maxL]; omega) | exact rd (i + 1, k, out ++ [(⟨kDrop, a[i]⟩ : EditD)]) ⟨hi, h2, by simp; omega, by rw [h4, List.append_assoc]; rfl⟩ (h1 := by simp; omega) (hh := by simp [rEdit_mk, kKeep, kDrop, kAdd])
        · rw [if_neg hd] at h4
          simp [hab, hi, hk, hT, hT1, hF, hF1, hd, wi, wk, wc]
          repeat' refine And.intro ?_ ?_
          all_goals first | omega | (simp only [maxL]; omega) | exact rd (i, k + 1, out ++ [(⟨kAdd, b[k]⟩ : EditD)]) ⟨h1, hk, by simp; omega, by rw [h4, List.append_assoc]; rfl⟩ (h1 := by simp; omega) (hh := by simp [rEdit_mk, kKeep, kDrop, kAdd])
    · rw [diff_drop hi hk] at h4
      have hd := cost_last hi hk h2
      simp [hi, hk, hT, hT1, hF, hF1, hd, wi, wk, wc]
      repeat' refine And.intro ?_ ?_
      all_goals first | omega | (simp only [maxL]; omega) | exact rd (i + 1, k, out ++ [(⟨kDrop, a[i]⟩ : EditD)]) ⟨hi, h2, by simp; omega, by rw [h4, List.append_assoc]; rfl⟩ (h1 := by simp; omega) (hh := by simp [rEdit_mk, kKeep, kDrop, kAdd])
  · by_cases hk : k < b.length
    · rw [diff_add hi hk] at h4
      simp [hi, hk, wi, wk]
      repeat' refine And.intro ?_ ?_
      all_goals first | omega | (simp only [maxL]; omega) | exact rd (i, k + 1, out ++ [(⟨kAdd, b[k]⟩ : EditD)]) ⟨h1, hk, by simp; omega, by rw [h4, List.append_assoc]; rfl⟩ (h1 := by simp; omega) (hh := by simp [rEdit_mk, kKeep, kDrop, kAdd])
    · rw [diff_end hi hk, List.append_nil] at h4
      simp [hi, hk, h4]
end Go.Abs

/-
  Walks: patching.
-/
namespace Go.Abs
open Go.Proofs
set_option maxHeartbeats 4000000
set_option maxRecDepth 100000
@[simp] theorem allP_mapc {α : Type} {f : α → PV} : ∀ {l : List α}, allP (l.map fun x => .p (f x)) = some (l.map f)
  | [] => rfl
  | a :: l => by simp [allP, allP_mapc (l := l)]
/-- what a script makes of rows: the rows that are left, and those that come out; none: a conflict -/
def patchGo : List RowD → List RowD → List EditD → Option (List RowD × List RowD)
  | rest, out, [] => some (rest, out)
  | rest, out, e :: l =>
    if e.kind = kAdd then patchGo rest (out ++ [e.row]) l
    else match rest with
      | r :: rs => if r = e.row then patchGo rs (if e.kind = kDrop then out else out ++ [e.row]) l else none
      | [] => none
def patchEnd : Option (List RowD × List RowD) → List RowD × Int
  | none => ([], 29)
  | some (rest, out) => if rest ≠ [] then ([], 24) else if chkRows out ≠ 0 then ([], chkRows out) else (out, 0)
def patchC (a : List RowD) (l : List EditD) : List RowD × Int := patchEnd (patchGo a [] l)
def patchS (a : List RowD) (l : List EditD) : List RowD × Int := if firstE [chkRows a, chkEdits l] ≠ 0 then ([], firstE [chkRows a, chkEdits l]) else patchC a l

theorem c_patch (a : List RowD) (l : List EditD) (ha : rowsB a) (h : editsB l) : GoodC Tryz.prog 78 [.seq (a.map eRow), .seq (l.map eEdit)] (.tup [.seq ((patchS a l).1.map eRow), .int .i64 (patchS a l).2]) := by
  refine good_fn nf isF78 mix (by simp [Tryz.f78]) ?_
  simp [Tryz.f78]
  refine c1 (c_checkRows a ha) ?_
  simp
  refine c1 (c_checkEdits l h) ?_
  simp
  refine cp (h1 := ?g1) (c_first [chkRows a, chkEdits l] (by simp)) (by simp; exact ⟨rfl, rfl⟩) ?_
  case g1 => simp
  by_cases hz : firstE [chkRows a, chkEdits l] = 0
  case neg =>
    have e : patchS a l = ([], firstE [chkRows a, chkEdits l]) := by simp only [patchS]; rw [if_pos hz]
    simp [hz, e]
  have e : patchS a l = patchC a l := by simp only [patchS]; rw [if_neg (by simpa using hz)]
  rw [e]
  simp [hz]
  clear e hz
  refine lp (α := Nat × List RowD × List RowD) (fun (i, rest, out) => ⟨[(24, .p (.int .i64 i)), (23, .p (.int .i64 l.length)), (22, .p (.seq (l.map eEdit))), (8, .sl 1 out.length 2 0 out.length), (7, .p (.seq (rest.map eRow)))], [.hole, .arr .grow out.length 2 (out.map fun r => .p (eRow r))]⟩)
    (fun (i, rest, out) => i ≤ l.length ∧ out.length ≤ i ∧ patchGo a [] l = patchGo rest out (l.drop i) ∧ rowsB rest ∧ ∀ r ∈ out, rowB r) (fun (i, _, _) => l.length - i) (0, a, []) (by simp [ha]) ?_
  rintro ⟨i, rest, out⟩ ⟨k1, k2, k3, k4, k5⟩
  dsimp only at k1 k2 k3 k4 k5 ⊢
  by_cases hi : i < l.length
  · rw [List.drop_eq_getElem_cons hi] at k3
    have hlen := h.1
    have ⟨b0, b1⟩ := h.2 _ (List.getElem_mem hi)
    have hw := wi1 (i := i) (by omega)
    by_cases q1 : l[i].kind = [97, 100, 100]
    · simp only [patchGo, q1, kAdd, if_true] at k3
      simp [hi, eEdit, q1]
      refine c1 (c_copied _ b1) ?_
      simp
      refine ⟨by simp [maxL]; omega, ?_⟩
      exact rd (i + 1, rest, out ++ [l[i].row]) ⟨hi, by simp; omega, k3, k4, by intro r hr; rcases List.mem_append.1 hr with hr | hr; exact k5 r hr; rw [List.mem_singleton.1 hr]; exact b1⟩ (h1 := by simp; omega) (he := by simp [hw])
    · have q1' : ¬ l[i].kind = kAdd := q1
      cases rest with
      | nil =>
        simp only [patchGo, q1', if_false] at k3
        have e : patchC a l = ([], 29) := by simp only [patchC, k3, patchEnd]
        simp [hi, eEdit, q1, e]
      | cons r rs =>
        have ⟨k4a, k4b⟩ := k4
        have k4' : rowsB rs := ⟨by simp at k4a; omega, fun x hx => k4b x (List.mem_cons_of_mem _ hx)⟩
        simp only [patchGo, q1', if_false] at k3
        have hne : ¬ ((rs.length : Int) + 1 = 0) := by omega
        simp [hi, eEdit, q1, hne]
        refine e2 (c_same r l[i].row (k4b r (List.mem_cons_self ..)) b1) ?_
        by_cases hr : r = l[i].row
        · rw [if_pos hr] at k3
          by_cases q2 : l[i].kind = [100, 114, 111, 112]
          · have q2' : l[i].kind = kDrop := q2
            rw [if_pos q2'] at k3
            simp [hr, q1, q2, hne]
            refine ⟨shp_map (by simp), ?_⟩
            exact rd (i + 1, rs, out) ⟨hi, by show out.length ≤ i + 1; omega, k3, k4', k5⟩ (h1 := by simp; omega) (he := by simp [hw])
          · have q2' : ¬ l[i].kind = kDrop := q2
            rw [if_neg q2'] at k3
            simp [hr, q1, q2, hne]
            refine ⟨shp_map (by simp), ?_⟩
            refine c1 (c_copied _ b1) ?_
            simp
            refine ⟨by simp [maxL]; omega, ?_⟩
            exact rd (i + 1, rs, out ++ [l[i].row]) ⟨hi, by simp; omega, k3, k4', by intro r hr; rcases List.mem_append.1 hr with hr | hr; exact k5 r hr; rw [List.mem_singleton.1 hr]; exact b1⟩ (h1 := by simp; omega) (he := by simp [hw])
        · rw [if_neg hr] at k3
          have e : patchC a l = ([], 29) := by simp only [patchC, k3, patchEnd]
          simp [hr, e, hne]
  · have : i = l.length := by omega
    subst this
    rw [List.drop_length, patchGo] at k3
    have e : patchC a l = patchEnd (some (rest, out)) := by rw [patchC, k3]
    rw [e]
    have hl1 := h.1
    have ho : rowsB out := ⟨by omega, k5⟩
    have e0 : chkRows [] = 0 := by simp [chkRows, chkRowsFrom]
    cases rest with
    | nil =>
      cases out with
      | nil =>
        simp
        refine c2 (c_when _ _) ?_
        simp
        refine cp (h1 := ?g2) (c_checkRows [] ho) (by simp; exact ⟨rfl, rfl⟩) ?_
        case g2 => simp
        simp
        refine cp (h1 := ?g3) (c_first [whenE false 24, chkRows []] (by simp)) (by simp; exact ⟨rfl, rfl⟩) ?_
        case g3 => simp
        simp [e0, firstE, whenE, patchEnd]
      | cons o1 os =>
        simp
        refine c2 (c_when _ _) ?_
        simp
        refine cp (h1 := ?g4) (c_checkRows (o1 :: os) ho) (by simp; exact ⟨rfl, rfl⟩) ?_
        case g4 => simp
        simp
        refine cp (h1 := ?g5) (c_first [whenE false 24, chkRows (o1 :: os)] (by simp)) (by simp; exact ⟨rfl, rfl⟩) ?_
        case g5 => simp
        by_cases hz : chkRows (o1 :: os) = 0
        · simp [hz, firstE, whenE, patchEnd]
        · simp [hz, firstE, whenE, patchEnd]
    | cons r rs =>
      have hne : ¬ ((rs.length : Int) + 1 = 0) := by omega
      have hp : (0 : Int) < (rs.length : Int) + 1 := by omega
      cases out with
      | nil =>
        simp [hp]
        refine c2 (c_when _ _) ?_
        simp
        refine cp (h1 := ?g6) (c_checkRows [] ho) (by simp; exact ⟨rfl, rfl⟩) ?_
        case g6 => simp
        simp
        refine cp (h1 := ?g7) (c_first [whenE true 24, chkRows []] (by simp)) (by simp; exact ⟨rfl, rfl⟩) ?_
        case g7 => simp
        simp [firstE, whenE, patchEnd]
      | cons o1 os =>
        simp [hp]
        refine c2 (c_when _ _) ?_
        simp
        refine cp (h1 := ?g8) (c_checkRows (o1 :: os) ho) (by simp; exact ⟨rfl, rfl⟩) ?_
        case g8 => simp
        simp
        refine cp (h1 := ?g9) (c_first [whenE true 24, chkRows (o1 :: os)] (by simp)) (by simp; exact ⟨rfl, rfl⟩) ?_
        case g9 => simp
        simp [firstE, whenE, patchEnd]
end Go.Abs

/-
  Walks: patching, by the reference.
-/
namespace Go.Abs
open Go.Proofs
set_option maxHeartbeats 4000000
set_option maxRecDepth 100000
theorem c_patchR (a : List RowD) (l : List EditD) (ha : rowsB a) (h : editsB l) : GoodC Tryz.prog 82 [.seq (a.map eRow), .seq (l.map rEdit)] (.tup [.seq ((patchC a l).1.map eRow), .int .i64 (patchC a l).2]) := by
  refine good_fn nf isF82 mix (by simp [Tryz.f82]) ?_
  simp [Tryz.f82]
  refine lp (α := Nat × Nat × List RowD) (fun (i, at_, out) => ⟨[(8, .p (.int .i64 i)), (7, .p (.int .i64 at_)), (6, .sl 0 out.length 2 0 out.length), (1, .p (.seq (l.map rEdit))), (0, .p (.seq (a.map eRow)))], [.arr .grow out.length 2 (out.map fun r => .p (eRow r))]⟩)
    (fun (i, at_, out) => i ≤ l.length ∧ out.length ≤ i ∧ at_ ≤ a.length ∧ patchGo a [] l = patchGo (a.drop at_) out (l.drop i) ∧ ∀ r ∈ out, rowB r) (fun (i, _, _) => l.length - i) (0, 0, []) (by simp) ?_
  rintro ⟨i, k, out⟩ ⟨k1, k2, k4, k3, k5⟩
  dsimp only at k1 k2 k3 k4 k5 ⊢
  have hlen := h.1
  have hal := ha.1
  by_cases hi : i < l.length
  · rw [List.drop_eq_getElem_cons hi] at k3
    have hs : rEdit l[i] = .st 267 [.str l[i].kind, eRow l[i].row] := rfl
    have ⟨b0, b1⟩ := h.2 _ (List.getElem_mem hi)
    have hw := wi1 (i := i) (by omega)
    have hwk := wi1 (i := k) (by omega)
    by_cases q1 : l[i].kind = [97, 100, 100]
    · simp only [patchGo, q1, kAdd, if_true] at k3
      simp [hi, hs, q1]
      refine ⟨by simp [maxL]; omega, ?_⟩
      exact rd (i + 1, k, out ++ [l[i].row]) ⟨hi, by simp; omega, k4, k3, by intro r hr; rcases List.mem_append.1 hr with hr | hr; exact k5 r hr; rw [List.mem_singleton.1 hr]; exact b1⟩ (h1 := by simp; omega) (he := by simp [hw])
    · have q1' : ¬ l[i].kind = kAdd := q1
      by_cases hk : k < a.length
      · have hkz : ¬ (a.length : Int) ≤ k := by omega
        rw [List.drop_eq_getElem_cons hk] at k3
        simp only [patchGo, q1', if_false] at k3
        simp [hi, hs, q1, hk, hkz]
        refine e2 (c_sameRow a[k] l[i].row (ha.2 _ (List.getElem_mem hk)) b1) ?_
        by_cases hr : a[k] = l[i].row
        · rw [if_pos hr] at k3
          by_cases q2 : l[i].kind = [100, 114, 111, 112]
          · have q2' : l[i].kind = kDrop := q2
            rw [if_pos q2'] at k3
            simp [hi, hs, hr, q1, q2, hkz, hwk, hw]
            exact rd (i + 1, k + 1, out) ⟨hi, by show out.length ≤ i + 1; omega, hk, k3, k5⟩ (h1 := by simp; omega)
          · have q2' : ¬ l[i].kind = kDrop := q2
            rw [if_neg q2'] at k3
            simp [hi, hs, hr, q1, q2, hkz, hwk, hw]
            refine ⟨by simp [maxL]; omega, ?_⟩
            exact rd (i + 1, k + 1, out ++ [l[i].row]) ⟨hi, by simp; omega, hk, k3, by intro r hr; rcases List.mem_append.1 hr with hr | hr; exact k5 r hr; rw [List.mem_singleton.1 hr]; exact b1⟩ (h1 := by simp; omega)
        · rw [if_neg hr] at k3
          have e : patchC a l = ([], 29) := by simp only [patchC, k3, patchEnd]
          simp [hr, e, hkz]
      · have hkz : (a.length : Int) ≤ k := by omega
        rw [List.drop_eq_nil_of_le (by omega)] at k3
        simp only [patchGo, q1', if_false] at k3
        have e : patchC a l = ([], 29) := by simp only [patchC, k3, patchEnd]
        simp [hi, hs, q1, hkz, e]
  · have : i = l.length := by omega
    subst this
    rw [List.drop_length, patchGo] at k3
    have e : patchC a l = patchEnd (some (a.drop k, out)) := by rw [patchC, k3]
    rw [e]
    have ho : rowsB out := ⟨by omega, k5⟩
    have e0 : chkRows [] = 0 := by simp [chkRows, chkRowsFrom]
    by_cases hk : k < a.length
    · have hd : a.drop k ≠ [] := by simp; omega
      have e2 : patchEnd (some (a.drop k, out)) = ([], 24) := by simp only [patchEnd]; rw [if_pos hd]
      simp [hk, e2]
    · have hd : a.drop k = [] := List.drop_eq_nil_of_le (by omega)
      rw [hd]
      simp [hk]
      cases out with
      | nil =>
        refine cp (h1 := ?g1) (c_checkRowsR [] ho) (by simp; exact ⟨rfl, rfl⟩) ?_
        case g1 => simp
        simp [e0, patchEnd]
      | cons o1 os =>
        refine cp (h1 := ?g2) (c_checkRowsR (o1 :: os) ho) (by simp; exact ⟨rfl, rfl⟩) ?_
        case g2 => simp
        by_cases hz : chkRows (o1 :: os) = 0
        · simp [hz, patchEnd]
        · simp [hz, patchEnd]
end Go.Abs

/-
  Walks: the difference, by the office; what holds of rows and edits that come out.
-/
namespace Go.Abs
open Go.Proofs
set_option maxHeartbeats 4000000
set_option maxRecDepth 100000
theorem first2 {x y : Int} : firstE [x, y] = 0 ↔ x = 0 ∧ y = 0 := by
  simp only [firstE]
  by_cases h : x = 0 <;> by_cases h2 : y = 0 <;> simp [h, h2]
theorem chkRows_len {l : List RowD} (h : chkRows l = 0) : l.length ≤ 256 := by
  simp only [chkRows] at h
  split at h
  · omega
  · omega
theorem c_diff (a b : List RowD) (ha : rowsB a) (hb : rowsB b) (hz : firstE [chkRows a, chkRows b] = 0) : GoodC Tryz.prog 77 [.seq (a.map eRow), .seq (b.map eRow)] (.tup [.seq ((diffS a b).map eEdit), .int .i64 0]) := by
  refine good_fn nf isF77 mix (by simp [Tryz.f77]) ?_
  have ⟨z1, z2⟩ := first2.1 hz
  have l1 := chkRows_len z1
  have l2 := chkRows_len z2
  simp [Tryz.f77]
  refine c1 (c_checkRows a ha) ?_
  simp
  refine c1 (c_checkRows b hb) ?_
  simp
  refine cp (h1 := ?g1) (c_first [chkRows a, chkRows b] (by simp)) (by simp; exact ⟨rfl, rfl⟩) ?_
  case g1 => simp
  simp [hz]
  refine c4 (c_script a b ha hb (by omega) (by omega)) ?_
  simp
theorem c_diffE (a b : List RowD) (ha : rowsB a) (hb : rowsB b) (hz : ¬ firstE [chkRows a, chkRows b] = 0) : GoodC Tryz.prog 77 [.seq (a.map eRow), .seq (b.map eRow)] (.tup [.seq (([] : List EditD).map eEdit), .int .i64 (firstE [chkRows a, chkRows b])]) := by
  refine good_fn nf isF77 mix (by simp [Tryz.f77]) ?_
  simp [Tryz.f77]
  refine c1 (c_checkRows a ha) ?_
  simp
  refine c1 (c_checkRows b hb) ?_
  simp
  refine cp (h1 := ?g1) (c_first [chkRows a, chkRows b] (by simp)) (by simp; exact ⟨rfl, rfl⟩) ?_
  case g1 => simp
  simp [hz]

theorem diffS_B : ∀ (a b : List RowD), (∀ r ∈ a, rowB r) → (∀ r ∈ b, rowB r) → ∀ e ∈ diffS a b, editB e
  | [], [], _, _, e, he => by simp [diffS] at he
  | [], y :: b, ha, hb, e, he => by
    rw [diffS] at he
    rcases List.mem_cons.1 he with rfl | he
    · exact ⟨by simp [kAdd], hb _ List.mem_cons_self⟩
    · exact diffS_B [] b ha (fun r hr => hb r (List.mem_cons_of_mem _ hr)) e he
  | x :: a, [], ha, hb, e, he => by
    rw [diffS] at he
    rcases List.mem_cons.1 he with rfl | he
    · exact ⟨by simp [kDrop], ha _ List.mem_cons_self⟩
    · exact diffS_B a [] (fun r hr => ha r (List.mem_cons_of_mem _ hr)) hb e he
  | x :: a, y :: b, ha, hb, e, he => by
    have ha2 : ∀ r ∈ a, rowB r := fun r hr => ha r (List.mem_cons_of_mem _ hr)
    have hb2 : ∀ r ∈ b, rowB r := fun r hr => hb r (List.mem_cons_of_mem _ hr)
    rw [diffS] at he
    split at he
    · rcases List.mem_cons.1 he with rfl | he
      · exact ⟨by simp [kKeep], ha _ List.mem_cons_self⟩
      · exact diffS_B a b ha2 hb2 e he
    split at he
    · rcases List.mem_cons.1 he with rfl | he
      · exact ⟨by simp [kDrop], ha _ List.mem_cons_self⟩
      · exact diffS_B a (y :: b) ha2 hb e he
    · rcases List.mem_cons.1 he with rfl | he
      · exact ⟨by simp [kAdd], hb _ List.mem_cons_self⟩
      · exact diffS_B (x :: a) b ha hb2 e he
  termination_by a b => a.length + b.length
theorem diffS_edB {a b : List RowD} (ha : rowsB a) (hb : rowsB b) (la : a.length ≤ 1000) (lb : b.length ≤ 1000) : editsB (diffS a b) :=
  ⟨by have := diffS_len a b; omega, diffS_B a b ha.2 hb.2⟩
theorem invs_edB {l : List EditD} (h : editsB l) : editsB (l.map inv) := by
  refine ⟨by simpa using h.1, fun e he => ?_⟩
  obtain ⟨x, hx, rfl⟩ := List.mem_map.1 he
  refine ⟨?_, (h.2 x hx).2⟩
  have := (h.2 x hx).1
  simp only [inv, invK]
  split
  · simp [kDrop]
  split
  · simp [kAdd]
  · exact this
theorem patchGo_out : ∀ (l : List EditD) (rest out r o : List RowD), patchGo rest out l = some (r, o) → o.length ≤ out.length + l.length ∧ ((∀ x ∈ out, rowB x) → (∀ e ∈ l, editB e) → ∀ x ∈ o, rowB x)
  | [], rest, out, r, o, h => by
    simp only [patchGo, Option.some.injEq, Prod.mk.injEq] at h
    obtain ⟨-, rfl⟩ := h
    exact ⟨by simp, fun h _ => h⟩
  | e :: l, rest, out, r, o, h => by
    have key : ∀ (rest2 out2 : List RowD), (out2 = out ∨ out2 = out ++ [e.row]) → patchGo rest2 out2 l = some (r, o) → o.length ≤ out.length + (e :: l).length ∧ ((∀ x ∈ out, rowB x) → (∀ x ∈ e :: l, editB x) → ∀ x ∈ o, rowB x) := by
      intro rest2 out2 ho h2
      have ⟨i1, i2⟩ := patchGo_out l rest2 out2 r o h2
      rcases ho with rfl | rfl
      · exact ⟨by simp; omega, fun g1 g2 => i2 g1 fun x hx => g2 x (List.mem_cons_of_mem _ hx)⟩
      · refine ⟨by simp at i1 ⊢; omega, fun g1 g2 => i2 (fun x hx => ?_) fun x hx => g2 x (List.mem_cons_of_mem _ hx)⟩
        rcases List.mem_append.1 hx with hx | hx
        · exact g1 x hx
        · rw [List.mem_singleton.1 hx]; exact (g2 e List.mem_cons_self).2
    cases rest with
    | nil =>
      simp only [patchGo] at h
      split at h
      · exact key _ _ (.inr rfl) h
      · cases h
    | cons q rest =>
      simp only [patchGo] at h
      split at h
      · exact key _ _ (.inr rfl) h
      split at h
      · refine key _ _ ?_ h
        split
        · exact .inl rfl
        · exact .inr rfl
      · cases h
theorem patchC_B {a : List RowD} {l : List EditD} (h : editsB l) : rowsB (patchC a l).1 := by
  have nilB : rowsB [] := ⟨by simp, fun r hr => by cases hr⟩
  have hl := h.1
  simp only [patchC]
  cases hg : patchGo a [] l with
  | none => exact nilB
  | some p =>
    obtain ⟨r, o⟩ := p
    have ⟨i1, i2⟩ := patchGo_out l a [] r o hg
    simp only [patchEnd]
    split
    · exact nilB
    split
    · exact nilB
    · exact ⟨by simp at i1; show o.length ≤ _; omega, i2 (fun x hx => by cases hx) h.2⟩
theorem short_rowsB {l : List RowD} {n : Nat} (h : shortRows l n = true) : rowsB l ∧ l.length ≤ 259 := by
  simp only [shortRows, Bool.and_eq_true, decide_eq_true_eq, List.all_eq_true, shortRow] at h
  refine ⟨⟨by omega, fun r hr => ?_⟩, h.1.2⟩
  have := h.2 r hr
  exact ⟨by omega, by omega⟩
theorem short_editsB {l : List EditD} {n : Nat} (h : shortEdits l n = true) : editsB l ∧ l.length ≤ 515 := by
  simp only [shortEdits, Bool.and_eq_true, decide_eq_true_eq, List.all_eq_true, shortEdit, shortRow] at h
  refine ⟨⟨by omega, fun r hr => ?_⟩, h.1.2⟩
  have := h.2 r hr
  exact ⟨by omega, by omega, by omega⟩
end Go.Abs

/-
  Walks: the law of the scripts.
-/
namespace Go.Abs
open Go.Proofs
set_option maxHeartbeats 4000000
set_option maxRecDepth 100000
theorem c_law12 (hw : GoodC Tryz.prog 17 [] (.bool true)) (a b : List RowD) (l : List EditD) (ha : a.length ≤ 1048576) (hb : b.length ≤ 1048576) (hl : l.length ≤ 1048576) :
    GoodC Tryz.prog 12 [.seq (a.map eRow), .seq (b.map eRow), .seq (l.map eEdit)] (.bool true) := by
  refine good_fn nf isF12 mix (by simp [Tryz.f12]) ?_
  simp [Tryz.f12]
  refine c1 (c_own a ha) ?_
  simp
  refine c1 (c_own b hb) ?_
  simp
  refine c1 (c_edits l hl) ?_
  simp
  refine c2 (c_shortRows a 10 ha (by omega)) ?_
  by_cases s1 : shortRows a 10 = true
  case neg =>
    simp [s1]
    refine c0 hw ?_
    simp
  simp [s1]
  refine c2 (c_shortRows b 10 hb (by omega)) ?_
  by_cases s2 : shortRows b 10 = true
  case neg =>
    simp [s2]
    refine c0 hw ?_
    simp
  simp [s2]
  refine c2 (c_shortEdits l 30 hl (by omega)) ?_
  by_cases s3 : shortEdits l 30 = true
  case neg =>
    simp [s3]
    refine c0 hw ?_
    simp
  simp [s3]
  obtain ⟨ra, la⟩ := short_rowsB s1
  obtain ⟨rb, lb⟩ := short_rowsB s2
  obtain ⟨re, le⟩ := short_editsB s3
  clear s1 s2 s3
  have nilE : editsB [] := ⟨by simp, fun e he => by cases he⟩
  have nilR : rowsB [] := ⟨by simp, fun e he => by cases he⟩
  have dB := diffS_edB ra rb (by omega) (by omega)
  have pB := patchC_B (a := a) re
  have iB := invs_edB re
  by_cases h1 : firstE [chkRows a, chkRows b] = 0 <;> by_cases h2 : firstE [chkRows a, chkEdits l] = 0 <;> by_cases h3 : chkEdits l = 0
  · have hp : patchS a l = patchC a l := by simp only [patchS]; rw [if_neg (by simpa using h2)]
    have hi : invertS l = l.map inv := by simp only [invertS]; rw [if_pos h3]
    refine c2 (c_diff a b ra rb h1) ?_
    simp
    refine c2 (c_patch a l ra re) ?_
    simp [hp]
    refine c1 (c_invert l re) ?_
    simp [hi]
    refine c1 (c_checkRowsR a ra) ?_
    simp
    refine c1 (c_checkRowsR b rb) ?_
    simp
    refine cp (h1 := ?g1a) (c_lfirst [chkRows a, chkRows b] (by simp)) (by simp; exact ⟨rfl, rfl⟩) ?_
    case g1a => simp
    simp [h1]
    refine c1 (c_checkRowsR a ra) ?_
    simp
    refine c1 (c_checkEditsR l re) ?_
    simp
    refine cp (h1 := ?g1b) (c_lfirst [chkRows a, chkEdits l] (by simp)) (by simp; exact ⟨rfl, rfl⟩) ?_
    case g1b => simp
    simp [h2]
    refine c1 (c_checkEditsR l re) ?_
    have h2' := h2
    rw [h3] at h2'
    simp [h1, h2, h2', h3]
    refine c2 (c_diffR a b ra rb (by omega) (by omega)) ?_
    simp [h2, h2', h3]
    refine c2 (c_patchR a l ra re) ?_
    simp [h3]
    refine c1 (c_invertR l re.1) ?_
    simp
    refine c1 (c_edits (diffS a b) dB.1) ?_
    simp
    refine c2 (c_sameEdits (diffS a b) (diffS a b) dB dB) ?_
    simp
    refine c1 (c_own (patchC a l).1 pB.1) ?_
    simp
    refine c2 (c_sameRows (patchC a l).1 (patchC a l).1 pB pB) ?_
    simp
    refine c1 (c_edits (l.map inv) iB.1) ?_
    simp
    refine c2 (c_sameEdits (l.map inv) (l.map inv) iB iB) ?_
    simp
    refine c0 hw ?_
    simp
  · have hp : patchS a l = patchC a l := by simp only [patchS]; rw [if_neg (by simpa using h2)]
    have hi : invertS l = [] := by simp only [invertS]; rw [if_neg h3]
    refine c2 (c_diff a b ra rb h1) ?_
    simp
    refine c2 (c_patch a l ra re) ?_
    simp [hp]
    refine c1 (c_invert l re) ?_
    simp [hi]
    refine c1 (c_checkRowsR a ra) ?_
    simp
    refine c1 (c_checkRowsR b rb) ?_
    simp
    refine cp (h1 := ?g2a) (c_lfirst [chkRows a, chkRows b] (by simp)) (by simp; exact ⟨rfl, rfl⟩) ?_
    case g2a => simp
    simp [h1]
    refine c1 (c_checkRowsR a ra) ?_
    simp
    refine c1 (c_checkEditsR l re) ?_
    simp
    refine cp (h1 := ?g2b) (c_lfirst [chkRows a, chkEdits l] (by simp)) (by simp; exact ⟨rfl, rfl⟩) ?_
    case g2b => simp
    simp [h2]
    refine c1 (c_checkEditsR l re) ?_
    simp [h1, h2, h3]
    refine c2 (c_diffR a b ra rb (by omega) (by omega)) ?_
    simp [h2, h3]
    refine c2 (c_patchR a l ra re) ?_
    simp [h3]
    refine c1 (c_edits (diffS a b) dB.1) ?_
    simp
    refine c2 (c_sameEdits (diffS a b) (diffS a b) dB dB) ?_
    simp
    refine c1 (c_own (patchC a l).1 pB.1) ?_
    simp
    refine c2 (c_sameRows (patchC a l).1 (patchC a l).1 pB pB) ?_
    simp
    refine c1 (c_edits [] nilE.1) ?_
    simp
    refine c2 (c_sameEdits [] [] nilE nilE) ?_
    simp
    refine c0 hw ?_
    simp
  · have hp : patchS a l = ([], firstE [chkRows a, chkEdits l]) := by simp only [patchS]; rw [if_pos h2]
    have hi : invertS l = l.map inv := by simp only [invertS]; rw [if_pos h3]
    refine c2 (c_diff a b ra rb h1) ?_
    simp
    refine c2 (c_patch a l ra re) ?_
    simp [hp]
    refine c1 (c_invert l re) ?_
    simp [hi]
    refine c1 (c_checkRowsR a ra) ?_
    simp
    refine c1 (c_checkRowsR b rb) ?_
    simp
    refine cp (h1 := ?g3a) (c_lfirst [chkRows a, chkRows b] (by simp)) (by simp; exact ⟨rfl, rfl⟩) ?_
    case g3a => simp
    simp [h1]
    refine c1 (c_checkRowsR a ra) ?_
    simp
    refine c1 (c_checkEditsR l re) ?_
    simp
    refine cp (h1 := ?g3b) (c_lfirst [chkRows a, chkEdits l] (by simp)) (by simp; exact ⟨rfl, rfl⟩) ?_
    case g3b => simp
    simp
    refine c1 (c_checkEditsR l re) ?_
    have h2' := h2
    rw [h3] at h2'
    simp [h1, h2, h2', h3]
    refine c2 (c_diffR a b ra rb (by omega) (by omega)) ?_
    simp [h2, h2', h3]
    refine c1 (c_invertR l re.1) ?_
    simp
    refine c1 (c_edits (diffS a b) dB.1) ?_
    simp
    refine c2 (c_sameEdits (diffS a b) (diffS a b) dB dB) ?_
    simp
    refine c1 (c_own [] nilR.1) ?_
    simp
    refine c2 (c_sameRows [] [] nilR nilR) ?_ (h1 := by simp [eRows]) (h2 := by simp [eRows])
    simp
    refine c1 (c_edits (l.map inv) iB.1) ?_
    simp
    refine c2 (c_sameEdits (l.map inv) (l.map inv) iB iB) ?_
    simp
    refine c0 hw ?_
    simp
  · have hp : patchS a l = ([], firstE [chkRows a, chkEdits l]) := by simp only [patchS]; rw [if_pos h2]
    have hi : invertS l = [] := by simp only [invertS]; rw [if_neg h3]
    refine c2 (c_diff a b ra rb h1) ?_
    simp
    refine c2 (c_patch a l ra re) ?_
    simp [hp]
    refine c1 (c_invert l re) ?_
    simp [hi]
    refine c1 (c_checkRowsR a ra) ?_
    simp
    refine c1 (c_checkRowsR b rb) ?_
    simp
    refine cp (h1 := ?g4a) (c_lfirst [chkRows a, chkRows b] (by simp)) (by simp; exact ⟨rfl, rfl⟩) ?_
    case g4a => simp
    simp [h1]
    refine c1 (c_checkRowsR a ra) ?_
    simp
    refine c1 (c_checkEditsR l re) ?_
    simp
    refine cp (h1 := ?g4b) (c_lfirst [chkRows a, chkEdits l] (by simp)) (by simp; exact ⟨rfl, rfl⟩) ?_
    case g4b => simp
    simp
    refine c1 (c_checkEditsR l re) ?_
    simp [h1, h2, h3]
    refine c2 (c_diffR a b ra rb (by omega) (by omega)) ?_
    simp [h2, h3]
    refine c1 (c_edits (diffS a b) dB.1) ?_
    simp
    refine c2 (c_sameEdits (diffS a b) (diffS a b) dB dB) ?_
    simp
    refine c1 (c_own [] nilR.1) ?_
    simp
    refine c2 (c_sameRows [] [] nilR nilR) ?_ (h1 := by simp [eRows]) (h2 := by simp [eRows])
    simp
    refine c1 (c_edits [] nilE.1) ?_
    simp
    refine c2 (c_sameEdits [] [] nilE nilE) ?_
    simp
    refine c0 hw ?_
    simp
  · have hp : patchS a l = patchC a l := by simp only [patchS]; rw [if_neg (by simpa using h2)]
    have hi : invertS l = l.map inv := by simp only [invertS]; rw [if_pos h3]
    refine c2 (c_diffE a b ra rb h1) ?_
    simp
    refine c2 (c_patch a l ra re) ?_
    simp [hp]
    refine c1 (c_invert l re) ?_
    simp [hi]
    refine c1 (c_checkRowsR a ra) ?_
    simp
    refine c1 (c_checkRowsR b rb) ?_
    simp
    refine cp (h1 := ?g5a) (c_lfirst [chkRows a, chkRows b] (by simp)) (by simp; exact ⟨rfl, rfl⟩) ?_
    case g5a => simp
    simp
    refine c1 (c_checkRowsR a ra) ?_
    simp
    refine c1 (c_checkEditsR l re) ?_
    simp
    refine cp (h1 := ?g5b) (c_lfirst [chkRows a, chkEdits l] (by simp)) (by simp; exact ⟨rfl, rfl⟩) ?_
    case g5b => simp
    simp [h2]
    refine c1 (c_checkEditsR l re) ?_
    have h2' := h2
    rw [h3] at h2'
    simp [h1, h2, h2', h3]
    refine c2 (c_patchR a l ra re) ?_
    simp [h3]
    refine c1 (c_invertR l re.1) ?_
    simp
    refine c1 (c_edits [] nilE.1) ?_
    simp
    refine c2 (c_sameEdits [] [] nilE nilE) ?_
    simp
    refine c1 (c_own (patchC a l).1 pB.1) ?_
    simp
    refine c2 (c_sameRows (patchC a l).1 (patchC a l).1 pB pB) ?_
    simp
    refine c1 (c_edits (l.map inv) iB.1) ?_
    simp
    refine c2 (c_sameEdits (l.map inv) (l.map inv) iB iB) ?_
    simp
    refine c0 hw ?_
    simp
  · have hp : patchS a l = patchC a l := by simp only [patchS]; rw [if_neg (by simpa using h2)]
    have hi : invertS l = [] := by simp only [invertS]; rw [if_neg h3]
    refine c2 (c_diffE a b ra rb h1) ?_
    simp
    refine c2 (c_patch a l ra re) ?_
    simp [hp]
    refine c1 (c_invert l re) ?_
    simp [hi]
    refine c1 (c_checkRowsR a ra) ?_
    simp
    refine c1 (c_checkRowsR b rb) ?_
    simp
    refine cp (h1 := ?g6a) (c_lfirst [chkRows a, chkRows b] (by simp)) (by simp; exact ⟨rfl, rfl⟩) ?_
    case g6a => simp
    simp
    refine c1 (c_checkRowsR a ra) ?_
    simp
    refine c1 (c_checkEditsR l re) ?_
    simp
    refine cp (h1 := ?g6b) (c_lfirst [chkRows a, chkEdits l] (by simp)) (by simp; exact ⟨rfl, rfl⟩) ?_
    case g6b => simp
    simp [h2]
    refine c1 (c_checkEditsR l re) ?_
    simp [h1, h2, h3]
    refine c2 (c_patchR a l ra re) ?_
    simp [h3]
    refine c1 (c_edits [] nilE.1) ?_
    simp
    refine c2 (c_sameEdits [] [] nilE nilE) ?_
    simp
    refine c1 (c_own (patchC a l).1 pB.1) ?_
    simp
    refine c2 (c_sameRows (patchC a l).1 (patchC a l).1 pB pB) ?_
    simp
    refine c1 (c_edits [] nilE.1) ?_
    simp
    refine c2 (c_sameEdits [] [] nilE nilE) ?_
    simp
    refine c0 hw ?_
    simp
  · have hp : patchS a l = ([], firstE [chkRows a, chkEdits l]) := by simp only [patchS]; rw [if_pos h2]
    have hi : invertS l = l.map inv := by simp only [invertS]; rw [if_pos h3]
    refine c2 (c_diffE a b ra rb h1) ?_
    simp
    refine c2 (c_patch a l ra re) ?_
    simp [hp]
    refine c1 (c_invert l re) ?_
    simp [hi]
    refine c1 (c_checkRowsR a ra) ?_
    simp
    refine c1 (c_checkRowsR b rb) ?_
    simp
    refine cp (h1 := ?g7a) (c_lfirst [chkRows a, chkRows b] (by simp)) (by simp; exact ⟨rfl, rfl⟩) ?_
    case g7a => simp
    simp
    refine c1 (c_checkRowsR a ra) ?_
    simp
    refine c1 (c_checkEditsR l re) ?_
    simp
    refine cp (h1 := ?g7b) (c_lfirst [chkRows a, chkEdits l] (by simp)) (by simp; exact ⟨rfl, rfl⟩) ?_
    case g7b => simp
    simp
    refine c1 (c_checkEditsR l re) ?_
    have h2' := h2
    rw [h3] at h2'
    simp [h1, h2, h2', h3]
    refine c1 (c_invertR l re.1) ?_
    simp
    refine c1 (c_edits [] nilE.1) ?_
    simp
    refine c2 (c_sameEdits [] [] nilE nilE) ?_
    simp
    refine c1 (c_own [] nilR.1) ?_
    simp
    refine c2 (c_sameRows [] [] nilR nilR) ?_ (h1 := by simp [eRows]) (h2 := by simp [eRows])
    simp
    refine c1 (c_edits (l.map inv) iB.1) ?_
    simp
    refine c2 (c_sameEdits (l.map inv) (l.map inv) iB iB) ?_
    simp
    refine c0 hw ?_
    simp
  · have hp : patchS a l = ([], firstE [chkRows a, chkEdits l]) := by simp only [patchS]; rw [if_pos h2]
    have hi : invertS l = [] := by simp only [invertS]; rw [if_neg h3]
    refine c2 (c_diffE a b ra rb h1) ?_
    simp
    refine c2 (c_patch a l ra re) ?_
    simp [hp]
    refine c1 (c_invert l re) ?_
    simp [hi]
    refine c1 (c_checkRowsR a ra) ?_
    simp
    refine c1 (c_checkRowsR b rb) ?_
    simp
    refine cp (h1 := ?g8a) (c_lfirst [chkRows a, chkRows b] (by simp)) (by simp; exact ⟨rfl, rfl⟩) ?_
    case g8a => simp
    simp
    refine c1 (c_checkRowsR a ra) ?_
    simp
    refine c1 (c_checkEditsR l re) ?_
    simp
    refine cp (h1 := ?g8b) (c_lfirst [chkRows a, chkEdits l] (by simp)) (by simp; exact ⟨rfl, rfl⟩) ?_
    case g8b => simp
    simp
    refine c1 (c_checkEditsR l re) ?_
    simp [h1, h2, h3]
    refine c1 (c_edits [] nilE.1) ?_
    simp
    refine c2 (c_sameEdits [] [] nilE nilE) ?_
    simp
    refine c1 (c_own [] nilR.1) ?_
    simp
    refine c2 (c_sameRows [] [] nilR nilR) ?_ (h1 := by simp [eRows]) (h2 := by simp [eRows])
    simp
    refine c1 (c_edits [] nilE.1) ?_
    simp
    refine c2 (c_sameEdits [] [] nilE nilE) ?_
    simp
    refine c0 hw ?_
    simp
end Go.Abs
