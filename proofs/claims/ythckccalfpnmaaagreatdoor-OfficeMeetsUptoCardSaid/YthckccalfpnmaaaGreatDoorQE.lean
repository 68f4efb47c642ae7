import Derived.Test.YthckccalfpnmaaaGreatDoorQD
/-
  Walks: the law of meeting.
-/
set_option linter.unusedSimpArgs false
set_option linter.unusedVariables false
set_option linter.unusedSectionVars false
namespace Go.Abs
open Go.Proofs
set_option maxHeartbeats 4000000
set_option maxRecDepth 100000
theorem c_hasWord (l : List (List Nat)) (k : List Nat) (h : l.length ≤ 1048576) : GoodC Tryz.prog 33 [.seq (l.map .str), .str k] (.bool (decide (k ∈ l))) := by
  refine good_fn nf isF33 mix (by simp [Tryz.f33]) ?_
  simp [Tryz.f33]
  refine lp (α := Nat) (fun i => ⟨[(5, .p (.int .i64 i)), (1, .p (.str k)), (0, .p (.seq (l.map .str)))], []⟩) (fun i => i ≤ l.length ∧ decide (k ∈ l) = decide (k ∈ l.drop i)) (fun i => l.length - i) 0 (by simp) ?_
  rintro i ⟨k1, k2⟩
  by_cases hi : i < l.length
  · have hm : (k ∈ l.drop i) = (k = l[i] ∨ k ∈ l.drop (i + 1)) := by rw [List.drop_eq_getElem_cons hi, List.mem_cons]
    have k2 : (k ∈ l) = (k = l[i] ∨ k ∈ l.drop (i + 1)) := by rw [← hm]; simpa using k2
    have hw := wi1 (i := i) (by omega)
    by_cases he : l[i] = k
    · have k2 : k ∈ l := by rw [k2]; exact .inl he.symm
      simp [hi, he, k2]
    · have he' : ¬ k = l[i] := fun e => he e.symm
      have k2 : (k ∈ l) = (k ∈ l.drop (i + 1)) := by rw [k2]; simp [he']
      simp [hi, he, hw]
      exact rd (i + 1) ⟨hi, decide_eq_decide.2 (iff_of_eq k2)⟩
  · have : i = l.length := by omega
    subst this
    simp at k2
    simp [k2]
theorem find_row {l : List RowD} (hn : (keysOf l).Nodup) {r : RowD} (h : r ∈ l) : ∃ i, ∃ hi : i < l.length, idxFrom (keyIs r.key) l 0 = (i : Int) ∧ l[i] = r := by
  have h1 := look_of_mem hn h
  rcases idx_look r.key l 0 with ⟨h2, _⟩ | ⟨i, hi, h2, h3, h4⟩
  · rw [h1] at h2; cases h2
  · refine ⟨i, hi, by omega, ?_⟩
    rw [h1] at h3
    have e1 : (l[i]).vals = r.vals := by injection h3 with h3; exact h3.symm
    obtain ⟨k, v⟩ := r
    generalize hx : l[i] = x at *
    obtain ⟨k', v'⟩ := x
    simp only at h4 e1
    subst h4 e1
    rfl
theorem find_row2 {l : List RowD} {k : List Nat} {v : List Int} (h1 : look l k = some v) : ∃ i, ∃ hi : i < l.length, idxFrom (keyIs k) l 0 = (i : Int) ∧ l[i] = ⟨k, v⟩ := by
  rcases idx_look k l 0 with ⟨h2, _⟩ | ⟨i, hi, h2, h3, h4⟩
  · rw [h1] at h2; cases h2
  · refine ⟨i, hi, by omega, ?_⟩
    rw [h1] at h3
    have e1 : (l[i]).vals = v := by injection h3 with h3; exact h3.symm
    generalize hx : l[i] = x at *
    obtain ⟨k', v'⟩ := x
    simp only at h4 e1
    subst h4 e1
    rfl
theorem merge_met {x a b : BookD} (hx : chkBook x = 0) (ha : chkBook a = 0) (hb : chkBook b = 0) (h : a.rows.length + b.rows.length ≤ 256) : mergeV x a b = (⟨a.name, outS x.rows a.rows b.rows⟩, confL x.rows a.rows b.rows, 0) := by
  have h1 := outS_len (base := x.rows) (a := a.rows) (b := b.rows)
  rw [mergeV, if_neg (by rw [Decidable.not_not, first3]; exact ⟨hx, ha, hb⟩), mergeC, if_neg (by omega)]
theorem outS_B {x a b : List RowD} (ha : rowsB a) (hb : rowsB b) (h : a.length + b.length ≤ 256) : rowsB (outS x a b) := by
  have h1 := outS_len (base := x) (a := a) (b := b)
  refine ⟨by omega, fun r hr => ?_⟩
  rcases outS_mem hr with h | h
  · exact ha.2 r h
  · exact hb.2 r h
theorem confL_len {x a b : List RowD} : (confL x a b).length ≤ a.length + b.length := by
  rw [confL, (sortS_perm _).length_eq]
  have h1 := List.length_filter_le (confS x a b) (allK a b)
  have h2 := List.length_filter_le (fun k => !(keysOf a).contains k) (keysOf b)
  simp only [allK, List.length_append, keysOf, List.length_map] at *
  omega
theorem met_F {x a b : List RowD} (ha : (keysOf a).Nodup) (hb : (keysOf b).Nodup) (r : RowD) (hr : r ∈ outS x a b ++ outS x b a) (hk : r.key ∉ confL x a b) : r ∈ outS x a b ∧ r ∈ outS x b a ∧ (r ∈ a ∨ r ∈ b) := by
  rcases List.mem_append.1 hr with h | h
  · have hv := look_of_mem (outS_keys ha hb) h
    obtain ⟨h1, h2⟩ := out_agree ha hb hk hv
    refine ⟨h, look_mem h1, ?_⟩
    rcases h2 with h2 | h2
    · exact .inl (look_mem h2)
    · exact .inr (look_mem h2)
  · have hv := look_of_mem (outS_keys hb ha) h
    obtain ⟨h1, h2⟩ := out_agree hb ha (by rw [← confL_comm ha hb]; exact hk) hv
    refine ⟨look_mem h1, h, ?_⟩
    rcases h2 with h2 | h2
    · exact .inr (look_mem h2)
    · exact .inl (look_mem h2)
theorem c_law5 (hw : GoodC Tryz.prog 17 [] (.bool true)) (x a b : BookD) (hx : x.rows.length ≤ 1048576) (ha : a.rows.length ≤ 1048576) (hb : b.rows.length ≤ 1048576) :
    GoodC Tryz.prog 5 [eBook x, eBook a, eBook b] (.bool true) := by
  refine good_fn nf isF5 mix (by simp [Tryz.f5]) ?_
  simp [Tryz.f5]
  refine e1 (c_book x hx) ?_
  simp
  refine e1 (c_book a ha) ?_
  simp
  refine e1 (c_book b hb) ?_
  simp
  refine ⟨⟨rfl, rfl, rfl⟩, ?_⟩
  refine e2 (c_shortBook x 8 hx (by omega)) ?_
  by_cases s1 : shortBook x 8 = true
  case neg =>
    simp [s1]
    refine c0 hw ?_
    simp
  simp [s1]
  refine e2 (c_shortBook a 8 ha (by omega)) ?_
  by_cases s2 : shortBook a 8 = true
  case neg =>
    simp [s2]
    refine c0 hw ?_
    simp
  simp [s2]
  refine e2 (c_shortBook b 8 hb (by omega)) ?_
  by_cases s3 : shortBook b 8 = true
  case neg =>
    simp [s3]
    refine c0 hw ?_
    simp
  simp [s3]
  obtain ⟨rx, lx⟩ := short_bookB s1
  obtain ⟨ra, la⟩ := short_bookB s2
  obtain ⟨rb, lb⟩ := short_bookB s3
  clear s1 s2 s3
  refine e1 (c_checkBookR x rx) ?_
  simp
  refine e1 (c_checkBookR a ra) ?_
  simp
  refine e1 (c_checkBookR b rb) ?_
  simp
  refine ep (h1 := ?g1) (c_lfirst [chkBook x, chkBook a, chkBook b] (by simp)) (by simp; exact ⟨rfl, rfl⟩) (by simp; exact ⟨rfl, rfl⟩) ?_
  case g1 => simp
  by_cases hz : firstE [chkBook x, chkBook a, chkBook b] = 0
  case neg =>
    simp [hz]
    refine ⟨rfl, ?_⟩
    refine c0 hw ?_
    simp
  by_cases l1 : (24 : Int) < IntKind.i64.wrap (IntKind.i64.wrap ((x.rows.length : Int) + (a.rows.length : Int)) + (b.rows.length : Int))
  case pos =>
    simp [hz, l1, rBook]
    refine ⟨rfl, ?_⟩
    refine c0 hw ?_
    simp
  simp [hz, l1, rBook]
  refine ⟨rfl, ?_⟩
  have l2 : x.rows.length + a.rows.length + b.rows.length ≤ 24 := by
    have w1 := wi64 ((x.rows.length : Int) + (a.rows.length : Int)) (by omega) (by omega)
    rw [w1] at l1
    have w2 := wi64 ((x.rows.length : Int) + (a.rows.length : Int) + (b.rows.length : Int)) (by omega) (by omega)
    rw [w2] at l1
    omega
  clear l1
  rw [first3] at hz
  obtain ⟨z1, z2, z3⟩ := hz
  have c1z := chkRows_iff.1 (chkBook_zero z1)
  have c2z := chkRows_iff.1 (chkBook_zero z2)
  have c3z := chkRows_iff.1 (chkBook_zero z3)
  have nb : (keysOf b.rows).Nodup := c3z.2.2
  have na : (keysOf a.rows).Nodup := c2z.2.2
  have n1 : mergeV x a b = (⟨a.name, outS x.rows a.rows b.rows⟩, confL x.rows a.rows b.rows, 0) := merge_met z1 z2 z3 (by omega)
  have n2 : mergeV x b a = (⟨b.name, outS x.rows b.rows a.rows⟩, confL x.rows a.rows b.rows, 0) := by rw [merge_met z1 z3 z2 (by omega), confL_comm nb na]
  have n3 : mergeV x a x = (⟨a.name, a.rows⟩, [], 0) := by rw [merge_met z1 z2 z1 (by omega), outS_base na, (confL_base (b := b.rows)).1]
  have n4 : mergeV x x b = (⟨x.name, outS x.rows x.rows b.rows⟩, [], 0) := by rw [merge_met z1 z1 z3 (by omega), (confL_base (a := a.rows)).2]
  have p1 : (outS x.rows x.rows b.rows).Perm b.rows := outS_base2 c1z.2.2 nb
  have B1 : rowsB (outS x.rows a.rows b.rows) := outS_B ra.2 rb.2 (by omega)
  have B2 : rowsB (outS x.rows b.rows a.rows) := outS_B rb.2 ra.2 (by omega)
  have B3 : rowsB (outS x.rows x.rows b.rows) := outS_B rx.2 rb.2 (by omega)
  have L0 : (confL x.rows a.rows b.rows).length ≤ 1000 := by have := confL_len (x := x.rows) (a := a.rows) (b := b.rows); omega
  refine c3 (c_Merge x a b rx ra rb) ?_
  simp [n1]
  refine c3 (c_Merge x b a rx rb ra) ?_
  simp [n2]
  refine c3 (c_Merge x a x rx ra rx) ?_
  simp [n3]
  refine c3 (c_Merge x x b rx rx rb) ?_
  simp [n4]
  refine e2 (c_sameWords (confL x.rows a.rows b.rows) (confL x.rows a.rows b.rows) (by omega) (by omega)) ?_
  simp
  refine e1 (c_book a ra.2.1) ?_
  simp
  refine e2 (c_sameBook a a ra ra) ?_
  simp
  have pl := p1.length_eq
  have w0 : IntKind.i64.wrap 0 = 0 := by decide
  simp [w0, eBook, pl]
  have no1 : (keysOf (outS x.rows a.rows b.rows)).Nodup := outS_keys na nb
  have no2 : (keysOf (outS x.rows b.rows a.rows)).Nodup := outS_keys nb na
  have F := met_F (x := x.rows) na nb
  have L1 : (outS x.rows a.rows b.rows).length ≤ 1000 := by have := outS_len (base := x.rows) (a := a.rows) (b := b.rows); omega
  have L2 : (outS x.rows b.rows a.rows).length ≤ 1000 := by have := outS_len (base := x.rows) (a := b.rows) (b := a.rows); omega
  have ck1 : chkRows (outS x.rows a.rows b.rows) = 0 := outS_ok (chkBook_zero z2) (chkBook_zero z3) (by omega)
  have ck2 : chkRows (outS x.rows b.rows a.rows) = 0 := outS_ok (chkBook_zero z3) (chkBook_zero z2) (by omega)
  clear n1 n2 n3 n4 z1 z2 z3 c1z c2z c3z
  generalize outS x.rows a.rows b.rows = o1 at *
  generalize outS x.rows b.rows a.rows = o2 at *
  generalize outS x.rows x.rows b.rows = o3 at *
  generalize confL x.rows a.rows b.rows = cs at *
  refine c1 (c_own o3 (by omega)) ?_
  simp
  refine lp (α := Nat) (fun i => ⟨[(163, .p (.int .i64 i)), (162, .p (.int .i64 o3.length)), (161, .p (.seq (o3.map eRow))), (13, .ptr 8 []), (11, .p (.seq (cs.map .str))), (10, .ptr 7 []), (9, .ptr 5 []), (8, .ptr 4 [])],
    [.hole, .hole, .hole, .hole, .box false (.p (.st 26 [.str a.name, .seq (a.rows.map eRow)])), .box false (.p (.st 26 [.str b.name, .seq (b.rows.map eRow)])), .hole, .box false (.p (.st 23 [.str a.name, .seq (o1.map eRow)])), .box false (.p (.st 23 [.str b.name, .seq (o2.map eRow)]))]⟩) (fun i => i ≤ o3.length) (fun i => o3.length - i) 0 (by simp) ?_
  rintro i k1
  by_cases hi : i < o3.length
  · have hw := wi1 (i := i) (by omega)
    have hm := (p1.mem_iff (a := o3[i])).1 (List.getElem_mem hi)
    have hB := B3.2 o3[i] (List.getElem_mem hi)
    generalize hr : o3[i] = r at hm hB
    obtain ⟨j, hj, f1, f2⟩ := find_row nb hm
    have hE : eRow r = .st 54 [.str r.key, .seq (r.vals.map (.int .i64))] := rfl
    simp [hi, hr, hE]
    refine c2 (c_find b.rows r.key rb.2.1) ?_
    have fn : ¬ (j : Int) < 0 := by omega
    simp [f1, fn, hj, f2]
    refine e2 (c_sameRow r r hB hB) ?_
    simp [hw]
    exact rd (i + 1) hi
  · have : i = o3.length := by omega
    subst this
    clear hi k1
    rw [w_seq']
    simp [-w_seq']
    rw [w_seq']
    simp [-w_seq']
    rw [w_seq']
    simp [-w_seq']
    refine e1 (c_own o1 (by omega)) ?_
    simp [-w_seq']
    refine e1 (c_own o2 (by omega)) ?_
    simp [-w_seq']
    rw [w_seq', w_seq']
    simp [-w_seq']
    refine c1 (c_checkRowsR o1 B1) ?_
    simp [-w_seq', ck1]
    refine c1 (c_checkRowsR o2 B2) ?_
    simp [-w_seq', ck2]
    by_cases l0 : o1 ++ o2 = []
    · obtain ⟨rfl, rfl⟩ := List.append_eq_nil_iff.1 l0
      simp
      refine lp (α := Unit) (fun _ => ⟨[(205, .p (.int .i64 0)), (204, .p (.int .i64 0)), (203, .sl 9 0 2 0 0)], [.hole, .hole, .hole, .hole, .hole, .hole, .hole, .hole, .hole, .arr .exact 0 2 []]⟩) (fun _ => True) (fun _ => 0) () trivial ?_
      rintro _ _
      simp
      refine c0 hw ?_
      simp
    obtain ⟨C, hC⟩ : ∃ C, C = (o1 ++ o2).map (AV.p ∘ eRow) := ⟨_, rfl⟩
    have hCl : C.length = o1.length + o2.length := by rw [hC]; simp
    have hC0 : C ≠ [] := by rw [hC]; simpa using l0
    rw [w_seq']
    refine join (fun s => ∃ ver, getE s.env 8 = .ptr 4 [] ∧ getE s.env 9 = .ptr 5 [] ∧ getE s.env 11 = .p (.seq (cs.map .str)) ∧ getE s.env 25 = .p (.seq (o1.map eRow)) ∧ getE s.env 26 = .p (.seq (o2.map eRow)) ∧
      getE s.env 203 = .sl 10 ver 2 0 (o1.length + o2.length) ∧ getE s.env 204 = .p (.int .i64 ((o1.length : Int) + o2.length)) ∧ getE s.env 205 = .p (.int .i64 0) ∧
      s.heap = [.hole, .hole, .hole, .hole, .box false (.p (.st 26 [.str a.name, .seq (a.rows.map eRow)])), .box false (.p (.st 26 [.str b.name, .seq (b.rows.map eRow)])), .hole, .box false (.p (.st 23 [.str a.name, .seq (o1.map eRow)])), .box false (.p (.st 23 [.str b.name, .seq (o2.map eRow)])), .arr .exact 0 2 [], .arr .grow ver 2 C]) ?_ ?_
    · rw [hC]
      clear hC hCl hC0
      have shR : ∀ l : List RowD, allShp Tryz.prog 2 (l.map (AV.p ∘ eRow)) := fun l => shp_map fun r => ⟨by simp [shpA], by simp [shpA]⟩
      by_cases a0 : o1 = []
      · subst a0
        have b0 : o2 ≠ [] := by simpa using l0
        simp [b0, shR]
        repeat' refine And.intro ?_ ?_
        all_goals first | rfl | omega | (simp only [maxL]; omega)
      · by_cases b0 : o2 = []
        · subst b0
          simp [a0, shR]
          repeat' refine And.intro ?_ ?_
          all_goals first | rfl | omega | (simp only [maxL]; omega)
        · simp [a0, b0, shR]
          repeat' refine And.intro ?_ ?_
          all_goals first | rfl | omega | (simp only [maxL]; omega)
    rintro ⟨env, heap⟩ ⟨ver, e8, e9, e11, e25, e26, e203, e204, e205, hp⟩
    dsimp only at e8 e9 e11 e25 e26 e203 e204 e205 hp
    subst hp
    have hCr : ∀ T, refsLtl (InH T) C := fun T => by rw [hC, rl_pc]; trivial
    simp [-w_seq']
    refine lp (α := Nat) (fun i => ⟨[(205, .p (.int .i64 i)), (204, .p (.int .i64 ((o1.length : Int) + o2.length))), (203, .sl 10 ver 2 0 (o1.length + o2.length)), (26, .p (.seq (o2.map eRow))), (25, .p (.seq (o1.map eRow))), (11, .p (.seq (cs.map .str))), (9, .ptr 5 []), (8, .ptr 4 [])],
      [.hole, .hole, .hole, .hole, .box false (.p (.st 26 [.str a.name, .seq (a.rows.map eRow)])), .box false (.p (.st 26 [.str b.name, .seq (b.rows.map eRow)])), .hole, .hole, .hole, .hole, .arr .grow ver 2 C]⟩)
      (fun i => i ≤ o1.length + o2.length) (fun i => o1.length + o2.length - i) 0 (by simp) ?_ (he := by simp [e8, e9, e11, e25, e26, e203, e204, e205]) (hr := by simp) (hr2 := by simp [hCr])
    rintro i k1
    have hwi := wi1 (i := i) (by omega)
    by_cases hi : i < o1.length + o2.length
    · have hiz : (i : Int) < (o1.length : Int) + (o2.length : Int) := by omega
      have hiC : i < C.length := by omega
      obtain ⟨r, hr1, hr2⟩ : ∃ r : RowD, C[i]'hiC = .p (eRow r) ∧ r ∈ o1 ++ o2 := ⟨(o1 ++ o2)[i]'(by simpa using hi), by simp only [hC, List.getElem_map, Function.comp], List.getElem_mem _⟩
      have hE : eRow r = .st 54 [.str r.key, .seq (r.vals.map (.int .i64))] := rfl
      rw [hE] at hr1
      have FF := F r hr2
      simp [hiz, hCl, hC0, hi, hr1]
      refine c2 (c_hasWord cs r.key (by omega)) ?_
      by_cases hk : r.key ∈ cs
      · simp [hk, hwi]
        exact rd (i + 1) hi (hr2 := by simp [hCr])
      obtain ⟨m1, m2, m3⟩ := FF hk
      have hB := B1.2 r m1
      obtain ⟨j1, hj1, f1, g1⟩ := find_row no1 m1
      obtain ⟨j2, hj2, f2, g2⟩ := find_row no2 m2
      have n1 : ¬ (j1 : Int) < 0 := by omega
      have n2 : ¬ (j2 : Int) < 0 := by omega
      simp [hk]
      refine e2 (c_find o1 r.key (by omega)) ?_
      simp [f1]
      refine e2 (c_find o2 r.key (by omega)) ?_
      simp [f2, n1, n2, hj1, hj2, g1, g2]
      refine e2 (c_sameRow r r hB hB) ?_
      simp
      by_cases ma : r ∈ a.rows
      · obtain ⟨ja, hja, fa, ga⟩ := find_row na ma
        have na0 : ¬ (ja : Int) < 0 := by omega
        refine e2 (c_find a.rows r.key ra.2.1) ?_
        simp [fa]
        refine e2 (c_find b.rows r.key rb.2.1) ?_
        simp [na0, hja, ga]
        refine e2 (c_sameRow r r hB hB) ?_
        simp [hwi]
        exact rd (i + 1) hi (hr2 := by simp [hCr])
      · have mb : r ∈ b.rows := m3.resolve_left ma
        obtain ⟨jb, hjb, fb, gb⟩ := find_row nb mb
        have nb0 : ¬ (jb : Int) < 0 := by omega
        refine e2 (c_find a.rows r.key ra.2.1) ?_
        rcases idx_look r.key a.rows 0 with ⟨_, fa⟩ | ⟨ja, hja, fa, _, _⟩
        · simp [fa]
          refine e2 (c_find b.rows r.key rb.2.1) ?_
          simp [fb, nb0, hjb, gb]
          refine e2 (c_sameRow r r hB hB) ?_
          simp [hwi]
          exact rd (i + 1) hi (hr2 := by simp [hCr])
        · rw [Int.natCast_zero, Int.zero_add] at fa
          have na0 : ¬ (ja : Int) < 0 := by omega
          simp [fa]
          refine e2 (c_find b.rows r.key rb.2.1) ?_
          simp [fb, na0, nb0, hja, hjb, gb]
          have hne : a.rows[ja] ≠ r := fun e => ma (e ▸ List.getElem_mem hja)
          have hBa := ra.2.2 a.rows[ja] (List.getElem_mem hja)
          refine e2 (c_sameRow a.rows[ja] r hBa hB) ?_
          simp [hne, nb0, hjb, gb]
          refine e2 (c_sameRow r r hB hB) ?_
          simp [hwi]
          exact rd (i + 1) hi (hr2 := by simp [hCr])
    · have : i = o1.length + o2.length := by omega
      subst this
      simp
      refine c0 hw ?_
      simp
end Go.Abs
