import Derived.Test.YthckccalfpnmaaaGreatDoorQC
import Derived.Test.YthckccalfpnmaaaGreatDoorQA
/-
  Walks: merging, by the reference.
-/
set_option linter.unusedSimpArgs false
set_option linter.unusedVariables false
set_option linter.unusedSectionVars false
namespace Go.Abs
open Go.Proofs
set_option maxHeartbeats 4000000
set_option maxRecDepth 100000
/-- the keys of the first i rows of both lists, each one once -/
def kTo (a b : List RowD) (i : Nat) : List (List Nat) := keysOf (a.take i) ++ (keysOf (b.take (i - a.length))).filter fun k => !(keysOf a).contains k
theorem kTo_zero (a b : List RowD) : kTo a b 0 = [] := by simp [kTo, keysOf]
theorem kTo_end (a b : List RowD) : kTo a b (a.length + b.length) = allK a b := by
  rw [kTo, allK, List.take_of_length_le (by omega), List.take_of_length_le (by omega)]
theorem kTo_a {a b : List RowD} {i : Nat} (h : i < a.length) : kTo a b (i + 1) = kTo a b i ++ [a[i].key] := by
  have e : i + 1 - a.length = 0 := by omega
  have e' : i - a.length = 0 := by omega
  simp only [kTo, e, e', List.take_zero, List.take_succ_eq_append_getElem h, keysOf, List.map_append, List.map_cons, List.map_nil, List.filter_nil, List.append_nil]
theorem kTo_b {a b : List RowD} {i : Nat} (h : a.length ≤ i) (h2 : i - a.length < b.length) : kTo a b (i + 1) = kTo a b i ++ (if b[i - a.length].key ∈ keysOf a then [] else [b[i - a.length].key]) := by
  have e : i + 1 - a.length = (i - a.length) + 1 := by omega
  have e2 : a.take (i + 1) = a := List.take_of_length_le (by omega)
  have e3 : a.take i = a := List.take_of_length_le h
  simp only [kTo, e, e2, e3, List.take_succ_eq_append_getElem h2, keysOf, List.map_append, List.filter_append, List.append_assoc, List.map_cons, List.map_nil, List.filter_cons, List.filter_nil, List.contains_eq_mem]
  congr 2
  by_cases hm : b[i - a.length].key ∈ List.map (fun x => x.key) a <;> simp [hm]
theorem kTo_len (a b : List RowD) (i : Nat) : (kTo a b i).length ≤ a.length + b.length := by
  have q2 := List.length_filter_le (fun k => !(keysOf a).contains k) (keysOf (b.take (i - a.length)))
  simp only [kTo, List.length_append, keysOf, List.length_map, List.length_take] at *
  omega
theorem sortS_snoc (l : List (List Nat)) (k : List Nat) : sortS (l ++ [k]) = insS (sortS l) k := by simp [sortS]
def resS (x a b : List RowD) (n : List Nat) : PV :=
  if (outS x a b).length > 256 then .tup [rBook ⟨[], []⟩, .seq [], .int .i64 5] else .tup [rBook ⟨n, outS x a b⟩, .seq ((confL x a b).map .str), .int .i64 0]
section
variable (x a b : List RowD) (xn an bn : List Nat) (ver : Nat) (C : List AV)
def mH (out : List RowD) : Heap := [.box false (.p (.st 26 [.str xn, .seq (x.map eRow)])), .box false (.p (.st 26 [.str an, .seq (a.map eRow)])), .box false (.p (.st 26 [.str bn, .seq (b.map eRow)])),
  .box false (.p (.st 26 [.str [], .nsl])), .box false (.st 26 [.p (.str an), .sl 7 out.length 2 0 out.length]), .hole, .arr .grow ver 2 C, .arr .grow out.length 2 (out.map (AV.p ∘ eRow))]
/-- what is kept while a key is looked at -/
structure MKeep (i : Nat) (out : List RowD) (s : St) : Prop where
  e3 : getE s.env 3 = .ptr 0 []
  e4 : getE s.env 4 = .ptr 1 []
  e5 : getE s.env 5 = .ptr 2 []
  e6 : getE s.env 6 = .ptr 3 []
  e9 : getE s.env 9 = .ptr 4 []
  e11 : getE s.env 11 = .sl 6 ver 2 0 (a.length + b.length)
  e12 : getE s.env 12 = .p (.int .i64 i)
  hp : s.heap = mH x a b xn an bn ver C out
end
theorem c_mergeR (x a b : BookD) (hx : bookB x) (ha : bookB a) (hb : bookB b) (la : a.rows.length ≤ 1000) (lb : b.rows.length ≤ 1000) :
    GoodC Tryz.prog 27 [rBook x, rBook a, rBook b] (resS x.rows a.rows b.rows a.name) := by
  refine good_fn nf isF27 mix (by simp [Tryz.f27]) ?_
  obtain ⟨xn, x⟩ := x
  obtain ⟨an, a⟩ := a
  obtain ⟨bn, b⟩ := b
  dsimp only at hx ha hb la lb ⊢
  by_cases l0 : a ++ b = []
  · obtain ⟨rfl, rfl⟩ := List.append_eq_nil_iff.1 l0
    have e1 : outS x [] [] = [] := rfl
    have e2 : confL x [] [] = [] := rfl
    simp [Tryz.f27, rBook, resS, e1, e2]
    refine ⟨⟨rfl, rfl⟩, ?_⟩
    refine lp (α := Unit) (fun _ => ⟨[(12, .p (.int .i64 0)), (11, .sl 5 0 2 0 0), (10, .p .nsl), (9, .ptr 4 []), (6, .ptr 3 []), (5, .ptr 2 []), (4, .ptr 1 []), (3, .ptr 0 [])], [.box false (.p (.st 26 [.str xn, .seq (x.map eRow)])), .box false (.p (.st 26 [.str an, .seq []])), .box false (.p (.st 26 [.str bn, .seq []])), .box false (.p (.st 26 [.str [], .nsl])), .box false (.p (.st 26 [.str an, .nsl])), .arr .exact 0 2 []]⟩) (fun _ => True) (fun _ => 0) () trivial ?_
    rintro _ _
    simp [e1, e2]
  obtain ⟨C, hC⟩ : ∃ C, C = (a ++ b).map (AV.p ∘ eRow) := ⟨_, rfl⟩
  have hCl : C.length = a.length + b.length := by rw [hC]; simp
  have hC0 : C ≠ [] := by rw [hC]; simpa using l0
  simp [Tryz.f27, -w_seq', rBook]
  rw [w_seq']; simp [-w_seq']
  rw [w_seq']; simp [-w_seq']
  rw [w_seq']; simp [-w_seq']
  refine join (fun s => ∃ ver, getE s.env 3 = .ptr 0 [] ∧ getE s.env 4 = .ptr 1 [] ∧ getE s.env 5 = .ptr 2 [] ∧ getE s.env 6 = .ptr 3 [] ∧ getE s.env 9 = .ptr 4 [] ∧ getE s.env 10 = .p .nsl ∧ getE s.env 11 = .sl 6 ver 2 0 (a.length + b.length) ∧
    s.heap = [.box false (.p (.st 26 [.str xn, .seq (x.map eRow)])), .box false (.p (.st 26 [.str an, .seq (a.map eRow)])), .box false (.p (.st 26 [.str bn, .seq (b.map eRow)])),
      .box false (.p (.st 26 [.str [], .nsl])), .box false (.p (.st 26 [.str an, .nsl])), .arr .exact 0 2 [], .arr .grow ver 2 C]) ?_ ?_
  · rw [hC]
    clear hC hCl hC0
    have shR : ∀ l : List RowD, allShp Tryz.prog 2 (l.map (AV.p ∘ eRow)) := fun l => shp_map fun r => ⟨by simp [shpA], by simp [shpA]⟩
    by_cases a0 : a = []
    · subst a0
      have b0 : b ≠ [] := by simpa using l0
      simp [b0, shR]
      repeat' refine And.intro ?_ ?_
      all_goals first | rfl | omega | (simp only [maxL]; omega)
    · by_cases b0 : b = []
      · subst b0
        simp [a0, shR]
        repeat' refine And.intro ?_ ?_
        all_goals first | rfl | omega | (simp only [maxL]; omega)
      · simp [a0, b0, shR]
        repeat' refine And.intro ?_ ?_
        all_goals first | rfl | omega | (simp only [maxL]; omega)
  rintro ⟨env, heap⟩ ⟨ver, e3, e4, e5, e6, e9, e10, e11, hp⟩
  dsimp only at e3 e4 e5 e6 e9 e10 e11 hp
  subst hp
  have hCr : ∀ T, refsLtl (InH T) C := fun T => by rw [hC, rl_pc]; trivial
  rw [w_seq', w_seq']
  simp [-w_seq']
  refine lp (α := Nat × List RowD × PV × List (List Nat)) (fun (i, out, cf, cs) => ⟨[(12, .p (.int .i64 i)), (11, .sl 6 ver 2 0 (a.length + b.length)), (10, .p cf), (9, .ptr 4 []), (6, .ptr 3 []), (5, .ptr 2 []), (4, .ptr 1 []), (3, .ptr 0 [])], mH x a b xn an bn ver C out⟩)
    (fun (i, out, cf, cs) => i ≤ a.length + b.length ∧ out = (kTo a b i).filterMap (fun k => rowAt (srcS x a b k) k) ∧ Wk cf (.seq (cs.map .str)) ∧ cs = sortS ((kTo a b i).filter (confS x a b))) (fun (i, _) => a.length + b.length - i) (0, [], .nsl, []) (by simp [kTo_zero]; rfl) ?_ (he := by simp [e3, e4, e5, e6, e9, e10, e11]) (hh := by simp [mH]) (hr := by simp [mH]) (hr2 := by simp [mH, hCr])
  rintro ⟨i, out, cf, cs⟩ ⟨h1, h2, h3, h4⟩
  dsimp only at h1 h2 h3 h4 ⊢
  have hw := wi1 (i := i) (by omega)
  by_cases hi : i < a.length + b.length
  · have hiz : (i : Int) < (a.length : Int) + (b.length : Int) := by omega
    have hiC : i < C.length := by omega
    obtain ⟨r, hr1, hr2⟩ : ∃ r : RowD, C[i]'hiC = .p (eRow r) ∧ ((∃ h : i < a.length, r = a[i]) ∨ (a.length ≤ i ∧ ∃ h : i - a.length < b.length, r = b[i - a.length])) := by
      by_cases h : i < a.length
      · exact ⟨a[i], by simp only [hC, List.getElem_map, List.getElem_append_left h, Function.comp], .inl ⟨h, rfl⟩⟩
      · exact ⟨b[i - a.length]'(by omega), by simp only [hC, List.getElem_map, List.getElem_append_right (Nat.le_of_not_lt h), Function.comp], .inr ⟨by omega, by omega, rfl⟩⟩
    have hr0 : eRow r = .st 54 [.str r.key, .seq (r.vals.map (.int .i64))] := rfl
    rw [hr0] at hr1
    rw [w_seq', w_seq']
    simp [-w_seq', hiz, mH, hCl, hC0]
    rw [w_seq']
    simp [-w_seq']
    rw [w_seq']
    simp [-w_seq', hi, hCl, hC0, hr1]
    refine join (fun s => MKeep x a b xn an bn ver C i out s ∧ getE s.env 10 = .p cf ∧ getE s.env 13 = .p (.str r.key) ∧ (i < a.length ∨ r.key ∉ keysOf a)) ?_ ?_
    · by_cases hia : i < a.length
      · have hz : ¬ (a.length : Int) ≤ i := by omega
        simp [hz, hia]
        constructor <;> simp [mH]
      · have hz : (a.length : Int) ≤ i := by omega
        simp [hz, hia]
        refine c2 (c_find a r.key ha.2.1) ?_
        rcases idx_look r.key a 0 with ⟨q1, q2⟩ | ⟨m, hm, q1, q2, q3⟩
        · simp [q2]
          refine ⟨?_, .inr (look_none.1 q1)⟩
          constructor <;> simp [mH]
        · have hz2 : (0 : Int) ≤ (m : Int) := by omega
          simp [q1, hz2, hw]
          have hk : kTo a b (i + 1) = kTo a b i := by
            rcases hr2 with ⟨h, _⟩ | ⟨h, h', e⟩
            · exact (hia h).elim
            · rw [kTo_b h h', ← e, if_pos (by rw [← q3]; exact List.mem_map_of_mem (List.getElem_mem hm)), List.append_nil]
          exact rd (i + 1, out, cf, cs) ⟨hi, by rw [hk]; exact h2, h3, by rw [hk]; exact h4⟩ (h1 := by dsimp only; omega) (hr2 := by simp [hCr])
    rintro ⟨env', heap'⟩ ⟨⟨f3, f4, f5, f6, f9, f11, f12, hp⟩, f10, f13, hnew⟩
    dsimp only at f3 f4 f5 f6 f9 f10 f11 f12 f13 hp
    subst hp
    rw [w_seq']
    simp [-w_seq', f3, f4, f5, f6, f9, f10, f11, f12, f13, mH]
    refine join (fun s => ∃ cf' cs', MKeep x a b xn an bn ver C i out s ∧ getE s.env 10 = .p cf' ∧ Wk cf' (.seq (cs'.map .str)) ∧ cs' = (if confS x a b r.key then insS cs r.key else cs) ∧ getE s.env 13 = .p (.str r.key) ∧ getE s.env 14 = .p (.seq ((srcS x a b r.key).map eRow))) ?_ ?_
    · simp [f3, f4, f5, f6, f9, f10, f11, f12, f13]
      refine c3 (c_agree a b r.key ha.2 hb.2) ?_
      by_cases hab : look a r.key = look b r.key
      · have gab : agreeS a b r.key = true := by simp [agreeS, hab]
        have gs : srcS x a b r.key = a := by simp [srcS, hab]
        have gc : confS x a b r.key = false := by simp [confS, hab]
        simp [gab, f4, f5, f13]
        refine c3 (c_agree a b r.key ha.2 hb.2) ?_
        simp [gab, gs, gc, f10, f13]
        refine ⟨?_, h3⟩
        constructor <;> simp [mH, f3, f4, f5, f6, f9, f11, f12]
      · have gab : agreeS a b r.key = false := by simp [agreeS, hab]
        simp [gab, f3, f4, f5, f13]
        refine c3 (c_agree a x r.key ha.2 hx.2) ?_
        by_cases hac : look a r.key = look x r.key
        · have gac : agreeS a x r.key = true := by simp [agreeS, hac]
          have gs : srcS x a b r.key = b := by rw [srcS, if_pos ⟨hab, hac⟩]
          have gc : confS x a b r.key = false := by simp [confS, hac]
          simp [gac, gs, gc, f5, f10, f13]
          refine ⟨?_, h3⟩
          constructor <;> simp [mH, f3, f4, f5, f6, f9, f11, f12]
        · have gac : agreeS a x r.key = false := by simp [agreeS, hac]
          have gs : srcS x a b r.key = a := by simp [srcS, hac]
          simp [gac, f4, f5, f13]
          refine c3 (c_agree a b r.key ha.2 hb.2) ?_
          simp [gab, f3, f5, f13]
          refine c3 (c_agree b x r.key hb.2 hx.2) ?_
          by_cases hbc : look b r.key = look x r.key
          · have gbc : agreeS b x r.key = true := by simp [agreeS, hbc]
            have gc : confS x a b r.key = false := by simp [confS, hbc]
            simp [gbc, gs, gc, f10, f13]
            refine ⟨?_, h3⟩
            constructor <;> simp [mH, f3, f4, f5, f6, f9, f11, f12]
          · have gbc : agreeS b x r.key = false := by simp [agreeS, hbc]
            have gc : confS x a b r.key = true := by simp [confS, hab, hac, hbc]
            simp [gbc, f10, f13]
            refine c2 (c_insert cs r.key (by rw [h4, (sortS_perm _).length_eq]; have q := List.length_filter_le (confS x a b) (kTo a b i); have q2 := kTo_len a b i; omega)) ?_ (h1 := h3)
            simp [gs, gc, f13]
            constructor <;> simp [mH, f3, f4, f5, f6, f9, f11, f12]
    rintro ⟨env2, heap2⟩ ⟨cf', cs', ⟨g3, g4, g5, g6, g9, g11, g12, hp⟩, g10, h3', hcs, g13, g14⟩
    dsimp only at g3 g4 g5 g6 g9 g10 g11 g12 g13 g14 hp
    subst hp
    have hK : kTo a b (i + 1) = kTo a b i ++ [r.key] := by
      rcases hr2 with ⟨h, e⟩ | ⟨h, h', e⟩
      · rw [kTo_a h, ← e]
      · rw [kTo_b h h', ← e, if_neg (hnew.resolve_left (by omega))]
    have hcs2 : cs' = sortS ((kTo a b (i + 1)).filter (confS x a b)) := by
      rw [hcs, hK, List.filter_append, h4]
      cases hc : confS x a b r.key
      · simp [hc]
      · simp [hc, sortS_snoc]
    have hol : out.length ≤ i := by
      have q := List.length_filterMap_le (fun k => rowAt (srcS x a b k) k) (kTo a b i)
      rw [← h2] at q
      have q2 := List.length_filter_le (fun k => !(keysOf a).contains k) (keysOf (b.take (i - a.length)))
      simp only [kTo, List.length_append, keysOf, List.length_map, List.length_take] at q q2
      omega
    rw [w_seq']
    simp [-w_seq', g13, g14]
    refine c2 (c_has (srcS x a b r.key) r.key (by simp only [srcS]; split; exact hb.2.1; exact ha.2.1)) ?_
    cases hlk : look (srcS x a b r.key) r.key with
    | none =>
      have hout : out = (kTo a b (i + 1)).filterMap (fun k => rowAt (srcS x a b k) k) := by
        rw [hK, List.filterMap_append, ← h2]; simp [rowAt, hlk]
      simp [g12, hw]
      exact rd (i + 1, out, cf', cs') ⟨hi, hout, h3', hcs2⟩ (h1 := by dsimp only; omega) (he := by simp [g3, g4, g5, g6, g9, g10, g11]) (hh := by simp [mH]) (hr2 := by simp [mH, hCr])
    | some v =>
      have hout : out ++ [⟨r.key, v⟩] = (kTo a b (i + 1)).filterMap (fun k => rowAt (srcS x a b k) k) := by
        rw [hK, List.filterMap_append, ← h2]; simp [rowAt, hlk]
      simp [g9, g12, g13, hw, mH]
      refine ⟨by simp only [maxL]; omega, ?_⟩
      exact rd (i + 1, out ++ [⟨r.key, v⟩], cf', cs') ⟨hi, hout, h3', hcs2⟩ (h1 := by dsimp only; omega) (he := by simp [g3, g4, g5, g6, g9, g10, g11]) (hh := by simp [eRow]) (hr2 := by simp [hCr])
  · have hin : ¬ (i : Int) < (a.length : Int) + (b.length : Int) := by omega
    have hie : i = a.length + b.length := by omega
    rw [hie, kTo_end] at h2 h4
    have hout : outS x a b = out := h2.symm
    have hcf : confL x a b = cs := h4.symm
    have hol : out.length ≤ a.length + b.length := by rw [← hout]; exact outS_len
    by_cases hbig : (256 : Int) < (out.length : Int)
    · have hbig' : (outS x a b).length > 256 := by rw [hout]; omega
      simp [hin, mH, hCl, hC0, hbig, resS, hbig', rBook]
    · have hbig' : ¬ (outS x a b).length > 256 := by rw [hout]; omega
      simp [hin, mH, hCl, hC0, hbig, resS, hbig', rBook]
      rw [hout, hcf]
      exact ⟨by rw [purl_map]; intro r _; simp, h3⟩
end Go.Abs

/-
  Walks: merging, by the program.
-/
namespace Go.Abs
open Go.Proofs
set_option maxHeartbeats 4000000
set_option maxRecDepth 100000
theorem g_mappedRS {g : FuncId} {F : RowD → List Nat} (l : List RowD) (h : l.length ≤ 1048576) (hg : ∀ r ∈ l, GoodC Tryz.prog g [eRow r] (.str (F r))) :
    GoodI Tryz.prog 190 [] [.p (.seq (l.map eRow)), .p (.func g [] [])] [.arr .grow l.length 1 ((l.map F).map (AV.p ∘ PV.str))] (.sl 0 l.length 1 0 l.length) := by
  refine goodI_fn nf isF190 mix (by simp [Tryz.f190]) ?_
  simp [Tryz.f190]
  refine lp (α := Nat) (fun i => ⟨[(10, .p (.int .i64 i)), (9, .p (.int .i64 l.length)), (8, .p (.seq (l.map eRow))), (5, .sl 0 i 1 0 i), (1, .p (.func g [] []))], [.arr .grow i 1 ((l.map fun r => .p (.str (F r))).take i)]⟩) (fun i => i ≤ l.length) (fun i => l.length - i) 0 (by simp) ?_
  rintro i k1
  by_cases hi : i < l.length
  · have hw := wi1 (i := i) (by omega)
    have ht := take_next (fun r => AV.p (.str (F r))) hi
    simp [hi]
    refine c1 (hg l[i] (List.getElem_mem hi)) ?_
    simp
    refine ⟨⟨by omega, by simp [maxL]; omega⟩, ?_⟩
    exact rd (i + 1) hi (he := by simp [hw]) (hh := by simp [ht]) (hr2 := by simp [ht])
  · have : i = l.length := by omega
    subst this
    simp [oneOf, Function.comp_def]
def resP (x a b : List RowD) (n : List Nat) : PV :=
  if (outS x a b).length > 256 then .tup [eBook ⟨[], []⟩, .seq [], .int .i64 5] else .tup [eBook ⟨n, outS x a b⟩, .seq ((confL x a b).map .str), .int .i64 0]
theorem heldE_eq {o p : Option (List Int)} (ho : ∀ v, o = some v → ∀ n ∈ v, inI n) (hp : ∀ v, p = some v → ∀ n ∈ v, inI n) : (o.isSome = p.isSome ∧ valsT (o.getD []) = valsT (p.getD [])) ↔ o = p := by
  cases o with
  | none => cases p <;> simp
  | some v => cases p with
    | none => simp
    | some w =>
      simp only [Option.isSome_some, Option.getD_some, true_and, Option.some.injEq]
      exact ⟨fun h => valsT_inj (ho v rfl) (hp w rfl) h, fun h => by rw [h]⟩
theorem ft_held : fieldT Tryz.prog 294 0 = some (293, .leaf) := by kernel_rfl
@[simp] theorem fv_held {b : Bool} {s : PV} : fieldV Tryz.prog 294 0 (.p (.st 293 [.bool b, s])) = some (True, { v := .p (.bool b) }) := by
  rw [fieldV_st ft_held]
  simp [shp]
theorem so_held : Tryz.prog.stoodInHeld 294 = false := by kernel_rfl
@[simp] theorem eo_held : eqOk Tryz.prog 294 = true := by kernel_rfl
def heldC (p : Bool) (s : List Nat) (q : Bool) (t : List Nat) : Bool := decide (p = q ∧ s = t)
@[simp] theorem eq_held {p q : Bool} {s t : List Nat} : eqT Tryz.prog 9 294 (.st 293 [.bool p, .str s]) (.st 293 [.bool q, .str t]) = some (heldC p s q t) := by
  have hu := Tryz.underlying294
  have : ((p == q) && ((s == t) && true)) = heldC p s q t := by
    rw [heldC, Bool.eq_iff_iff]; simp
  rw [← this]
  simp [eqT, hu, so_held, eqTs, shp]
theorem heldC_eq {o p : Option (List Int)} (ho : ∀ v, o = some v → ∀ n ∈ v, inI n) (hp : ∀ v, p = some v → ∀ n ∈ v, inI n) : heldC o.isSome (valsT (o.getD [])) p.isSome (valsT (p.getD [])) = decide (o = p) := by
  rw [heldC, Bool.eq_iff_iff, decide_eq_true_eq, decide_eq_true_eq]
  exact heldE_eq ho hp
section
variable (x a b : List RowD) (xn an bn : List Nat)
def pH (ks cs : List (List Nat)) (out : List RowD) : Heap := [.box false (.p (.st 23 [.str xn, .seq (x.map eRow)])), .box false (.p (.st 23 [.str an, .seq (a.map eRow)])), .box false (.p (.st 23 [.str bn, .seq (b.map eRow)])),
  .box false (.p (.st 23 [.str [], .nsl])), .box false (.st 23 [.p (.str an), .sl 7 out.length 2 0 out.length]), .arr .grow ks.length 1 (ks.map (AV.p ∘ PV.str)), .arr .grow cs.length 1 (cs.map (AV.p ∘ PV.str)), .arr .grow out.length 2 (out.map (AV.p ∘ eRow))]
end
theorem look_key {l : List RowD} {k : List Nat} {v : List Int} (h : look l k = some v) : k ∈ keysOf l := by
  have := List.mem_map_of_mem (f := RowD.key) (look_mem h)
  exact this
theorem keysOf_step {b : List RowD} {i : Nat} (hi : i < b.length) : keysOf (b.take (i + 1)) = keysOf (b.take i) ++ [b[i].key] := by
  rw [List.take_succ_eq_append_getElem hi, keysOf, keysOf, List.map_append]; rfl
theorem c_merge (x a b : BookD) (hx : bookB x) (ha : bookB a) (hb : bookB b) (ix : rowsI x.rows) (ia : rowsI a.rows) (ib : rowsI b.rows) (nx : (keysOf x.rows).Nodup) (na : (keysOf a.rows).Nodup) (nb : (keysOf b.rows).Nodup)
    (lx : x.rows.length ≤ 1000) (la : a.rows.length ≤ 1000) (lb : b.rows.length ≤ 1000) : GoodC Tryz.prog 111 [eBook x, eBook a, eBook b] (resP x.rows a.rows b.rows a.name) := by
  refine good_fn nf isF111 mix (by simp [Tryz.f111]) ?_
  have rx := c_rows x hx.2.1 nx
  have ra := c_rows a ha.2.1 na
  have rb := c_rows b hb.2.1 nb
  obtain ⟨xn, x⟩ := x
  obtain ⟨an, a⟩ := a
  obtain ⟨bn, b⟩ := b
  dsimp only at hx ha hb ix ia ib nx na nb lx la lb ⊢
  simp [Tryz.f111, -w_seq', eBook] at rx ra rb ⊢
  rw [w_seq']; simp [-w_seq']
  rw [w_seq']; simp [-w_seq']
  refine e1 rx ?_
  simp [-w_seq']
  refine e1 ra ?_
  simp [-w_seq']
  refine e1 rb ?_
  simp [-w_seq']
  rw [w_seq']; simp [-w_seq']
  rw [w_seq']; simp [-w_seq']
  rw [w_seq']; simp [-w_seq']
  refine cn2 (g_mappedRS a ha.2.1 fun r _ => c_merge1 r) ?_
  simp [-w_seq']
  rw [w_seq', w_seq']
  simp [-w_seq']
  refine lp (α := Nat × List (List Nat)) (fun (i, ks) => ⟨[(42, .p (.int .i64 i)), (41, .p (.int .i64 b.length)), (40, .p (.seq (b.map eRow))), (14, .sl 5 ks.length 1 0 ks.length), (13, .sl 6 0 1 0 0), (12, .ptr 4 []), (11, .p (.fmap (rowsE b))), (10, .p (.fmap (rowsE a))), (9, .p (.fmap (rowsE x))), (6, .ptr 3 []), (3, .ptr 0 [])], pH x a b xn an bn ks [] []⟩)
    (fun (i, ks) => i ≤ b.length ∧ ks = keysOf a ++ (keysOf (b.take i)).filter fun k => !(keysOf a).contains k) (fun (i, _) => b.length - i) (0, keysOf a) (by simp [keysOf]) ?_ (he := by simp [pH, keysOf]) (hh := by simp [pH, keysOf]) (hr := by simp [pH]) (hr2 := by simp [pH])
  rintro ⟨i, ks⟩ ⟨h1, h2⟩
  dsimp only at h1 h2 ⊢
  have hw := wi1 (i := i) (by omega)
  have hks : ks.length ≤ a.length + i := by
    have q2 := List.length_filter_le (fun k => !(keysOf a).contains k) (keysOf (b.take i))
    rw [h2]; simp only [List.length_append, keysOf, List.length_map, List.length_take] at *; omega
  by_cases hi : i < b.length
  · have hiz : (i : Int) < (b.length : Int) := by omega
    have hE : eRow b[i] = .st 54 [.str b[i].key, .seq (b[i].vals.map (.int .i64))] := rfl
    have ht : b.take (i + 1) = b.take i ++ [b[i]] := List.take_succ_eq_append_getElem hi
    simp [hiz, hi, hE, pH]
    refine c2 (c_holds a b[i].key ha.2 ia) ?_
    cases hl : look a b[i].key with
    | none =>
      have hk : ks ++ [b[i].key] = keysOf a ++ (keysOf (b.take (i + 1))).filter fun k => !(keysOf a).contains k := by
        have := look_none.1 hl
        rw [keysOf_step hi, List.filter_append, ← List.append_assoc, ← h2]; simp [this]
      simp [heldE, hw]
      refine ⟨by simp only [maxL]; omega, ?_⟩
      exact rd (i + 1, ks ++ [b[i].key]) ⟨hi, hk⟩ (h1 := by dsimp only; omega) (he := by simp) (hh := by simp) (hr2 := by simp)
    | some v =>
      have hk : ks = keysOf a ++ (keysOf (b.take (i + 1))).filter fun k => !(keysOf a).contains k := by
        have : b[i].key ∈ keysOf a := look_key hl
        rw [keysOf_step hi, List.filter_append, h2]; simp [this]
      simp [heldE, hw]
      exact rd (i + 1, ks) ⟨hi, hk⟩ (h1 := by dsimp only; omega) (hh := by simp [pH]) (hr2 := by simp)
  have hie : i = b.length := by omega
  have hin : ¬ (i : Int) < (b.length : Int) := by omega
  have hkA : ks = allK a b := by rw [h2, hie, List.take_length, allK]
  clear h1 h2 hw hks
  subst hie hkA
  rw [w_seq']
  simp [-w_seq', hin]
  rw [w_seq']
  simp [-w_seq']
  rw [w_seq', w_seq']
  simp [-w_seq', pH]
  refine lp (α := Nat × List (List Nat)) (fun (i, ks) => ⟨[(61, .p (.int .i64 i)), (60, .p (.int .i64 x.length)), (59, .p (.seq (x.map eRow))), (14, .sl 5 ks.length 1 0 ks.length), (13, .sl 6 0 1 0 0), (12, .ptr 4 []), (11, .p (.fmap (rowsE b))), (10, .p (.fmap (rowsE a))), (9, .p (.fmap (rowsE x))), (6, .ptr 3 [])], pH x a b xn an bn ks [] []⟩)
    (fun (i, ks) => i ≤ x.length ∧ ks = allK a b ++ (keysOf (x.take i)).filter fun k => !(keysOf a).contains k && !(keysOf b).contains k) (fun (i, _) => x.length - i) (0, allK a b) (by simp [keysOf]) ?_ (he := by simp) (hh := by simp [pH]) (hr := by simp [pH]) (hr2 := by simp [pH])
  rintro ⟨i, ks⟩ ⟨h1, h2⟩
  dsimp only at h1 h2 ⊢
  have hw := wi1 (i := i) (by omega)
  have hks : ks.length ≤ a.length + b.length + i := by
    have q2 := List.length_filter_le (fun k => !(keysOf a).contains k && !(keysOf b).contains k) (keysOf (x.take i))
    have q3 := kTo_len a b (a.length + b.length)
    rw [kTo_end] at q3
    rw [h2]; simp only [List.length_append, keysOf, List.length_map, List.length_take] at *; omega
  by_cases hi : i < x.length
  · have hiz : (i : Int) < (x.length : Int) := by omega
    have hE : eRow x[i] = .st 54 [.str x[i].key, .seq (x[i].vals.map (.int .i64))] := rfl
    simp [hiz, hi, hE, pH]
    refine c2 (c_holds a x[i].key ha.2 ia) ?_
    cases hl : look a x[i].key with
    | none =>
      simp [heldE, hw]
      refine c2 (c_holds b x[i].key hb.2 ib) ?_
      cases hl2 : look b x[i].key with
      | none =>
        have hk : ks ++ [x[i].key] = allK a b ++ (keysOf (x.take (i + 1))).filter fun k => !(keysOf a).contains k && !(keysOf b).contains k := by
          have t1 := look_none.1 hl
          have t2 := look_none.1 hl2
          rw [keysOf_step hi, List.filter_append, ← List.append_assoc, ← h2]; simp [t1, t2]
        simp [heldE, hw]
        refine ⟨by simp only [maxL]; omega, ?_⟩
        exact rd (i + 1, ks ++ [x[i].key]) ⟨hi, hk⟩ (h1 := by dsimp only; omega) (he := by simp) (hh := by simp) (hr2 := by simp)
      | some v =>
        have hk : ks = allK a b ++ (keysOf (x.take (i + 1))).filter fun k => !(keysOf a).contains k && !(keysOf b).contains k := by
          have : x[i].key ∈ keysOf b := look_key hl2
          rw [keysOf_step hi, List.filter_append, h2]; simp [this]
        simp [heldE, hw]
        exact rd (i + 1, ks) ⟨hi, hk⟩ (h1 := by dsimp only; omega) (hh := by simp [pH]) (hr2 := by simp)
    | some v =>
      have hk : ks = allK a b ++ (keysOf (x.take (i + 1))).filter fun k => !(keysOf a).contains k && !(keysOf b).contains k := by
        have : x[i].key ∈ keysOf a := look_key hl
        rw [keysOf_step hi, List.filter_append, h2]; simp [this]
      simp [heldE, hw]
      exact rd (i + 1, ks) ⟨hi, hk⟩ (h1 := by dsimp only; omega) (hh := by simp [pH]) (hr2 := by simp)
  have hie : i = x.length := by omega
  have hin : ¬ (i : Int) < (x.length : Int) := by omega
  have hkA : ks = allK a b ++ (keysOf x).filter fun k => !(keysOf a).contains k && !(keysOf b).contains k := by rw [h2, hie, List.take_length]
  clear h1 hw h2
  subst hie
  rw [w_seq']
  simp [-w_seq', hin]
  rw [w_seq']
  simp [-w_seq']
  rw [w_seq', w_seq']
  simp [-w_seq', pH]
  refine lp (α := Nat × List (List Nat) × List RowD) (fun (i, cs, out) => ⟨[(87, .p (.int .i64 i)), (86, .p (.int .i64 ks.length)), (85, .sl 5 ks.length 1 0 ks.length), (13, .sl 6 cs.length 1 0 cs.length), (12, .ptr 4 []), (11, .p (.fmap (rowsE b))), (10, .p (.fmap (rowsE a))), (9, .p (.fmap (rowsE x))), (6, .ptr 3 [])], pH x a b xn an bn ks cs out⟩)
    (fun (i, cs, out) => i ≤ ks.length ∧ cs = (ks.take i).filter (confS x a b) ∧ out = (ks.take i).filterMap fun k => rowAt (srcS x a b k) k) (fun (i, _) => ks.length - i) (0, [], []) (by simp) ?_ (he := by simp) (hh := by simp [pH]) (hr := by simp [pH]) (hr2 := by simp [pH])
  rintro ⟨i, cs, out⟩ ⟨h1, h2, h3⟩
  dsimp only at h1 h2 h3 ⊢
  have hw := wi1 (i := i) (by omega)
  have hcl : cs.length ≤ i := by
    have := List.length_filter_le (confS x a b) (ks.take i)
    rw [h2]; simp only [List.length_take] at *; omega
  have hol : out.length ≤ i := by
    have := List.length_filterMap_le (fun k => rowAt (srcS x a b k) k) (ks.take i)
    rw [← h3] at this; simp only [List.length_take] at *; omega
  by_cases hi : i < ks.length
  · have hiz : (i : Int) < (ks.length : Int) := by omega
    have ht : ks.take (i + 1) = ks.take i ++ [ks[i]] := List.take_succ_eq_append_getElem hi
    have hk0 : ks ≠ [] := by intro e; subst e; simp at hi
    obtain ⟨k, hk⟩ : ∃ k, k = ks[i] := ⟨_, rfl⟩
    rw [← hk] at ht
    simp [hiz, hi, pH, hk0, ← hk]
    refine c2 (c_holds x k hx.2 ix) ?_
    simp
    refine c2 (c_holds a k ha.2 ia) ?_
    simp
    refine c2 (c_holds b k hb.2 ib) ?_
    have q : ∀ {l : List RowD}, rowsI l → ∀ v, look l k = some v → ∀ n ∈ v, inI n := fun hl v hv n hn => hl _ (look_mem hv) n hn
    have qab := heldC_eq (q ia) (q ib)
    have qbx := heldC_eq (q ib) (q ix)
    have qax := heldC_eq (q ia) (q ix)
    simp [heldE]
    by_cases hab : look a k = look b k
    · have hs : srcS x a b k = a := by rw [srcS, if_neg (fun e => e.1 hab)]
      have hcs : cs = (ks.take (i + 1)).filter (confS x a b) := by
        rw [ht, List.filter_append, ← h2]; simp [confS, hab]
      rw [decide_eq_true hab] at qab
      simp [-w_seq', qab]
      cases hv : look a k with
      | none =>
        have hout : out = (ks.take (i + 1)).filterMap fun k => rowAt (srcS x a b k) k := by
          rw [ht, List.filterMap_append, ← h3]; simp [rowAt, hs, hv]
        have hr := look_rows k a
        simp only [rowAt, hv, Option.map_none] at hr
        simp [hr, hw]
        exact rd (i + 1, cs, out) ⟨hi, hcs, hout⟩ (h1 := by dsimp only; omega) (he := by simp) (hh := by simp [pH]) (hr2 := by simp [pH])
      | some v =>
        have hout : out ++ [⟨k, v⟩] = (ks.take (i + 1)).filterMap fun k => rowAt (srcS x a b k) k := by
          rw [ht, List.filterMap_append, ← h3]; simp [rowAt, hs, hv]
        have hr := look_rows k a
        have hE : eRow ⟨k, v⟩ = .st 54 [.str k, .seq (v.map (.int .i64))] := rfl
        simp only [rowAt, hv, Option.map_some] at hr
        have hcp := c_copied ⟨k, v⟩ (ha.2.2 _ (look_mem hv))
        rw [hE] at hr hcp
        simp [hr, hw]
        refine e1 hcp ?_
        simp [hw]
        repeat' refine And.intro ?_ ?_
        all_goals first | rfl | (simp only [maxL]; omega) | exact rd (i + 1, cs, out ++ [⟨k, v⟩]) ⟨hi, hcs, hout⟩ (h1 := by dsimp only; omega) (he := by simp) (hh := by simp [pH, hE]) (hr2 := by simp [pH])
    rw [decide_eq_false hab] at qab
    by_cases hbx : look b k = look x k
    · have hs : srcS x a b k = a := by rw [srcS, if_neg (fun e => hab (e.2.trans hbx.symm))]
      have hcs : cs = (ks.take (i + 1)).filter (confS x a b) := by
        rw [ht, List.filter_append, ← h2]; simp [confS, hbx]
      rw [decide_eq_true hbx] at qbx
      simp [-w_seq', qab, qbx]
      cases hv : look a k with
      | none =>
        have hout : out = (ks.take (i + 1)).filterMap fun k => rowAt (srcS x a b k) k := by
          rw [ht, List.filterMap_append, ← h3]; simp [rowAt, hs, hv]
        have hr := look_rows k a
        simp only [rowAt, hv, Option.map_none] at hr
        simp [hr, hw]
        exact rd (i + 1, cs, out) ⟨hi, hcs, hout⟩ (h1 := by dsimp only; omega) (he := by simp) (hh := by simp [pH]) (hr2 := by simp [pH])
      | some v =>
        have hout : out ++ [⟨k, v⟩] = (ks.take (i + 1)).filterMap fun k => rowAt (srcS x a b k) k := by
          rw [ht, List.filterMap_append, ← h3]; simp [rowAt, hs, hv]
        have hr := look_rows k a
        have hE : eRow ⟨k, v⟩ = .st 54 [.str k, .seq (v.map (.int .i64))] := rfl
        simp only [rowAt, hv, Option.map_some] at hr
        have hcp := c_copied ⟨k, v⟩ (ha.2.2 _ (look_mem hv))
        rw [hE] at hr hcp
        simp [hr, hw]
        refine e1 hcp ?_
        simp [hw]
        repeat' refine And.intro ?_ ?_
        all_goals first | rfl | (simp only [maxL]; omega) | exact rd (i + 1, cs, out ++ [⟨k, v⟩]) ⟨hi, hcs, hout⟩ (h1 := by dsimp only; omega) (he := by simp) (hh := by simp [pH, hE]) (hr2 := by simp [pH])
    rw [decide_eq_false hbx] at qbx
    by_cases hax : look a k = look x k
    · have hs : srcS x a b k = b := by rw [srcS, if_pos ⟨hab, hax⟩]
      have hcs : cs = (ks.take (i + 1)).filter (confS x a b) := by
        rw [ht, List.filter_append, ← h2]; simp [confS, hax]
      rw [decide_eq_true hax] at qax
      simp [-w_seq', qab, qbx, qax]
      cases hv : look b k with
      | none =>
        have hout : out = (ks.take (i + 1)).filterMap fun k => rowAt (srcS x a b k) k := by
          rw [ht, List.filterMap_append, ← h3]; simp [rowAt, hs, hv]
        have hr := look_rows k b
        simp only [rowAt, hv, Option.map_none] at hr
        simp [hr, hw]
        exact rd (i + 1, cs, out) ⟨hi, hcs, hout⟩ (h1 := by dsimp only; omega) (he := by simp) (hh := by simp [pH]) (hr2 := by simp [pH])
      | some v =>
        have hout : out ++ [⟨k, v⟩] = (ks.take (i + 1)).filterMap fun k => rowAt (srcS x a b k) k := by
          rw [ht, List.filterMap_append, ← h3]; simp [rowAt, hs, hv]
        have hr := look_rows k b
        have hE : eRow ⟨k, v⟩ = .st 54 [.str k, .seq (v.map (.int .i64))] := rfl
        simp only [rowAt, hv, Option.map_some] at hr
        have hcp := c_copied ⟨k, v⟩ (hb.2.2 _ (look_mem hv))
        rw [hE] at hr hcp
        simp [hr, hw]
        refine e1 hcp ?_
        simp [hw]
        repeat' refine And.intro ?_ ?_
        all_goals first | rfl | (simp only [maxL]; omega) | exact rd (i + 1, cs, out ++ [⟨k, v⟩]) ⟨hi, hcs, hout⟩ (h1 := by dsimp only; omega) (he := by simp) (hh := by simp [pH, hE]) (hr2 := by simp [pH])
    · have hs : srcS x a b k = a := by rw [srcS, if_neg (fun e => hax e.2)]
      have hcs : cs ++ [k] = (ks.take (i + 1)).filter (confS x a b) := by
        rw [ht, List.filter_append, ← h2]; simp [confS, hab, hbx, hax]
      rw [decide_eq_false hax] at qax
      have hml : cs.length + 1 ≤ maxL := by simp only [maxL]; omega
      simp [-w_seq', qab, qbx, qax, hml]
      cases hv : look a k with
      | none =>
        have hout : out = (ks.take (i + 1)).filterMap fun k => rowAt (srcS x a b k) k := by
          rw [ht, List.filterMap_append, ← h3]; simp [rowAt, hs, hv]
        have hr := look_rows k a
        simp only [rowAt, hv, Option.map_none] at hr
        simp [hr, hw]
        exact rd (i + 1, cs ++ [k], out) ⟨hi, hcs, hout⟩ (h1 := by dsimp only; omega) (he := by simp) (hh := by simp [pH]) (hr2 := by simp [pH])
      | some v =>
        have hout : out ++ [⟨k, v⟩] = (ks.take (i + 1)).filterMap fun k => rowAt (srcS x a b k) k := by
          rw [ht, List.filterMap_append, ← h3]; simp [rowAt, hs, hv]
        have hr := look_rows k a
        have hE : eRow ⟨k, v⟩ = .st 54 [.str k, .seq (v.map (.int .i64))] := rfl
        simp only [rowAt, hv, Option.map_some] at hr
        have hcp := c_copied ⟨k, v⟩ (ha.2.2 _ (look_mem hv))
        rw [hE] at hr hcp
        simp [hr, hw]
        refine e1 hcp ?_
        simp [hw]
        repeat' refine And.intro ?_ ?_
        all_goals first | rfl | (simp only [maxL]; omega) | exact rd (i + 1, cs ++ [k], out ++ [⟨k, v⟩]) ⟨hi, hcs, hout⟩ (h1 := by dsimp only; omega) (he := by simp) (hh := by simp [pH, hE]) (hr2 := by simp [pH])
  · have hin : ¬ (i : Int) < (ks.length : Int) := by omega
    have hie : i = ks.length := by omega
    rw [hie, List.take_length, hkA] at h2 h3
    have hno : ∀ k ∈ (keysOf x).filter (fun k => !(keysOf a).contains k && !(keysOf b).contains k), look a k = none ∧ look b k = none := by
      intro k hk
      rw [List.mem_filter] at hk
      simp at hk
      exact ⟨look_none.2 hk.2.1, look_none.2 hk.2.2⟩
    have n1 : ((keysOf x).filter (fun k => !(keysOf a).contains k && !(keysOf b).contains k)).filter (confS x a b) = [] := by
      rw [List.filter_eq_nil_iff]; intro k hk; have := hno k hk; simp [confS, this.1, this.2]
    have n2 : ((keysOf x).filter (fun k => !(keysOf a).contains k && !(keysOf b).contains k)).filterMap (fun k => rowAt (srcS x a b k) k) = [] := by
      rw [List.filterMap_eq_nil_iff]; intro k hk; have := hno k hk; simp [srcS, rowAt, this.1, this.2]
    have hcs : confL x a b = sortS cs := by rw [confL, h2, List.filter_append, n1, List.append_nil]
    have hout : outS x a b = out := by rw [outS, h3, List.filterMap_append, n2, List.append_nil]
    have hol2 : out.length ≤ a.length + b.length := by rw [← hout]; exact outS_len
    by_cases hbig : (256 : Int) < (out.length : Int)
    · have hres : resP x a b an = .tup [.st 23 [.str [], .seq []], .seq [], .int .i64 5] := by
        rw [resP, hout, if_pos (by omega)]; rfl
      rw [hres]
      simp [hin, pH, hbig]
    · have hres : resP x a b an = .tup [.st 23 [.str an, .seq (out.map eRow)], .seq ((sortS cs).map .str), .int .i64 0] := by
        rw [resP, hout, hcs, if_neg (by omega)]; rfl
      rw [hres]
      simp [hin, pH, hbig]
      by_cases hc0 : cs = []
      · subst hc0
        refine ci (g_sort_nil (ver := 0) rfl) ?_
        simp [sortS]
        try (rw [purl_map]; intro r _; simp)
      · refine ci (g_sort163 (xs := cs) rfl hc0 (by omega)) ?_
        have hsl : (sortS cs).length = cs.length := (sortS_perm cs).length_eq
        have hpl : List.take cs.length (List.map (AV.p ∘ PV.str) (sortS cs)) = List.map (AV.p ∘ PV.str) (sortS cs) := List.take_of_length_le (by simp [hsl])
        simp [hsl, hpl]
end Go.Abs

/-
  Walks: the law of merging.
-/
namespace Go.Abs
open Go.Proofs
set_option maxHeartbeats 4000000
set_option maxRecDepth 100000
@[simp] theorem shp_eBook {b : BookD} : shp (eBook b) = .agg 23 := rfl
@[simp] theorem shp_rBook {b : BookD} : shp (rBook b) = .agg 26 := rfl
def mergeC (x a b : BookD) : BookD × List (List Nat) × Int :=
  if (outS x.rows a.rows b.rows).length > 256 then (⟨[], []⟩, [], 5) else (⟨a.name, outS x.rows a.rows b.rows⟩, confL x.rows a.rows b.rows, 0)
def mergeV (x a b : BookD) : BookD × List (List Nat) × Int :=
  if firstE [chkBook x, chkBook a, chkBook b] ≠ 0 then (⟨[], []⟩, [], firstE [chkBook x, chkBook a, chkBook b]) else mergeC x a b
theorem resP_eq (x a b : BookD) : resP x.rows a.rows b.rows a.name = .tup [eBook (mergeC x a b).1, .seq ((mergeC x a b).2.1.map .str), .int .i64 (mergeC x a b).2.2] := by
  simp only [resP, mergeC]; split <;> rfl
theorem resS_eq (x a b : BookD) : resS x.rows a.rows b.rows a.name = .tup [rBook (mergeC x a b).1, .seq ((mergeC x a b).2.1.map .str), .int .i64 (mergeC x a b).2.2] := by
  simp only [resS, mergeC]; split <;> rfl
theorem okRow_I {r : RowD} (h : okRow r) : ∀ n ∈ r.vals, inI n := by
  have h := h.2
  rw [chkVals, first3, when0 (by omega), when0 (by omega), when0 (by omega)] at h
  intro n hn
  have := (List.any_eq_false.1 h.2.2) n hn
  simp [far] at this
  simp only [inI]; omega
theorem chkBook_zero {b : BookD} (h : chkBook b = 0) : chkRows b.rows = 0 := by
  rw [chkBook, first2] at h; exact h.2
theorem chkRows_I {l : List RowD} (h : chkRows l = 0) : rowsI l := fun r hr => okRow_I ((chkRows_iff.1 h).2.1 r hr)
theorem c_Merge (x a b : BookD) (hx : bookB x) (ha : bookB a) (hb : bookB b) : GoodC Tryz.prog 25 [eBook x, eBook a, eBook b] (.tup [eBook (mergeV x a b).1, .seq ((mergeV x a b).2.1.map .str), .int .i64 (mergeV x a b).2.2]) := by
  refine good_fn nf isF25 mix (by simp [Tryz.f25]) ?_
  simp [Tryz.f25]
  refine e1 (c_checkBook x hx) ?_
  simp
  refine e1 (c_checkBook a ha) ?_
  simp
  refine e1 (c_checkBook b hb) ?_
  simp
  refine ep (h1 := ?g1) (c_first [chkBook x, chkBook a, chkBook b] (by simp)) (by simp; exact ⟨rfl, rfl⟩) (by simp; exact ⟨rfl, rfl⟩) ?_
  case g1 => simp
  by_cases hz : firstE [chkBook x, chkBook a, chkBook b] = 0
  · have hm : mergeV x a b = mergeC x a b := by rw [mergeV, if_neg (by simpa using hz)]
    rw [hm]
    have hz' := hz
    rw [first3] at hz'
    obtain ⟨z1, z2, z3⟩ := hz'
    have y1 := chkBook_zero z1
    have y2 := chkBook_zero z2
    have y3 := chkBook_zero z3
    have hc := c_merge x a b hx ha hb (chkRows_I y1) (chkRows_I y2) (chkRows_I y3) (chkRows_iff.1 y1).2.2 (chkRows_iff.1 y2).2.2 (chkRows_iff.1 y3).2.2 (by have := (chkRows_iff.1 y1).1; omega) (by have := (chkRows_iff.1 y2).1; omega) (by have := (chkRows_iff.1 y3).1; omega)
    rw [resP_eq] at hc
    simp [hz]
    refine ⟨rfl, ?_⟩
    refine c3 hc ?_
    simp 
  · have hm : mergeV x a b = (⟨[], []⟩, [], firstE [chkBook x, chkBook a, chkBook b]) := by rw [mergeV, if_pos hz]
    rw [hm]
    simp [hz, eBook]
    try rfl
theorem mergeC_B {x a b : BookD} (ha : bookB a) (hb : bookB b) (la : a.rows.length ≤ 1000) (lb : b.rows.length ≤ 1000) : bookB (mergeC x a b).1 ∧ (mergeC x a b).2.1.length ≤ 1048576 := by
  rw [mergeC]
  split
  · exact ⟨⟨by simp, by simp, fun r hr => by cases hr⟩, by simp⟩
  · refine ⟨⟨ha.1, ?_, fun r hr => ?_⟩, ?_⟩
    · have := outS_len (base := x.rows) (a := a.rows) (b := b.rows); show (outS x.rows a.rows b.rows).length ≤ _; omega
    · rcases outS_mem hr with h | h
      · exact ha.2.2 r h
      · exact hb.2.2 r h
    · show (confL x.rows a.rows b.rows).length ≤ _
      rw [confL, (sortS_perm _).length_eq]
      have q := List.length_filter_le (confS x.rows a.rows b.rows) (allK a.rows b.rows)
      have q2 := kTo_len a.rows b.rows (a.rows.length + b.rows.length)
      rw [kTo_end] at q2
      omega
theorem short_bookB {b : BookD} {n : Nat} (h : shortBook b n = true) : bookB b ∧ b.rows.length ≤ 259 := by
  simp only [shortBook, Bool.and_eq_true, decide_eq_true_eq] at h
  have := short_rowsB h.2
  exact ⟨⟨by omega, this.1⟩, this.2⟩
end Go.Abs


/-
  Walks: the law of merging.
-/
namespace Go.Abs
open Go.Proofs
set_option maxHeartbeats 4000000
set_option maxRecDepth 100000
theorem c_law4 (hw : GoodC Tryz.prog 17 [] (.bool true)) (x a b : BookD) (hx : x.rows.length ≤ 1048576) (ha : a.rows.length ≤ 1048576) (hb : b.rows.length ≤ 1048576) :
    GoodC Tryz.prog 4 [eBook x, eBook a, eBook b] (.bool true) := by
  refine good_fn nf isF4 mix (by simp [Tryz.f4]) ?_
  simp [Tryz.f4]
  refine e1 (c_book x hx) ?_
  simp
  refine e1 (c_book a ha) ?_
  simp
  refine e1 (c_book b hb) ?_
  simp
  refine ⟨⟨rfl, rfl, rfl⟩, ?_⟩
  refine c2 (c_shortBook x 10 hx (by omega)) ?_
  by_cases s1 : shortBook x 10 = true
  case neg =>
    simp [s1]
    refine c0 hw ?_
    simp
  simp [s1]
  refine c2 (c_shortBook a 10 ha (by omega)) ?_
  by_cases s2 : shortBook a 10 = true
  case neg =>
    simp [s2]
    refine c0 hw ?_
    simp
  simp [s2]
  refine c2 (c_shortBook b 10 hb (by omega)) ?_
  by_cases s3 : shortBook b 10 = true
  case neg =>
    simp [s3]
    refine c0 hw ?_
    simp
  simp [s3]
  obtain ⟨rx, lx⟩ := short_bookB s1
  obtain ⟨ra, la⟩ := short_bookB s2
  obtain ⟨rb, lb⟩ := short_bookB s3
  clear s1 s2 s3
  refine c3 (c_Merge x a b rx ra rb) ?_
  simp
  refine e1 (c_checkBookR x rx) ?_
  simp
  refine e1 (c_checkBookR a ra) ?_
  simp
  refine e1 (c_checkBookR b rb) ?_
  simp
  refine ep (h1 := ?g1) (c_lfirst [chkBook x, chkBook a, chkBook b] (by simp)) (by simp; exact ⟨rfl, rfl⟩) (by simp; exact ⟨rfl, rfl⟩) ?_
  case g1 => simp
  have mB : bookB (mergeC x a b).1 ∧ (mergeC x a b).2.1.length ≤ 1048576 := mergeC_B ra rb (by omega) (by omega)
  by_cases hz : firstE [chkBook x, chkBook a, chkBook b] = 0
  · have hm : mergeV x a b = mergeC x a b := by rw [mergeV, if_neg (by simpa using hz)]
    have hc := c_mergeR x a b rx ra rb (by omega) (by omega)
    rw [resS_eq] at hc
    rw [hm]
    generalize mergeC x a b = m at *
    obtain ⟨m, cs, e⟩ := m
    dsimp only at mB hc ⊢
    simp [hz]
    refine ⟨rfl, ?_⟩
    refine c3 hc ?_
    simp
    refine e1 (c_book m mB.1.2.1) ?_
    simp
    refine e2 (c_sameBook m m mB.1 mB.1) ?_
    simp
    refine e2 (c_sameWords cs cs mB.2 mB.2) ?_
    simp
    refine e0 hw ?_
    simp
    try rfl
  · have hm : mergeV x a b = (⟨[], []⟩, [], firstE [chkBook x, chkBook a, chkBook b]) := by rw [mergeV, if_pos hz]
    rw [hm]
    generalize firstE [chkBook x, chkBook a, chkBook b] = e at *
    have nB : bookB ⟨[], []⟩ := ⟨by simp, by simp, fun r hr => by cases hr⟩
    dsimp only
    simp [hz]
    refine ⟨rfl, ?_⟩
    refine e1 (c_book ⟨[], []⟩ nB.2.1) ?_
    simp
    refine e2 (c_sameBook ⟨[], []⟩ ⟨[], []⟩ nB nB) ?_ (h2 := by simp [rBook])
    simp
    refine e2 (c_sameWords [] [] (by simp) (by simp)) ?_ (h1 := by simp) (h2 := by simp)
    simp
    refine e0 hw ?_
    simp
    try rfl
end Go.Abs
