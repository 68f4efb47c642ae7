import Derived.Test.YthckccalfpnmaaaGreatDoorRA
import Derived.Test.YthckccalfpnmaaaGreatDoorPB
import Derived.Shelf.Strings.Prefix
import Derived.Shelf.Strings.Trim
import Derived.Test.YthckccalfpnmaaaGreatDoorPA
/- Parts of a proof. -/
set_option linter.unusedSimpArgs false
set_option linter.unusedVariables false
set_option linter.unusedSectionVars false
namespace Go.Abs
open Go.Proofs
set_option maxHeartbeats 4000000
set_option maxRecDepth 100000
def pairT (s : List Nat) : Option (List Nat × List Nat) := match spl 32 s with
  | [a, b] => if a = [] ∨ b = [] then none else some (a, b)
  | _ => none
def parseL : List (List Nat) → Nat → BookD → Option BookD × Nat
  | [], _, b => (some b, 0)
  | s :: r, i, b => match pairT s with
    | none => (none, i + 1)
    | some (x, y) =>
      if i = 0 then (if x = [98, 111, 111, 107] then parseL r 1 ⟨y, b.rows⟩ else (none, 1))
      else if (readV y).2 = true then parseL r (i + 1) ⟨b.name, b.rows ++ [⟨x, (readV y).1⟩]⟩
      else (none, i + 1)
def parseS (s : List Nat) : BookD × Int × Int :=
  if 4096 < s.length then (⟨[], []⟩, 0, 26)
  else if s.getLast? ≠ some 10 then (⟨[], []⟩, 0, 28)
  else match parseL (spl 10 s.dropLast) 0 ⟨[], []⟩ with
    | (none, k) => (⟨[], []⟩, k, 25)
    | (some b, _) => if chkBook b ≠ 0 then (⟨[], []⟩, 0, chkBook b) else (b, 0, 0)
theorem readV_len (s : List Nat) : (readV s).1.length ≤ s.length + 1 := by
  have := spl_len 44 s
  rw [readV]; split <;> simp
  exact this
end Go.Abs
namespace Go.Abs
def cutN (c : Nat) : List Nat → List Nat × List Nat × Bool
  | [] => ([], [], false)
  | x :: r => if x = c then ([], r, true) else (x :: (cutN c r).1, (cutN c r).2.1, (cutN c r).2.2)
theorem idxB_cut (c : Nat) : ∀ (s : List Nat) (k : Nat), ((cutN c s).2.2 = false ∧ idxB c s k = -1 ∧ cutN c s = (s, [], false)) ∨
    ∃ i, i < s.length ∧ idxB c s k = ((k + i : Nat) : Int) ∧ cutN c s = (s.take i, s.drop (i + 1), true)
  | [], k => by simp [cutN, idxB]
  | x :: r, k => by
    rw [cutN, idxB]
    by_cases h : x = c
    · subst h
      right
      refine ⟨0, by simp, ?_, ?_⟩
      · simp
      · simp
    · have hb : Nat.beq x c = false := by
        cases hb : Nat.beq x c
        · rfl
        · exact (h (Nat.eq_of_beq_eq_true hb)).elim
      rcases idxB_cut c r (k + 1) with ⟨h1, h2, h3⟩ | ⟨i, h1, h2, h3⟩
      · left
        rw [if_neg h, hb, cond_false, h2, h3]
        exact ⟨rfl, rfl, rfl⟩
      · right
        refine ⟨i + 1, by simpa using h1, ?_, ?_⟩
        · rw [hb, cond_false, h2]; omega
        · rw [if_neg h, h3]; simp
theorem splAux_cur (c : Nat) : ∀ (s cur : List Nat), splAux c cur s = (cur ++ (cutN c s).1) :: if (cutN c s).2.2 = true then splAux c [] (cutN c s).2.1 else []
  | [], cur => by simp [splAux, cutN]
  | x :: r, cur => by
    rw [splAux, cutN]
    by_cases h : x = c
    · rw [if_pos h, if_pos h]; simp
    · rw [if_neg h, if_neg h, splAux_cur c r]; simp
theorem spl_cut (c : Nat) (s : List Nat) : spl c s = (cutN c s).1 :: if (cutN c s).2.2 = true then spl c (cutN c s).2.1 else [] := by
  rw [spl, splAux_cur]; rfl
theorem cntB_add (c : Nat) : ∀ (s : List Nat) (n : Nat), cntB c s n = n + cntB c s 0
  | [], n => by simp [cntB]
  | x :: r, n => by
    rw [cntB, cntB, cntB_add c r (n + 1), cntB_add c r (0 + 1), cntB_add c r n]
    cases Nat.beq x c <;> simp <;> omega
theorem splAux_cnt (c : Nat) : ∀ (s cur : List Nat), (splAux c cur s).length = cntB c s 0 + 1
  | [], cur => by simp [splAux, cntB]
  | x :: r, cur => by
    rw [splAux, cntB]
    by_cases h : x = c
    · subst h
      rw [if_pos rfl, List.length_cons, splAux_cnt _ r, Nat.beq_refl, cond_true, cntB_add _ r (0 + 1)]; omega
    · have hb : Nat.beq x c = false := by
        cases hb : Nat.beq x c
        · rfl
        · exact (h (Nat.eq_of_beq_eq_true hb)).elim
      rw [if_neg h, splAux_cnt c r, hb, cond_false]
theorem spl_cnt (c : Nat) (s : List Nat) : (spl c s).length = cntB c s 0 + 1 := splAux_cnt c s []
theorem cntB_le (c : Nat) : ∀ s : List Nat, cntB c s 0 ≤ s.length
  | [] => by simp [cntB]
  | x :: r => by
    rw [cntB, cntB_add c r (0 + 1)]
    have := cntB_le c r
    cases Nat.beq x c <;> simp <;> omega
def isD (c : Nat) : Bool := decide (48 ≤ c) && decide (c ≤ 57)
def trimL (s : List Nat) : List Nat := s.dropWhile isD
def trimR (s : List Nat) : List Nat := (s.reverse.dropWhile isD).reverse
theorem dropWhile_nil_iff {p : Nat → Bool} : ∀ {s : List Nat}, s.dropWhile p = [] ↔ s.all p = true
  | [] => by simp
  | x :: r => by
    rw [List.dropWhile_cons, List.all_cons]
    cases hp : p x
    · simp
    · simp [dropWhile_nil_iff (s := r)]
theorem trimLR_nil (s : List Nat) : trimL (trimR s) = [] ↔ s.all isD = true := by
  rw [trimL, dropWhile_nil_iff, trimR]
  constructor
  · intro h
    by_cases h2 : s.reverse.dropWhile isD = []
    · rw [dropWhile_nil_iff, List.all_reverse] at h2; exact h2
    · have h3 := List.head_dropWhile_not isD h2
      rw [List.all_reverse, List.all_eq_true] at h
      rw [h _ (List.head_mem h2)] at h3
      cases h3
  · intro h
    have : s.reverse.dropWhile isD = [] := by rw [dropWhile_nil_iff, List.all_reverse]; exact h
    rw [this]; rfl
end Go.Abs
namespace Go.Abs
open Go.Proofs
set_option maxHeartbeats 4000000
set_option maxRecDepth 100000
theorem c_index (s : List Nat) (c : Nat) : GoodC Tryz.prog 72 [.str s, .str [c]] (.int .i64 (idxB c s 0)) := by
  refine good_fn nf isF72 mix (by simp [Tryz.f72]) ?_
  simp [Tryz.f72]
  refine c2 (h166 s c) ?_
  simp
theorem c_contains (s : List Nat) (c : Nat) : GoodC Tryz.prog 145 [.str s, .str [c]] (.bool (cutN c s).2.2) := by
  refine good_fn nf isF145 mix (by simp [Tryz.f145]) ?_
  simp [Tryz.f145]
  refine c2 (c_index s c) ?_
  rcases idxB_cut c s 0 with ⟨_, h2, h3⟩ | ⟨i, h1, h2, h3⟩
  · simp [h2, h3]
  · simp [h2, h3]
theorem c_genSplit (s : List Nat) (c : Nat) (h : s.length ≤ 1048576) : GoodC Tryz.prog 212 [.str s, .str [c], .int .i64 0, .int .i64 (-1)] (.seq ((spl c s).map .str)) := by
  refine good_fn nf isF212 mix (by simp [Tryz.f212]) ?_
  simp [Tryz.f212]
  refine c2 (h256 s c) ?_
  have hc := cntB_le c s
  have hn := spl_cnt c s
  generalize cntB c s 0 = n at *
  have w1 := wi1 (i := n) (by omega)
  have w2 := wi1 (i := s.length) (by omega)
  have w3 : IntKind.i64.wrap (n : Int) = n := wi64 _ (by omega) (by omega)
  have e1 : ¬ s.length < n := by omega
  have e2 : ((n : Int) + 1).toNat = n + 1 := by omega
  simp [w1, w2, w3, e1, e2, maxL]
  refine ⟨by omega, ?_⟩
  refine lp (α := Nat × List Nat × List (List Nat)) (fun (i, r, out) => ⟨[(10, .p (.int .i64 i)), (9, .sl 0 0 1 0 (n + 1)), (3, .p (.int .i64 n)), (2, .p (.int .i64 0)), (1, .p (.str [c])), (0, .p (.str r))], [.arr .exact 0 1 (out.map (fun x => .p (.str x)) ++ List.replicate (n + 1 - i) (.p (.str [])))]⟩)
    (fun (i, r, out) => i ≤ n ∧ out.length = i ∧ r.length ≤ s.length ∧ out ++ spl c r = spl c s) (fun (i, _, _) => n - i) (0, s, []) (by simp) ?_
  rintro ⟨i, r, out⟩ ⟨h1, h2, h3, h4⟩
  dsimp only at h1 h2 h3 h4 ⊢
  have hl : (spl c r).length = n - i + 1 := by have := congrArg List.length h4; rw [List.length_append, hn] at this; omega
  have hs := spl_cut c r
  have wi := wi1 (i := i) (by omega)
  by_cases hi : i < n
  · rcases idxB_cut c r 0 with ⟨_, g2, g3⟩ | ⟨k, g1, g2, g3⟩
    · rw [g3] at hs; rw [hs] at hl; simp at hl; omega
    · rw [Nat.zero_add] at g2
      rw [g3] at hs
      simp at hs
      have wk := wi1 (i := k) (by omega)
      have wk0 : IntKind.i64.wrap (k : Int) = k := wi64 _ (by omega) (by omega)
      have e3 : ((k : Int) + 1).toNat = k + 1 := by omega
      simp [hi]
      refine c2 (c_index r c) ?_
      have hset : ∀ v : AV, (out.map (fun x => AV.p (.str x)) ++ List.replicate (n + 1 - i) (AV.p (.str []))).set i v = out.map (fun x => AV.p (.str x)) ++ v :: List.replicate (n - i) (AV.p (.str [])) := by
        intro v
        rw [List.set_append_right _ _ (by simp [h2])]
        have e : n + 1 - i = (n - i) + 1 := by omega
        rw [e, List.replicate_succ, List.length_map, h2, Nat.sub_self]
        rfl
      have hget : ∃ v, (out.map (fun x => AV.p (.str x)) ++ List.replicate (n + 1 - i) (AV.p (.str [])))[i]? = some (AV.p (.str v)) := by
        refine ⟨[], ?_⟩
        rw [List.getElem?_append_right (by simp [h2]), List.length_map, h2, Nat.sub_self, List.getElem?_replicate, if_pos (by omega)]
      obtain ⟨v0, hget⟩ := hget
      have hk0 : ¬ (k : Int) < 0 := by omega
      simp [g2, wk, wk0, e3, wi, h2, hset, hget, hk0]
      refine ⟨by omega, by omega, ⟨by omega, by omega⟩, ?_⟩
      exact rd (i + 1, r.drop (k + 1), out ++ [r.take k]) ⟨hi, by simp [h2], by simp; omega, by rw [← h4, spl_cut c r, g3]; simp⟩ (h1 := by dsimp only; omega)
        (hh := by simp [show n + 1 - (i + 1) = n - i by omega]) (hr2 := by simp [rl_p])
  · have hi : i = n := by omega
    subst hi
    have hset : ∀ v w : AV, (out.map (fun x => AV.p (.str x)) ++ [w]).set i v = out.map (fun x => AV.p (.str x)) ++ [v] := by
      intro v w
      rw [List.set_append_right _ _ (by simp [h2]), List.length_map, h2, Nat.sub_self]
      rfl
    have hget : ∀ w : AV, (out.map (fun x => AV.p (.str x)) ++ [w])[i]? = some w := by
      intro w
      rw [List.getElem?_append_right (by simp [h2]), List.length_map, h2, Nat.sub_self]
      rfl
    have hsp : spl c r = [r] := by
      rcases idxB_cut c r 0 with ⟨g1, g2, g3⟩ | ⟨k, g1, g2, g3⟩
      · rw [spl_cut, g3]; rfl
      · rw [spl_cut, g3] at hl
        simp at hl
        have := spl_cnt c (r.drop (k + 1))
        rw [hl] at this; simp at this
    rw [hsp] at h4
    simp [h2, hset, hget, wi, e2, ← h4]
    refine ⟨by omega, ?_⟩
    rw [List.take_of_length_le (by simp [h2])]
    have ea : out.map (fun x => AV.p (.str x)) ++ [AV.p (.str r)] = (out ++ [r]).map (fun x => AV.p (.str x)) := by simp
    have eb : out.map PV.str ++ [PV.str r] = (out ++ [r]).map PV.str := by simp
    rw [ea, eb]
    simp only [purl_map]
    intro x _
    simp
theorem c_split (s : List Nat) (c : Nat) (h : s.length ≤ 1048576) : GoodC Tryz.prog 148 [.str s, .str [c]] (.seq ((spl c s).map .str)) := by
  refine good_fn nf isF148 mix (by simp [Tryz.f148]) ?_
  simp [Tryz.f148]
  refine c4 (c_genSplit s c h) ?_
  simp
def setD : PV := .st 329 ((List.range 256).map fun i => .bool (isD i))
theorem c_setHas (c : Nat) (hc : c < 256) : GoodC Tryz.prog 280 [.fptr setD, .int .u8 c] (.bool (isD c)) := by
  refine good_fn nf isF280 mix (by simp [Tryz.f280]) ?_
  have hg : (List.range 256)[c]? = some c := List.getElem?_range hc
  simp [Tryz.f280, setD, hg, hc]
theorem c_trimLeftA (s : List Nat) (h : s.length ≤ 1048576) (hb : ∀ c ∈ s, c < 256) : GoodC Tryz.prog 243 [.str s, .fptr setD] (.str (trimL s)) := by
  refine good_fn nf isF243 mix (by simp [Tryz.f243]) ?_
  simp [Tryz.f243]
  refine lp (α := List Nat) (fun r => ⟨[(1, .p (.fptr setD)), (0, .p (.str r))], []⟩) (fun r => trimL r = trimL s ∧ r.length ≤ s.length ∧ ∀ c ∈ r, c < 256) (fun r => r.length) s (by exact ⟨rfl, Nat.le_refl _, hb⟩) ?_
  rintro r ⟨h1, h2, h3⟩
  cases r with
  | nil =>
    have e : trimL s = [] := by rw [← h1]; rfl
    simp [e]
  | cons x r =>
    have hx := h3 x (by simp)
    have hr : trimL (x :: r) = if isD x = true then trimL r else x :: r := by
      rw [trimL, List.dropWhile_cons]; split <;> rfl
    rw [hr] at h1
    have q2 : (0 : Int) < (r.length : Int) + 1 := by omega
    simp [q2]
    refine c2 (c_setHas x hx) ?_
    cases hd : isD x
    · rw [hd] at h1
      simp [← h1]
    · rw [hd] at h1
      simp
      exact rd r ⟨by simpa using h1, by simp at h2; omega, fun c hc => h3 c (by simp [hc])⟩ (h1 := by simp)
theorem c_trimRightA (s : List Nat) (h : s.length ≤ 1048576) (hb : ∀ c ∈ s, c < 256) : GoodC Tryz.prog 244 [.str s, .fptr setD] (.str (trimR s)) := by
  refine good_fn nf isF244 mix (by simp [Tryz.f244]) ?_
  simp [Tryz.f244]
  refine lp (α := List Nat) (fun r => ⟨[(1, .p (.fptr setD)), (0, .p (.str r))], []⟩) (fun r => trimR r = trimR s ∧ r.length ≤ s.length ∧ ∀ c ∈ r, c < 256) (fun r => r.length) s (by exact ⟨rfl, Nat.le_refl _, hb⟩) ?_
  rintro r ⟨h1, h2, h3⟩
  rcases List.eq_nil_or_concat r with rfl | ⟨t, x, rfl⟩
  · have e : trimR s = [] := by rw [← h1]; rfl
    simp [e]
  · simp only [List.concat_eq_append] at h1 h2 h3 ⊢
    have hx := h3 x (by simp)
    have hr : trimR (t ++ [x]) = if isD x = true then trimR t else t ++ [x] := by
      rw [trimR, List.reverse_append, List.reverse_cons, List.reverse_nil, List.nil_append, List.singleton_append, List.dropWhile_cons]
      split
      · rfl
      · simp
    rw [hr] at h1
    have q2 : (0 : Int) < (t.length : Int) + 1 := by omega
    have w1 : IntKind.i64.wrap (t.length : Int) = t.length := wi64 _ (by omega) (by simp at h2; omega)
    simp [q2, w1]
    refine c2 (c_setHas x hx) ?_
    cases hd : isD x
    · rw [hd] at h1
      simp [← h1]
    · rw [hd] at h1
      simp [w1]
      exact rd t ⟨by simpa using h1, by simp at h2; omega, fun c hc => h3 c (by simp [hc])⟩ (h1 := by simp)
end Go.Abs
namespace Go.Abs
open Go.Proofs
set_option maxHeartbeats 4000000
set_option maxRecDepth 100000
def digS : List Nat := [48, 49, 50, 51, 52, 53, 54, 55, 56, 57]
theorem c_makeSet : GoodC Tryz.prog 242 [.str digS] (.tup [setD, .bool true]) := run0_ok (facts := noF) (fun _ _ _ h => by cases h) (by kernel_rfl)
theorem tzSet : tzero Tryz.prog 330 = some (.st 329 (List.replicate 256 (.bool false))) := by kernel_rfl
theorem c_trim10 (s : List Nat) (h : s.length ≤ 1048576) (hb : ∀ c ∈ s, c < 256) : GoodC Tryz.prog 196 [.str s, .str digS] (.str (trimL (trimR s))) := by
  refine good_fn nf isF196 mix (by simp [Tryz.f196]) ?_
  by_cases h0 : s = []
  · subst h0
    simp [Tryz.f196, digS, trimL, trimR]
  simp [Tryz.f196, digS, h0]
  refine c1 c_makeSet ?_
  have hr : (trimR s).length ≤ s.length := by
    rw [trimR, List.length_reverse]
    have := (List.dropWhile_sublist isD (l := s.reverse)).length_le
    simpa using this
  have hm : ∀ c ∈ trimR s, c < 256 := by
    intro c hc
    rw [trimR, List.mem_reverse] at hc
    exact hb c (by simpa using (List.dropWhile_sublist isD (l := s.reverse)).subset hc)
  simp [tzSet]
  have hsh : shp setD = .agg 329 := rfl
  refine ⟨⟨⟨hsh.symm, by rw [hsh]; intro e; cases e⟩, hsh.symm⟩, ?_⟩
  refine cp (c_trimRightA s h hb) (by simp; exact ⟨rfl, rfl⟩) ?_
  simp
  refine cp (c_trimLeftA (trimR s) (by omega) hm) (by simp; exact ⟨rfl, rfl⟩) ?_
  simp
end Go.Abs
namespace Go.Proofs
open Go.Shelf
def Tryz.lays144_ren : Go.Shelf.Ren := ⟨fun | 144 => 145 | 143 => 72 | 219 => 166 | 217 => 223 | 225 => 224 | 224 => 225 | 267 => 226 | 266 => 272 | 314 => 273 | n => n, fun | 9 => 9 | 4 => 4 | 3 => 3 | 5 => 5 | 46 => 261 | 146 => 318 | 51 => 317 | n => n, fun | 1 => 0 | n => n⟩
def Tryz.lays100_ren : Go.Shelf.Ren := ⟨fun | 100 => 103 | 207 => 183 | n => n, fun | 9 => 9 | 4 => 4 | 3 => 3 | n => n, fun | n => n⟩
def Tryz.lays101_ren : Go.Shelf.Ren := ⟨fun | 101 => 238 | 208 => 277 | 206 => 229 | n => n, fun | 9 => 9 | 4 => 4 | 3 => 3 | n => n, fun | n => n⟩
theorem Tryz.lays101 : Go.Proofs.Lays.n101 Tryz.prog Tryz.lays101_ren := {
  mixed := by kernel_rfl
  f101 := Tryz.func238.trans (congrArg some (by kernel_rfl))
  f206 := Tryz.func229.trans (congrArg some (by kernel_rfl))
  f208 := Tryz.func277.trans (congrArg some (by kernel_rfl))
  t3 := Tryz.underlying3
  a3 := Tryz.isAgg3
  z3 := Tryz.sizeOf3
  v3 := Tryz.zeroValue3
  t4 := Tryz.underlying4
  a4 := Tryz.isAgg4
  z4 := Tryz.sizeOf4
  v4 := Tryz.zeroValue4
  t9 := Tryz.underlying9
  a9 := Tryz.isAgg9
  z9 := Tryz.sizeOf9
  v9 := Tryz.zeroValue9 }
open Go.RowKit Go.Lib in
theorem Tryz.strings_TrimPrefix (s p : ByteArray) (w : World) :
    Calls Tryz.prog 238 #[.string s, .string p] w fun e w' => e = .returned (.string ⟨(Lib.trimPrefix s.data.toList p.data.toList).toArray⟩) ∧ w' = w := Any.strings_TrimPrefix Tryz.lays101 s p w
def Tryz.lays102_ren : Go.Shelf.Ren := ⟨fun | 102 => 106 | 209 => 186 | 207 => 183 | n => n, fun | 9 => 9 | 4 => 4 | 3 => 3 | n => n, fun | n => n⟩
end Go.Proofs
namespace Go.Abs
open Go.Proofs
theorem h238 (s p t : List Nat) (h : natsB (Lib.trimPrefix (s.map UInt8.ofNat) (p.map UInt8.ofNat)) = t) : GoodC Tryz.prog 238 [.str s, .str p] (.str t) := by
  refine goodP_flat (enters_fn Tryz.func238 (by kernel_rfl)) fun w Imm cargs _ hg ha => ?_
  obtain ⟨x, y, rfl, h1, h2⟩ := PVVl_two ha
  simp only [PVV] at h1 h2
  obtain ⟨bs, rfl, rfl⟩ := h1
  obtain ⟨cs, rfl, rfl⟩ := h2
  have e1 := ofNat_natsB bs.data.toList
  have e2 := ofNat_natsB cs.data.toList
  simp only [natsB] at e1 e2
  rw [e1, e2] at h
  refine (Tryz.strings_TrimPrefix bs cs w).mono ?_
  rintro e w' ⟨rfl, rfl⟩
  exact ⟨_, rfl, ⟨Nat.le_refl _, fun _ _ => rfl, rfl, rfl⟩, fun w Imm => by rw [← h]; exact PVV_strB _⟩
end Go.Abs
namespace Go.Abs
open Go.Proofs
set_option maxHeartbeats 4000000
set_option maxRecDepth 100000
theorem parse_dig : ∀ (d : List Nat) (acc : Nat), d.all isD = true → (∀ c ∈ d, c < 256) → d.foldl decV acc < 1000000000 → Lib.parseUint10 acc (d.map UInt8.ofNat) = .ok (d.foldl decV acc)
  | [], acc, _, _, _ => rfl
  | c :: r, acc, h, hb, hl => by
    simp only [List.all_cons, Bool.and_eq_true] at h
    have hc := h.1
    simp only [isD, Bool.and_eq_true, decide_eq_true_eq] at hc
    have hmono : ∀ (r : List Nat) (a : Nat), a ≤ r.foldl decV a := by
      intro r
      induction r with
      | nil => intro a; exact Nat.le_refl _
      | cons x r ih => intro a; exact Nat.le_trans (by simp only [decV]; omega) (ih _)
    have h2 := hmono r (decV acc c)
    rw [List.foldl_cons] at hl ⊢
    have e : (UInt8.ofNat c).toNat = c := by simp; omega
    have e2 : acc * 10 + (c - 48) = decV acc c := rfl
    have h3 : decV acc c < 1000000000 := by omega
    have h4 : acc ≤ decV acc c := by simp only [decV]; omega
    rw [List.map_cons, Lib.parseUint10, e, if_pos hc, if_neg (by omega), e2, if_neg (by omega)]
    exact parse_dig r _ h.2 (fun c hc => hb c (by simp [hc])) hl
theorem atoi_dig {d : List Nat} (h : d.all isD = true) (hb : ∀ c ∈ d, c < 256) (h0 : d ≠ []) (h9 : d.length ≤ 9) : Lib.atoiAll (d.map UInt8.ofNat) = .ok (numT d) := by
  have hl := numT_lt _ d rfl h
  have hp : 10 ^ d.length ≤ 10 ^ 9 := Nat.pow_le_pow_right (by omega) h9
  cases d with
  | nil => exact (h0 rfl).elim
  | cons c r =>
    have hc := (Bool.and_eq_true .. ▸ (List.all_cons ▸ h) : isD c = true ∧ r.all isD = true).1
    simp only [isD, Bool.and_eq_true, decide_eq_true_eq] at hc
    have e : (UInt8.ofNat c).toNat = c := by simp; omega
    have hl9 : numT (c :: r) < 1000000000 := by omega
    have hpar := parse_dig (c :: r) 0 h hb hl9
    rw [← numT] at hpar
    rw [List.map_cons] at hpar
    rw [List.map_cons, Lib.atoiAll]
    simp only [e]
    rw [if_neg (by omega), Lib.parseMag, if_neg (by simp), hpar]
    dsimp only
    rw [if_neg (by omega), if_neg (by omega), if_neg (by omega)]
theorem atoi_neg {d : List Nat} (h : d.all isD = true) (hb : ∀ c ∈ d, c < 256) (h0 : d ≠ []) (h9 : d.length ≤ 9) : Lib.atoiAll ((45 :: d).map UInt8.ofNat) = .ok (-(numT d : Int)) := by
  have hl := numT_lt _ d rfl h
  have hp : 10 ^ d.length ≤ 10 ^ 9 := Nat.pow_le_pow_right (by omega) h9
  have hl9 : numT d < 1000000000 := by omega
  have hpar := parse_dig d 0 h hb hl9
  rw [← numT] at hpar
  have e : (UInt8.ofNat 45).toNat = 45 := rfl
  have hne : d.map UInt8.ofNat ≠ [] := by simpa using h0
  rw [List.map_cons, Lib.atoiAll]
  simp only [e]
  have hor : (45 : Nat) = 43 ∨ True := .inr trivial
  simp only [or_true, if_true]
  rw [Lib.parseMag, if_neg hne, hpar]
  dsimp only
  rw [if_neg (by simp), if_neg (by omega)]
theorem trimPre_eq {s : List Nat} (hb : ∀ c ∈ s, c < 256) : natsB (Lib.trimPrefix (s.map UInt8.ofNat) (([45] : List Nat).map UInt8.ofNat)) = if s.head? = some 45 then s.tail else s := by
  have hn : ∀ l : List Nat, (∀ c ∈ l, c < 256) → natsB (l.map UInt8.ofNat) = l := by
    intro l hl
    rw [natsB, List.map_map]
    conv => rhs; rw [← List.map_id l]
    apply List.map_congr_left
    intro c hc
    have := hl c hc
    simp; omega
  cases s with
  | nil => rfl
  | cons c r =>
    have hc := hb c (by simp)
    have hr := hn r fun c hc => hb c (by simp [hc])
    have hcr := hn (c :: r) hb
    rw [Lib.trimPrefix, Lib.hasPrefix]
    by_cases h : c = 45
    · subst h
      simpa using hr
    · have hne : ¬ (45 : UInt8) = UInt8.ofNat c := by
        intro e
        have := congrArg UInt8.toNat e
        simp at this; omega
      have h2 : (([45] : List Nat).map UInt8.ofNat).isPrefixOf ((c :: r).map UInt8.ofNat) = false := by
        simp only [List.map_cons, List.map_nil, List.isPrefixOf, Bool.and_eq_false_iff, beq_eq_false_iff_ne, ne_eq]
        exact .inl hne
      rw [h2]
      simpa [h] using hcr
theorem num_cons {c : Nat} (s : List Nat) (h : 49 ≤ c) : 1 ≤ numT (c :: s) := by
  have key : ∀ (s : List Nat) (a : Nat), a ≤ s.foldl decV a := by
    intro r
    induction r with
    | nil => intro a; exact Nat.le_refl _
    | cons x r ih => intro a; exact Nat.le_trans (by simp only [decV]; omega) (ih _)
  have := key s (decV 0 c)
  simp only [numT, List.foldl_cons]
  simp only [decV] at this ⊢
  omega
def okP (d : List Nat) (z : Bool) : Bool := !decide (d = []) && !decide (9 < d.length) && d.all isD && !(decide (d.head? = some 48) && z)
def intP (sign : Bool) (s : List Nat) : Int × Bool := if sign = true then (valI s, (readI s).isSome) else intR s
theorem okP_int {s : List Nat} : okP s (decide (s ≠ [48])) = plainN s := by
  rw [okP, plainN]
  have e1 : decide (s.length = 0) = decide (s = []) := by simp
  have e2 : s.all digN = s.all isD := rfl
  rw [e1, e2]
  by_cases h : s.all isD = true
  · rw [h]
    simp only [Bool.and_true]
    congr 2
    cases s with
    | nil => simp
    | cons c r => cases r with
      | nil => simp
      | cons x r => simp
  · have : s.all isD = false := by simpa using h
    rw [this]; simp
theorem intP_eq (sign : Bool) (s d : List Nat) (hd : d = if sign = true ∧ s.head? = some 45 then s.tail else s) :
    intP sign s = if okP d (decide (s ≠ [48])) = true then (if sign = true ∧ s.head? = some 45 then -(numT d : Int) else numT d, true) else (0, false) := by
  by_cases hs : sign = true ∧ s.head? = some 45
  · rw [if_pos hs] at hd
    obtain ⟨rfl, hs2⟩ := hs
    simp only [intP, if_true, hs2, and_self]
    cases s with
    | nil => simp at hs2
    | cons c r =>
      simp at hs2 hd
      subst hs2; subst hd
      have e1 : okP d (decide ((45 : Nat) :: d ≠ [48])) = (plainN d && !decide (d.head? = some 48)) := by
        have : decide ((45 : Nat) :: d ≠ [48]) = true := by simp
        rw [this, ← okP_int, okP, okP]
        cases decide (d.head? = some 48) <;> simp
      rw [e1]
      have hr : readI (45 :: d) = if (intR d).2 = true ∧ (intR d).1 ≠ 0 then some (-(intR d).1) else none := by
        have : (45 :: d : List Nat).head? = some 45 := rfl
        rw [readI, if_pos this]; rfl
      rw [valI, hr]
      by_cases hp : plainN d = true
      · have hi : intR d = ((numT d : Int), true) := by rw [intR, if_pos hp]
        rw [hi, hp]
        by_cases h48 : d.head? = some 48
        · have : numT d = 0 := by
            have hq := hp
            simp only [plainN, Bool.and_eq_true, Bool.not_eq_true', Bool.and_eq_false_iff, decide_eq_false_iff_not] at hq
            cases d with
            | nil => simp at h48
            | cons x r =>
              simp at h48
              subst h48
              cases r with
              | nil => rfl
              | cons y r => simp at hq
          simp [this, h48]
        · have : numT d ≠ 0 := by
            have hq := hp
            simp only [plainN, Bool.and_eq_true, Bool.not_eq_true', decide_eq_false_iff_not] at hq
            cases d with
            | nil => simp at hq
            | cons x r =>
              have hx := (Bool.and_eq_true .. ▸ (List.all_cons ▸ hq.2) : digN x = true ∧ r.all digN = true).1
              simp only [digN, Bool.and_eq_true, decide_eq_true_eq] at hx
              have : x ≠ 48 := fun e => h48 (by simp [e])
              have := num_cons r (c := x) (by omega)
              omega
          have h2 : ¬ (numT d : Int) = 0 := by omega
          simp [this, h48]
      · have hi : intR d = (0, false) := by rw [intR, if_neg hp]
        have hp : plainN d = false := by simpa using hp
        rw [hi, hp]; simp
  · rw [if_neg hs] at hd
    rw [hd, if_neg hs, okP_int]
    clear hd
    cases sign
    · rw [intP, if_neg (by simp), intR]
    · have h45 : ¬ s.head? = some 45 := fun e => hs ⟨rfl, e⟩
      have hr : readI s = if (intR s).2 = true then some (intR s).1 else none := by rw [readI, if_neg h45]
      rw [intP, if_pos rfl, valI, hr, intR]
      by_cases hp : plainN s = true
      · simp [hp]
      · simp [hp]
theorem c_integer (s : List Nat) (sign : Bool) (h : s.length ≤ 1048576) (hb : ∀ c ∈ s, c < 256) : GoodC Tryz.prog 187 [.str s, .bool sign] (.tup [.int .i64 (intP sign s).1, .bool (intP sign s).2]) := by
  refine good_fn nf isF187 mix (by simp [Tryz.f187]) ?_
  obtain ⟨d, hd⟩ : ∃ d, d = if sign = true ∧ s.head? = some 45 then s.tail else s := ⟨_, rfl⟩
  rw [intP_eq sign s d hd]
  have hdl : d.length ≤ s.length := by rw [hd]; split <;> simp
  have hdb : ∀ c ∈ d, c < 256 := by
    intro c hc
    rw [hd] at hc
    split at hc
    · exact hb c (List.mem_of_mem_tail hc)
    · exact hb c hc
  have hT := c_trim10 d (by omega) hdb
  have hnil := trimLR_nil d
  have hA : okP d (decide (s ≠ [48])) = true → GoodC Tryz.prog 239 [.str s] (.tup [.int .i64 (if sign = true ∧ s.head? = some 45 then -(numT d : Int) else numT d), .nif]) := by
    intro hok
    simp only [okP, Bool.and_eq_true, Bool.not_eq_true', decide_eq_false_iff_not] at hok
    obtain ⟨⟨⟨k1, k2⟩, k3⟩, _⟩ := hok
    refine h239 s _ ?_ (by omega)
    by_cases hs : sign = true ∧ s.head? = some 45
    · rw [if_pos hs] at hd ⊢
      have : s = 45 :: d := by
        cases s with
        | nil => simp at hs
        | cons c r => simp at hs hd; rw [hs.2, hd]
      rw [this]
      exact atoi_neg k3 hdb k1 (by omega)
    · rw [if_neg hs] at hd ⊢
      subst hd
      exact atoi_dig k3 hdb k1 (by omega)
  cases sign
  · simp only [Bool.false_eq_true, false_and, if_false] at hd hA ⊢
    obtain rfl : s = d := hd.symm
    by_cases k0 : s = []
    · have ok : okP s (decide (s ≠ [48])) = false := by simp [okP, k0]
      rw [if_neg (by rw [ok]; simp)]
      simp [Tryz.f187, k0]
    by_cases k9 : 9 < s.length
    · have ok : okP s (decide (s ≠ [48])) = false := by simp [okP, k9]
      have k9' : (9 : Int) < (s.length : Int) := by omega
      rw [if_neg (by rw [ok]; simp)]
      simp [Tryz.f187, k0, k9, k9']
    have k9' : ¬ (9 : Int) < (s.length : Int) := by omega
    by_cases ka : s.all isD = true
    case neg =>
      have ok : okP s (decide (s ≠ [48])) = false := by
        have : s.all isD = false := by simpa using ka
        rw [okP, this]; simp
      have kt : ¬ trimL (trimR s) = [] := fun e => ka (hnil.1 e)
      rw [if_neg (by rw [ok]; simp)]
      simp [Tryz.f187, k0, k9, k9']
      refine c2 hT ?_
      simp [kt]
    have kt := hnil.2 ka
    rw [kt] at hT
    obtain ⟨x, r, hx⟩ : ∃ x r, s = x :: r := by
      cases s with
      | nil => exact (k0 rfl).elim
      | cons x r => exact ⟨x, r, rfl⟩
    have hg : s[0]? = some x := by rw [hx]; rfl
    have hh : s.head? = some x := by rw [hx]; rfl
    have hl0 : 0 < s.length := by rw [hx]; simp
    have hg2 : s[0] = x := by simp [hx]
    by_cases kx : x = 48
    · have kx' : (x : Int) = 48 := by omega
      by_cases kz : s = [48]
      · have ok : okP s (decide (s ≠ [48])) = true := by
          have e : decide (s ≠ [48]) = false := by simp [kz]
          rw [e]; simp only [okP, k0, k9, ka]; simp
        rw [if_pos ok]
        simp [Tryz.f187, k0, k9, k9']
        refine c2 hT ?_
        simp [hl0, hg2, kx', eq_true kz]
        refine c1 (hA ok) ?_
        simp
      · have ok : okP s (decide (s ≠ [48])) = false := by
          have e : decide (s ≠ [48]) = true := by simp [kz]
          rw [e]; simp only [okP, k0, k9, ka, hh, kx]; simp
        rw [if_neg (by rw [ok]; simp)]
        simp [Tryz.f187, k0, k9, k9']
        refine c2 hT ?_
        simp [hl0, hg2, kx', kz]
    · have kx' : ¬ (x : Int) = 48 := by omega
      have ok : okP s (decide (s ≠ [48])) = true := by
        have : ¬ (some x = some 48) := fun e => kx (by injection e)
        simp only [okP, k0, k9, ka, hh, this]; simp
      rw [if_pos ok]
      simp [Tryz.f187, k0, k9, k9']
      refine c2 hT ?_
      simp [hl0, hg2, kx']
      refine c1 (hA ok) ?_
      simp
  · have hP : GoodC Tryz.prog 238 [.str s, .str [45]] (.str d) := h238 s [45] d (by rw [trimPre_eq hb, hd]; simp)
    by_cases k0 : d = []
    · have ok : okP d (decide (s ≠ [48])) = false := by simp [okP, k0]
      rw [if_neg (by rw [ok]; simp)]
      simp [Tryz.f187]
      refine c2 hP ?_
      simp [k0]
    by_cases k9 : 9 < d.length
    · have ok : okP d (decide (s ≠ [48])) = false := by simp [okP, k9]
      have k9' : (9 : Int) < (d.length : Int) := by omega
      rw [if_neg (by rw [ok]; simp)]
      simp [Tryz.f187]
      refine c2 hP ?_
      simp [k0, k9, k9']
    have k9' : ¬ (9 : Int) < (d.length : Int) := by omega
    by_cases ka : d.all isD = true
    case neg =>
      have ok : okP d (decide (s ≠ [48])) = false := by
        have : d.all isD = false := by simpa using ka
        rw [okP, this]; simp
      have kt : ¬ trimL (trimR d) = [] := fun e => ka (hnil.1 e)
      rw [if_neg (by rw [ok]; simp)]
      simp [Tryz.f187]
      refine c2 hP ?_
      simp [k0, k9, k9']
      refine c2 hT ?_
      simp [kt]
    have kt := hnil.2 ka
    rw [kt] at hT
    obtain ⟨x, r, hx⟩ : ∃ x r, d = x :: r := by
      cases d with
      | nil => exact (k0 rfl).elim
      | cons x r => exact ⟨x, r, rfl⟩
    have hg : d[0]? = some x := by rw [hx]; rfl
    have hh : d.head? = some x := by rw [hx]; rfl
    have hl0 : 0 < d.length := by rw [hx]; simp
    have hg2 : d[0] = x := by simp [hx]
    by_cases kx : x = 48
    · have kx' : (x : Int) = 48 := by omega
      by_cases kz : s = [48]
      · have ok : okP d (decide (s ≠ [48])) = true := by
          have e : decide (s ≠ [48]) = false := by simp [kz]
          rw [e]; simp only [okP, k0, k9, ka]; simp
        rw [if_pos ok]
        simp [Tryz.f187]
        refine c2 hP ?_
        simp [k0, k9, k9']
        refine c2 hT ?_
        simp [hl0, hg2, kx', eq_true kz]
        refine c1 (hA ok) ?_
        simp
      · have ok : okP d (decide (s ≠ [48])) = false := by
          have e : decide (s ≠ [48]) = true := by simp [kz]
          rw [e]; simp only [okP, k0, k9, ka, hh, kx]; simp
        rw [if_neg (by rw [ok]; simp)]
        simp [Tryz.f187]
        refine c2 hP ?_
        simp [k0, k9, k9']
        refine c2 hT ?_
        simp [hl0, hg2, kx', kz]
    · have kx' : ¬ (x : Int) = 48 := by omega
      have ok : okP d (decide (s ≠ [48])) = true := by
        have : ¬ (some x = some 48) := fun e => kx (by injection e)
        simp only [okP, k0, k9, ka, hh, this]; simp
      rw [if_pos ok]
      simp [Tryz.f187]
      refine c2 hP ?_
      simp [k0, k9, k9']
      refine c2 hT ?_
      simp [hl0, hg2, kx']
      refine c1 (hA ok) ?_
      simp
end Go.Abs
namespace Go.Abs
open Go.Proofs
set_option maxHeartbeats 4000000
set_option maxRecDepth 100000
def pairB (s : List Nat) : Bool := (cutN 32 s).2.2 && !decide ((cutN 32 s).1 = []) && !decide ((cutN 32 s).2.1 = []) && !(cutN 32 (cutN 32 s).2.1).2.2
theorem c_readValues (s : List Nat) (h : s.length ≤ 1000000) (hb : ∀ c ∈ s, c < 256) : GoodC Tryz.prog 107 [.str s] (.tup [.seq ((readV s).1.map (.int .i64)), .bool (readV s).2]) := by
  refine good_fn nf isF107 mix (by simp [Tryz.f107]) ?_
  simp [Tryz.f107]
  refine c2 (c_split s 44 (by omega)) ?_
  have hl := spl_len 44 s
  have hm := fun p => spl_mem (c := 44) (s := s) (p := p)
  have hv : readV s = if (spl 44 s).all (fun p => (readI p).isSome) = true then ((spl 44 s).map valI, true) else ([], false) := rfl
  rw [hv]
  clear hv
  generalize spl 44 s = l at *
  simp
  refine lp (α := Nat) (fun i => ⟨[(12, .p (.int .i64 i)), (11, .p (.int .i64 l.length)), (10, .p (.seq (l.map .str))), (4, .sl 0 i 1 0 i)], [.arr .grow i 1 ((l.map fun p => .p (.int .i64 (valI p))).take i)]⟩) (fun i => i ≤ l.length ∧ (l.take i).all (fun p => (readI p).isSome) = true) (fun i => l.length - i) 0 (by simp) ?_
  rintro i ⟨k1, k2⟩
  have hw := wi1 (i := i) (by omega)
  by_cases hi : i < l.length
  · have hm1 := hm l[i] (List.getElem_mem hi)
    have hall : (l.take (i + 1)).all (fun p => (readI p).isSome) = (readI l[i]).isSome := by
      rw [List.take_succ_eq_append_getElem hi, List.all_append, k2]; simp
    simp [hi]
    refine c2 (c_integer l[i] true (by omega) (fun c hc => hb c (hm1.2 c hc))) ?_
    cases hr : (readI l[i]).isSome
    · have e : l.all (fun p => (readI p).isSome) = false := by
        rw [List.all_eq_false]; exact ⟨l[i], List.getElem_mem hi, by simp [hr]⟩
      simp [intP, hr, e]
    · have hl2 : ((l.map fun p => AV.p (.int .i64 (valI p))).take i).length = i := by simp; omega
      simp [intP, hr, hw, hl2]
      refine ⟨by simp only [maxL]; omega, ?_⟩
      have hs : (l.map fun p => AV.p (.int .i64 (valI p))).take (i + 1) = (l.map fun p => AV.p (.int .i64 (valI p))).take i ++ [AV.p (.int .i64 (valI l[i]))] := by
        rw [List.take_succ_eq_append_getElem (by simpa using hi), List.getElem_map]
      exact rd (i + 1) ⟨hi, by rw [hall]; exact hr⟩ (hh := by simp only [hs]; simp) (hr2 := by rw [hs]; simp)
  · have : i = l.length := by omega
    subst this
    rw [List.take_length] at k2
    simp [k2]
end Go.Abs
namespace Go.Abs
open Go.Proofs
set_option maxHeartbeats 4000000
set_option maxRecDepth 100000
def lnC : Nat → List Nat → List Nat → List (Nat × List Nat)
  | k, cur, [] => if cur = [] then [] else [(k, cur)]
  | k, cur, x :: r => if x = 10 then (k + 1, cur ++ [10]) :: lnC (k + 1) [] r else lnC (k + 1) (cur ++ [x]) r
def lns (s : List Nat) : List (Nat × List Nat) := lnC 0 [] s
def itemL (x : Nat × List Nat) : List PV := [.int .i64 x.1, .str x.2]
end Go.Abs
namespace Go.Abs
open Go.Proofs
set_option maxHeartbeats 4000000
set_option maxRecDepth 100000
def rwL (x : List Nat) : RowD := ⟨(cutN 32 x).1, (readV (cutN 32 x).2.1).1⟩
def okL (i : Nat) (x : List Nat) : Bool := pairB x && (if i = 0 then decide ((cutN 32 x).1 = [98, 111, 111, 107]) else (readV (cutN 32 x).2.1).2)
def bkL (l : List (List Nat)) : Nat → BookD
  | 0 => ⟨[], []⟩
  | k + 1 => ⟨(cutN 32 (l.headD [])).2.1, ((l.drop 1).take k).map rwL⟩
def pB (nm : List Nat) : Nat → AV
  | 0 => .p (.st 23 [.str [], .nsl])
  | 1 => .p (.st 23 [.str nm, .nsl])
  | j + 2 => .st 23 [.p (.str nm), .sl 8 j 2 0 (j + 1)]
def pT (rows : List RowD) : Nat → Heap
  | 0 | 1 => []
  | j + 2 => [.hole, .arr .grow j 2 ((rows.take (j + 1)).map fun r => .p (eRow r))]
def pX (w1 w2 : Int) (nm : List Nat) (rows : List RowD) (L : LoopA) (i : Nat) : Heap :=
  [.box false (.p (.st 23 [.str [], .nsl])), .box false (.p (.int .i64 0)), .box false (.p (.int .i64 0)), .arr .frozen 0 1 [.p (.int .i64 w1), .p (.int .i64 w2)], .box false (pB nm i), .box false (.p (.int .i64 i)), .loop L] ++ pT rows i
def pF (w1 w2 : Int) (nm : List Nat) (rows : List RowD) (L : LoopA) (i : Nat) : Heap :=
  [.box false (.p (.st 23 [.str [], .nsl])), .box false (.p (.int .i64 i)), .box false (.p (.int .i64 25)), .arr .frozen 0 1 [.p (.int .i64 w1), .p (.int .i64 w2)], .box false (pB nm i), .box false (.p (.int .i64 i)), .loop (L.dn .ret)] ++ pT rows i
end Go.Abs
namespace Go.Abs
open Go.Proofs
set_option maxHeartbeats 4000000
set_option maxRecDepth 100000
def u8s (t : List Nat) : List AV := t.map fun (c : Nat) => AV.p (.int .u8 (c : Int))
end Go.Abs
namespace Go.Abs
open Go.Proofs
structure EventD where
  num : Int
  kind : List Nat
  names : List (List Nat)
  vals : List Int
  text : List Nat
  deriving DecidableEq
def eEvent (e : EventD) : PV := .st 60 [.int .i64 e.num, .str e.kind, .seq (e.names.map .str), .seq (e.vals.map (.int .i64)), .str e.text]
@[simp] theorem shp_eEvent {e : EventD} : shp (eEvent e) = .agg 60 := rfl
def kSet : List Nat := [115, 101, 116]
def kMove : List Nat := [109, 111, 118, 101]
def kUndo : List Nat := [117, 110, 100, 111]
def formS (k : List Nat) : Nat × Nat × Bool × Bool :=
  if k = kAdd then (1, 0, true, true) else if k = kSet then (1, 0, true, true) else if k = kDrop then (1, 0, false, true) else if k = kMove then (1, 1, false, true)
  else if k = kUndo then (0, 0, false, true) else (0, 0, false, false)
def withinE (n lo hi : Int) : Int := whenE (decide (n < lo) || decide (n > hi)) 3
def chkNames : List (List Nat) → Int
  | [] => 0
  | s :: r => if isName s = true then chkNames r else 8
def chkNums : List Int → Int
  | [] => 0
  | n :: r => if n < 0 ∨ n > 999999999 then 3 else chkNums r
def chkText (t : Bool) (s : List Nat) : Int := firstE [whenE (!t && !decide (s = []) || decide (10 ∈ s)) 1, whenE (decide (4096 < s.length)) 26]
def chkShape (e : EventD) : Int := firstE [withinE e.num 1 1000, whenE (!(formS e.kind).2.2.2) 13, whenE (decide (e.names.length ≠ (formS e.kind).1) || decide (e.vals.length ≠ (formS e.kind).2.1)) 2]
def chkEvent (e : EventD) : Int := firstE [chkShape e, chkNames e.names, chkNums e.vals, chkText (formS e.kind).2.2.1 e.text]
def toldE (s : List Nat) : Int := firstE [whenE (!(readV s).2) 25, whenE (decide (16 < (readV s).1.length)) 5]
def keyN (e : EventD) : List Nat := e.names.headD []
def placeN (e : EventD) : Int := e.vals.headD 0 - 1
def atK (l : List RowD) (k : List Nat) : Int := idxFrom (keyIs k) l 0
def addS (l : List RowD) (e : EventD) : List RowD × Int :=
  if 0 ≤ atK l (keyN e) then ([], 9)
  else if firstE [toldE e.text, whenE (decide (256 ≤ l.length)) 5] ≠ 0 then ([], firstE [toldE e.text, whenE (decide (256 ≤ l.length)) 5])
  else (l ++ [⟨keyN e, (readV e.text).1⟩], 0)
def setS (l : List RowD) (e : EventD) : List RowD × Int :=
  if atK l (keyN e) < 0 then ([], 10)
  else if firstE [toldE e.text, whenE (decide ((l[(atK l (keyN e)).toNat]?.map (·.vals)) = some (readV e.text).1)) 9] ≠ 0 then ([], firstE [toldE e.text, whenE (decide ((l[(atK l (keyN e)).toNat]?.map (·.vals)) = some (readV e.text).1)) 9])
  else (l.set (atK l (keyN e)).toNat ⟨keyN e, (readV e.text).1⟩, 0)
def dropS (l : List RowD) (e : EventD) : List RowD × Int :=
  if atK l (keyN e) < 0 then ([], 10) else (l.eraseIdx (atK l (keyN e)).toNat, 0)
def moveE (l : List RowD) (e : EventD) : Int := firstE [whenE (decide (atK l (keyN e) < 0)) 10, withinE (placeN e) 0 (l.length - 1), whenE (decide (atK l (keyN e) = placeN e)) 9]
def moveS (l : List RowD) (e : EventD) : List RowD × Int :=
  if moveE l e ≠ 0 then ([], moveE l e)
  else ((l.eraseIdx (atK l (keyN e)).toNat).insertIdx (placeN e).toNat (l[(atK l (keyN e)).toNat]?.getD ⟨[], []⟩), 0)
def stepS (l : List RowD) (e : EventD) : List RowD × Int :=
  if e.kind = kAdd then addS l e else if e.kind = kSet then setS l e else if e.kind = kDrop then dropS l e else moveS l e
structure StoryD where
  evs : List EventD
  sts : List (List RowD)
def StoryD.now (d : StoryD) : List RowD := d.sts.getLast?.getD []
def acceptE (d : StoryD) (e : EventD) : Int :=
  if e.num ≠ d.evs.length + 1 then 11 else if e.kind = kUndo then (if d.sts = [] then 12 else 0) else (stepS d.now e).2
def acceptD (d : StoryD) (e : EventD) : StoryD := ⟨d.evs ++ [e], if e.kind = kUndo then d.sts.dropLast else d.sts ++ [(stepS d.now e).1]⟩
def addE (d : StoryD) (e : EventD) : Int := firstE [chkEvent e, acceptE d e]
def playL : List EventD → Nat → StoryD → StoryD × Int × Int
  | [], _, d => (d, 0, 0)
  | e :: r, i, d => if addE d e ≠ 0 then (d, i + 1, addE d e) else playL r (i + 1) (acceptD d e)
def playS (l : List EventD) : StoryD × Int × Int := if 1000 < l.length then (⟨[], []⟩, 0, 5) else playL l 0 ⟨[], []⟩
def replayS (l : List EventD) : List RowD × Int × Int := if (playS l).2.2 ≠ 0 then ([], (playS l).2.1, (playS l).2.2) else ((playS l).1.now, 0, 0)
def acceptsS (l : List EventD) (e : EventD) : Int :=
  if firstE [(playS l).2.2, chkEvent e, whenE (decide (1000 ≤ l.length)) 5] ≠ 0 then firstE [(playS l).2.2, chkEvent e, whenE (decide (1000 ≤ l.length)) 5] else acceptE (playS l).1 e
def evB (e : EventD) : Prop := e.kind.length ≤ 1000000 ∧ e.names.length ≤ 1000 ∧ (∀ s ∈ e.names, s.length ≤ 1000000) ∧ e.vals.length ≤ 1000 ∧ e.text.length ≤ 1000000 ∧ (∀ c ∈ e.text, c < 256)
def heardE (e : EventD) : Bool := decide (e.kind.length ≤ 60) && decide (e.names.length ≤ 5) && decide (e.vals.length ≤ 5) && decide (e.text.length ≤ 300) && e.names.all fun s => decide (s.length ≤ 60)
def heardS (l : List EventD) : Bool := l.all heardE && decide (l.length ≤ 24)
end Go.Abs
namespace Go.Abs
open Go.Proofs
@[simp] theorem ki2 : kindOf Tryz.prog 2 = .leaf := by kernel_rfl
@[simp] theorem un2 : Tryz.prog.underlying 2 = some (.int .i64) := by kernel_rfl
@[simp] theorem at2 : appTy Tryz.prog 2 = false := by kernel_rfl
@[simp] theorem tz2 : tzero Tryz.prog 2 = some (.int .i64 (0)) := by kernel_rfl
@[simp] theorem ki123 : kindOf Tryz.prog 123 = .leaf := by kernel_rfl
@[simp] theorem at123 : appTy Tryz.prog 123 = true := by kernel_rfl
@[simp] theorem tz123 : tzero Tryz.prog 123 = some (.nfunc) := by kernel_rfl
@[simp] theorem ki160 : kindOf Tryz.prog 160 = .leaf := by kernel_rfl
@[simp] theorem un160 : Tryz.prog.underlying 160 = some (.pointer 162) := by kernel_rfl
@[simp] theorem at160 : appTy Tryz.prog 160 = true := by kernel_rfl
@[simp] theorem tz160 : tzero Tryz.prog 160 = some (.nptr) := by kernel_rfl
@[simp] theorem ki236 : kindOf Tryz.prog 236 = .leaf := by kernel_rfl
@[simp] theorem un236 : Tryz.prog.underlying 236 = some (.slice 22) := by kernel_rfl
@[simp] theorem at236 : appTy Tryz.prog 236 = true := by kernel_rfl
@[simp] theorem el236 : elemOk Tryz.prog 236 = some 1 := by kernel_rfl
@[simp] theorem et236 : elemType Tryz.prog 236 = 22 := by kernel_rfl
@[simp] theorem tz236 : tzero Tryz.prog 236 = some (.nsl) := by kernel_rfl
@[simp] theorem ki246 : kindOf Tryz.prog 246 = .leaf := by kernel_rfl
@[simp] theorem at246 : appTy Tryz.prog 246 = true := by kernel_rfl
@[simp] theorem tz246 : tzero Tryz.prog 246 = some (.nfunc) := by kernel_rfl
@[simp] theorem ki255 : kindOf Tryz.prog 255 = .leaf := by kernel_rfl
@[simp] theorem at255 : appTy Tryz.prog 255 = true := by kernel_rfl
@[simp] theorem tz255 : tzero Tryz.prog 255 = some (.nfunc) := by kernel_rfl
@[simp] theorem ki283 : kindOf Tryz.prog 283 = .leaf := by kernel_rfl
@[simp] theorem un283 : Tryz.prog.underlying 283 = some (.pointer 5) := by kernel_rfl
@[simp] theorem at283 : appTy Tryz.prog 283 = true := by kernel_rfl
@[simp] theorem tz283 : tzero Tryz.prog 283 = some (.nptr) := by kernel_rfl
@[simp] theorem ki284 : kindOf Tryz.prog 284 = .leaf := by kernel_rfl
@[simp] theorem at284 : appTy Tryz.prog 284 = true := by kernel_rfl
@[simp] theorem tz284 : tzero Tryz.prog 284 = some (.nfunc) := by kernel_rfl
@[simp] theorem ki299 : kindOf Tryz.prog 299 = .leaf := by kernel_rfl
@[simp] theorem at299 : appTy Tryz.prog 299 = true := by kernel_rfl
@[simp] theorem tz299 : tzero Tryz.prog 299 = some (.nfunc) := by kernel_rfl
@[simp] theorem ki301 : kindOf Tryz.prog 301 = .leaf := by kernel_rfl
@[simp] theorem at301 : appTy Tryz.prog 301 = true := by kernel_rfl
@[simp] theorem tz301 : tzero Tryz.prog 301 = some (.nfunc) := by kernel_rfl
@[simp] theorem ki317 : kindOf Tryz.prog 317 = .leaf := by kernel_rfl
@[simp] theorem un317 : Tryz.prog.underlying 317 = some (.int .u32) := by kernel_rfl
@[simp] theorem at317 : appTy Tryz.prog 317 = false := by kernel_rfl
@[simp] theorem tz317 : tzero Tryz.prog 317 = some (.int .u32 (0)) := by kernel_rfl
@[simp] theorem ki320 : kindOf Tryz.prog 320 = .leaf := by kernel_rfl
@[simp] theorem un320 : Tryz.prog.underlying 320 = some (.int .u64) := by kernel_rfl
@[simp] theorem at320 : appTy Tryz.prog 320 = false := by kernel_rfl
@[simp] theorem tz320 : tzero Tryz.prog 320 = some (.int .u64 (0)) := by kernel_rfl
@[simp] theorem ki326 : kindOf Tryz.prog 326 = .leaf := by kernel_rfl
@[simp] theorem at326 : appTy Tryz.prog 326 = true := by kernel_rfl
@[simp] theorem tz326 : tzero Tryz.prog 326 = some (.nptr) := by kernel_rfl
@[simp] theorem ki397 : kindOf Tryz.prog 397 = .leaf := by kernel_rfl
@[simp] theorem un397 : Tryz.prog.underlying 397 = some (.pointer 378) := by kernel_rfl
@[simp] theorem at397 : appTy Tryz.prog 397 = true := by kernel_rfl
@[simp] theorem tz397 : tzero Tryz.prog 397 = some (.nptr) := by kernel_rfl
@[simp] theorem ss384 : shpSize Tryz.prog (.agg 384) = 24 := by kernel_rfl
@[simp] theorem ss401 : shpSize Tryz.prog (.agg 401) = 20 := by kernel_rfl
@[simp] theorem ss409 : shpSize Tryz.prog (.agg 409) = 2 := by kernel_rfl
@[simp] theorem ss411 : shpSize Tryz.prog (.agg 411) = 32 := by kernel_rfl
@[simp] theorem ss416 : shpSize Tryz.prog (.agg 416) = 1 := by kernel_rfl
@[simp] theorem ss418 : shpSize Tryz.prog (.agg 418) = 32 := by kernel_rfl
end Go.Abs
namespace Go.Abs
open Go.Proofs
set_option maxHeartbeats 4000000
set_option maxRecDepth 100000
theorem c_within (n lo hi : Int) : GoodC Tryz.prog 128 [.int .i64 n, .int .i64 lo, .int .i64 hi] (.int .i64 (withinE n lo hi)) := by
  refine good_fn nf isF128 mix (by simp [Tryz.f128]) ?_
  by_cases h1 : n < lo
  · simp [Tryz.f128, h1]
    refine c2 (c_when true 3) ?_
    simp [withinE, h1]
  · by_cases h2 : hi < n
    · simp [Tryz.f128, h1, h2]
      refine c2 (c_when true 3) ?_
      simp [withinE, h1, h2]
    · simp [Tryz.f128, h1, h2]
      refine c2 (c_when false 3) ?_
      simp [withinE, h1, h2]
def kindV (f : Nat × Nat × Bool × Bool) (fn : PV) : PV := .st 229 [.int .i64 f.1, .int .i64 f.2.1, .bool f.2.2.1, fn]
def kindsE : List (PV × PV) := [(.str kAdd, kindV (1, 0, true, true) (.func 207 [] [])), (.str kSet, kindV (1, 0, true, true) (.func 208 [] [])), (.str kDrop, kindV (1, 0, false, true) (.func 209 [] [])), (.str kMove, kindV (1, 1, false, true) (.func 210 [] [])), (.str kUndo, kindV (0, 0, false, true) .nfunc)]
theorem c_kinds : GoodC Tryz.prog 144 [] (.fmap kindsE) := by
  refine good_fn nf isF144 mix (by simp [Tryz.f144]) ?_
  simp [Tryz.f144, kindsE, kindV, kAdd, kSet, kDrop, kMove, kUndo]
def kindF (k : List Nat) : PV := if k = kAdd then .func 207 [] [] else if k = kSet then .func 208 [] [] else if k = kDrop then .func 209 [] [] else if k = kMove then .func 210 [] [] else .nfunc
theorem kinds_look (k : List Nat) : lookupM kindsE (.str k) = some (if (formS k).2.2.2 = true then some (kindV (formS k) (kindF k)) else none) := by
  have e : ∀ a b : List Nat, eqP (.str a) (.str b) = some (decide (a = b)) := fun a b => by simp [eqP]; rw [Bool.eq_iff_iff]; simp
  by_cases h1 : k = kAdd
  · subst h1; rfl
  by_cases h2 : k = kSet
  · subst h2; rfl
  by_cases h3 : k = kDrop
  · subst h3; rfl
  by_cases h4 : k = kMove
  · subst h4; rfl
  by_cases h5 : k = kUndo
  · subst h5; rfl
  have hf : formS k = (0, 0, false, false) := by simp [formS, h1, h2, h3, h4, h5]
  simp only [kindsE, lookupM, e, h1, h2, h3, h4, h5, decide_false, hf, Bool.false_eq_true, if_false]
theorem c_form (k : List Nat) : GoodC Tryz.prog 123 [.str k] (.tup [.int .i64 (formS k).1, .int .i64 (formS k).2.1, .bool (formS k).2.2.1, .bool (formS k).2.2.2]) := by
  refine good_fn nf isF123 mix (by simp [Tryz.f123]) ?_
  by_cases h1 : k = kAdd
  · subst h1; simp [Tryz.f123, kAdd, formS]
  by_cases h2 : k = kSet
  · subst h2; simp [Tryz.f123, kSet, kAdd, formS]
  by_cases h3 : k = kDrop
  · subst h3; simp [Tryz.f123, kDrop, kSet, kAdd, formS]
  by_cases h4 : k = kMove
  · subst h4; simp [Tryz.f123, kMove, kDrop, kSet, kAdd, formS]
  by_cases h5 : k = kUndo
  · subst h5; simp [Tryz.f123, kUndo, kMove, kDrop, kSet, kAdd, formS]
  have hf : formS k = (0, 0, false, false) := by simp [formS, h1, h2, h3, h4, h5]
  rw [hf]
  simp only [kAdd, kSet, kDrop, kMove, kUndo] at h1 h2 h3 h4 h5
  simp [Tryz.f123, h1, h2, h3, h4, h5]
end Go.Abs
namespace Go.Abs
open Go.Proofs
set_option maxHeartbeats 4000000
set_option maxRecDepth 100000
theorem cutN_has (c : Nat) : ∀ s : List Nat, (cutN c s).2.2 = decide (c ∈ s)
  | [] => by simp [cutN]
  | x :: r => by
    rw [cutN]
    by_cases h : x = c
    · simp [h]
    · rw [if_neg h]
      have h' : ¬ c = x := fun e => h e.symm
      simp [cutN_has c r, h']
theorem c_checkEvent (e : EventD) (h : evB e) : GoodC Tryz.prog 55 [eEvent e] (.int .i64 (chkEvent e)) := by
  obtain ⟨num, kind, names, vals, text⟩ := e
  obtain ⟨b1, b2, b3, b4, b5, b6⟩ := h
  dsimp only at b1 b2 b3 b4 b5 b6
  refine good_fn nf isF55 mix (by simp [Tryz.f55]) ?_
  have hlk := kinds_look kind
  have hz : (formS kind).2.2.2 = false → formS kind = (0, 0, false, false) := by
    intro h
    by_cases h1 : kind = kAdd
    · subst h1; cases h
    by_cases h2 : kind = kSet
    · subst h2; cases h
    by_cases h3 : kind = kDrop
    · subst h3; cases h
    by_cases h4 : kind = kMove
    · subst h4; cases h
    by_cases h5 : kind = kUndo
    · subst h5; cases h
    simp [formS, h1, h2, h3, h4, h5]
  have hc : chkEvent ⟨num, kind, names, vals, text⟩ = firstE [firstE [withinE num 1 1000, whenE (!(formS kind).2.2.2) 13, whenE (decide (names.length ≠ (formS kind).1) || decide (vals.length ≠ (formS kind).2.1)) 2], chkNames names, chkNums vals, chkText (formS kind).2.2.1 text] := rfl
  rw [hc]
  clear hc
  generalize formS kind = f at *
  obtain ⟨fn, fv, ft, fk⟩ := f
  dsimp only at hz hlk ⊢
  simp [Tryz.f55, eEvent, -w_seq']
  rw [w_seq']
  simp [-w_seq']
  refine join (fun s => ∃ fnv, getE s.env 1 = .ptr 0 [] ∧ getE s.env 3 = .ptr 1 [] ∧ getE s.env 4 = .p (.bool fk) ∧ s.heap = [.box false (.p (.st 60 [.int .i64 num, .str kind, .seq (names.map .str), .seq (vals.map (.int .i64)), .str text])), .box false (.p (.st 229 [.int .i64 fn, .int .i64 fv, .bool ft, fnv]))]) ?_ ?_
  · simp
    refine e0 c_kinds ?_
    cases fk
    · obtain ⟨rfl, rfl, rfl⟩ : fn = 0 ∧ fv = 0 ∧ ft = false := by
        have := hz rfl
        simpa using this
      simp [hlk]
      rfl
    · simp [hlk, kindV]
      rfl
  rintro ⟨env, heap⟩ ⟨fnv, g1, g3, g4, hp⟩
  dsimp only at g1 g3 g4 hp
  subst hp
  refine join (fun s => getE s.env 1 = .ptr 0 [] ∧ getE s.env 3 = .ptr 1 [] ∧ firstE [withinE num 1 1000, whenE (!fk) 13, whenE (decide (names.length ≠ fn) || decide (vals.length ≠ fv)) 2] = 0 ∧ s.heap = [.box false (.p (.st 60 [.int .i64 num, .str kind, .seq (names.map .str), .seq (vals.map (.int .i64)), .str text])), .box false (.p (.st 229 [.int .i64 fn, .int .i64 fv, .bool ft, fnv])), .arr .frozen 0 1 [.p (.int .i64 (withinE num 1 1000)), .p (.int .i64 (whenE (!fk) 13)), .p (.int .i64 (whenE (decide (names.length ≠ fn) || decide (vals.length ≠ fv)) 2))]]) ?_ ?_
  · generalize hb : (decide (names.length ≠ fn) || decide (vals.length ≠ fv)) = b
    have hcs : ((names.length : Int) = fn ∧ (vals.length : Int) = fv ∧ b = false) ∨ ((names.length : Int) = fn ∧ ¬ (vals.length : Int) = fv ∧ b = true) ∨ (¬ (names.length : Int) = fn ∧ ¬ (names.length : Int) = fn ∧ b = true) := by
      rw [← hb]
      by_cases q1 : names.length = fn <;> by_cases q2 : vals.length = fv <;> simp [q1, q2] <;> omega
    clear hb
    rcases hcs with ⟨q1, q2, q3⟩ | ⟨q1, q2, q3⟩ | ⟨q1, q2, q3⟩
    all_goals
      simp [g1, g3, g4, q1, q2]
      refine e3 (c_within num 1 1000) ?_
      simp [g1, g3, g4, q1, q2]
      refine e2 (c_when (!fk) 13) ?_
      simp [g1, g3, g4, q1, q2]
      refine e2 (c_when b 2) ?_ (h1 := by simp [q1, q2, q3])
      simp [g1, g3, g4, q1, q2]
      refine ep (h1 := ?g1) (c_first [withinE num 1 1000, whenE (!fk) 13, whenE b 2] (by simp)) (by simp; exact ⟨rfl, rfl⟩) (by simp; exact ⟨rfl, rfl⟩) ?_
      case g1 => simp
      by_cases hz : firstE [withinE num 1 1000, whenE (!fk) 13, whenE b 2] = 0
      · simp [hz, g1, g3, g4]
        rfl
      · simp [hz]
        refine ⟨rfl, ?_⟩
        rw [firstE, if_neg hz]
  rintro ⟨env2, heap2⟩ ⟨h1, h3, hs, hp⟩
  dsimp only at h1 h3 hp
  subst hp
  rw [show firstE [firstE [withinE num 1 1000, whenE (!fk) 13, whenE (decide (names.length ≠ fn) || decide (vals.length ≠ fv)) 2], chkNames names, chkNums vals, chkText ft text] = firstE [chkNames names, chkNums vals, chkText ft text] by rw [firstE, if_pos hs]]
  clear hs hlk hz g1 g3 g4
  refine join (fun s => getE s.env 1 = .ptr 0 [] ∧ getE s.env 3 = .ptr 1 [] ∧ chkNames names = 0 ∧ s.heap = [.box false (.p (.st 60 [.int .i64 num, .str kind, .seq (names.map .str), .seq (vals.map (.int .i64)), .str text])), .box false (.p (.st 229 [.int .i64 fn, .int .i64 fv, .bool ft, fnv]))]) ?_ ?_
  · simp [h1, h3]
    refine lp (α := Nat) (fun i => ⟨[(48, .p (.int .i64 i)), (47, .p (.int .i64 names.length)), (46, .p (.seq (names.map .str))), (1, .ptr 0 []), (3, .ptr 1 [])], [.box false (.p (.st 60 [.int .i64 num, .str kind, .seq (names.map .str), .seq (vals.map (.int .i64)), .str text])), .box false (.p (.st 229 [.int .i64 fn, .int .i64 fv, .bool ft, fnv]))]⟩) (fun i => i ≤ names.length ∧ chkNames names = chkNames (names.drop i)) (fun i => names.length - i) 0 (by simp) ?_ (he := by simp [h1, h3])
    rintro i ⟨k1, k2⟩
    have hw := wi1 (i := i) (by omega)
    by_cases hi : i < names.length
    · rw [List.drop_eq_getElem_cons hi, chkNames] at k2
      have hs := b3 _ (List.getElem_mem hi)
      simp [hi]
      refine c1 (c_named names[i] (by omega)) ?_
      by_cases hn : isName names[i] = true
      · rw [if_pos hn] at k2
        simp [hn, whenE, hw]
        exact rd (i + 1) ⟨hi, k2⟩
      · rw [if_neg hn] at k2
        simp [hn, whenE, k2, firstE]
    · have : i = names.length := by omega
      subst this
      rw [List.drop_length, chkNames] at k2
      simp [k2]
  rintro ⟨env3, heap3⟩ ⟨h1, h3, hs, hp⟩
  dsimp only at h1 h3 hp
  subst hp
  rw [show firstE [chkNames names, chkNums vals, chkText ft text] = firstE [chkNums vals, chkText ft text] by rw [firstE, if_pos hs]]
  clear hs
  refine join (fun s => getE s.env 1 = .ptr 0 [] ∧ getE s.env 3 = .ptr 1 [] ∧ chkNums vals = 0 ∧ s.heap = [.box false (.p (.st 60 [.int .i64 num, .str kind, .seq (names.map .str), .seq (vals.map (.int .i64)), .str text])), .box false (.p (.st 229 [.int .i64 fn, .int .i64 fv, .bool ft, fnv]))]) ?_ ?_
  · simp [h1, h3]
    refine lp (α := Nat) (fun i => ⟨[(61, .p (.int .i64 i)), (60, .p (.int .i64 vals.length)), (59, .p (.seq (vals.map (.int .i64)))), (1, .ptr 0 []), (3, .ptr 1 [])], [.box false (.p (.st 60 [.int .i64 num, .str kind, .seq (names.map .str), .seq (vals.map (.int .i64)), .str text])), .box false (.p (.st 229 [.int .i64 fn, .int .i64 fv, .bool ft, fnv]))]⟩) (fun i => i ≤ vals.length ∧ chkNums vals = chkNums (vals.drop i)) (fun i => vals.length - i) 0 (by simp) ?_ (he := by simp [h1, h3])
    rintro i ⟨k1, k2⟩
    have hw := wi1 (i := i) (by omega)
    by_cases hi : i < vals.length
    · rw [List.drop_eq_getElem_cons hi, chkNums] at k2
      simp [hi]
      refine c3 (c_within vals[i] 0 999999999) ?_
      by_cases hn : vals[i] < 0 ∨ vals[i] > 999999999
      · rw [if_pos hn] at k2
        have e : withinE vals[i] 0 999999999 = 3 := by
          rcases hn with hn | hn <;> simp [withinE, whenE, hn]
        simp [e, k2, firstE]
      · rw [if_neg hn] at k2
        have e : withinE vals[i] 0 999999999 = 0 := by
          simp only [not_or] at hn
          simp [withinE, whenE, hn]
        simp [e, hw]
        exact rd (i + 1) ⟨hi, k2⟩
    · have : i = vals.length := by omega
      subst this
      rw [List.drop_length, chkNums] at k2
      simp [k2]
  rintro ⟨env4, heap4⟩ ⟨h1, h3, hs, hp⟩
  dsimp only at h1 h3 hp
  subst hp
  rw [show firstE [chkNums vals, chkText ft text] = chkText ft text by rw [firstE, if_pos hs, chkText]; simp only [firstE]; split <;> simp_all]
  clear hs
  have hC := c_contains text 10
  rw [cutN_has] at hC
  rw [chkText]
  by_cases q0 : text = []
  · subst q0
    cases ft
    all_goals
      simp [h1, h3]
      refine e2 hC ?_
      simp
      refine e2 (c_when false 1) ?_
      simp [h1, h3]
      refine e2 (c_when false 26) ?_
      simp
      refine ep (h1 := ?g1) (c_first [whenE false 1, whenE false 26] (by simp)) (by simp; exact ⟨rfl, rfl⟩) (by simp; exact ⟨rfl, rfl⟩) ?_
      case g1 => simp
      simp
      rfl
  · cases ft
    · simp [h1, h3, q0]
      refine e2 (c_when true 1) ?_
      simp [h1, h3]
      refine e2 (c_when (decide (4096 < text.length)) 26) ?_ (h1 := by simp; omega)
      simp
      refine ep (h1 := ?g1) (c_first [whenE true 1, whenE (decide (4096 < text.length)) 26] (by simp)) (by simp; exact ⟨rfl, rfl⟩) (by simp; exact ⟨rfl, rfl⟩) ?_
      case g1 => simp
      simp [q0]
      rfl
    · simp [h1, h3, q0]
      refine e2 hC ?_
      simp
      refine e2 (c_when (decide (10 ∈ text)) 1) ?_
      simp [h1, h3]
      refine e2 (c_when (decide (4096 < text.length)) 26) ?_ (h1 := by simp; omega)
      simp
      refine ep (h1 := ?g1) (c_first [whenE (decide (10 ∈ text)) 1, whenE (decide (4096 < text.length)) 26] (by simp)) (by simp; exact ⟨rfl, rfl⟩) (by simp; exact ⟨rfl, rfl⟩) ?_
      case g1 => simp
      simp
      rfl
end Go.Abs
namespace Go.Abs
open Go.Proofs
set_option maxHeartbeats 4000000
set_option maxRecDepth 100000
def evP (num : Int) (kind : List Nat) (names : List (List Nat)) (vals : List Int) (text : List Nat) : PV := .st 60 [.int .i64 num, .str kind, .seq (names.map .str), .seq (vals.map (.int .i64)), .str text]
theorem c_checkEventR (e : EventD) (h : evB e) : GoodC Tryz.prog 38 [eEvent e] (.int .i64 (chkEvent e)) := by
  obtain ⟨num, kind, names, vals, text⟩ := e
  obtain ⟨b1, b2, b3, b4, b5, b6⟩ := h
  dsimp only at b1 b2 b3 b4 b5 b6
  refine good_fn nf isF38 mix (by simp [Tryz.f38]) ?_
  have hF := c_form kind
  have hc : chkEvent ⟨num, kind, names, vals, text⟩ = firstE [firstE [withinE num 1 1000, whenE (!(formS kind).2.2.2) 13, whenE (decide (names.length ≠ (formS kind).1) || decide (vals.length ≠ (formS kind).2.1)) 2], chkNames names, chkNums vals, chkText (formS kind).2.2.1 text] := rfl
  rw [hc]
  clear hc
  generalize formS kind = f at *
  obtain ⟨fn, fv, ft, fk⟩ := f
  dsimp only at hF ⊢
  have hH : ∀ (a b c : Int), withinE a b c = whenE (decide (a < b) || decide (c < a)) 3 := fun _ _ _ => rfl
  simp [Tryz.f38, eEvent, -w_seq']
  rw [w_seq']
  simp [-w_seq']
  refine join (fun s => getE s.env 1 = .ptr 0 [] ∧ withinE num 1 1000 = 0 ∧ s.heap = [.box false (.p (.st 60 [.int .i64 num, .str kind, .seq (names.map .str), .seq (vals.map (.int .i64)), .str text]))]) ?_ ?_
  · simp
    refine c3 (c_out _ _ _) ?_
    by_cases ho : num < 1 ∨ 1000 < num
    · have e : withinE num 1 1000 = 3 := by
        rcases ho with hn | hn <;> simp [withinE, whenE, hn]
      have e2 : (decide (num < 1) || decide (1000 < num)) = true := by simpa using ho
      simp [e, e2, firstE]
    · have e : withinE num 1 1000 = 0 := by
        simp only [not_or] at ho
        simp [withinE, whenE, ho]
      have e2 : (decide (num < 1) || decide (1000 < num)) = false := by simpa using ho
      simp [e, e2]
  rintro ⟨env, heap⟩ ⟨g1, hs1, hp⟩
  dsimp only at g1 hp
  subst hp
  rw [w_seq']
  simp [-w_seq', g1]
  refine c1 hF ?_
  simp [-w_seq']
  refine join (fun s => getE s.env 1 = .ptr 0 [] ∧ getE s.env 3 = .p (.int .i64 fn) ∧ getE s.env 4 = .p (.int .i64 fv) ∧ getE s.env 5 = .p (.bool ft) ∧ fk = true ∧ s.heap = [.box false (.p (.st 60 [.int .i64 num, .str kind, .seq (names.map .str), .seq (vals.map (.int .i64)), .str text]))]) ?_ ?_
  · cases fk
    · simp [hs1, firstE, whenE]
    · simp [g1]
  rintro ⟨env, heap⟩ ⟨g1, g3, g4, g5, rfl, hp⟩
  dsimp only at g1 g3 g4 g5 hp
  subst hp
  refine join (fun s => getE s.env 1 = .ptr 0 [] ∧ getE s.env 3 = .p (.int .i64 fn) ∧ getE s.env 4 = .p (.int .i64 fv) ∧ getE s.env 5 = .p (.bool ft) ∧ names.length = fn ∧ vals.length = fv ∧ s.heap = [.box false (.p (.st 60 [.int .i64 num, .str kind, .seq (names.map .str), .seq (vals.map (.int .i64)), .str text]))]) ?_ ?_
  · by_cases q1 : names.length = fn
    · by_cases q2 : vals.length = fv
      · have q1' : (names.length : Int) = fn := by omega
        have q2' : (vals.length : Int) = fv := by omega
        simp [g1, g3, g4, g5, q1', q2']
        exact ⟨q1, q2⟩
      · have q1' : (names.length : Int) = fn := by omega
        have q2' : ¬ (vals.length : Int) = fv := by omega
        simp [g1, g3, g4, g5, q1', q2', hs1, q1, q2, firstE, whenE]
    · have q1' : ¬ (names.length : Int) = fn := by omega
      simp [g1, g3, g4, g5, q1', hs1, q1, firstE, whenE]
  rintro ⟨env, heap⟩ ⟨g1, g3, g4, g5, q1, q2, hp⟩
  dsimp only at g1 g3 g4 g5 hp
  subst hp
  subst q1
  subst q2
  rw [show firstE [firstE [withinE num 1 1000, whenE (!true) 13, whenE (decide (names.length ≠ names.length) || decide (vals.length ≠ vals.length)) 2], chkNames names, chkNums vals, chkText ft text] = firstE [chkNames names, chkNums vals, chkText ft text] by simp [firstE, hs1, whenE]]
  clear hs1 hF
  refine join (fun s => getE s.env 1 = .ptr 0 [] ∧ getE s.env 4 = .p (.int .i64 vals.length) ∧ getE s.env 5 = .p (.bool ft) ∧ chkNames names = 0 ∧ s.heap = [.box false (.p (.st 60 [.int .i64 num, .str kind, .seq (names.map .str), .seq (vals.map (.int .i64)), .str text]))]) ?_ ?_
  · simp [g1, g3, g4, g5]
    refine lp (α := Nat) (fun i => ⟨[(7, .p (.int .i64 i)), (1, .ptr 0 []), (3, .p (.int .i64 names.length)), (4, .p (.int .i64 vals.length)), (5, .p (.bool ft))], [.box false (.p (.st 60 [.int .i64 num, .str kind, .seq (names.map .str), .seq (vals.map (.int .i64)), .str text]))]⟩) (fun i => i ≤ names.length ∧ chkNames names = chkNames (names.drop i)) (fun i => names.length - i) 0 (by simp) ?_ (he := by simp [g1, g3, g4, g5])
    rintro i ⟨k1, k2⟩
    have hw := wi1 (i := i) (by omega)
    by_cases hi : i < names.length
    · rw [List.drop_eq_getElem_cons hi, chkNames] at k2
      have hs := b3 _ (List.getElem_mem hi)
      simp [hi]
      refine c1 (c_refIsName names[i] (by omega)) ?_
      by_cases hn : isName names[i] = true
      · rw [if_pos hn] at k2
        simp [hn, hw]
        exact rd (i + 1) ⟨hi, k2⟩
      · rw [if_neg hn] at k2
        simp [hn, k2, firstE]
    · have : i = names.length := by omega
      subst this
      rw [List.drop_length, chkNames] at k2
      simp [k2]
  rintro ⟨env, heap⟩ ⟨g1, g4, g5, hs, hp⟩
  dsimp only at g1 g4 g5 hp
  subst hp
  rw [show firstE [chkNames names, chkNums vals, chkText ft text] = firstE [chkNums vals, chkText ft text] by rw [firstE, if_pos hs]]
  clear hs
  refine join (fun s => getE s.env 1 = .ptr 0 [] ∧ getE s.env 5 = .p (.bool ft) ∧ chkNums vals = 0 ∧ s.heap = [.box false (.p (.st 60 [.int .i64 num, .str kind, .seq (names.map .str), .seq (vals.map (.int .i64)), .str text]))]) ?_ ?_
  · simp [g1, g4, g5]
    refine lp (α := Nat) (fun i => ⟨[(8, .p (.int .i64 i)), (1, .ptr 0 []), (4, .p (.int .i64 vals.length)), (5, .p (.bool ft))], [.box false (.p (.st 60 [.int .i64 num, .str kind, .seq (names.map .str), .seq (vals.map (.int .i64)), .str text]))]⟩) (fun i => i ≤ vals.length ∧ chkNums vals = chkNums (vals.drop i)) (fun i => vals.length - i) 0 (by simp) ?_ (he := by simp [g1, g4, g5])
    rintro i ⟨k1, k2⟩
    have hw := wi1 (i := i) (by omega)
    by_cases hi : i < vals.length
    · rw [List.drop_eq_getElem_cons hi, chkNums] at k2
      simp [hi]
      refine c3 (c_out _ _ _) ?_
      by_cases hn : vals[i] < 0 ∨ vals[i] > 999999999
      · rw [if_pos hn] at k2
        have e : (decide (vals[i] < 0) || decide (999999999 < vals[i])) = true := by simpa using hn
        simp [e, k2, firstE]
      · rw [if_neg hn] at k2
        have e : (decide (vals[i] < 0) || decide (999999999 < vals[i])) = false := by simpa using hn
        simp [e, hw]
        exact rd (i + 1) ⟨hi, k2⟩
    · have : i = vals.length := by omega
      subst this
      rw [List.drop_length, chkNums] at k2
      simp [k2]
  rintro ⟨env, heap⟩ ⟨g1, g5, hs, hp⟩
  dsimp only at g1 g5 hp
  subst hp
  rw [show firstE [chkNums vals, chkText ft text] = chkText ft text by rw [firstE, if_pos hs, chkText]; simp only [firstE]; split <;> simp_all]
  clear hs
  rw [chkText]
  refine join (fun s => getE s.env 1 = .ptr 0 [] ∧ (ft = true ∨ text = []) ∧ s.heap = [.box false (.p (.st 60 [.int .i64 num, .str kind, .seq (names.map .str), .seq (vals.map (.int .i64)), .str text]))]) ?_ ?_
  · cases ft
    · by_cases q0 : text = []
      · subst q0
        simp [g1, g5]
      · simp [g1, g5, q0, firstE, whenE]
    · simp [g1, g5]
  rintro ⟨env, heap⟩ ⟨g1, hq, hp⟩
  dsimp only at g1 hp
  subst hp
  have hq2 : (!ft && !decide (text = [])) = false := by
    rcases hq with rfl | rfl <;> simp
  rw [hq2, Bool.false_or]
  refine join (fun s => getE s.env 1 = .ptr 0 [] ∧ 10 ∉ text ∧ s.heap = [.box false (.p (.st 60 [.int .i64 num, .str kind, .seq (names.map .str), .seq (vals.map (.int .i64)), .str text]))]) ?_ ?_
  · simp [g1]
    refine lp (α := Nat) (fun i => ⟨[(9, .p (.int .i64 i)), (1, .ptr 0 [])], [.box false (.p (.st 60 [.int .i64 num, .str kind, .seq (names.map .str), .seq (vals.map (.int .i64)), .str text]))]⟩) (fun i => i ≤ text.length ∧ 10 ∉ text.take i) (fun i => text.length - i) 0 (by simp) ?_ (he := by simp [g1])
    rintro i ⟨k1, k2⟩
    have hw := wi1 (i := i) (by omega)
    by_cases hi : i < text.length
    · by_cases hn : text[i] = 10
      · have hm : 10 ∈ text := hn ▸ List.getElem_mem hi
        have hn' : ((text[i] : Nat) : Int) = 10 := by omega
        simp [hi, hn', hm, firstE, whenE]
      · have hn' : ¬ ((text[i] : Nat) : Int) = 10 := by omega
        simp [hi, hn', hw]
        refine rd (i + 1) ⟨hi, ?_⟩
        rw [List.take_succ_eq_append_getElem hi, List.mem_append]
        simp only [List.mem_singleton, not_or]
        exact ⟨k2, fun e => hn e.symm⟩
    · have : i = text.length := by omega
      subst this
      rw [List.take_length] at k2
      simp [k2]
  rintro ⟨env, heap⟩ ⟨g1, hm, hp⟩
  dsimp only at g1 hp
  subst hp
  by_cases hl : 4096 < text.length
  · have hl' : (4096 : Int) < text.length := by omega
    simp [g1, hm, hl, hl', firstE, whenE]
  · have hl' : ¬ (4096 : Int) < text.length := by omega
    simp [g1, hm, hl, hl', firstE, whenE]
end Go.Abs
namespace Go.Abs
open Go.Proofs
set_option maxHeartbeats 4000000
set_option maxRecDepth 100000
theorem g_at1 (r : RowD) (k : List Nat) : GoodI Tryz.prog 293 [.box false (.p (.str k))] [.p (eRow r), .ptr 0 []] [.box false (.p (.str k))] (.p (.bool (decide (r.key = k)))) := by
  refine goodI_fn nf isF293 mix (by simp [Tryz.f293]) ?_
  by_cases h : r.key = k
  · simp [Tryz.f293, eRow, h]
    refine ForgetN.og (by simp) (by simp) (by simp) (by simp) (by simp)
  · simp [Tryz.f293, eRow, h]
    refine ForgetN.og (by simp) (by simp) (by simp) (by simp) (by simp)
@[simp] def rowsX (l : List RowD) : Obj := .arr .exact 0 2 (l.map (AV.p ∘ eRow))
theorem g_indexRow (l : List RowD) (k : List Nat) (h : l.length ≤ 1048576) : GoodI Tryz.prog 292 [rowsX l, .box false (.p (.str k))] [.sl 0 0 2 0 l.length, .func 293 [] [.ptr 1 []]] [rowsX l, .box false (.p (.str k))] (.p (.int .i64 (atK l k))) := by
  refine goodI_fn nf isF292 mix (by simp [Tryz.f292]) ?_
  simp [Tryz.f292, rowsX]
  refine lp (α := Nat) (fun i => ⟨[(8, .p (.int .i64 i)), (7, .p (.int .i64 l.length)), (1, .func 293 [] [.ptr 1 []]), (0, .sl 0 0 2 0 l.length)], [.arr .exact 0 2 (l.map (AV.p ∘ eRow)), .box false (.p (.str k))]⟩) (fun i => i ≤ l.length ∧ atK l k = idxFrom (keyIs k) (l.drop i) i) (fun i => l.length - i) 0 (by simp [atK]) ?_
  rintro i ⟨k1, k2⟩
  have hw := wi1 (i := i) (by omega)
  by_cases hi : i < l.length
  · rw [List.drop_eq_getElem_cons hi, idxFrom] at k2
    simp [hi]
    refine cf (g_at1 l[i] k) [1] ?_
    by_cases hk : l[i].key = k
    · simp [keyIs, hk] at k2
      simp [hk, k2, setAll]
    · simp [keyIs, hk] at k2
      simp [hk, hw, setAll]
      exact rd (i + 1) ⟨hi, k2⟩
  · have : i = l.length := by omega
    subst this
    simp [idxFrom] at k2
    simp [k2]
theorem g_at (l : List RowD) (k : List Nat) (h : l.length ≤ 1048576) : GoodI Tryz.prog 249 [rowsX l] [.sl 0 0 2 0 l.length, .p (.str k)] [rowsX l] (.p (.int .i64 (atK l k))) := by
  refine goodI_fn nf isF249 mix (by simp [Tryz.f249]) ?_
  simp [Tryz.f249]
  refine cf (g_indexRow l k h) [0, 1] ?_
  simp [setAll]
  refine ForgetN.og (by simp) (by simp) (by simp) (by simp) (by simp)
theorem c_told (e : EventD) (h : evB e) : GoodC Tryz.prog 250 [eEvent e] (.tup [.seq ((readV e.text).1.map (.int .i64)), .int .i64 (toldE e.text)]) := by
  refine good_fn nf isF250 mix (by simp [Tryz.f250]) ?_
  simp [Tryz.f250, eEvent]
  refine c1 (c_readValues e.text (by have := h.2.2.2.2.1; omega) h.2.2.2.2.2) ?_
  simp
  refine c2 (c_when (!(readV e.text).2) 25) ?_
  simp
  refine c2 (c_when (decide (16 < (readV e.text).1.length)) 5) ?_ (h1 := by simp; omega)
  simp
  refine cp (h1 := ?g1) (c_first [whenE (!(readV e.text).2) 25, whenE (decide (16 < (readV e.text).1.length)) 5] (by simp)) (by simp; exact ⟨rfl, rfl⟩) ?_
  case g1 => simp
  simp [toldE]
end Go.Abs
namespace Go.Abs
open Go.Proofs
set_option maxHeartbeats 4000000
set_option maxRecDepth 100000
theorem c_cloneS (l : List (List Nat)) (h : l.length ≤ 1048576) : GoodC Tryz.prog 157 [.seq (l.map .str)] (.seq (l.map .str)) := by
  cases l with
  | nil =>
    refine .inl (goodP_seq_nil (pre := []) (post := []) ?_ ?_)
    · refine goodP_fn nf isF157 mix (by simp [Tryz.f157]) ?_
      simp [Tryz.f157]
    · refine goodP_fn nf isF157 mix (by simp [Tryz.f157]) ?_
      simp [Tryz.f157, maxL]
  | cons a r =>
    refine good_fn nf isF157 mix (by simp [Tryz.f157]) ?_
    simp at h
    simp [Tryz.f157]
    simp only [maxL]; omega
theorem one_of' {α : Type} {l : List α} (h : l.length = 1) : ∃ x, l = [x] := by
  cases l with
  | nil => simp at h
  | cons a r =>
    have : r = [] := List.length_eq_zero_iff.1 (by simpa using h)
    exact ⟨a, by rw [this]⟩
def zRow : AV := .p (.st 54 [.str [], .nsl])
theorem g_delete (l : List RowD) (i : Nat) (hi : i < l.length) (h : l.length ≤ 1048576) :
    GoodI Tryz.prog 251 [rowsX l] [.sl 0 0 2 0 l.length, .p (.int .i64 i), .p (.int .i64 (i + 1))] [.arr .exact 0 2 (((l.eraseIdx i).map (AV.p ∘ eRow)) ++ [zRow])] (.sl 0 0 2 0 (l.length - 1)) := by
  have hE : (l.eraseIdx i).map (AV.p ∘ eRow) = (l.map (AV.p ∘ eRow)).take i ++ (l.map (AV.p ∘ eRow)).drop (i + 1) := by
    rw [List.eraseIdx_eq_take_drop_succ, List.map_append, List.map_take, List.map_drop]
  have hsh : allShp Tryz.prog 2 (l.map (AV.p ∘ eRow)) := shp_map fun r => ⟨by simp [shpA], by simp [shpA]⟩
  have hml : (l.map (AV.p ∘ eRow)).length = l.length := by simp
  have hshB : allShp Tryz.prog 2 ((l.map (AV.p ∘ eRow)).drop (i + 1)) := by rw [← List.map_drop]; exact shp_map fun r => ⟨by simp [shpA], by simp [shpA]⟩
  have hrf : ∀ N, refsLtl N (l.map (AV.p ∘ eRow)) := fun N => by rw [rl_pc]; trivial
  rw [hE, rowsX]
  generalize l.map (AV.p ∘ eRow) = M at *
  generalize hn : l.length = n at *
  clear hE hn l
  refine goodI_fn nf isF251 mix (by simp [Tryz.f251]) ?_
  have hw := wi1 (i := i) (by omega)
  have hM0 : M ≠ [] := by intro e; subst e; simp at hml; omega
  have hm : n ≤ maxL := by simp only [maxL]; omega
  simp [Tryz.f251, -w_seq']
  rw [w_seq']
  simp [-w_seq']
  rw [w_seq']
  simp [-w_seq']
  refine p_slice3 (b := 0) (ver := 0) (esz := 2) (off := 0) (len := n) (l := i) (h := i + 1) (n := n) (es := M) rfl rfl (by simp) (by simp [hml]) (by simp) (by simp) (by simp) (by simp [hml]) (by omega) (by omega) ?_
  have hz : elemType Tryz.prog 22 = 168 := by simp
  by_cases hn : i + 1 = n
  · have hnz : (i : Int) + 1 = n := by omega
    have q1 : ¬ (i : Int) = n := by omega
    have q2 : ¬ i = n := by omega
    have q3 : i ≤ n := by omega
    have q6 : n - i = 1 := by omega
    have q7 : n - 1 = i := by omega
    have hA : M.take i ++ M.drop (i + 1) = M.take i := by rw [List.drop_eq_nil_of_le (by omega), List.append_nil]
    by_cases h0 : i = 0
    · subst h0
      simp at hn
      subst hn
      obtain ⟨x, rfl⟩ := one_of' hml
      simp
      refine ⟨by simp only [maxL]; omega, ?_⟩
      refine p_clear (b := 0) (ver := 0) (esz := 2) (off := 0) (len := 1) (k := .exact) (es := [x]) (z := .st 54 [.str [], .nsl]) (by rfl) (by rfl) (by simp) (by simp) (by simp [shp]) (by rfl) (by simp) (by omega) ?_
      simp [zRow]
    · have n0 : ¬ n = 0 := by omega
      simp [hnz, hn, q1, q2, q3, hm, q6, q7, h0, n0, hml, hM0]
      try refine ⟨by simp only [maxL]; omega, ?_⟩
      refine p_clear (b := 0) (ver := 0) (esz := 2) (off := i) (len := 1) (k := .exact) (es := M) (z := .st 54 [.str [], .nsl]) (by rfl) (by rfl) (by simp) (by simp) (by simp [shp]) (by rfl) (by omega) (by omega) ?_
      simp [zRow, hn, hA, hml]
      refine ⟨by omega, .inl ?_⟩
      rw [List.drop_eq_nil_of_le (by omega)]; rfl
  · have hnz : ¬ (i : Int) + 1 = n := by omega
    have q1 : ((i : Int) == i + 1) = false := by rw [beq_eq_false_iff_ne]; omega
    have q3 : i ≤ n := by omega
    have q4 : 0 ≤ (i : Int) + 1 := by omega
    have q5 : i + 1 ≤ n := by omega
    have hB0 : M.drop (i + 1) ≠ [] := by rw [ne_eq, List.drop_eq_nil_iff, hml]; omega
    have hBl : (M.drop (i + 1)).length = n - (i + 1) := by simp [hml]
    have hAl : (M.take i).length = i := by simp; omega
    have t1 : (M.drop (i + 1)).take (n - (i + 1)) = M.drop (i + 1) := List.take_of_length_le (by rw [hBl]; omega)
    have q8 : n + (n - (i + 1)) ≤ maxL := by simp only [maxL]; omega
    have q9 : i + (n - (i + 1)) = n - 1 := by omega
    have q10 : n - 1 ≤ n := by omega
    obtain ⟨z, hD⟩ := one_of' (l := M.drop (n - 1)) (by simp [hml]; omega)
    simp [hnz, hn, q1, q3, q4, q5, hm, q8, q9, q10, hml, hM0, hshB, hB0, hBl, hAl, t1, hD]
    refine ⟨⟨rfl, rfl⟩, ⟨by omega, by omega⟩, ?_⟩
    rw [if_neg (by omega), if_neg (by omega), show n - (n - 1) = 1 by omega]
    simp
    refine p_clear (b := 0) (ver := 0) (esz := 2) (off := n - 1) (len := 1) (k := .exact) (es := M.take i ++ (M.drop (i + 1) ++ [z])) (z := .st 54 [.str [], .nsl]) (by rfl) (by rfl) (by simp) (by simp) (by simp [shp]) (by rfl) (by simp [hml]; omega) (by omega) ?_
    have e1 : (M.take i ++ (M.drop (i + 1) ++ [z])).take (n - 1) = M.take i ++ M.drop (i + 1) := by
      rw [← List.append_assoc, List.take_append_of_le_length (by simp [hml]; omega), List.take_of_length_le (by simp [hml]; omega)]
    have e2 : (M.take i ++ (M.drop (i + 1) ++ [z])).drop (n - 1 + 1) = [] := List.drop_eq_nil_of_le (by simp [hml]; omega)
    rw [e1, e2]
    simp [zRow]
end Go.Abs
namespace Go.Abs
open Go.Proofs
set_option maxHeartbeats 4000000
set_option maxRecDepth 100000
theorem cx {f : FuncId} {args : List AV} {H : Heap} {K : AV → Heap → Prop} {hin : List (Nat × Obj)} {v : PV} (h : GoodXE Tryz.prog f args hin v) (hi : ∀ p ∈ hin, H[p.1]? = some p.2) (hk : K (.p v) H) : CallS Tryz.prog false f K args H := .inr ⟨rfl, .inr (.inr (.inr ⟨hin, v, h, hi, hk⟩))⟩
theorem g_insert (M : List AV) (r : AV) (m tt : Nat) (hM : M.length = m + 1) (hto : tt ≤ m) (hm : m ≤ 1048576) (hs : allShp Tryz.prog 2 M) (hr : shpA r = .agg 54) (hrf : ∀ N, refsLtl N M) (hrr : ∀ N, refsLt N r) :
    GoodI Tryz.prog 252 [.arr .exact 0 2 M, .arr .exact 0 2 [r]] [.sl 0 0 2 0 m, .p (.int .i64 tt), .sl 1 0 2 0 1] [.arr .exact 0 2 (M.take tt ++ (r :: (M.drop tt).take (m - tt))), .arr .exact 0 2 [r]] (.sl 0 0 2 0 (m + 1)) := by
  refine goodI_fn nf isF252 mix (by simp [Tryz.f252]) ?_
  have hw := wi1 (i := m) (by omega)
  have hwt := wi1 (i := tt) (by omega)
  have hM0 : M ≠ [] := by intro e; subst e; simp at hM
  have hml : m + 1 + 1 ≤ maxL := by simp only [maxL]; omega
  by_cases he : tt = m
  · subst he
    have e1 : M.drop (tt + 1) = [] := List.drop_eq_nil_of_le (by omega)
    by_cases h0 : tt = 0
    · subst h0
      simp [Tryz.f252, hM, hw, hM0, hml, hr, e1]
    · simp [Tryz.f252, hM, hw, hM0, hml, hr, e1, h0]
  · have hez : ¬ (tt : Int) = m := by omega
    have hlt : tt < m := by omega
    simp [Tryz.f252, -w_seq', hM, hw, hM0, hml, hr, he, hez]
    rw [w_seq']
    simp [-w_seq']
    rw [w_seq']
    simp [-w_seq', hM, hw, hM0, hml, hr, he, hez, hto]
    obtain ⟨X, hX⟩ : ∃ X : AV, (if tt = 0 then ({ v := .sl 0 0 2 0 m, hin := [(0, .arr .exact 0 2 M)] } : Eff) else { v := .sl 0 0 2 tt (m - tt), hin := [(0, .arr .exact 0 2 M)] }) = { v := X, hin := [(0, .arr .exact 0 2 M)] } := by
      split
      · exact ⟨_, rfl⟩
      · exact ⟨_, rfl⟩
    rw [hX]
    clear hX
    simp [-w_seq']
    rw [w_seq']
    simp [-w_seq']
    rw [w_seq', w_seq']
    simp [-w_seq']
    rw [w_seq']
    simp [-w_seq']
    rw [w_seq', w_seq']
    simp [-w_seq', hez]
    rw [w_seq', w_seq']
    simp [-w_seq', hez, hw]
    refine p_cap (b := 0) (ver := 0) (esz := 2) (off := 0) (len := m) (es := M) (by rfl) (by rfl) (by simp) (by omega) ?_
    have hwt1 : IntKind.i64.wrap ((tt : Int) + 1) = tt + 1 := hwt
    have q1 : ¬ m < tt + 1 := by omega
    have q2 : ¬ tt = m + 1 := by omega
    have q3 : tt + 1 ≤ m + 1 := by omega
    have q4 : tt ≤ m + 1 := by omega
    have q5 : m + 1 - (tt + 1) = m - tt := by omega
    have q6 : ¬ tt + 1 = m + 1 := by omega
    have q7 : 0 ≤ (tt : Int) + 1 := by omega
    have q8 : 0 ≤ (m : Int) + 1 := by omega
    simp [-w_seq', hez, hw, hM]
    rw [w_seq']
    simp [-w_seq', hw, hM]
    rw [w_seq']
    simp [-w_seq', hw, hwt, hM, q2, q3, q4, q5, he, q7, q8]
    rw [w_seq']
    simp [-w_seq', hw, hwt, hM, q2, q3, q4, q5, he, q7, q8]
    refine cx (x294 (b := 1) (ver := 0) (esz := 2) (off := 0) (len := 1) (b' := 0) (ver' := 0) (esz' := 2) (off' := tt + 1) (len' := m - tt) (o := .arr .exact 0 2 [r]) (o' := .arr .exact 0 2 M) (by omega) rfl ?_) (by simp) ?_
    · cases M with
      | nil => exact (hM0 rfl).elim
      | cons a b => rfl
    have hsd : allShp Tryz.prog 2 ((M.drop tt).take (m + 1 - tt)) := by
      have key : ∀ {l : List AV}, allShp Tryz.prog 2 l ↔ ∀ v ∈ l, shpA v ≠ .bad ∧ shpSize Tryz.prog (shpA v) = 2 := by
        intro l
        induction l with
        | nil => simp [allShp]
        | cons a b ih => simp only [allShp, ih, List.mem_cons, forall_eq_or_imp]
      rw [key] at hs ⊢
      exact fun v hv => hs v (List.mem_of_mem_drop (List.mem_of_mem_take hv))
    have t1 : (M.drop tt).take (m + 1 - tt) = M.drop tt := List.take_of_length_le (by simp; omega)
    rw [t1] at hsd
    have q9 : tt ≠ m + 1 := by omega
    have q10 : m - tt ≤ m + 1 - tt := by omega
    have q11 : min (m + 1 - tt) (m - tt) = m - tt := by omega
    have q12 : tt + 1 + (m - tt) = m + 1 := by omega
    have d1 : M.drop (m + 1) = [] := List.drop_eq_nil_of_le (by omega)
    have q13 : min 1 (m + 1 - tt) = 1 := by omega
    have l1 : (M.take (tt + 1)).length = tt + 1 := by simp; omega
    have kA : ∀ Y : List AV, (M.take (tt + 1) ++ Y).take tt = M.take tt := fun Y => by
      rw [List.take_append_of_le_length (by omega), List.take_take, show min tt (tt + 1) = tt by omega]
    have kB : ∀ Y : List AV, (M.take (tt + 1) ++ Y).drop (tt + 1) = Y := fun Y => by
      rw [List.drop_append_of_le_length (by omega), List.drop_eq_nil_of_le (by omega), List.nil_append]
    by_cases h0 : tt = 0
    · subst h0
      have w1 : IntKind.i64.wrap 1 = 1 := by decide
      have m0 : ¬ 0 = m := by omega
      have m1 : ¬ m = 0 := by omega
      have q14 : min (m + 1) m = m := by omega
      have kB0 := kB (M.take m)
      simp at d1 t1 hsd kB0
      simp [hw, hM, d1, t1, hsd, hM0, hr, w1, m0, m1, Nat.add_comm 1 m, he, q14, kB0]
      exact ⟨rfl, rfl⟩
    · simp [hw, hwt, hM, q2, q3, q4, q5, he, q7, q8, h0, hM0, t1, hsd, q9, q10, q11, q12, q13, d1, hr, kA, kB]
      exact ⟨rfl, rfl⟩
end Go.Abs
namespace Go.Abs
open Go.Proofs
set_option maxHeartbeats 4000000
set_option maxRecDepth 100000
@[simp] theorem renL_app {σ : Nat → Nat} : ∀ {a b : List AV}, renL σ (a ++ b) = renL σ a ++ renL σ b
  | [], b => by simp [renL]
  | x :: a, b => by simp [renL, renL_app (a := a)]
def pairP (r : List RowD × Int) : PV := .tup [.seq (r.1.map eRow), .int .i64 r.2]
theorem noLoop1 {l : List RowD} : ∀ (b : Nat) (L : LoopA), ([rowsX l] : Heap)[b]? ≠ some (.loop L) := by
  intro b L
  cases b <;> simp
theorem g_added (l : List RowD) (e : EventD) (he : evB e) (h0 : e.names ≠ []) (h : l.length ≤ 1000) : GoodI Tryz.prog 207 [rowsX l] [.sl 0 0 2 0 l.length, .p (eEvent e)] [.dead] (.p (pairP (addS l e))) := by
  refine goodD_fn nf isF207 mix (by simp [Tryz.f207]) noLoop1 ?_
  have hT := c_told e he
  obtain ⟨num, kind, names, vals, text⟩ := e
  obtain ⟨k, ns, rfl⟩ : ∃ k ns, names = k :: ns := by
    cases names with
    | nil => exact (h0 rfl).elim
    | cons k ns => exact ⟨k, ns, rfl⟩
  have hK : keyN ⟨num, kind, k :: ns, vals, text⟩ = k := rfl
  simp [Tryz.f207, eEvent]
  refine cf (g_at l k (by omega)) [0] ?_
  by_cases q1 : 0 ≤ atK l k
  · simp [q1, pairP, addS, hK]
  simp [q1, setAll]
  simp only [eEvent] at hT
  refine c1 hT ?_
  simp
  refine c2 (c_when (decide (256 ≤ l.length)) 5) ?_ (h1 := by simp; omega)
  simp
  refine cp (h1 := ?g1) (c_first [toldE text, whenE (decide (256 ≤ l.length)) 5] (by simp)) (by simp; exact ⟨rfl, rfl⟩) ?_
  case g1 => simp
  by_cases q2 : firstE [toldE text, whenE (decide (256 ≤ l.length)) 5] = 0
  · simp [q2]
    refine ⟨by simp only [maxL]; omega, ?_⟩
    rw [if_neg (by omega)]
    have hS : addS l ⟨num, kind, k :: ns, vals, text⟩ = (l ++ [⟨k, (readV text).1⟩], 0) := by
      simp only [addS, hK]
      rw [if_neg q1, if_neg (by simpa using q2)]
    have hE : AV.p (PV.st 54 [PV.str k, PV.seq (List.map (PV.int IntKind.i64) (readV text).fst)]) = (AV.p ∘ eRow) ⟨k, (readV text).1⟩ := rfl
    have hm : List.map (AV.p ∘ eRow) l ++ [(AV.p ∘ eRow) ⟨k, (readV text).1⟩] = List.map (AV.p ∘ eRow) (l ++ [⟨k, (readV text).1⟩]) := by simp
    simp only [hE, hm, hS, pairP]
    simp [-List.map_append, hS]
    rw [List.take_of_length_le (by simp)]
    rw [purl_map]
    intro x _
    simp
  · simp [q2, pairP, addS, hK, q1]
theorem g_changed (l : List RowD) (e : EventD) (he : evB e) (h0 : e.names ≠ []) (h : l.length ≤ 1000) (hl : ∀ r ∈ l, rowB r) : GoodI Tryz.prog 208 [rowsX l] [.sl 0 0 2 0 l.length, .p (eEvent e)] [.dead] (.p (pairP (setS l e))) := by
  refine goodD_fn nf isF208 mix (by simp [Tryz.f208]) noLoop1 ?_
  have hT := c_told e he
  have hrl := readV_len e.text
  have htx := he.2.2.2.2.1
  obtain ⟨num, kind, names, vals, text⟩ := e
  obtain ⟨k, ns, rfl⟩ : ∃ k ns, names = k :: ns := by
    cases names with
    | nil => exact (h0 rfl).elim
    | cons k ns => exact ⟨k, ns, rfl⟩
  have hK : keyN ⟨num, kind, k :: ns, vals, text⟩ = k := rfl
  simp [Tryz.f208, eEvent]
  refine cf (g_at l k (by omega)) [0] ?_
  rcases idx_look k l 0 with ⟨p1, p2⟩ | ⟨i, hi, p1, p2, p3⟩
  · have e1 : atK l k = -1 := p2
    simp [e1, pairP, setS, hK]
  rw [Int.natCast_zero, Int.zero_add] at p1
  have e1 : atK l k = i := p1
  have e2 : ¬ (i : Int) < 0 := by omega
  have hE : eRow l[i] = .st 54 [.str l[i].key, .seq (l[i].vals.map (.int .i64))] := rfl
  have hB := hl _ (List.getElem_mem hi)
  simp [e1, e2, setAll]
  simp only [eEvent] at hT
  refine c1 hT ?_
  simp [hi, hE]
  refine c2 (c_equalInts (readV text).1 l[i].vals (by dsimp only at *; omega) hB.2) ?_
  simp
  refine c2 (c_when (decide ((readV text).1 = l[i].vals)) 9) ?_
  simp
  refine cp (h1 := ?g1) (c_first [toldE text, whenE (decide ((readV text).1 = l[i].vals)) 9] (by simp)) (by simp; exact ⟨rfl, rfl⟩) ?_
  case g1 => simp
  have hd : decide ((l[i]?.map (·.vals)) = some (readV text).1) = decide ((readV text).1 = l[i].vals) := by
    rw [List.getElem?_eq_getElem hi]; simp; exact eq_comm
  by_cases q2 : firstE [toldE text, whenE (decide ((readV text).1 = l[i].vals)) 9] = 0
  · simp [q2, hi, hE]
    have hS : setS l ⟨num, kind, k :: ns, vals, text⟩ = (l.set i ⟨k, (readV text).1⟩, 0) := by
      simp only [setS, hK, e1, Int.toNat_natCast, hd]
      rw [if_neg e2, if_neg (by simpa using q2)]
    have hE2 : AV.p (PV.st 54 [PV.str l[i].key, PV.seq (List.map (PV.int IntKind.i64) (readV text).fst)]) = (AV.p ∘ eRow) ⟨k, (readV text).1⟩ := by rw [p3]; rfl
    have hm : (List.map (AV.p ∘ eRow) l).set i ((AV.p ∘ eRow) ⟨k, (readV text).1⟩) = List.map (AV.p ∘ eRow) (l.set i ⟨k, (readV text).1⟩) := by rw [List.map_set]
    simp only [hE2, hm, hS, pairP]
    simp [-List.map_set, hS]
    rw [List.take_of_length_le (by simp)]
    rw [purl_map]
    intro x _
    simp
  · have hS : setS l ⟨num, kind, k :: ns, vals, text⟩ = ([], firstE [toldE text, whenE (decide ((readV text).1 = l[i].vals)) 9]) := by
      simp only [setS, hK, e1, Int.toNat_natCast, hd]
      rw [if_neg e2, if_pos q2]
    simp [q2, pairP, hS]
theorem g_dropped (l : List RowD) (e : EventD) (he : evB e) (h0 : e.names ≠ []) (h : l.length ≤ 1000) : GoodI Tryz.prog 209 [rowsX l] [.sl 0 0 2 0 l.length, .p (eEvent e)] [.dead] (.p (pairP (dropS l e))) := by
  refine goodD_fn nf isF209 mix (by simp [Tryz.f209]) noLoop1 ?_
  obtain ⟨num, kind, names, vals, text⟩ := e
  obtain ⟨k, ns, rfl⟩ : ∃ k ns, names = k :: ns := by
    cases names with
    | nil => exact (h0 rfl).elim
    | cons k ns => exact ⟨k, ns, rfl⟩
  have hK : keyN ⟨num, kind, k :: ns, vals, text⟩ = k := rfl
  simp [Tryz.f209, eEvent]
  refine cf (g_at l k (by omega)) [0] ?_
  rcases idx_look k l 0 with ⟨p1, p2⟩ | ⟨i, hi, p1, p2, p3⟩
  · have e1 : atK l k = -1 := p2
    simp [e1, pairP, dropS, hK]
  rw [Int.natCast_zero, Int.zero_add] at p1
  have e1 : atK l k = i := p1
  have e2 : ¬ (i : Int) < 0 := by omega
  have hw := wi1 (i := i) (by omega)
  simp [e1, e2, setAll, hw]
  refine cf (g_delete l i hi (by omega)) [0] ?_
  have hS : dropS l ⟨num, kind, k :: ns, vals, text⟩ = (l.eraseIdx i, 0) := by
    simp only [dropS, hK, e1, Int.toNat_natCast]
    rw [if_neg e2]
  have hl : (l.eraseIdx i).length = l.length - 1 := by rw [List.length_eraseIdx, if_pos hi]
  simp [setAll, hS, pairP, sig, renL_app, zRow]
  have ht : (List.map (AV.p ∘ eRow) (l.eraseIdx i) ++ [AV.p (.st 54 [.str [], .nsl])]).take (l.length - 1) = List.map (AV.p ∘ eRow) (l.eraseIdx i) := by
    rw [List.take_append_of_le_length (by simp [hl]), List.take_of_length_le (by simp [hl])]
  refine ⟨by omega, ?_⟩
  rw [ht, purl_map]
  intro x _
  simp
end Go.Abs
namespace Go.Abs
open Go.Proofs
set_option maxHeartbeats 4000000
set_option maxRecDepth 100000
theorem ins_eq {α : Type} (a : α) : ∀ (n : Nat) (l : List α), n ≤ l.length → l.insertIdx n a = l.take n ++ a :: l.drop n
  | 0, l, _ => by simp
  | n + 1, [], h => by simp at h
  | n + 1, x :: l, h => by
    rw [List.insertIdx_succ_cons, ins_eq a n l (by simpa using h)]; simp
@[simp] theorem renL_pp {σ : Nat → Nat} {Q : List PV} : renL σ (Q.map AV.p) = Q.map AV.p := by
  induction Q with
  | nil => simp [renL]
  | cons x Q ih => simp [renL, ren, ih]
@[simp] theorem refsL_pp {N : Nat × Nat → Prop} {Q : List PV} : refsLtl N (Q.map AV.p) = True := by
  rw [refsLtl_mem, eq_iff_iff, iff_true]; intro v hv; obtain ⟨x, _, rfl⟩ := List.mem_map.1 hv; trivial
theorem g_insertP (Q : List PV) (r : PV) (m tt : Nat) (hM : Q.length = m + 1) (hto : tt ≤ m) (hm : m ≤ 1048576) (hs : ∀ q ∈ Q, shp q = .agg 54) (hr : shp r = .agg 54) :
    GoodI Tryz.prog 252 [.arr .exact 0 2 (Q.map AV.p), .arr .exact 0 2 [.p r]] [.sl 0 0 2 0 m, .p (.int .i64 tt), .sl 1 0 2 0 1] [.arr .exact 0 2 ((Q.take tt ++ (r :: (Q.drop tt).take (m - tt))).map AV.p), .arr .exact 0 2 [.p r]] (.sl 0 0 2 0 (m + 1)) := by
  have h := g_insert (Q.map AV.p) (.p r) m tt (by simpa using hM) hto hm ?_ hr (fun N => by rw [refsL_pp]; trivial) (fun _ => trivial)
  · simpa [List.map_take, List.map_drop] using h
  · clear hM
    induction Q with
    | nil => trivial
    | cons q Q ih =>
      have hq := hs q (by simp)
      exact ⟨by simp [shpA, hq], ih fun x hx => hs x (by simp [hx])⟩
theorem g_moved (l : List RowD) (e : EventD) (he : evB e) (h0 : e.names ≠ []) (hv : e.vals ≠ []) (hn : ∀ n ∈ e.vals, 0 ≤ n ∧ n ≤ 999999999) (h : l.length ≤ 1000) : GoodI Tryz.prog 210 [rowsX l] [.sl 0 0 2 0 l.length, .p (eEvent e)] [.dead] (.p (pairP (moveS l e))) := by
  refine goodD_fn nf isF210 mix (by simp [Tryz.f210]) noLoop1 ?_
  obtain ⟨num, kind, names, vals, text⟩ := e
  obtain ⟨k, ns, rfl⟩ : ∃ k ns, names = k :: ns := by
    cases names with
    | nil => exact (h0 rfl).elim
    | cons k ns => exact ⟨k, ns, rfl⟩
  obtain ⟨n, vs, rfl⟩ : ∃ n vs, vals = n :: vs := by
    cases vals with
    | nil => exact (hv rfl).elim
    | cons k ns => exact ⟨k, ns, rfl⟩
  have hn := hn n (by simp)
  have hK : keyN ⟨num, kind, k :: ns, n :: vs, text⟩ = k := rfl
  have hP : placeN ⟨num, kind, k :: ns, n :: vs, text⟩ = n - 1 := rfl
  have hwn : IntKind.i64.wrap (n - 1) = n - 1 := wi64 _ (by omega) (by omega)
  have hwl : IntKind.i64.wrap ((l.length : Int) - 1) = (l.length : Int) - 1 := wi64 _ (by omega) (by omega)
  have hE : moveE l ⟨num, kind, k :: ns, n :: vs, text⟩ = firstE [whenE (decide (atK l k < 0)) 10, withinE (n - 1) 0 (l.length - 1), whenE (decide (atK l k = n - 1)) 9] := rfl
  simp [Tryz.f210, eEvent]
  refine ef (g_at l k (by omega)) [0] ?_
  simp [setAll, hwn]
  refine c2 (c_when (decide (atK l k < 0)) 10) ?_
  simp [hwl]
  refine c3 (c_within (n - 1) 0 (l.length - 1)) ?_
  simp
  refine c2 (c_when (decide (atK l k = n - 1)) 9) ?_ (h1 := by simp; try (rw [Bool.eq_iff_iff]; simp))
  simp
  refine cp (h1 := ?g1) (c_first [whenE (decide (atK l k < 0)) 10, withinE (n - 1) 0 (l.length - 1), whenE (decide (atK l k = n - 1)) 9] (by simp)) (by simp; exact ⟨rfl, rfl⟩) ?_
  case g1 => simp
  rw [← hE]
  by_cases q2 : moveE l ⟨num, kind, k :: ns, n :: vs, text⟩ = 0
  · have q3 := q2
    rw [hE, first3, when0 (by omega), when0 (by omega), withinE, when0 (by omega)] at q3
    simp only [decide_eq_false_iff_not, Bool.or_eq_false_iff] at q3
    rcases idx_look k l 0 with ⟨p1, p2⟩ | ⟨i, hi, p1, p2, p3⟩
    · have e1 : atK l k = -1 := p2
      rw [e1] at q3; exact (q3.1 (by omega)).elim
    rw [Int.natCast_zero, Int.zero_add] at p1
    have e1 : atK l k = i := p1
    obtain ⟨tt, ht⟩ : ∃ tt : Nat, n - 1 = tt := ⟨(n - 1).toNat, by omega⟩
    have hw := wi1 (i := i) (by omega)
    simp [q2, e1, hi, hw, ht]
    have hel : (l.eraseIdx i).length = l.length - 1 := by rw [List.length_eraseIdx, if_pos hi]
    refine ef (g_delete l i hi (by omega)) [0] ?_
    simp [sig, renL_app, zRow, hw, ht]
    have hR : eRow l[i] = .st 54 [.str l[i].key, .seq (l[i].vals.map (.int .i64))] := rfl
    have hQ : List.map (AV.p ∘ eRow) (l.eraseIdx i) ++ [AV.p (.st 54 [.str [], .nsl])] = ((l.eraseIdx i).map eRow ++ [PV.st 54 [.str [], .nsl]]).map AV.p := by simp
    have hQl : ((l.eraseIdx i).map eRow ++ [PV.st 54 [.str [], .nsl]]).length = l.length - 1 + 1 := by simp [hel]
    have hQs : ∀ q ∈ (l.eraseIdx i).map eRow ++ [PV.st 54 [.str [], .nsl]], shp q = .agg 54 := by
      intro q hq
      simp only [List.mem_append, List.mem_map, List.mem_singleton] at hq
      rcases hq with ⟨x, _, rfl⟩ | rfl <;> rfl
    have hres : ((l.eraseIdx i).map eRow ++ [PV.st 54 [.str [], .nsl]]).take tt ++ (eRow l[i] :: (((l.eraseIdx i).map eRow ++ [PV.st 54 [.str [], .nsl]]).drop tt).take (l.length - 1 - tt)) = ((l.eraseIdx i).insertIdx tt l[i]).map eRow := by
      rw [ins_eq _ _ _ (by omega), List.map_append, List.map_cons, List.map_take, List.map_drop]
      rw [List.take_append_of_le_length (by simp [hel]; omega), List.drop_append_of_le_length (by simp [hel]; omega), List.take_append_of_le_length (by simp [hel]), List.take_of_length_le (l := ((l.eraseIdx i).map eRow).drop tt) (by simp [hel])]
    rw [hQ]
    generalize (l.eraseIdx i).map eRow ++ [PV.st 54 [.str [], .nsl]] = Q at *
    have hI := g_insertP Q (eRow l[i]) (l.length - 1) tt hQl (by omega) (by omega) hQs rfl
    rw [hres] at hI
    have hS : moveS l ⟨num, kind, k :: ns, n :: vs, text⟩ = ((l.eraseIdx i).insertIdx tt l[i], 0) := by
      rw [moveS, if_neg (by simpa using q2)]
      simp [hK, hP, e1, ht, hi]
    have hil : ((l.eraseIdx i).insertIdx tt l[i]).length = l.length := by
      rw [ins_eq _ _ _ (by omega)]; simp [hel]; omega
    generalize (l.eraseIdx i).insertIdx tt l[i] = R at *
    refine ef hI [0, 4] ?_
    simp [sig, renL_app, renL_pp, hS, pairP]
    refine ⟨⟨rfl, rfl⟩, by omega, ?_⟩
    rw [List.take_of_length_le (by simp; omega), purl_map]
    intro x _
    simp
  · simp [q2, pairP, moveS]
end Go.Abs
namespace Go.Abs
def sumS : List Nat → Nat → Nat → Nat
  | [], _, n => n
  | c :: r, i, n => sumS r (i + 1) ((n + c * (i + 1)) % 999983)
def sumT (s : List Nat) : List Nat := low 6 (sumS s 0 0)
def textW (e : EventD) : List (List Nat) := if (formS e.kind).2.2.1 = true then [e.text] else []
def bodyW (e : EventD) : List (List Nat) := e.kind :: (e.names ++ (e.vals.map itoaN ++ textW e))
def lineT (e : EventD) : List Nat := joinN [32] (bodyW e)
def bodyT (e : EventD) : List Nat := itoaN e.num ++ 32 :: lineT e
def recN (e : EventD) : List Nat := sumT (bodyT e) ++ 58 :: bodyT e
def recT (e : EventD) : List Nat := recN e ++ [10]
def logT (l : List EventD) : List Nat := l.flatMap recT
def noEv : EventD := ⟨0, [], [], [], []⟩
def fldS : Nat → Nat → List Nat → Bool → Option (List (List Nat) × List Int × List Nat × Bool)
  | 0, 0, s, m => some ([], [], s, m)
  | 0, v + 1, s, m => if m = false then none else if (cutN 32 s).1 = [] then none else if (intR (cutN 32 s).1).2 = false then none
    else (fldS 0 v (cutN 32 s).2.1 (cutN 32 s).2.2).map fun x => (x.1, (intR (cutN 32 s).1).1 :: x.2.1, x.2.2)
  | n + 1, v, s, m => if m = false then none else if (cutN 32 s).1 = [] then none
    else (fldS n v (cutN 32 s).2.1 (cutN 32 s).2.2).map fun x => ((cutN 32 s).1 :: x.1, x.2)
def parsedS (s : List Nat) : EventD × Bool :=
  if (formS (cutN 32 s).1).2.2.2 = false then (noEv, false)
  else match fldS (formS (cutN 32 s).1).1 (formS (cutN 32 s).1).2.1 (cutN 32 s).2.1 (cutN 32 s).2.2 with
    | none => (noEv, false)
    | some x => (⟨0, (cutN 32 s).1, x.1, x.2.1, if (formS (cutN 32 s).1).2.2.1 = true then x.2.2.1 else []⟩, x.2.2.2 == (formS (cutN 32 s).1).2.2.1)
def EventD.at (e : EventD) (n : Int) : EventD := ⟨n, e.kind, e.names, e.vals, e.text⟩
def bodyRd (s : List Nat) : EventD × Bool :=
  if (cutN 32 s).2.2 = false ∨ (intR (cutN 32 s).1).2 = false then (noEv, false)
  else ((parsedS (cutN 32 s).2.1).1.at (intR (cutN 32 s).1).1, (parsedS (cutN 32 s).2.1).2 && decide (chkEvent ((parsedS (cutN 32 s).2.1).1.at (intR (cutN 32 s).1).1) = 0))
def recR (s : List Nat) (number : Int) : EventD × Int :=
  if s.length ≤ 6 ∨ s[6]? ≠ some 58 ∨ (s.take 6).all isD = false then (noEv, 25)
  else if s.take 6 ≠ sumT (s.drop 7) then (noEv, 27)
  else ((bodyRd (s.drop 7)).1, firstE [whenE (!(bodyRd (s.drop 7)).2) 25, whenE (decide ((bodyRd (s.drop 7)).1.num ≠ number)) 11])
def recL : List (Nat × List Nat) → List EventD → Nat → List EventD × Nat × Int
  | [], out, n => (out, n, 0)
  | x :: r, out, n => if x.2.getLast? ≠ some 10 then (out, n, 28) else if (recR x.2.dropLast (out.length + 1)).2 ≠ 0 then (out, n, (recR x.2.dropLast (out.length + 1)).2)
    else recL r (out ++ [(recR x.2.dropLast (out.length + 1)).1]) x.1
def recoverS (s : List Nat) : List EventD × Nat × Int := if 1000000 < s.length then ([], 0, 26) else recL (lns s) [] 0
def appendE (s : List Nat) (e : EventD) : Int := firstE [(recoverS s).2.2, chkEvent e, whenE (decide (e.num ≠ (recoverS s).1.length + 1)) 11]
def appendS (s : List Nat) (e : EventD) : List Nat × Int :=
  if appendE s e ≠ 0 then ([], appendE s e) else if 1000000 < (s ++ recT e).length then ([], 26) else (s ++ recT e, 0)
theorem form_cases (k : List Nat) : k = kAdd ∨ k = kSet ∨ k = kDrop ∨ k = kMove ∨ k = kUndo ∨ (formS k = (0, 0, false, false)) := by
  by_cases h1 : k = kAdd
  · exact .inl h1
  by_cases h2 : k = kSet
  · exact .inr (.inl h2)
  by_cases h3 : k = kDrop
  · exact .inr (.inr (.inl h3))
  by_cases h4 : k = kMove
  · exact .inr (.inr (.inr (.inl h4)))
  by_cases h5 : k = kUndo
  · exact .inr (.inr (.inr (.inr (.inl h5))))
  · exact .inr (.inr (.inr (.inr (.inr (by simp [formS, h1, h2, h3, h4, h5])))))
theorem form_add : formS kAdd = (1, 0, true, true) := rfl
theorem form_set : formS kSet = (1, 0, true, true) := rfl
theorem form_drop : formS kDrop = (1, 0, false, true) := rfl
theorem form_move : formS kMove = (1, 1, false, true) := rfl
theorem form_undo : formS kUndo = (0, 0, false, true) := rfl
end Go.Abs
