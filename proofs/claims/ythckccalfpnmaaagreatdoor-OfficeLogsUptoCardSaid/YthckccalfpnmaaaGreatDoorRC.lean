import Derived.Test.YthckccalfpnmaaaGreatDoorRB
import Derived.Test.YthckccalfpnmaaaGreatDoorPB
import Derived.Test.YthckccalfpnmaaaGreatDoorRA
/- Parts of a proof. -/
set_option linter.unusedSimpArgs false
set_option linter.unusedVariables false
set_option linter.unusedSectionVars false
namespace Go.Abs
open Go.Proofs
set_option maxHeartbeats 4000000
set_option maxRecDepth 100000
def evW (e : EventD) : Prop := ∀ c ∈ e.text, c < 256
theorem c_heard (l : List EventD) (hl : l.length ≤ 1048576) (he : ∀ e ∈ l, evW e) : GoodC Tryz.prog 34 [.seq (l.map eEvent)] (.bool (heardS l)) := by
  refine good_fn nf isF34 mix (by simp [Tryz.f34]) ?_
  have hS : heardS l = (l.all heardE && decide (l.length ≤ 24)) := rfl
  rw [hS]
  simp [Tryz.f34]
  refine lp (α := Nat) (fun i => ⟨[(9, .p (.int .i64 i)), (8, .p (.int .i64 l.length)), (7, .p (.seq (l.map eEvent))), (0, .p (.seq (l.map eEvent)))], []⟩)
    (fun i => i ≤ l.length ∧ (l.take i).all heardE = true) (fun i => l.length - i) 0 (by simp) ?_
  rintro i ⟨k1, k2⟩
  have hw := wi1 (i := i) (by omega)
  by_cases hi : i < l.length
  · have hei := he _ (List.getElem_mem hi)
    have hge : l[i]? = some l[i] := List.getElem?_eq_getElem hi
    have hall : heardE l[i] = false → (∀ x ∈ l, heardE x = true) → 24 < l.length := fun h h' => by
      rw [h' _ (List.getElem_mem hi)] at h; cases h
    have hnext : heardE l[i] = true → (l.take (i + 1)).all heardE = true := fun h => by
      rw [List.take_succ_eq_append_getElem hi, List.all_append, k2]; simpa using h
    generalize hl1 : l[i] = e at *
    obtain ⟨num, kind, names, vals, text⟩ := e
    have hH : heardE ⟨num, kind, names, vals, text⟩ = (decide (kind.length ≤ 60) && decide (names.length ≤ 5) && decide (vals.length ≤ 5) && decide (text.length ≤ 300) && names.all fun s => decide (s.length ≤ 60)) := rfl
    by_cases c1 : kind.length ≤ 60
    case neg =>
      have c1' : ¬ (kind.length : Int) ≤ 60 := by omega
      have d1 : (60 : Int) < kind.length := by omega
      simp [hi, hl1, eEvent, c1', d1]
      exact hall (by simp [hH, c1])
    have c1' : (kind.length : Int) ≤ 60 := by omega
    have d1 : ¬ (60 : Int) < kind.length := by omega
    by_cases c2 : names.length ≤ 5
    case neg =>
      have c2' : ¬ (names.length : Int) ≤ 5 := by omega
      have d2 : (5 : Int) < names.length := by omega
      simp [hi, hl1, eEvent, c1', d1, c2', d2]
      exact hall (by simp [hH, c2])
    have c2' : (names.length : Int) ≤ 5 := by omega
    have d2 : ¬ (5 : Int) < names.length := by omega
    by_cases c3 : vals.length ≤ 5
    case neg =>
      have c3' : ¬ (vals.length : Int) ≤ 5 := by omega
      have d3 : (5 : Int) < vals.length := by omega
      simp [hi, hl1, eEvent, c1', d1, c2', d2, c3', d3]
      exact hall (by simp [hH, c3])
    have c3' : (vals.length : Int) ≤ 5 := by omega
    have d3 : ¬ (5 : Int) < vals.length := by omega
    by_cases c4 : text.length ≤ 300
    case neg =>
      have c4' : ¬ (text.length : Int) ≤ 300 := by omega
      have d4 : (300 : Int) < text.length := by omega
      simp [hi, hl1, eEvent, c1', d1, c2', d2, c3', d3, c4', d4]
      exact hall (by simp [hH, c4])
    have c4' : (text.length : Int) ≤ 300 := by omega
    have d4 : ¬ (300 : Int) < text.length := by omega
    simp [hi, hl1, eEvent, c1', d1, c2', d2, c3', d3, c4', d4]
    refine lp (α := Nat) (fun k => ⟨[(38, .p (.int .i64 k)), (37, .p (.int .i64 names.length)), (36, .p (.seq (names.map .str))), (9, .p (.int .i64 i)), (8, .p (.int .i64 l.length)), (7, .p (.seq (l.map eEvent))), (0, .p (.seq (l.map eEvent)))], []⟩)
      (fun k => k ≤ names.length ∧ (names.take k).all (fun s => decide (s.length ≤ 60)) = true) (fun k => names.length - k) 0 (by simp) ?_
    rintro k ⟨q1, q2⟩
    by_cases hk : k < names.length
    · have hwk := wi1 (i := k) (by omega)
      by_cases c5 : names[k].length ≤ 60
      · have c5' : ¬ (60 : Int) < names[k].length := by omega
        simp [hk, c5']
        refine rd (k + 1) ⟨hk, ?_⟩ (he := by simp [hwk])
        rw [List.take_succ_eq_append_getElem hk, List.all_append, q2]
        simpa using c5
      · have c5' : (60 : Int) < names[k].length := by omega
        simp [hk, c5']
        refine hall ?_
        have : (names.all fun s => decide (s.length ≤ 60)) = false := by
          rw [List.all_eq_false]; exact ⟨names[k], List.getElem_mem hk, by simpa using c5⟩
        rw [hH, this, Bool.and_false]
    · have : k = names.length := by omega
      subst this
      rw [List.take_length] at q2
      simp
      refine rd (i + 1) ⟨hi, hnext ?_⟩ (he := by simp [hw])
      rw [hH, q2]
      simp [c1, c2, c3, c4]
  · have : i = l.length := by omega
    subst this
    rw [List.take_length] at k2
    simp [k2]
    omega
theorem heard_B {e : EventD} (h : heardE e = true) (hw : evW e) : evB e := by
  simp only [heardE, Bool.and_eq_true, decide_eq_true_eq, List.all_eq_true] at h
  obtain ⟨⟨⟨⟨h1, h2⟩, h3⟩, h4⟩, h5⟩ := h
  exact ⟨by omega, by omega, fun s hs => by have := h5 s hs; omega, by omega, by omega, hw⟩
theorem heardS_B {l : List EventD} (h : heardS l = true) (hw : ∀ e ∈ l, evW e) : ∀ e ∈ l, evB e := by
  simp only [heardS, Bool.and_eq_true, List.all_eq_true] at h
  exact fun e he => heard_B (h.1 e he) (hw e he)
end Go.Abs
namespace Go.Abs
open Go.Proofs Go.Proofs.YthckccalfpnmaaaGreatDoor
set_option maxRecDepth 100000
section
variable {H : Type} {W : World} {Imm : Nat → Prop}
theorem five_of {P : Program} {n : Nat} {t : TypeId} {f0 f1 f2 f3 f4 : Field} {k0 k1 k2 k3 k4 : Nat} (ht : P.underlying t = some (.struct #[f0, f1, f2, f3, f4])) (hs : szs P (P.underlyingId t) = some [k0, k1, k2, k3, k4])
    {d : DataW H} {cs : List Value} (h : PVC P W Imm (toPV P (n + 1) t d) cs) :
    ∃ (a b c d' e : DataW H) (c0 c1 c2 c3 c4 : List Value), toPV P (n + 1) t d = .st (P.underlyingId t) [toPV P n f0.type a, toPV P n f1.type b, toPV P n f2.type c, toPV P n f3.type d', toPV P n f4.type e] ∧
      PVC P W Imm (toPV P n f0.type a) c0 ∧ PVC P W Imm (toPV P n f1.type b) c1 ∧ PVC P W Imm (toPV P n f2.type c) c2 ∧ PVC P W Imm (toPV P n f3.type d') c3 ∧ PVC P W Imm (toPV P n f4.type e) c4 := by
  cases d with
  | agg l =>
    simp only [toPV, ht, PVC] at h ⊢
    obtain ⟨l', css, h1, h2, _⟩ := h
    rw [hs] at h1; cases h1
    match l, h2 with
    | [], h2 => simp [PVCl] at h2
    | [_], h2 => simp [PVCl] at h2
    | [_, _], h2 => simp [PVCl] at h2
    | [_, _, _], h2 => simp [PVCl] at h2
    | [_, _, _, _], h2 => simp [PVCl] at h2
    | a :: b :: c :: d' :: e :: r, h2 =>
      simp only [List.zip_cons_cons, List.map_cons, PVCl, List.zip_nil_left, List.map_nil] at h2 ⊢
      obtain ⟨c0, _, _, g0, _, c1, _, _, g1, _, c2, _, _, g2, _, c3, _, _, g3, _, c4, _, _, g4, _⟩ := h2
      exact ⟨a, b, c, d', e, c0, c1, c2, c3, c4, rfl, g0, g1, g2, g3, g4⟩
  | _ => simp only [toPV, ht, PVC] at h
theorem un61' : ∃ f0 f1 f2 f3 f4 : Field, Tryz.prog.underlying 61 = some (.struct #[f0, f1, f2, f3, f4]) ∧ f0.type = 3 ∧ f1.type = 9 ∧ f2.type = 44 ∧ f3.type = 53 ∧ f4.type = 9 := ⟨_, _, _, _, _, Tryz.underlying61, rfl, rfl, rfl, rfl, rfl⟩
theorem uid61 : Tryz.prog.underlyingId 61 = 60 := by kernel_rfl
theorem strB_of {n : Nat} (d : DataW H) (c) (h : PVC Tryz.prog W Imm (toPV Tryz.prog (n + 1) 9 d) c) : ∃ s : List Nat, toPV Tryz.prog (n + 1) 9 d = .str s ∧ ∀ c ∈ s, c < 256 := by
  cases d with
  | lit l =>
    cases l with
    | string bytes =>
      refine ⟨bytes.map (·.toNat), by simp only [toPV, un9], ?_⟩
      intro c hc
      obtain ⟨u, _, rfl⟩ := List.mem_map.1 hc
      exact u.toNat_lt
    | _ => simp only [toPV, un9, PVC] at h
  | _ => simp only [toPV, un9, PVC] at h
theorem event_of {n : Nat} (d : DataW H) (c) (h : PVC Tryz.prog W Imm (toPV Tryz.prog (n + 3) 61 d) c) : ∃ e : { e : EventD // evW e }, toPV Tryz.prog (n + 3) 61 d = eEvent e.1 := by
  obtain ⟨f0, f1, f2, f3, f4, hu, t0, t1, t2, t3, t4⟩ := un61'
  obtain ⟨a, b, x, y, z, c0, c1, c2, c3, c4, h1, g0, g1, g2, g3, g4⟩ := five_of hu (by rw [uid61]; exact sz60) h
  rw [t0] at h1 g0; rw [t1] at h1 g1; rw [t2] at h1 g2; rw [t3] at h1 g3; rw [t4] at h1 g4
  obtain ⟨num, e0⟩ := int_of a c0 g0
  obtain ⟨kind, e1⟩ := str_of b c1 g1
  obtain ⟨names, e2, _⟩ := seq_of un44 (fun d c hh => str_of d c hh) g2
  obtain ⟨vals, e3, _⟩ := seq_of un53 (fun d c hh => int_of d c hh) g3
  obtain ⟨text, e4, hb⟩ := strB_of z c4 g4
  exact ⟨⟨⟨num, kind, names, vals, text⟩, hb⟩, by rw [h1, e0, e1, e2, e3, e4, uid61]; rfl⟩
theorem event_arg {d : DataW H} (h : ∃ cs, PVC Tryz.prog W Imm (toPV Tryz.prog 8 61 d) cs) (_hb : Rows.uptoBulk d ≤ 1048576) : ∃ e : EventD, toPV Tryz.prog 8 61 d = eEvent e ∧ True ∧ evW e := by
  obtain ⟨cs, h⟩ := h
  obtain ⟨e, he⟩ := event_of (n := 5) d cs h
  exact ⟨e.1, he, trivial, e.2⟩
end
end Go.Abs
namespace Go.Abs
def NameOk : Prop := ∀ k, isName k = true → 32 ∉ k ∧ 10 ∉ k ∧ k ≠ []
theorem NameOk.a (h : NameOk) : ∀ k, isName k = true → 32 ∉ k ∧ k ≠ [] := fun k hk => ⟨(h k hk).1, (h k hk).2.2⟩
def Num : Nat → List EventD → Prop
  | _, [] => True
  | n, e :: r => chkEvent e = 0 ∧ e.num = (n : Int) + 1 ∧ Num (n + 1) r
theorem Num.mem : ∀ {l : List EventD} {n : Nat}, Num n l → ∀ e ∈ l, chkEvent e = 0
  | [], _, _, e, he => by cases he
  | a :: l, n, h, e, he => by
    rcases List.mem_cons.1 he with rfl | he
    · exact h.1
    · exact Num.mem h.2.2 e he
theorem rec_gen : ∀ (n : Nat) (t : List Nat) (out : List EventD) (k : Nat), t.length ≤ n → ∃ l u, recL (lnC k [] t) out k = (out ++ l, k + (logT l).length, (recL (lnC k [] t) out k).2.2) ∧ Num out.length l ∧ t = logT l ++ u ∧ ((recL (lnC k [] t) out k).2.2 = 0 → u = [])
  | 0, t, out, k, h => by
    have : t = [] := List.length_eq_zero_iff.1 (by omega)
    subst this
    exact ⟨[], [], by simp [lnC, recL, logT], trivial, rfl, fun _ => rfl⟩
  | n + 1, t, out, k, h => by
    rw [lnC_cut]
    rcases cutN_eq 10 t with ⟨h1, h2⟩ | ⟨h1, h2, h3⟩
    · rw [if_pos h1, recL]
      dsimp only
      rw [List.nil_append, if_neg (by simp), List.dropLast_concat]
      by_cases hr : (recR (cutN 10 t).1 ((out.length : Int) + 1)).2 = 0
      · rw [if_neg (by simpa using hr)]
        obtain ⟨r1, r2, r3⟩ := rec_inv hr
        generalize recR (cutN 10 t).1 ((out.length : Int) + 1) = R at *
        have hl : (cutN 10 t).2.1.length ≤ n := by
          have := congrArg List.length h2
          simp at this; omega
        obtain ⟨l, u, q1, q2, q3, q4⟩ := rec_gen n (cutN 10 t).2.1 (out ++ [R.1]) (k + (cutN 10 t).1.length + 1) hl
        have hrl : (cutN 10 t).1.length = (recN R.1).length := by rw [r1]
        refine ⟨R.1 :: l, u, ?_, ⟨r2, r3, by simpa using q2⟩, ?_, q4⟩
        · rw [q1]
          simp only [List.append_assoc, List.singleton_append]
          congr 2
          simp [logT, recT]; omega
        · have e : t = recN R.1 ++ 10 :: (logT l ++ u) := by rw [r1, ← q3]; exact h2
          rw [e]; simp [logT, recT]
      · rw [if_pos hr]
        exact ⟨[], t, by simp [logT], trivial, by simp [logT], fun h => (hr h).elim⟩
    · rw [if_neg (by rw [h1]; simp), List.nil_append]
      by_cases ht : t = []
      · subst ht
        exact ⟨[], [], by simp [recL, logT], trivial, rfl, fun _ => rfl⟩
      · rw [if_neg ht, recL]
        dsimp only
        by_cases hg : t.getLast? = some 10
        · exfalso
          have hm := cutN_not 10 t
          rw [h2] at hm
          exact hm (List.mem_of_getLast? hg)
        · rw [if_pos hg]
          exact ⟨[], t, by simp [logT], trivial, by simp [logT], fun h => by cases h⟩
theorem recover_gen (s : List Nat) (hs : s.length ≤ 1000000) : ∃ u, Num 0 (recoverS s).1 ∧ (recoverS s).2.1 = (logT (recoverS s).1).length ∧ s = logT (recoverS s).1 ++ u ∧ ((recoverS s).2.2 = 0 → u = []) := by
  rw [recoverS, if_neg (by omega)]
  obtain ⟨l, u, h1, h2, h3, h4⟩ := rec_gen s.length s [] 0 (Nat.le_refl _)
  have e : lns s = lnC 0 [] s := rfl
  rw [e, h1]
  refine ⟨u, by simpa using h2, by simp, by simpa using h3, h4⟩
theorem recover_inv {s : List Nat} (h : (recoverS s).2.2 = 0) : logT (recoverS s).1 = s ∧ Num 0 (recoverS s).1 := by
  by_cases hs : s.length ≤ 1000000
  · obtain ⟨u, h1, _, h3, h4⟩ := recover_gen s hs
    rw [h4 h, List.append_nil] at h3
    exact ⟨h3.symm, h1⟩
  · rw [recoverS, if_pos (by omega)] at h; cases h
end Go.Abs
namespace Go.Abs
def wholeN : List EventD → Nat → Nat
  | [], _ => 0
  | e :: r, p => if (recT e).length ≤ p then wholeN r (p - (recT e).length) + 1 else 0
def endsL : Nat → List EventD → List Nat
  | _, [] => []
  | n, e :: r => (n + (recT e).length) :: endsL (n + (recT e).length) r
def wsum : List Nat → Nat → Nat
  | [], _ => 0
  | c :: r, i => c * (i + 1) + wsum r (i + 1)
end Go.Abs
namespace Go.Abs
def kRow : List Nat := [114, 111, 119]
def kRows : List Nat := [114, 111, 119, 115]
def kDiff : List Nat := [100, 105, 102, 102]
def tNone : List Nat := [110, 111, 110, 101]
def tDone : List Nat := [100, 111, 110, 101, 32]
def noneT (s : List Nat) : List Nat := if s = [] then tNone else s
def lettersD (a b : List RowD) : List Nat := (diffS a b).map fun e => e.kind.headD 0
def askN (k : List Nat) : Nat := if k = kRow then 2 else if k = kRows then 1 else if k = kDiff then 2 else 0
def askD (d : StoryD) (w : List (List Nat)) : List Nat × Int :=
  if askN (w.headD []) = 0 then ([], 13)
  else if w.length ≠ askN (w.headD []) ∨ w.getLastD [] = [] then ([], 25)
  else if w.headD [] = kRow then
    (if atK d.now (w.getLastD []) < 0 then ([], 10) else (noneT (valsT ((d.now[(atK d.now (w.getLastD [])).toNat]?.map (·.vals)).getD [])), 0))
  else if w.headD [] = kRows then (noneT (joinN [32] (d.now.map (·.key))), 0)
  else if (intR (w.getLastD [])).2 = false then ([], 25)
  else if (d.evs.length : Int) < (intR (w.getLastD [])).1 then ([], 3)
  else (noneT (lettersD (playS (d.evs.take (intR (w.getLastD [])).1.toNat)).1.now d.now), 0)
def lineEv (d : StoryD) (s : List Nat) : EventD := (parsedS s).1.at (d.evs.length + 1)
def enterE (d : StoryD) (s : List Nat) : Int := firstE [whenE (!(parsedS s).2) 25, whenE (decide (1000 ≤ d.evs.length)) 5, addE d (lineEv d s)]
def isEnter (s : List Nat) : Bool := (formS (cutN 32 s).1).2.2.2
def doS (d : StoryD) (s : List Nat) : List Nat × Int :=
  if s = [] then ([], 25) else if isEnter s = true then (if enterE d s ≠ 0 then ([], enterE d s) else (tDone ++ itoaN (d.evs.length + 1), 0))
  else askD d (spl 32 s)
def doD (d : StoryD) (s : List Nat) : StoryD := if s ≠ [] ∧ isEnter s = true ∧ enterE d s = 0 then acceptD d (lineEv d s) else d
end Go.Abs
namespace Go.Abs
open Go.Proofs
set_option maxHeartbeats 4000000
set_option maxRecDepth 100000
theorem low_zero : ∀ a : Nat, low a 0 = repN [48] a
  | 0 => rfl
  | a + 1 => by rw [low, repN, low_zero a]; simp
theorem low_pad {n k j : Nat} (h : n < 10 ^ k) (hj : k ≤ j) : low j n = repN [48] (j - k) ++ low k n := by
  have e : j = (j - k) + k := by omega
  conv => lhs; rw [e]
  rw [low_app, Nat.div_eq_of_lt h, low_zero]
theorem low_pad1 {n k : Nat} (h : n < 10 ^ k) : 48 :: low k n = low (k + 1) n := by
  rw [low_pad h (Nat.le_add_right k 1), Nat.add_sub_cancel_left]; rfl
theorem itoa_six {n : Nat} (h : n < 10 ^ 6) : ∃ k, 1 ≤ k ∧ k ≤ 6 ∧ n < 10 ^ k ∧ itoaN n = low k n := by
  have h6 := nd_le h
  refine ⟨max 1 (nd n), by omega, by omega, ?_, itoaN_nat (by omega)⟩
  exact Nat.lt_of_lt_of_le (nd_bound' n) (Nat.pow_le_pow_right (by omega) (by omega))
theorem sumS_lt : ∀ (s : List Nat) (i n : Nat), n < 999983 → sumS s i n < 999983
  | [], _, _, h => h
  | _ :: r, i, n, _ => by rw [sumS]; exact sumS_lt r _ _ (Nat.mod_lt _ (by omega))
theorem c_sum (s : List Nat) (h : s.length ≤ 1048576) (hb : ∀ c ∈ s, c < 256) : GoodC Tryz.prog 194 [.str s] (.str (sumT s)) := by
  refine good_fn nf isF194 mix (by simp [Tryz.f194]) ?_
  have hT : sumT s = low 6 (sumS s 0 0) := rfl
  have hlt := sumS_lt s 0 0 (by omega)
  rw [hT]
  generalize hG : sumS s 0 0 = T at *
  simp [Tryz.f194]
  refine lp (α := Nat × Nat) (fun (i, n) => ⟨[(8, .p (.int .i64 i)), (7, .p (.int .i64 s.length)), (3, .p (.int .i64 n)), (0, .p (.str s))], []⟩)
    (fun (i, n) => i ≤ s.length ∧ n < 999983 ∧ sumS (s.drop i) i n = T) (fun (i, _) => s.length - i) (0, 0) ⟨by simp, by simp, by simpa using hG⟩ ?_
  rintro ⟨i, n⟩ ⟨k1, k2, k3⟩
  dsimp only at k1 k2 k3 ⊢
  by_cases hi : i < s.length
  · have hw := wi1 (i := i) (by omega)
    have hc := hb _ (List.getElem_mem hi)
    rw [List.drop_eq_getElem_cons hi, sumS] at k3
    have hp : s[i] * (i + 1) ≤ 256 * 1048577 := Nat.mul_le_mul (by omega) (by omega)
    have w1 : IntKind.i64.wrap (s[i] : Int) = s[i] := wi64 _ (by omega) (by omega)
    have e2 : (s[i] : Int) * ((i : Int) + 1) = ((s[i] * (i + 1) : Nat) : Int) := by simp
    generalize hpq : s[i] * (i + 1) = p at *
    have w2 : IntKind.i64.wrap (p : Int) = p := wi64 _ (by omega) (by omega)
    have w3 : IntKind.i64.wrap ((n : Int) + p) = ((n + p : Nat) : Int) := by rw [wi64 _ (by omega) (by omega)]; omega
    simp [hi, hw, w1]
    exact rd (i + 1, (n + p) % 999983) ⟨hi, Nat.mod_lt _ (by omega), k3⟩ (he := by simp [hw, w1, e2, w2, w3]; rfl)
  · have : i = s.length := by omega
    subst this
    rw [List.drop_length, sumS] at k3
    subst k3
    obtain ⟨k, q1, q2, q3, q4⟩ := itoa_six (n := n) (by omega)
    simp
    refine c1 (h182 n (by omega) (by omega)) ?_
    rw [q4]
    have hs : IntKind.i64.wrap (6 - (k : Int)) = ((6 - k : Nat) : Int) := by rw [wi64 _ (by omega) (by omega)]; omega
    simp [low_length, hs]
    refine c2 (h73 [48] (6 - k) (by omega) (by simp; omega)) ?_
    have hr : ∀ j : Nat, (repN [48] j).length = j := fun j => by
      induction j with
      | zero => rfl
      | succ j ih => simp [repN, ih]
    simp [low_pad q3 q2, hr, low_length]
    omega
end Go.Abs
namespace Go.Abs
open Go.Proofs
set_option maxHeartbeats 4000000
set_option maxRecDepth 100000
theorem c_sumR (s : List Nat) (h : s.length ≤ 1048576) (hb : ∀ c ∈ s, c < 256) : GoodC Tryz.prog 92 [.str s] (.str (sumT s)) := by
  refine good_fn nf isF92 mix (by simp [Tryz.f92]) ?_
  have hT : sumT s = low 6 (sumS s 0 0) := rfl
  have hlt := sumS_lt s 0 0 (by omega)
  rw [hT]
  generalize hG : sumS s 0 0 = T at *
  simp [Tryz.f92]
  refine lp (α := Nat × Nat) (fun (i, n) => ⟨[(4, .p (.int .i64 i)), (3, .p (.int .i64 n)), (0, .p (.str s))], []⟩)
    (fun (i, n) => i ≤ s.length ∧ n < 999983 ∧ sumS (s.drop i) i n = T) (fun (i, _) => s.length - i) (0, 0) ⟨by simp, by simp, by simpa using hG⟩ ?_
  rintro ⟨i, n⟩ ⟨k1, k2, k3⟩
  dsimp only at k1 k2 k3 ⊢
  by_cases hi : i < s.length
  · have hw := wi1 (i := i) (by omega)
    have hc := hb _ (List.getElem_mem hi)
    rw [List.drop_eq_getElem_cons hi, sumS] at k3
    have hp : s[i] * (i + 1) ≤ 256 * 1048577 := Nat.mul_le_mul (by omega) (by omega)
    have w1 : IntKind.i64.wrap (s[i] : Int) = s[i] := wi64 _ (by omega) (by omega)
    have e2 : ((i : Int) + 1) * (s[i] : Int) = ((s[i] * (i + 1) : Nat) : Int) := by simp [Int.mul_comm]
    generalize hpq : s[i] * (i + 1) = p at *
    have w2 : IntKind.i64.wrap (p : Int) = p := wi64 _ (by omega) (by omega)
    have w3 : IntKind.i64.wrap ((n : Int) + p) = ((n + p : Nat) : Int) := by rw [wi64 _ (by omega) (by omega)]; omega
    simp [hi, hw, w1]
    exact rd (i + 1, (n + p) % 999983) ⟨hi, Nat.mod_lt _ (by omega), k3⟩ (he := by simp [hw, w1, e2, w2, w3]; rfl)
  · have : i = s.length := by omega
    subst this
    rw [List.drop_length, sumS] at k3
    subst k3
    obtain ⟨k, q1, q2, q3, q4⟩ := itoa_six (n := n) (by omega)
    simp
    refine c1 (c_textR n ⟨by omega, by omega⟩) ?_
    rw [q4]
    simp
    refine lp (α := Nat) (fun j => ⟨[(5, .p (.str (low j n)))], []⟩) (fun j => k ≤ j ∧ j ≤ 6) (fun j => 6 - j) k ⟨by omega, by omega⟩ ?_
    rintro j ⟨r1, r2⟩
    by_cases hj : j < 6
    · have hj' : (j : Int) < 6 := by omega
      have hn : n < 10 ^ j := Nat.lt_of_lt_of_le q3 (Nat.pow_le_pow_right (by omega) r1)
      simp [low_length, hj, hj']
      refine ⟨by omega, ?_⟩
      exact rd (j + 1) ⟨by omega, by omega⟩ (he := by simp [← low_pad1 hn])
    · have : j = 6 := by omega
      subst this
      simp [low_length]
theorem c_hasSuf (s : List Nat) (c : Nat) (h : s.length ≤ 1048576) : GoodC Tryz.prog 183 [.str s, .str [c]] (.bool (decide (s.getLast? = some c))) := by
  refine good_fn nf isF183 mix (by simp [Tryz.f183]) ?_
  rcases List.eq_nil_or_concat s with rfl | ⟨t, x, rfl⟩
  · simp [Tryz.f183]
  · rw [List.concat_eq_append] at h ⊢
    simp at h
    have hw : IntKind.i64.wrap (t.length : Int) = t.length := wi64 _ (by omega) (by omega)
    have h1 : (1 : Int) ≤ (t.length : Int) + 1 := by omega
    simp [Tryz.f183, hw, h1]
    rw [List.take_of_length_le (by simp), List.drop_left]
    by_cases hx : x = c <;> simp [hx]
theorem c_cutSufL (s : List Nat) (c : Nat) (h : s.length ≤ 1048576) : GoodC Tryz.prog 195 [.str s, .str [c]] (.tup [.str (if s.getLast? = some c then s.dropLast else s), .bool (decide (s.getLast? = some c))]) := by
  refine good_fn nf isF195 mix (by simp [Tryz.f195]) ?_
  have hS := c_hasSuf s c h
  rcases List.eq_nil_or_concat s with rfl | ⟨t, x, rfl⟩
  · simp [Tryz.f195]
    refine c2 hS ?_
    simp
  · rw [List.concat_eq_append] at h hS ⊢
    simp at h hS
    have hw : IntKind.i64.wrap (t.length : Int) = t.length := wi64 _ (by omega) (by omega)
    simp [Tryz.f195, hw]
    refine c2 hS ?_
    by_cases hx : x = c
    · simp [hx, hw]
    · simp [hx, hw]
theorem c_cutSuf (s : List Nat) (c : Nat) (h : s.length ≤ 1048576) : GoodC Tryz.prog 118 [.str s, .str [c]] (.tup [.str (if s.getLast? = some c then s.dropLast else s), .bool (decide (s.getLast? = some c))]) := by
  refine good_fn nf isF118 mix (by simp [Tryz.f118]) ?_
  simp [Tryz.f118]
  refine c2 (c_cutSufL s c h) ?_
  simp
theorem c_cutR (s : List Nat) (c : Nat) (h : s.length ≤ 1048576) (hc : c < 256) (hb : ∀ x ∈ s, x < 256) : GoodC Tryz.prog 120 [.str s, .int .u8 c] (.tup [.str (cutN c s).1, .str (cutN c s).2.1, .bool (cutN c s).2.2]) := by
  refine good_fn nf isF120 mix (by simp [Tryz.f120]) ?_
  generalize hG : cutN c s = T at *
  simp [Tryz.f120]
  refine lp (α := Nat) (fun i => ⟨[(7, .p (.int .i64 i)), (1, .p (.int .u8 c)), (0, .p (.str s))], []⟩)
    (fun i => i ≤ s.length ∧ T = (s.take i ++ (cutN c (s.drop i)).1, (cutN c (s.drop i)).2)) (fun i => s.length - i) 0 ⟨by simp, by simp [hG]⟩ ?_
  rintro i ⟨k1, k2⟩
  by_cases hi : i < s.length
  · have hw := wi1 (i := i) (by omega)
    rw [List.drop_eq_getElem_cons hi, cutN] at k2
    by_cases hx : s[i] = c
    · rw [if_pos hx] at k2
      simp [hi, hx, hw, k2]
      omega
    · have hx' : ¬ (s[i] : Int) = c := by omega
      rw [if_neg hx] at k2
      simp [hi, hx, hx', hw]
      refine rd (i + 1) ⟨hi, ?_⟩
      rw [k2, List.take_succ_eq_append_getElem hi, ← List.append_cons]
  · have : i = s.length := by omega
    subst this
    simp [cutN] at k2
    subst k2
    simp
end Go.Abs
namespace Go.Abs
open Go.Proofs
set_option maxHeartbeats 4000000
set_option maxRecDepth 100000
structure EvT (e : EventD) : Prop where
  fk : (formS e.kind).2.2.2 = true
  nl : e.names.length ≤ 1
  vl : e.vals.length ≤ 1
  num : inI e.num
  vi : ∀ v ∈ e.vals, inI v
  bl : (bodyT e).length ≤ 5000
  byt : ∀ c ∈ bodyT e, c < 256
@[simp] theorem ft_hasT {u : TypeId} {fs : List PV} : fieldV Tryz.prog 230 2 (.p (.st u fs)) = (match fs[2]? with
    | some g => some (u = 229 ∧ Shp.leaf = shp g, ({ v := .p g } : Eff))
    | none => none) := fieldV_st (show fieldT Tryz.prog 230 2 = some (229, .leaf) by kernel_rfl)
theorem c_line (e : EventD) (h : EvT e) : GoodC Tryz.prog 193 [eEvent e] (.str (lineT e)) := by
  have hlen : (lineT e).length ≤ 1000000 := by
    have := h.bl
    simp only [bodyT, List.length_append, List.length_cons] at this; omega
  obtain ⟨fk, nl, vl, _, vi, _, _⟩ := h
  have hL : lineT e = joinN [32] (e.kind :: (e.names ++ (e.vals.map itoaN ++ textW e))) := rfl
  have hT : textW e = if (formS e.kind).2.2.1 = true then [e.text] else [] := rfl
  have hJ := c_joinW (e.kind :: (e.names ++ (e.vals.map itoaN ++ textW e))) (by rw [hT]; split <;> simp <;> omega) (by rw [← hL]; omega)
  rw [← hL] at hJ
  generalize lineT e = R at *
  rw [hT] at hJ
  clear hL hT
  obtain ⟨num, kind, names, vals, text⟩ := e
  dsimp only at *
  have hlk := kinds_look kind
  rw [if_pos fk] at hlk
  have hM := c_mappedIS vals (by omega) vi
  refine good_fn nf isF193 mix (by simp [Tryz.f193]) ?_
  have qq : ∀ n : Nat, (1 + (n + 1) ≤ 1) = False := fun n => by simp
  have mm : ∀ n : Nat, n ≤ 3000 → n ≤ maxL := fun n h => by simp only [maxL]; omega
  generalize hfT : formS kind = F at *
  obtain ⟨f1, f2, f3, f4⟩ := F
  dsimp only at *
  subst fk
  have hns : names = [] ∨ ∃ n, names = [n] := by
    rcases names with _ | ⟨a, _ | ⟨b, r⟩⟩
    · exact .inl rfl
    · exact .inr ⟨a, rfl⟩
    · simp at nl
  have hvs : vals = [] ∨ ∃ n, vals = [n] := by
    rcases vals with _ | ⟨a, _ | ⟨b, r⟩⟩
    · exact .inl rfl
    · exact .inr ⟨a, rfl⟩
    · simp at vl
  have M1 : 1 ≤ maxL := by decide
  have M2 : 2 ≤ maxL := by decide
  have M3 : 3 ≤ maxL := by decide
  have M4 : 4 ≤ maxL := by decide
  rcases hns with rfl | ⟨n0, rfl⟩ <;> rcases hvs with rfl | ⟨v0, rfl⟩ <;> cases f3
  all_goals simp at hJ hM
  all_goals simp [Tryz.f193, eEvent, M1, M2, M3, M4]
  all_goals refine c2 hM ?_
  all_goals simp [M1, M2, M3, M4]
  all_goals refine e0 c_kinds ?_
  all_goals simp [hlk, kindV, M1, M2, M3, M4]
  all_goals
    refine cp (h1 := ?h1) hJ (by simp; first | rfl | exact ⟨rfl, rfl⟩) ?_
    case h1 => simp
    simp
end Go.Abs
namespace Go.Abs
open Go.Proofs
set_option maxHeartbeats 4000000
set_option maxRecDepth 100000
theorem c_record (e : EventD) (h : EvT e) : GoodC Tryz.prog 117 [eEvent e] (.str (recT e)) := by
  refine good_fn nf isF117 mix (by simp [Tryz.f117]) ?_
  have hL := c_line e h
  have hB : bodyT e = joinN [32] [itoaN e.num, lineT e] := by simp [bodyT, joinN]
  have hJ := c_joinW [itoaN e.num, lineT e] (by simp) (by rw [← hB]; have := h.bl; omega)
  have hS := c_sum (bodyT e) (by have := h.bl; omega) h.byt
  have hI := h182 e.num h.num.1 h.num.2
  have hR : recT e = sumT (bodyT e) ++ 58 :: (bodyT e ++ [10]) := by simp [recT, recN]
  have h6 := sumT_len (bodyT e)
  have hbl := h.bl
  rw [← hB] at hJ
  rw [hR]
  clear hR hB
  generalize bodyT e = B at *
  generalize lineT e = L at *
  generalize sumT B = S at *
  obtain ⟨num, kind, names, vals, text⟩ := e
  simp only [eEvent] at hL
  simp [Tryz.f117, eEvent]
  refine e1 hI ?_
  simp
  refine e1 hL ?_
  simp
  refine ep (h1 := ?h1) hJ (by simp; exact ⟨rfl, rfl⟩) (by simp; exact ⟨rfl, rfl⟩) ?_
  case h1 => simp
  simp
  refine ⟨rfl, ?_⟩
  refine c1 hS ?_
  simp
  omega
def spT (l : List (List Nat)) : List Nat := l.flatMap fun w => 32 :: w
theorem join_sp : ∀ (k : List Nat) (l : List (List Nat)), joinN [32] (k :: l) = k ++ spT l
  | k, [] => by simp [joinN, spT]
  | k, w :: l => by
    have := join_sp w l
    simp only [spT, List.flatMap_cons] at this ⊢
    simp only [joinN]
    rw [this]
    simp
theorem sp_app (a b : List (List Nat)) : spT (a ++ b) = spT a ++ spT b := by simp [spT]
@[simp] theorem sp_nil : spT [] = [] := rfl
theorem sp_next {l : List (List Nat)} {i : Nat} (h : i < l.length) : spT (l.take (i + 1)) = spT (l.take i) ++ 32 :: l[i] := by
  rw [List.take_succ_eq_append_getElem h, sp_app]; simp [spT]
theorem sp_le {l : List (List Nat)} (i : Nat) : (spT (l.take i)).length ≤ (spT l).length := by
  conv => rhs; rw [← List.take_append_drop i l, sp_app]
  simp
theorem body_sp (e : EventD) : bodyT e = itoaN e.num ++ 32 :: (e.kind ++ (spT e.names ++ (spT (e.vals.map itoaN) ++ spT (textW e)))) := by
  have : lineT e = joinN [32] (e.kind :: (e.names ++ (e.vals.map itoaN ++ textW e))) := rfl
  rw [bodyT, this, join_sp, sp_app, sp_app]
theorem c_bodyR (e : EventD) (h : EvT e) : GoodC Tryz.prog 71 [eEvent e] (.str (bodyT e)) := by
  refine good_fn nf isF71 mix (by simp [Tryz.f71]) ?_
  have hB := body_sp e
  have hT : textW e = if (formS e.kind).2.2.1 = true then [e.text] else [] := rfl
  have hbl := h.bl
  have hN := c_textR e.num h.num
  have hF := c_form e.kind
  obtain ⟨fk, nl, vl, _, vi, _, _⟩ := h
  have hbl2 := hbl
  rw [hB] at hbl2
  rw [hT] at hB hbl2
  generalize bodyT e = B at *
  clear hT
  obtain ⟨num, kind, names, vals, text⟩ := e
  dsimp only at *
  generalize hfT : formS kind = F at *
  obtain ⟨f1, f2, f3, f4⟩ := F
  dsimp only at *
  subst fk
  generalize itoaN num = I at *
  simp only [List.length_append, List.length_cons] at hbl2
  simp [Tryz.f71, eEvent]
  refine e1 hN ?_
  simp
  refine ⟨by omega, by omega, ?_⟩
  refine lp (α := Nat) (fun i => ⟨[(4, .p (.int .i64 i)), (3, .p (.str (I ++ 32 :: (kind ++ spT (names.take i))))), (1, .ptr 0 [])], [.box false (.p (.st 60 [.int .i64 num, .str kind, .seq (names.map .str), .seq (vals.map (.int .i64)), .str text]))]⟩)
    (fun i => i ≤ names.length) (fun i => names.length - i) 0 (by simp) ?_
  rintro i k1
  by_cases hi : i < names.length
  · have hw := wi1 (i := i) (by omega)
    have hl := sp_le (l := names) (i + 1)
    rw [sp_next hi] at hl
    simp at hl
    simp [hi, hw]
    refine ⟨by omega, by omega, ?_⟩
    exact rd (i + 1) hi (he := by simp [sp_next hi])
  · have : i = names.length := by omega
    subst this
    simp
    refine lp (α := Nat) (fun i => ⟨[(5, .p (.int .i64 i)), (3, .p (.str (I ++ 32 :: (kind ++ (spT names ++ spT ((vals.map itoaN).take i)))))), (1, .ptr 0 [])], [.box false (.p (.st 60 [.int .i64 num, .str kind, .seq (names.map .str), .seq (vals.map (.int .i64)), .str text]))]⟩)
      (fun i => i ≤ vals.length) (fun i => vals.length - i) 0 (by simp) ?_
    rintro i q1
    by_cases hj : i < vals.length
    · have hw := wi1 (i := i) (by omega)
      have hjm : i < (vals.map itoaN).length := by simpa using hj
      have hl := sp_le (l := vals.map itoaN) (i + 1)
      have hnx := sp_next hjm
      rw [hnx] at hl
      simp only [List.getElem_map, List.length_append, List.length_cons] at hl hnx
      simp [hj, hw, -List.map_take]
      refine ⟨by omega, ?_⟩
      refine c1 (c_textR vals[i] (vi _ (List.getElem_mem hj))) ?_
      simp [hw, -List.map_take]
      refine ⟨by omega, ?_⟩
      exact rd (i + 1) hj (he := by simp [hnx, -List.map_take])
    · have : i = vals.length := by omega
      subst this
      have htk : (vals.map itoaN).take vals.length = vals.map itoaN := List.take_of_length_le (by simp)
      simp [htk, -List.map_take]
      refine c1 hF ?_
      cases f3
      · simp
        rw [hB]
        simp [spT]
      · simp
        simp [spT] at hB hbl2
        refine ⟨by simp [spT]; omega, by simp [spT]; omega, ?_⟩
        rw [hB]
        simp [spT]
end Go.Abs
namespace Go.Abs
open Go.Proofs
set_option maxHeartbeats 4000000
set_option maxRecDepth 100000
theorem log_next {l : List EventD} {i : Nat} (h : i < l.length) : logT (l.take (i + 1)) = logT (l.take i) ++ recT l[i] := by
  rw [logT, List.take_succ_eq_append_getElem h, List.flatMap_append]; simp [logT]
theorem log_le {l : List EventD} (i : Nat) : (logT (l.take i)).length ≤ (logT l).length := by
  conv => rhs; rw [← List.take_append_drop i l, logT, List.flatMap_append]
  simp [logT]
theorem c_logR (l : List EventD) (hl : l.length ≤ 1048576) (h : ∀ e ∈ l, EvT e) (hb : (logT l).length ≤ 4000000000) : GoodC Tryz.prog 40 [.seq (l.map eEvent)] (.str (logT l)) := by
  refine good_fn nf isF40 mix (by simp [Tryz.f40]) ?_
  simp [Tryz.f40]
  refine lp (α := Nat) (fun i => ⟨[(4, .p (.int .i64 i)), (3, .p (.str (logT (l.take i)))), (0, .p (.seq (l.map eEvent)))], []⟩)
    (fun i => i ≤ l.length) (fun i => l.length - i) 0 (by simp) ?_ (he := by simp [logT])
  rintro i k1
  by_cases hi : i < l.length
  · have hw := wi1 (i := i) (by omega)
    have hge : l[i]? = some l[i] := List.getElem?_eq_getElem hi
    have hse : shp (eEvent l[i]) = .agg 60 := rfl
    have hT := h _ (List.getElem_mem hi)
    have hB := c_bodyR l[i] hT
    have hS := c_sumR (bodyT l[i]) (by have := hT.bl; omega) hT.byt
    have hle := log_le (l := l) (i + 1)
    have h6 := sumT_len (bodyT l[i])
    have hR : recT l[i] = sumT (bodyT l[i]) ++ 58 :: (bodyT l[i] ++ [10]) := by simp [recT, recN]
    rw [log_next hi, hR] at hle
    have hnx := log_next hi
    rw [hR] at hnx
    simp at hle
    simp [hi, hw, hge, hse]
    refine e1 hB ?_
    simp
    refine e1 hS ?_
    simp [hge, hse]
    refine ⟨by omega, by omega, ?_⟩
    refine e1 hB ?_
    simp
    refine ⟨by omega, by omega, ?_⟩
    exact rd (i + 1) hi (he := by simp [hnx, hw])
  · have : i = l.length := by omega
    subst this
    simp
theorem c_sameEvents (l : List EventD) (hl : l.length ≤ 1048576) (hn : ∀ e ∈ l, e.names.length ≤ 1048576 ∧ e.vals.length ≤ 1048576) :
    GoodC Tryz.prog 41 [.seq (l.map eEvent), .seq (l.map eEvent)] (.bool true) := by
  refine good_fn nf isF41 mix (by simp [Tryz.f41]) ?_
  simp [Tryz.f41]
  refine lp (α := Nat) (fun i => ⟨[(5, .p (.int .i64 i)), (1, .p (.seq (l.map eEvent))), (0, .p (.seq (l.map eEvent)))], []⟩) (fun i => i ≤ l.length) (fun i => l.length - i) 0 (by simp) ?_
  rintro i k1
  by_cases hi : i < l.length
  · have hw := wi1 (i := i) (by omega)
    have hge : l[i]? = some l[i] := List.getElem?_eq_getElem hi
    have hm := hn _ (List.getElem_mem hi)
    have hW := c_sameWords l[i].names l[i].names hm.1 hm.1
    have hI := c_sameInts l[i].vals l[i].vals hm.2 hm.2
    generalize hx : l[i] = e at *
    obtain ⟨num, kind, names, vals, text⟩ := e
    simp only [decide_true] at hW hI
    simp [hi, hge, hx, eEvent]
    refine e2 hW ?_
    simp [hi, hge, hx, eEvent]
    refine e2 hI ?_
    simp [hi, hge, hx, eEvent]
    exact rd (i + 1) hi (he := by simp [hw])
  · have : i = l.length := by omega
    subst this
    simp
end Go.Abs
namespace Go.Abs
open Go.Proofs
set_option maxHeartbeats 4000000
set_option maxRecDepth 100000
theorem cut_len (c : Nat) (s : List Nat) : (cutN c s).1.length ≤ s.length ∧ (cutN c s).2.1.length ≤ s.length := by
  rcases cutN_eq c s with ⟨_, h⟩ | ⟨_, h1, h2⟩
  · have := congrArg List.length h
    simp at this; omega
  · rw [h1, h2]; simp
theorem cut_byte {c : Nat} {s : List Nat} (h : ∀ x ∈ s, x < 256) : (∀ x ∈ (cutN c s).1, x < 256) ∧ ∀ x ∈ (cutN c s).2.1, x < 256 := by
  rcases cutN_eq c s with ⟨_, e⟩ | ⟨_, h1, h2⟩
  · exact ⟨fun x hx => h x (by rw [e]; simp [hx]), fun x hx => h x (by rw [e]; simp [hx])⟩
  · rw [h1, h2]; exact ⟨h, by simp⟩
theorem c_readLine (s : List Nat) (h : s.length ≤ 1048576) (hb : ∀ c ∈ s, c < 256) : GoodC Tryz.prog 214 [.str s] (.tup [eEvent (parsedS s).1, .bool (parsedS s).2]) := by
  refine good_fn nf isF214 mix (by simp [Tryz.f214]) ?_
  have hP : parsedS s = if (formS (cutN 32 s).1).2.2.2 = false then (noEv, false)
    else match fldS (formS (cutN 32 s).1).1 (formS (cutN 32 s).1).2.1 (cutN 32 s).2.1 (cutN 32 s).2.2 with
      | none => (noEv, false)
      | some x => (⟨0, (cutN 32 s).1, x.1, x.2.1, if (formS (cutN 32 s).1).2.2.1 = true then x.2.2.1 else []⟩, x.2.2.2 == (formS (cutN 32 s).1).2.2.1) := rfl
  rw [hP]
  have h0 := c_cut s 32 h
  have l0 := cut_len 32 s
  have b0 := cut_byte (c := 32) hb
  generalize cutN 32 s = C at *
  obtain ⟨k, s0, m0⟩ := C
  dsimp only at *
  have hlk := kinds_look k
  simp [Tryz.f214]
  refine c2 h0 ?_
  simp
  refine c0 c_kinds ?_
  by_cases hf : (formS k).2.2.2 = true
  case neg =>
    rw [if_neg hf] at hlk
    simp [hlk, hf, noEv, eEvent]
  rw [if_pos hf] at hlk
  have hfc : ((formS k).1 = 0 ∧ (formS k).2.1 = 0) ∨ ((formS k).1 = 1 ∧ (formS k).2.1 = 0) ∨ ((formS k).1 = 1 ∧ (formS k).2.1 = 1) := by
    rcases form_cases k with e | e | e | e | e | e <;> first | (rw [e]; decide) | (rw [e] at hf; cases hf)
  generalize kindF k = kf at *
  generalize formS k = F at *
  obtain ⟨f1, f2, f3, f4⟩ := F
  dsimp only at hf hlk
  subst hf
  have hfc : (f1 = 0 ∧ f2 = 0) ∨ (f1 = 1 ∧ f2 = 0) ∨ (f1 = 1 ∧ f2 = 1) := hfc
  have h1 := c_cut s0 32 (by omega)
  have l1 := cut_len 32 s0
  have b1 := cut_byte (c := 32) b0.2
  have hF1 : ∀ v, fldS 1 v s0 m0 = if m0 = false then none else if (cutN 32 s0).1 = [] then none else (fldS 0 v (cutN 32 s0).2.1 (cutN 32 s0).2.2).map fun x => ((cutN 32 s0).1 :: x.1, x.2) := fun v => by rw [fldS]
  generalize cutN 32 s0 = C1 at *
  obtain ⟨w1, s1, m1⟩ := C1
  dsimp only at *
  have h2 := c_cut s1 32 (by omega)
  have l2 := cut_len 32 s1
  have b2 := cut_byte (c := 32) b1.2
  have hF2 : fldS 0 1 s1 m1 = if m1 = false then none else if (cutN 32 s1).1 = [] then none else if (intR (cutN 32 s1).1).2 = false then none else (fldS 0 0 (cutN 32 s1).2.1 (cutN 32 s1).2.2).map fun x => (x.1, (intR (cutN 32 s1).1).1 :: x.2.1, x.2.2) := by simp only [fldS]
  generalize cutN 32 s1 = C2 at *
  obtain ⟨w2, s2, m2⟩ := C2
  dsimp only at *
  have hI := c_integer w2 false (by omega) b2.1
  have eI : intP false w2 = intR w2 := rfl
  rw [eI] at hI
  generalize intR w2 = J at *
  obtain ⟨n2, i2⟩ := J
  dsimp only at *
  have hz : ∀ r m, fldS 0 0 r m = some ([], [], r, m) := fun r m => by rw [fldS]
  rw [hz] at hF2
  simp [hlk, kindV]
  rcases hfc with ⟨rfl, rfl⟩ | ⟨rfl, rfl⟩ | ⟨rfl, rfl⟩
  · rw [hz]
    have hw0 : IntKind.i64.wrap 0 = 0 := by decide
    have hw1 : (0 : Int) < 0 ↔ False := by simp
    simp [hw0]
    refine lp (α := Nat) (fun i => ⟨[(35, .p (.int .i64 i)), (34, .p (.int .i64 0)), (9, .ptr 2 []), (7, .ptr 1 []), (6, .p (.bool m0)), (5, .p (.str s0)), (2, .ptr 0 [])], [.box false (.p (.st 60 [.int .i64 0, .str [], .nsl, .nsl, .str []])), .box false (.p (kindV (0, 0, f3, true) kf)), .box false (.p (.st 60 [.int .i64 0, .str k, .nsl, .nsl, .str []]))]⟩)
      (fun i => i = 0) (fun i => 0) 0 rfl ?_ (hh := by simp [kindV])
    rintro i rfl
    cases f3 <;> simp [kindV, eEvent]
  · rw [hF1, hz]
    have hw1 : IntKind.i64.wrap 1 = 1 := by decide
    simp [hw1]
    refine lp (α := Nat) (fun i => ⟨[(35, .p (.int .i64 i)), (34, .p (.int .i64 1)), (9, .ptr 2 []), (7, .ptr 1 []), (6, .p (.bool (if i = 0 then m0 else m1))), (5, .p (.str (if i = 0 then s0 else s1))), (2, .ptr 0 [])],
        if i = 0 then [.box false (.p (.st 60 [.int .i64 0, .str [], .nsl, .nsl, .str []])), .box false (.p (kindV (1, 0, f3, true) kf)), .box false (.p (.st 60 [.int .i64 0, .str k, .nsl, .nsl, .str []]))]
        else [.box false (.p (.st 60 [.int .i64 0, .str [], .nsl, .nsl, .str []])), .box false (.p (kindV (1, 0, f3, true) kf)), .box false (.st 60 [.p (.int .i64 0), .p (.str k), .sl 4 0 1 0 1, .p .nsl, .p (.str [])]), .arr .exact 0 1 [.p (.str w1)], .arr .grow 0 1 [.p (.str w1)]]⟩)
      (fun i => i = 0 ∨ (i = 1 ∧ m0 = true ∧ w1 ≠ [])) (fun i => 1 - i) 0 (.inl rfl) ?_ (hh := by simp [kindV])
    rintro i (rfl | ⟨rfl, rfl, hw⟩)
    · cases m0
      · simp [eEvent, noEv]
      · simp [kindV]
        refine c2 h1 ?_
        by_cases hw : w1 = []
        · simp [hw, eEvent, noEv]
        · simp [hw]
          refine ⟨by decide, ?_⟩
          exact rd 1 (.inr ⟨rfl, rfl, hw⟩) (he := by simp [hw1]) (hh := by simp [kindV]) (hr2 := by simp [kindV])
    · cases f3 <;> simp [hw, kindV, eEvent]
  · rw [hF1, hF2]
    have hw1 : IntKind.i64.wrap 1 = 1 := by decide
    have hw2 : IntKind.i64.wrap 2 = 2 := by decide
    simp [hw2]
    refine lp (α := Nat) (fun i => ⟨[(35, .p (.int .i64 i)), (34, .p (.int .i64 2)), (9, .ptr 2 []), (7, .ptr 1 []), (6, .p (.bool (if i = 0 then m0 else if i = 1 then m1 else m2))), (5, .p (.str (if i = 0 then s0 else if i = 1 then s1 else s2))), (2, .ptr 0 [])],
        if i = 0 then [.box false (.p (.st 60 [.int .i64 0, .str [], .nsl, .nsl, .str []])), .box false (.p (kindV (1, 1, f3, true) kf)), .box false (.p (.st 60 [.int .i64 0, .str k, .nsl, .nsl, .str []]))]
        else if i = 1 then [.box false (.p (.st 60 [.int .i64 0, .str [], .nsl, .nsl, .str []])), .box false (.p (kindV (1, 1, f3, true) kf)), .box false (.st 60 [.p (.int .i64 0), .p (.str k), .sl 4 0 1 0 1, .p .nsl, .p (.str [])]), .arr .exact 0 1 [.p (.str w1)], .arr .grow 0 1 [.p (.str w1)]]
        else [.box false (.p (.st 60 [.int .i64 0, .str [], .nsl, .nsl, .str []])), .box false (.p (kindV (1, 1, f3, true) kf)), .box false (.st 60 [.p (.int .i64 0), .p (.str k), .sl 4 0 1 0 1, .sl 6 0 1 0 1, .p (.str [])]), .arr .exact 0 1 [.p (.str w1)], .arr .grow 0 1 [.p (.str w1)], .arr .exact 0 1 [.p (.int .i64 n2)], .arr .grow 0 1 [.p (.int .i64 n2)]]⟩)
      (fun i => i = 0 ∨ (i = 1 ∧ m0 = true ∧ w1 ≠ []) ∨ (i = 2 ∧ m0 = true ∧ w1 ≠ [] ∧ m1 = true ∧ w2 ≠ [] ∧ i2 = true)) (fun i => 2 - i) 0 (.inl rfl) ?_ (hh := by simp [kindV])
    rintro i (rfl | ⟨rfl, rfl, hw⟩ | ⟨rfl, rfl, hw, rfl, hw', rfl⟩)
    · cases m0
      · simp [eEvent, noEv]
      · simp [kindV]
        refine c2 h1 ?_
        by_cases hw : w1 = []
        · simp [hw, eEvent, noEv]
        · simp [hw]
          refine ⟨by decide, ?_⟩
          exact rd 1 (.inr (.inl ⟨rfl, rfl, hw⟩)) (he := by simp [hw1]) (hh := by simp [kindV]) (hr2 := by simp [kindV])
    · cases m1
      · simp [eEvent, noEv, hw]
      · simp [kindV]
        refine c2 h2 ?_
        by_cases hw' : w2 = []
        · simp [hw, hw', eEvent, noEv]
        · simp [hw, hw']
          refine c2 hI ?_
          cases i2
          · simp [eEvent, noEv]
          · simp
            refine ⟨by decide, ?_⟩
            exact rd 2 (.inr (.inr ⟨rfl, rfl, hw, rfl, hw', rfl⟩)) (he := by simp [hw1, hw2]) (hh := by simp [kindV]) (hr2 := by simp [kindV])
    · cases f3 <;> simp [hw, hw', kindV, eEvent]
end Go.Abs
namespace Go.Abs
open Go.Proofs
set_option maxHeartbeats 4000000
set_option maxRecDepth 100000
theorem c_parsedR (s : List Nat) (h : s.length ≤ 1048576) (hb : ∀ c ∈ s, c < 256) : GoodC Tryz.prog 150 [.str s] (.tup [eEvent (parsedS s).1, .bool (parsedS s).2]) := by
  refine good_fn nf isF150 mix (by simp [Tryz.f150]) ?_
  have hP : parsedS s = if (formS (cutN 32 s).1).2.2.2 = false then (noEv, false)
    else match fldS (formS (cutN 32 s).1).1 (formS (cutN 32 s).1).2.1 (cutN 32 s).2.1 (cutN 32 s).2.2 with
      | none => (noEv, false)
      | some x => (⟨0, (cutN 32 s).1, x.1, x.2.1, if (formS (cutN 32 s).1).2.2.1 = true then x.2.2.1 else []⟩, x.2.2.2 == (formS (cutN 32 s).1).2.2.1) := rfl
  rw [hP]
  have h0 := c_cutR s 32 h (by omega) hb
  have l0 := cut_len 32 s
  have b0 := cut_byte (c := 32) hb
  generalize cutN 32 s = C at *
  obtain ⟨k, s0, m0⟩ := C
  dsimp only at *
  have hFm := c_form k
  simp [Tryz.f150]
  refine c2 h0 ?_
  simp
  refine c1 hFm ?_
  by_cases hf : (formS k).2.2.2 = true
  case neg =>
    simp [hf, noEv, eEvent]
  have hfc : ((formS k).1 = 0 ∧ (formS k).2.1 = 0) ∨ ((formS k).1 = 1 ∧ (formS k).2.1 = 0) ∨ ((formS k).1 = 1 ∧ (formS k).2.1 = 1) := by
    rcases form_cases k with e | e | e | e | e | e <;> first | (rw [e]; decide) | (rw [e] at hf; cases hf)
  generalize formS k = F at *
  obtain ⟨f1, f2, f3, f4⟩ := F
  dsimp only at hf
  subst hf
  have hfc : (f1 = 0 ∧ f2 = 0) ∨ (f1 = 1 ∧ f2 = 0) ∨ (f1 = 1 ∧ f2 = 1) := hfc
  have h1 := c_cutR s0 32 (by omega) (by omega) b0.2
  have l1 := cut_len 32 s0
  have b1 := cut_byte (c := 32) b0.2
  have hF1 : ∀ v, fldS 1 v s0 m0 = if m0 = false then none else if (cutN 32 s0).1 = [] then none else (fldS 0 v (cutN 32 s0).2.1 (cutN 32 s0).2.2).map fun x => ((cutN 32 s0).1 :: x.1, x.2) := fun v => by rw [fldS]
  generalize cutN 32 s0 = C1 at *
  obtain ⟨w1, s1, m1⟩ := C1
  dsimp only at *
  have h2 := c_cutR s1 32 (by omega) (by omega) b1.2
  have l2 := cut_len 32 s1
  have b2 := cut_byte (c := 32) b1.2
  have hF2 : fldS 0 1 s1 m1 = if m1 = false then none else if (cutN 32 s1).1 = [] then none else if (intR (cutN 32 s1).1).2 = false then none else (fldS 0 0 (cutN 32 s1).2.1 (cutN 32 s1).2.2).map fun x => (x.1, (intR (cutN 32 s1).1).1 :: x.2.1, x.2.2) := by simp only [fldS]
  generalize cutN 32 s1 = C2 at *
  obtain ⟨w2, s2, m2⟩ := C2
  dsimp only at *
  have hI := c_integerR w2 (by omega) b2.1
  generalize intR w2 = J at *
  obtain ⟨n2, i2⟩ := J
  dsimp only at *
  have hz : ∀ r m, fldS 0 0 r m = some ([], [], r, m) := fun r m => by rw [fldS]
  rw [hz] at hF2
  simp
  have hw0 : IntKind.i64.wrap 0 = 0 := by decide
  have hw1 : IntKind.i64.wrap 1 = 1 := by decide
  have hw2 : IntKind.i64.wrap 2 = 2 := by decide
  rcases hfc with ⟨rfl, rfl⟩ | ⟨rfl, rfl⟩ | ⟨rfl, rfl⟩
  · rw [hz]
    simp [hw0, hw1, hw2]
    refine lp (α := Nat) (fun i => ⟨[(12, .p (.int .i64 i)), (11, .ptr 1 []), (9, .p (.bool f3)), (8, .p (.int .i64 0)), (7, .p (.int .i64 0)), (6, .p (.bool m0)), (5, .p (.str s0)), (2, .ptr 0 [])], [.box false (.p (.st 60 [.int .i64 0, .str [], .nsl, .nsl, .str []])), .box false (.p (.st 60 [.int .i64 0, .str k, .nsl, .nsl, .str []]))]⟩)
      (fun i => i = 0) (fun i => 0) 0 rfl ?_ (hh := by simp )
    rintro i rfl
    cases f3 <;> simp [hw0, hw1, hw2, eEvent]
  · rw [hF1, hz]
    simp [hw0, hw1, hw2]
    refine lp (α := Nat) (fun i => ⟨[(12, .p (.int .i64 i)), (11, .ptr 1 []), (9, .p (.bool f3)), (8, .p (.int .i64 0)), (7, .p (.int .i64 1)), (6, .p (.bool (if i = 0 then m0 else m1))), (5, .p (.str (if i = 0 then s0 else s1))), (2, .ptr 0 [])],
        if i = 0 then [.box false (.p (.st 60 [.int .i64 0, .str [], .nsl, .nsl, .str []])), .box false (.p (.st 60 [.int .i64 0, .str k, .nsl, .nsl, .str []]))]
        else [.box false (.p (.st 60 [.int .i64 0, .str [], .nsl, .nsl, .str []])), .box false (.st 60 [.p (.int .i64 0), .p (.str k), .sl 3 0 1 0 1, .p .nsl, .p (.str [])]), .arr .exact 0 1 [.p (.str w1)], .arr .grow 0 1 [.p (.str w1)]]⟩)
      (fun i => i = 0 ∨ (i = 1 ∧ m0 = true ∧ w1 ≠ [])) (fun i => 1 - i) 0 (.inl rfl) ?_ (hh := by simp )
    rintro i (rfl | ⟨rfl, rfl, hw⟩)
    · cases m0
      · simp [hw0, hw1, hw2, eEvent, noEv]
      · simp [hw0, hw1, hw2]
        refine c2 h1 ?_
        by_cases hw : w1 = []
        · simp [hw0, hw1, hw2, hw, eEvent, noEv]
        · simp [hw0, hw1, hw2, hw]
          refine ⟨by decide, ?_⟩
          exact rd 1 (.inr ⟨rfl, rfl, hw⟩) (he := by simp [hw0, hw1, hw2]) (hh := by simp ) (hr2 := by simp )
    · cases f3 <;> simp [hw0, hw1, hw2, hw, eEvent]
  · rw [hF1, hF2]
    simp [hw0, hw1, hw2]
    refine lp (α := Nat) (fun i => ⟨[(12, .p (.int .i64 i)), (11, .ptr 1 []), (9, .p (.bool f3)), (8, .p (.int .i64 1)), (7, .p (.int .i64 1)), (6, .p (.bool (if i = 0 then m0 else if i = 1 then m1 else m2))), (5, .p (.str (if i = 0 then s0 else if i = 1 then s1 else s2))), (2, .ptr 0 [])],
        if i = 0 then [.box false (.p (.st 60 [.int .i64 0, .str [], .nsl, .nsl, .str []])), .box false (.p (.st 60 [.int .i64 0, .str k, .nsl, .nsl, .str []]))]
        else if i = 1 then [.box false (.p (.st 60 [.int .i64 0, .str [], .nsl, .nsl, .str []])), .box false (.st 60 [.p (.int .i64 0), .p (.str k), .sl 3 0 1 0 1, .p .nsl, .p (.str [])]), .arr .exact 0 1 [.p (.str w1)], .arr .grow 0 1 [.p (.str w1)]]
        else [.box false (.p (.st 60 [.int .i64 0, .str [], .nsl, .nsl, .str []])), .box false (.st 60 [.p (.int .i64 0), .p (.str k), .sl 3 0 1 0 1, .sl 5 0 1 0 1, .p (.str [])]), .arr .exact 0 1 [.p (.str w1)], .arr .grow 0 1 [.p (.str w1)], .arr .exact 0 1 [.p (.int .i64 n2)], .arr .grow 0 1 [.p (.int .i64 n2)]]⟩)
      (fun i => i = 0 ∨ (i = 1 ∧ m0 = true ∧ w1 ≠ []) ∨ (i = 2 ∧ m0 = true ∧ w1 ≠ [] ∧ m1 = true ∧ w2 ≠ [] ∧ i2 = true)) (fun i => 2 - i) 0 (.inl rfl) ?_ (hh := by simp )
    rintro i (rfl | ⟨rfl, rfl, hw⟩ | ⟨rfl, rfl, hw, rfl, hw', rfl⟩)
    · cases m0
      · simp [hw0, hw1, hw2, eEvent, noEv]
      · simp [hw0, hw1, hw2]
        refine c2 h1 ?_
        by_cases hw : w1 = []
        · simp [hw0, hw1, hw2, hw, eEvent, noEv]
        · simp [hw0, hw1, hw2, hw]
          refine ⟨by decide, ?_⟩
          exact rd 1 (.inr (.inl ⟨rfl, rfl, hw⟩)) (he := by simp [hw0, hw1, hw2]) (hh := by simp ) (hr2 := by simp )
    · cases m1
      · simp [hw0, hw1, hw2, eEvent, noEv, hw]
      · simp [hw0, hw1, hw2]
        refine c2 h2 ?_
        by_cases hw' : w2 = []
        · simp [hw0, hw1, hw2, hw, hw', eEvent, noEv]
        · simp [hw0, hw1, hw2, hw, hw']
          refine c1 hI ?_
          cases i2
          · simp [hw0, hw1, hw2, eEvent, noEv]
          · simp [hw0, hw1, hw2]
            refine ⟨by decide, ?_⟩
            exact rd 2 (.inr (.inr ⟨rfl, rfl, hw, rfl, hw', rfl⟩)) (he := by simp [hw0, hw1, hw2]) (hh := by simp ) (hr2 := by simp )
    · cases f3 <;> simp [hw0, hw1, hw2, hw, hw', eEvent]
end Go.Abs
namespace Go.Abs
open Go.Proofs
set_option maxHeartbeats 4000000
set_option maxRecDepth 100000
theorem fld_B : ∀ (n v : Nat) (s : List Nat) (m : Bool) (x : List (List Nat) × List Int × List Nat × Bool), fldS n v s m = some x →
    x.1.length = n ∧ x.2.1.length = v ∧ (∀ w ∈ x.1, w.length ≤ s.length) ∧ x.2.2.1.length ≤ s.length ∧ ((∀ c ∈ s, c < 256) → ∀ c ∈ x.2.2.1, c < 256)
  | 0, 0, s, m, x, h => by
    simp only [fldS, Option.some.injEq] at h
    subst h
    simp
  | 0, v + 1, s, m, x, h => by
    simp only [fldS] at h
    split at h; · cases h
    split at h; · cases h
    split at h; · cases h
    obtain ⟨y, hy, rfl⟩ := Option.map_eq_some_iff.1 h
    obtain ⟨g1, g2, g3, g4, g5⟩ := fld_B 0 v _ _ y hy
    have hl := cut_len 32 s
    refine ⟨g1, by simp [g2], fun w hw => by have := g3 w hw; omega, by dsimp only; omega, fun hb => g5 (cut_byte hb).2⟩
  | n + 1, v, s, m, x, h => by
    simp only [fldS] at h
    split at h; · cases h
    split at h; · cases h
    obtain ⟨y, hy, rfl⟩ := Option.map_eq_some_iff.1 h
    obtain ⟨g1, g2, g3, g4, g5⟩ := fld_B n v _ _ y hy
    have hl := cut_len 32 s
    refine ⟨by simp [g1], g2, fun w hw => ?_, by dsimp only; omega, fun hb => g5 (cut_byte hb).2⟩
    rcases List.mem_cons.1 hw with rfl | hw
    · exact hl.1
    · have := g3 w hw; omega
theorem form_le (k : List Nat) : (formS k).1 ≤ 1 ∧ (formS k).2.1 ≤ 1 := by
  rcases form_cases k with e | e | e | e | e | e <;> rw [e] <;> decide
theorem parsed_B {s : List Nat} (h : s.length ≤ 1000000) (hb : ∀ c ∈ s, c < 256) : evB (parsedS s).1 := by
  have h0 : evB noEv := ⟨by simp [noEv], by simp [noEv], by simp [noEv], by simp [noEv], by simp [noEv], by simp [noEv]⟩
  rw [parsedS]
  split
  · exact h0
  have hl := cut_len 32 s
  have hB := cut_byte (c := 32) hb
  have hf := form_le (cutN 32 s).1
  split
  · exact h0
  · rename_i x hx
    obtain ⟨g1, g2, g3, g4, g5⟩ := fld_B _ _ _ _ x hx
    refine ⟨by dsimp only; omega, by dsimp only; omega, fun w hw => by have := g3 w hw; omega, by dsimp only; omega, ?_, ?_⟩
    · dsimp only; split
      · omega
      · simp
    · dsimp only; split
      · exact g5 hB.2
      · simp
theorem at_B {e : EventD} (h : evB e) (n : Int) : evB (e.at n) := h
theorem c_readBody (s : List Nat) (h : s.length ≤ 1000000) (hb : ∀ c ∈ s, c < 256) : GoodC Tryz.prog 197 [.str s] (.tup [eEvent (bodyRd s).1, .bool (bodyRd s).2]) := by
  refine good_fn nf isF197 mix (by simp [Tryz.f197]) ?_
  have hP : bodyRd s = if (cutN 32 s).2.2 = false ∨ (intR (cutN 32 s).1).2 = false then (noEv, false)
    else ((parsedS (cutN 32 s).2.1).1.at (intR (cutN 32 s).1).1, (parsedS (cutN 32 s).2.1).2 && decide (chkEvent ((parsedS (cutN 32 s).2.1).1.at (intR (cutN 32 s).1).1) = 0)) := rfl
  rw [hP]
  have h0 := c_cut s 32 (by omega)
  have l0 := cut_len 32 s
  have b0 := cut_byte (c := 32) hb
  generalize cutN 32 s = C at *
  obtain ⟨w, r, m⟩ := C
  dsimp only at *
  have hI := c_integer w false (by omega) b0.1
  have eI : intP false w = intR w := rfl
  rw [eI] at hI
  generalize intR w = J at *
  obtain ⟨n, i⟩ := J
  have hR := c_readLine r (by omega) b0.2
  have hB := at_B (parsed_B (s := r) (by omega) b0.2) n
  have hC := c_checkEvent _ hB
  generalize parsedS r = Q at *
  obtain ⟨e, is⟩ := Q
  dsimp only at *
  simp [Tryz.f197]
  refine c2 h0 ?_
  simp
  refine c2 hI ?_
  cases m
  · simp [noEv, eEvent]
  cases i
  · simp [noEv, eEvent]
  simp
  refine c1 hR ?_
  obtain ⟨num, kind, names, vals, text⟩ := e
  simp only [EventD.at, eEvent] at hC ⊢
  cases is
  · simp
  · simp
    refine e1 hC ?_
    simp
    rfl
end Go.Abs
namespace Go.Abs
open Go.Proofs
set_option maxHeartbeats 4000000
set_option maxRecDepth 100000
theorem drop_byte {s : List Nat} (k : Nat) (h : ∀ c ∈ s, c < 256) : ∀ c ∈ s.drop k, c < 256 := fun c hc => h c (List.mem_of_mem_drop hc)
theorem take_byte {s : List Nat} (k : Nat) (h : ∀ c ∈ s, c < 256) : ∀ c ∈ s.take k, c < 256 := fun c hc => h c (List.mem_of_mem_take hc)
theorem c_readRecord (s : List Nat) (number : Int) (h : s.length ≤ 1000000) (hb : ∀ c ∈ s, c < 256) : GoodC Tryz.prog 119 [.str s, .int .i64 number] (.tup [eEvent (recR s number).1, .int .i64 (recR s number).2]) := by
  refine good_fn nf isF119 mix (by simp [Tryz.f119]) ?_
  have hP : recR s number = if s.length ≤ 6 ∨ s[6]? ≠ some 58 ∨ (s.take 6).all isD = false then (noEv, 25)
    else if s.take 6 ≠ sumT (s.drop 7) then (noEv, 27)
    else ((bodyRd (s.drop 7)).1, firstE [whenE (!(bodyRd (s.drop 7)).2) 25, whenE (decide ((bodyRd (s.drop 7)).1.num ≠ number)) 11]) := rfl
  generalize recR s number = R at *
  by_cases g1 : s.length ≤ 6
  · have g1' : (s.length : Int) ≤ 6 := by omega
    rw [if_pos (.inl g1)] at hP
    simp [Tryz.f119, hP, g1, g1', noEv, eEvent]
  have g1' : ¬ (s.length : Int) ≤ 6 := by omega
  have g6 : s[6]? = some (s[6]'(by omega)) := List.getElem?_eq_getElem (by omega)
  have hlt : 6 < s.length := by omega
  have hltI : (6 : Int) < s.length := by omega
  by_cases g2 : s[6] = 58
  case neg =>
    have g2' : ¬ (s[6] : Int) = 58 := by omega
    rw [if_pos (.inr (.inl (by rw [g6]; simpa using g2)))] at hP
    simp [Tryz.f119, hP, g1, g1', g2, g2', g6, hlt, noEv, eEvent]
  have hT := c_trim10 (s.take 6) (by simp; omega) (take_byte 6 hb)
  have hN := trimLR_nil (s.take 6)
  have hS := c_sum (s.drop 7) (by simp; omega) (drop_byte 7 hb)
  have hB := c_readBody (s.drop 7) (by simp; omega) (drop_byte 7 hb)
  simp [Tryz.f119, g1, g1', g2, g6, hlt]
  refine ⟨by omega, ?_⟩
  refine c2 hT ?_
  by_cases g3 : (s.take 6).all isD = true
  case neg =>
    have g3' : trimL (trimR (s.take 6)) ≠ [] := fun e => g3 (hN.1 e)
    rw [if_pos (.inr (.inr (by simpa using g3)))] at hP
    simp [hP, g3', noEv, eEvent]
  have g3' := hN.2 g3
  generalize trimL (trimR (s.take 6)) = T at *
  subst g3'
  rw [if_neg (by rw [g6, g2, g3]; simp; omega)] at hP
  simp
  refine ⟨by omega, by omega, ?_⟩
  refine e1 hS ?_
  by_cases g4 : s.take 6 = sumT (s.drop 7)
  case neg =>
    rw [if_pos g4] at hP
    simp [g4, hP, noEv, eEvent]
  rw [if_neg (by simpa using g4)] at hP
  simp [g4]
  refine c1 hB ?_
  generalize bodyRd (s.drop 7) = Q at *
  obtain ⟨⟨num, kind, names, vals, text⟩, is⟩ := Q
  dsimp only at hP
  subst hP
  simp [eEvent]
  refine e2 (c_when (!is) 25) ?_
  simp
  refine e2 (c_when (decide (num ≠ number)) 11) ?_ (h1 := by by_cases hq : num = number <;> simp [hq])
  simp
  refine ep (h1 := ?h1) (c_first [whenE (!is) 25, whenE (decide (num ≠ number)) 11] (by simp)) (by simp; exact ⟨rfl, rfl⟩) (by simp; exact ⟨rfl, rfl⟩) ?_
  case h1 => simp
  simp
  rfl
theorem c_digits (s : List Nat) (h : s.length ≤ 1048576) (hb : ∀ c ∈ s, c < 256) : GoodC Tryz.prog 198 [.str s] (.bool (s.all isD)) := by
  refine good_fn nf isF198 mix (by simp [Tryz.f198]) ?_
  simp [Tryz.f198]
  refine lp (α := Nat) (fun i => ⟨[(3, .p (.int .i64 i)), (0, .p (.str s))], []⟩) (fun i => i ≤ s.length ∧ (s.take i).all isD = true) (fun i => s.length - i) 0 (by simp) ?_
  rintro i ⟨k1, k2⟩
  by_cases hi : i < s.length
  · have hw := wi1 (i := i) (by omega)
    have hall : isD s[i] = false → (s.all isD) = false := fun h => by
      rw [List.all_eq_false]; exact ⟨s[i], List.getElem_mem hi, by simp [h]⟩
    have hnext : isD s[i] = true → (s.take (i + 1)).all isD = true := fun h => by
      rw [List.take_succ_eq_append_getElem hi, List.all_append, k2]; simpa using h
    by_cases a1 : s[i] < 48
    · have a1' : (s[i] : Int) < 48 := by omega
      simp [hi, a1', hall (by simp [isD]; omega)]
    · have a1' : ¬ (s[i] : Int) < 48 := by omega
      by_cases a2 : 57 < s[i]
      · have a2' : (57 : Int) < s[i] := by omega
        simp [hi, a1', a2', hall (by simp [isD]; omega)]
      · have a2' : ¬ (57 : Int) < s[i] := by omega
        simp [hi, a1', a2', hw]
        exact rd (i + 1) ⟨hi, hnext (by simp [isD]; omega)⟩
  · have : i = s.length := by omega
    subst this
    rw [List.take_length] at k2
    simp [k2]
def recQ (s : List Nat) (number : Int) : EventD × Int := (if (recR s number).2 = 0 then (recR s number).1 else noEv, (recR s number).2)
theorem c_lineR (s : List Nat) (number : Int) (h : s.length ≤ 1000000) (hb : ∀ c ∈ s, c < 256) : GoodC Tryz.prog 121 [.int .i64 number, .str s] (.tup [eEvent (recQ s number).1, .int .i64 (recQ s number).2]) := by
  refine good_fn nf isF121 mix (by simp [Tryz.f121]) ?_
  have hP : recR s number = if s.length ≤ 6 ∨ s[6]? ≠ some 58 ∨ (s.take 6).all isD = false then (noEv, 25)
    else if s.take 6 ≠ sumT (s.drop 7) then (noEv, 27)
    else ((bodyRd (s.drop 7)).1, firstE [whenE (!(bodyRd (s.drop 7)).2) 25, whenE (decide ((bodyRd (s.drop 7)).1.num ≠ number)) 11]) := rfl
  rw [recQ]
  generalize recR s number = R at *
  by_cases g1 : s.length ≤ 6
  · have g1' : (s.length : Int) < 7 := by omega
    rw [if_pos (.inl g1)] at hP
    simp [Tryz.f121, hP, g1, g1', noEv, eEvent]
  have g1' : ¬ (s.length : Int) < 7 := by omega
  have g6 : s[6]? = some (s[6]'(by omega)) := List.getElem?_eq_getElem (by omega)
  have hlt : 6 < s.length := by omega
  by_cases g2 : s[6] = 58
  case neg =>
    have g2' : ¬ (s[6] : Int) = 58 := by omega
    rw [if_pos (.inr (.inl (by rw [g6]; simpa using g2)))] at hP
    simp [Tryz.f121, hP, g1, g1', g2, g2', g6, hlt, noEv, eEvent]
  have hD := c_digits (s.take 6) (by simp; omega) (take_byte 6 hb)
  have hS := c_sumR (s.drop 7) (by simp; omega) (drop_byte 7 hb)
  have hC := c_cutR (s.drop 7) 32 (by simp; omega) (by omega) (drop_byte 7 hb)
  have lC := cut_len 32 (s.drop 7)
  have bC := cut_byte (c := 32) (drop_byte 7 hb)
  simp [Tryz.f121, g1, g1', g2, g6, hlt]
  refine ⟨by omega, ?_⟩
  refine c1 hD ?_
  by_cases g3 : (s.take 6).all isD = true
  case neg =>
    rw [if_pos (.inr (.inr (by simpa using g3)))] at hP
    simp [hP, g3, noEv, eEvent]
  rw [if_neg (by rw [g6, g2, g3]; simp; omega)] at hP
  simp [g3]
  refine ⟨by omega, ?_⟩
  refine e1 hS ?_
  by_cases g4 : s.take 6 = sumT (s.drop 7)
  case neg =>
    have g4' : ¬ sumT (s.drop 7) = s.take 6 := fun e => g4 e.symm
    rw [if_pos g4] at hP
    simp [g4', hP, noEv, eEvent]
    omega
  rw [if_neg (by simpa using g4)] at hP
  simp [← g4]
  refine ⟨by omega, ?_⟩
  refine c2 hC ?_
  have hlen : (s.drop 7).length ≤ 1000000 := by simp; omega
  have hQ : bodyRd (s.drop 7) = if (cutN 32 (s.drop 7)).2.2 = false ∨ (intR (cutN 32 (s.drop 7)).1).2 = false then (noEv, false)
    else ((parsedS (cutN 32 (s.drop 7)).2.1).1.at (intR (cutN 32 (s.drop 7)).1).1, (parsedS (cutN 32 (s.drop 7)).2.1).2 && decide (chkEvent ((parsedS (cutN 32 (s.drop 7)).2.1).1.at (intR (cutN 32 (s.drop 7)).1).1) = 0)) := rfl
  generalize bodyRd (s.drop 7) = Q at *
  generalize cutN 32 (s.drop 7) = C at *
  obtain ⟨w, r, m⟩ := C
  dsimp only at *
  have hR := c_parsedR r (by omega) bC.2
  have hI := c_integerR w (by omega) bC.1
  have hB := at_B (parsed_B (s := r) (by omega) bC.2) (intR w).1
  have hE := c_checkEventR _ hB
  generalize intR w = J at *
  obtain ⟨n, i⟩ := J
  generalize parsedS r = V at *
  obtain ⟨⟨num, kind, names, vals, text⟩, is⟩ := V
  dsimp only at *
  simp only [eEvent, EventD.at] at hR hE
  simp
  refine c1 hR ?_
  simp
  refine c1 hI ?_
  have hno : ∀ x : EventD, R = (x, 25) → R.2 = 25 ∧ (if R.2 = 0 then R.1 else noEv) = noEv := fun x e => by rw [e]; exact ⟨rfl, rfl⟩
  cases m
  · rw [if_pos (.inl rfl)] at hQ
    subst hQ
    have hR2 := hno noEv (by rw [hP]; simp [firstE, whenE])
    rw [hR2.2, hR2.1]
    simp [noEv, eEvent]
  cases is
  · have hQ2 : Q.2 = false := by rw [hQ]; split <;> rfl
    have hR2 := hno Q.1 (by rw [hP, hQ2]; simp [firstE, whenE])
    rw [hR2.2, hR2.1]
    simp [noEv, eEvent]
  cases i
  · rw [if_pos (.inr rfl)] at hQ
    subst hQ
    have hR2 := hno noEv (by rw [hP]; simp [firstE, whenE])
    rw [hR2.2, hR2.1]
    simp [noEv, eEvent]
  rw [if_neg (by simp)] at hQ
  simp only [EventD.at] at hQ
  simp
  refine c1 hE ?_
  by_cases hz : chkEvent ⟨n, kind, names, vals, text⟩ = 0
  case neg =>
    have hQ2 : Q.2 = false := by rw [hQ]; simp [hz]
    have hR2 := hno Q.1 (by rw [hP, hQ2]; simp [firstE, whenE])
    rw [hR2.2, hR2.1]
    simp [hz, noEv, eEvent]
  subst hQ
  by_cases hn : n = number
  · subst hn
    have hR2 : R = (⟨n, kind, names, vals, text⟩, 0) := by rw [hP]; simp [hz, firstE, whenE]
    rw [hR2]
    simp [hz, eEvent]
  · have hR2 : R = (⟨n, kind, names, vals, text⟩, 11) := by rw [hP]; simp [hz, hn, firstE, whenE]
    rw [hR2]
    simp [hz, hn, noEv, eEvent]
end Go.Abs
namespace Go.Abs
def lineAt (l : List (Nat × List Nat)) (j : Nat) : Nat × List Nat := l[j]?.getD (0, [])
def evAt (l : List (Nat × List Nat)) (j : Nat) : EventD × Int := recR (lineAt l j).2.dropLast ((j : Int) + 1)
def okR (l : List (Nat × List Nat)) (j : Nat) : Bool := decide ((lineAt l j).2.getLast? = some 10) && decide ((evAt l j).2 = 0)
def outL (l : List (Nat × List Nat)) (i : Nat) : List EventD := (List.range i).map fun j => (evAt l j).1
def plL (l : List (Nat × List Nat)) : Nat → Nat
  | 0 => 0
  | i + 1 => (lineAt l i).1
def erL (l : List (Nat × List Nat)) (i : Nat) : Int := if (lineAt l i).2.getLast? ≠ some 10 then 28 else (evAt l i).2
theorem outL_len (l : List (Nat × List Nat)) (i : Nat) : (outL l i).length = i := by simp [outL]
theorem outL_succ (l : List (Nat × List Nat)) (i : Nat) : outL l (i + 1) = outL l i ++ [(evAt l i).1] := by simp [outL, List.range_succ]
theorem first_bad (p : Nat → Bool) : ∀ n, ∃ k, k ≤ n ∧ (∀ j, j < k → p j = true) ∧ (k = n ∨ (k < n ∧ p k = false))
  | 0 => ⟨0, Nat.le_refl _, fun j h => by omega, .inl rfl⟩
  | n + 1 => by
    obtain ⟨k, h1, h2, h3⟩ := first_bad p n
    rcases h3 with h3 | ⟨h3, h4⟩
    · subst h3
      cases hp : p k
      · exact ⟨k, by omega, h2, .inr ⟨by omega, hp⟩⟩
      · refine ⟨k + 1, Nat.le_refl _, fun j hj => ?_, .inl rfl⟩
        by_cases e : j = k
        · subst e; exact hp
        · exact h2 j (by omega)
    · exact ⟨k, by omega, h2, .inr ⟨by omega, h4⟩⟩
theorem recL_run (l : List (Nat × List Nat)) : ∀ i, i ≤ l.length → (∀ j, j < i → okR l j = true) → recL l [] 0 = recL (l.drop i) (outL l i) (plL l i)
  | 0, _, _ => rfl
  | i + 1, hi, hok => by
    have hlt : i < l.length := by omega
    rw [recL_run l i (by omega) (fun j hj => hok j (by omega)), List.drop_eq_getElem_cons hlt, recL, outL_len]
    have ho := hok i (by omega)
    have hg : lineAt l i = l[i] := by rw [lineAt, List.getElem?_eq_getElem hlt]; rfl
    simp only [okR, Bool.and_eq_true, decide_eq_true_eq, hg] at ho
    have he : recR l[i].2.dropLast ((i : Int) + 1) = evAt l i := by rw [evAt, hg]
    rw [if_neg (by simpa using ho.1), he, if_neg (by simpa using ho.2), outL_succ]
    simp only [plL, hg]
theorem recL_end (l : List (Nat × List Nat)) (hok : ∀ j, j < l.length → okR l j = true) : recL l [] 0 = (outL l l.length, plL l l.length, 0) := by
  rw [recL_run l l.length (Nat.le_refl _) hok, List.drop_length, recL]
theorem recL_bad (l : List (Nat × List Nat)) (k : Nat) (hk : k < l.length) (hok : ∀ j, j < k → okR l j = true) (hb : okR l k = false) : recL l [] 0 = (outL l k, plL l k, erL l k) := by
  have hg : lineAt l k = l[k] := by rw [lineAt, List.getElem?_eq_getElem hk]; rfl
  rw [recL_run l k (by omega) hok, List.drop_eq_getElem_cons hk, recL, outL_len]
  have he : recR l[k].2.dropLast ((k : Int) + 1) = evAt l k := by rw [evAt, hg]
  rw [he, erL, hg]
  simp only [okR, hg, Bool.and_eq_false_iff, decide_eq_false_iff_not] at hb
  by_cases h1 : l[k].2.getLast? = some 10
  · rw [if_neg (by simpa using h1)]
    rcases hb with hb | hb
    · exact (hb h1).elim
    · rw [if_pos hb, if_neg (by simpa using h1)]
  · rw [if_pos h1, if_pos h1]
theorem lnC_mem : ∀ (t : List Nat) (k : Nat) (cur : List Nat), (∀ c ∈ cur, c < 256) → (∀ c ∈ t, c < 256) → ∀ x ∈ lnC k cur t, x.1 ≤ k + t.length ∧ x.2.length ≤ cur.length + t.length ∧ ∀ c ∈ x.2, c < 256
  | [], k, cur, hc, _, x, hx => by
    rw [lnC] at hx
    split at hx
    · cases hx
    · rw [List.mem_singleton.1 hx]; exact ⟨by simp, by simp, hc⟩
  | a :: t, k, cur, hc, ht, x, hx => by
    rw [lnC] at hx
    have ht' : ∀ c ∈ t, c < 256 := fun c h => ht c (List.mem_cons_of_mem _ h)
    split at hx
    · rcases List.mem_cons.1 hx with rfl | hx
      · refine ⟨by simp <;> omega, by simp, fun c h => ?_⟩
        rcases List.mem_append.1 h with h | h
        · exact hc c h
        · rw [List.mem_singleton.1 h]; omega
      · have := lnC_mem t _ [] (by simp) ht' x hx
        simp only [List.length_cons, List.length_nil] at this ⊢
        exact ⟨by omega, by omega, this.2.2⟩
    · have := lnC_mem t _ (cur ++ [a]) (fun c h => by
        rcases List.mem_append.1 h with h | h
        · exact hc c h
        · rw [List.mem_singleton.1 h]; exact ht a (by simp)) ht' x hx
      simp only [List.length_cons, List.length_append, List.length_nil] at this ⊢
      exact ⟨by omega, by omega, this.2.2⟩
theorem lnC_cnt : ∀ (t : List Nat) (k : Nat) (cur : List Nat), (lnC k cur t).length ≤ t.length + 1
  | [], k, cur => by rw [lnC]; split <;> simp
  | a :: t, k, cur => by
    rw [lnC]
    split
    · have := lnC_cnt t (k + 1) []; simp; omega
    · have := lnC_cnt t (k + 1) (cur ++ [a]); simp; omega
end Go.Abs
namespace Go.Abs
open Go.Proofs
set_option maxHeartbeats 4000000
set_option maxRecDepth 100000
def rB : Nat → AV
  | 0 => .p .nsl
  | j + 1 => .sl 8 j 5 0 (j + 1)
def rT (l : List (Nat × List Nat)) : Nat → Heap
  | 0 => []
  | j + 1 => [.hole, .hole, .arr .grow j 5 ((outL l (j + 1)).map fun e => .p (eEvent e))]
def rX (l : List (Nat × List Nat)) (L : LoopA) (i : Nat) : Heap :=
  [.box false (.p .nsl), .box false (.p (.int .i64 0)), .box false (.p (.int .i64 0)), .box false (rB i), .box false (.p (.int .i64 (plL l i))), .loop L] ++ rT l i
def rF (l : List (Nat × List Nat)) (L : LoopA) : Nat → Heap
  | 0 => []
  | i + 1 => [.box false (rB i), .box false (.p (.int .i64 (plL l i))), .box false (.p (.int .i64 (erL l i))), .box false (rB i), .box false (.p (.int .i64 (plL l i))), .loop (L.dn .ret)] ++ rT l i
theorem c_recover (s : List Nat) (hb : ∀ c ∈ s, c < 256) (hs : s.length ≤ 1048576) : GoodC Tryz.prog 36 [.str s] (.tup [.seq ((recoverS s).1.map eEvent), .int .i64 (recoverS s).2.1, .int .i64 (recoverS s).2.2]) := by
  refine good_fn nf isF36 mix (by simp [Tryz.f36]) ?_
  have hR : recoverS s = if 1000000 < s.length then ([], 0, 26) else recL (lns s) [] 0 := rfl
  generalize recoverS s = R at *
  by_cases h1 : 1000000 < s.length
  · have h1' : (1000000 : Int) < s.length := by omega
    rw [if_pos h1] at hR
    simp [Tryz.f36, h1', hR]
  have h1' : ¬ (1000000 : Int) < s.length := by omega
  rw [if_neg h1] at hR
  simp [Tryz.f36, h1']
  refine c1 (c_lines s) ?_
  simp
  have hmem := lnC_mem s 0 [] (by simp) hb
  have hcnt := lnC_cnt s 0 []
  have hst := s_lines s (by omega)
  have hl0 : lnC 0 [] s = lns s := rfl
  rw [hl0] at hmem hcnt
  generalize lns s = l at *
  clear hl0
  obtain ⟨k, hk, hok, hbad⟩ := first_bad (okR l) l.length
  have hitem : ∀ (i : Nat) x, (l.map itemL)[i]? = some x → ∃ h : i < l.length, x = [.int .i64 (lineAt l i).1, .str (lineAt l i).2] := by
    intro i x hx
    rw [List.getElem?_map] at hx
    rcases Nat.lt_or_ge i l.length with h | h
    · rw [List.getElem?_eq_getElem h] at hx
      refine ⟨h, ?_⟩
      have : lineAt l i = l[i] := by rw [lineAt, List.getElem?_eq_getElem h]; rfl
      rw [this]
      simpa [itemL] using hx.symm
    · rw [List.getElem?_eq_none h] at hx; cases hx
  refine rf2 hst rfl (by simp) (rX l) (rF l) (okR l) .ret k (by simpa using hk) hok (by simpa using hbad) (fun L => rfl) ?_ ?_ (fun L => rfl) ?_ ?_
  · intro L hL i hi
    clear hL
    rcases i with _ | j
    · refine ⟨rfl, by simp [rX, rB, rT], fun _ hl => ?_⟩
      simp [rX, rB, rT] at hl ⊢
      exact hl
    · refine ⟨rfl, by simp [rX, rB, rT], fun _ hl => ?_⟩
      simp [rX, rB, rT] at hl ⊢
      exact hl
  · intro L hL i x hi hx
    obtain ⟨hil, rfl⟩ := hitem i x hx
    have hm : lineAt l i ∈ l := by rw [lineAt, List.getElem?_eq_getElem hil]; exact List.getElem_mem hil
    obtain ⟨m1, m2, m3⟩ := hmem _ hm
    have hCS := c_cutSuf (lineAt l i).2 10 (by simp at m2; omega)
    have hRd := c_readRecord (lineAt l i).2.dropLast ((i : Int) + 1) (by simp at m2 ⊢; omega) (fun c hc => m3 c (List.dropLast_subset _ hc))
    have hEv : recR (lineAt l i).2.dropLast ((i : Int) + 1) = evAt l i := rfl
    have hOk : okR l i = (decide ((lineAt l i).2.getLast? = some 10) && decide ((evAt l i).2 = 0)) := rfl
    have hEr : erL l i = if (lineAt l i).2.getLast? ≠ some 10 then 28 else (evAt l i).2 := rfl
    have hPl : plL l (i + 1) = (lineAt l i).1 := rfl
    have hOs := outL_succ l i
    have hOl := outL_len l i
    rw [hEv] at hRd
    refine y_round nf mix hL rfl rfl (by kernel_rfl) ?_
    have hLe := congrArg LoopA.env hL
    dsimp only at hLe
    clear hL hitem hx hok hbad hEv
    generalize lineAt l i = x at *
    obtain ⟨pl, t⟩ := x
    generalize hee : evAt l i = E at *
    obtain ⟨e, er⟩ := E
    dsimp only at *
    have hw1 : IntKind.i64.wrap 1 = 1 := by decide
    by_cases q1 : t.getLast? = some 10
    case neg =>
      have hOk2 : okR l i = false := by rw [hOk]; simp [q1]
      rw [hOk2]
      have hEr2 : erL l i = 28 := by rw [hEr]; simp [q1]
      rcases i with _ | j
      · simp [rX, rF, rB, rT, hEr2]
        refine c2 hCS ?_
        simp [q1]
        rw [hEr2]
        exact .inl rfl
      · simp [rX, rF, rB, rT, hEr2]
        refine c2 hCS ?_
        simp [q1]
        rw [hEr2]
        exact .inl rfl
    have hEr2 : erL l i = er := by rw [hEr]; simp [q1]
    rw [if_pos q1, decide_eq_true q1] at hCS
    by_cases q2 : er = 0
    case neg =>
      have hOk2 : okR l i = false := by rw [hOk]; simp [q2]
      rw [hOk2]
      rcases i with _ | j
      · simp [rX, rF, rB, rT, hEr2]
        refine c2 hCS ?_
        simp
        refine c2 hRd ?_ (h2 := by simp [hw1])
        simp [q2]
        rw [hEr2]
        refine ForgetN.og (by simp) (by simp) (by simp) (by simp) ?_
        simp
        first | exact refsLd hLe (by simp) | exact refsL hLe (by simp)
      · have hwj : IntKind.i64.wrap ((j : Int) + 1 + 1) = (j : Int) + 1 + 1 := wi64 _ (by omega) (by omega)
        simp [rX, rF, rB, rT, hEr2]
        refine c2 hCS ?_
        simp [hwj]
        refine c2 hRd ?_ (h2 := by simp [hw1])
        simp [q2]
        rw [hEr2]
        refine ForgetN.og (by simp) (by simp) (by simp) (by simp) ?_
        simp
        first | exact refsLd hLe (by simp) | exact refsL hLe (by simp)
    subst q2
    have hOk2 : okR l i = true := by rw [hOk]; simp [q1]
    rw [hOk2]
    rcases i with _ | j
    · simp [rX, rF, rB, rT, hPl]
      refine c2 hCS ?_
      simp
      refine c2 hRd ?_ (h2 := by simp [hw1])
      simp
      refine ⟨by decide, ?_⟩
      have ho1 : outL l 1 = [e] := by rw [hOs]; rfl
      rw [hPl, ho1]
      refine ForgetN.og (by simp) (by simp) (by simp) (by simp) ?_
      simp
      first | exact refsLd hLe (by simp) | exact refsL hLe (by simp)
    · have hwj : IntKind.i64.wrap ((j : Int) + 1 + 1) = (j : Int) + 1 + 1 := wi64 _ (by omega) (by omega)
      simp [rX, rF, rB, rT, hPl]
      refine c2 hCS ?_
      simp [hwj]
      refine c2 hRd ?_ (h2 := by simp [hw1])
      simp
      refine ⟨⟨by omega, by simp only [maxL]; omega⟩, ?_⟩
      rw [hPl, hOs]
      have htk : List.take (j + 1) (List.map (fun e => AV.p (eEvent e)) (outL l (j + 1))) = List.map (fun e => AV.p (eEvent e)) (outL l (j + 1)) := List.take_of_length_le (by simp [hOl])
      rw [htk]
      refine ForgetN.og (by simp) (by simp) (by simp) (by simp) ?_
      simp
      first | exact refsLd hLe (by simp) | exact refsL hLe (by simp)
  · intro hkl L
    have hkl : k = l.length := by simpa using hkl
    subst hkl
    rw [recL_end l hok] at hR
    subst hR
    dsimp only
    rcases hll : l.length with _ | j
    · simp [rX, rB, rT]
      rfl
    · have hOl := outL_len l (j + 1)
      simp [rX, rB, rT, hOl]
      rw [List.take_of_length_le (by simp [hOl])]
      exact purl_of (by simp)
  · intro hkl L
    have hkl : k < l.length := by simpa using hkl
    have hbk : okR l k = false := by
      rcases hbad with hb | ⟨_, hb2⟩
      · omega
      · exact hb2
    rw [recL_bad l k hkl hok hbk] at hR
    subst hR
    dsimp only
    rcases k with _ | j
    · simp [jumpQ, rF, rB, rT]
      rfl
    · have hOl := outL_len l (j + 1)
      simp [jumpQ, rF, rB, rT, hOl]
      rw [List.take_of_length_le (by simp [hOl])]
      exact purl_of (by simp)
end Go.Abs
namespace Go.Abs
open Go.Proofs
set_option maxHeartbeats 4000000
set_option maxRecDepth 100000
def qB : List EventD → AV
  | [] => .p .nsl
  | _ :: r => .sl 2 r.length 5 0 (r.length + 1)
def qT : List EventD → Heap
  | [] => []
  | e :: r => [.hole, .hole, .arr .grow r.length 5 ((e :: r).map fun e => .p (eEvent e))]
theorem c_recoverR (s : List Nat) (hb : ∀ c ∈ s, c < 256) (hs : s.length ≤ 1048576) : GoodC Tryz.prog 37 [.str s] (.tup [.seq ((recoverS s).1.map eEvent), .int .i64 (recoverS s).2.1, .int .i64 (recoverS s).2.2]) := by
  refine good_fn nf isF37 mix (by simp [Tryz.f37]) ?_
  have hR : recoverS s = if 1000000 < s.length then ([], 0, 26) else recL (lns s) [] 0 := rfl
  generalize recoverS s = R at *
  by_cases h1 : 1000000 < s.length
  · have h1' : (1000000 : Int) < s.length := by omega
    rw [if_pos h1] at hR
    simp [Tryz.f37, h1', hR]
  have h1' : ¬ (1000000 : Int) < s.length := by omega
  rw [if_neg h1] at hR
  simp [Tryz.f37, h1']
  refine lp (α := Nat × List EventD) (fun (a, out) => ⟨[(6, .p (.int .i64 a)), (5, qB out), (0, .p (.str s))], qT out⟩)
    (fun (a, out) => a ≤ s.length ∧ out.length ≤ a ∧ R = recL (lnC a [] (s.drop a)) out a) (fun (a, _) => s.length - a) (0, []) ⟨by simp, by simp, by simpa [lns] using hR⟩ ?_ (he := by simp [qB]) (hh := by simp [qT]) (hr := by simp [qB]) (hr2 := by simp [qT])
  rintro ⟨a, out⟩ ⟨k1, k2, k3⟩
  dsimp only at k1 k2 k3 ⊢
  by_cases ha : a < s.length
  · have hbt : ∀ c ∈ s.drop a, c < 256 := drop_byte a hb
    have hC := c_cutR (s.drop a) 10 (by simp; omega) (by omega) hbt
    have lC := cut_len 10 (s.drop a)
    have bC := cut_byte (c := 10) hbt
    have eC := cutN_eq 10 (s.drop a)
    have nC := cutN_not 10 (s.drop a)
    have hlen : (s.drop a).length = s.length - a := by simp
    rw [lnC_cut] at k3
    generalize hcc : cutN 10 (s.drop a) = C at *
    obtain ⟨w, rest, whole⟩ := C
    dsimp only at *
    have k3f : whole = false → R = (out, a, 28) := by
      intro h
      rw [if_neg (by rw [h]; simp)] at k3
      rcases eC with ⟨h', _⟩ | ⟨_, h', _⟩
      · rw [h] at h'; cases h'
      have hne : s.drop a ≠ [] := by intro e; rw [e] at hlen; simp at hlen; omega
      rw [List.nil_append, if_neg hne, recL] at k3
      rw [k3, if_pos]
      intro hg
      exact nC (by rw [h']; exact List.mem_of_getLast? hg)
    have k3t : whole = true → R = if (recR w ((out.length : Int) + 1)).2 ≠ 0 then (out, a, (recR w ((out.length : Int) + 1)).2) else recL (lnC (a + w.length + 1) [] rest) (out ++ [(recR w ((out.length : Int) + 1)).1]) (a + w.length + 1) := by
      intro h
      rw [if_pos h, recL] at k3
      rw [k3, if_neg (by simp)]
      simp only [List.nil_append, List.dropLast_concat]
    have kd : whole = true → rest = s.drop (a + w.length + 1) ∧ a + w.length + 1 ≤ s.length := by
      intro h
      rcases eC with ⟨_, h'⟩ | ⟨h', _⟩
      · have e := congrArg List.length h'
        simp only [List.length_append, List.length_cons] at e
        refine ⟨?_, by omega⟩
        have e2 := congrArg (List.drop (w.length + 1)) h'
        rw [List.drop_drop] at e2
        have e3 : (w ++ 10 :: rest).drop (w.length + 1) = rest := by simp
        rw [e3] at e2
        rw [← e2]; congr 1
      · rw [h] at h'; cases h'
    clear k3 eC nC
    have hQ := c_lineR w ((out.length : Int) + 1) (by omega) bC.1
    have hQe : recQ w ((out.length : Int) + 1) = (if (recR w ((out.length : Int) + 1)).2 = 0 then (recR w ((out.length : Int) + 1)).1 else noEv, (recR w ((out.length : Int) + 1)).2) := rfl
    rw [hQe] at hQ
    clear hQe
    generalize recR w ((out.length : Int) + 1) = V at *
    obtain ⟨e, er⟩ := V
    dsimp only at *
    have ha' : (a : Int) < s.length := by omega
    have w1 : IntKind.i64.wrap ((out.length : Int) + 1) = out.length + 1 := wi64 _ (by omega) (by omega)
    have w2 : IntKind.i64.wrap ((a : Int) + w.length) = (a : Int) + w.length := wi64 _ (by have := lC.1; omega) (by have := lC.1; omega)
    have w3 : IntKind.i64.wrap ((a : Int) + w.length + 1) = (a : Int) + w.length + 1 := wi64 _ (by have := lC.1; omega) (by have := lC.1; omega)
    have hw1 : IntKind.i64.wrap 1 = 1 := by decide
    rcases out with _ | ⟨o, r⟩
    · simp [ha, qB, qT]
      refine ⟨k1, ?_⟩
      refine c2 hC ?_
      cases whole
      · rw [k3f rfl]
        simp
      have k3t := k3t rfl
      have kd := kd rfl
      simp
      refine c2 hQ ?_ (h1 := by simp [hw1])
      by_cases hz : er = 0
      case neg =>
        rw [if_pos hz] at k3t
        simp [hz, k3t]
      subst hz
      rw [if_neg (by simp), kd.1] at k3t
      simp
      refine ⟨by decide, ?_⟩
      exact rd (a + w.length + 1, [e]) ⟨kd.2, by simp, k3t⟩ (h1 := by dsimp only; omega) (he := by simp [qB, w2, w3]) (hh := by simp [qT]) (hr := by simp [qB]) (hr2 := by simp [qT])
    · simp [ha, qB, qT]
      refine ⟨k1, ?_⟩
      refine c2 hC ?_
      cases whole
      · rw [k3f rfl]
        simp
      have k3t := k3t rfl
      have kd := kd rfl
      simp only [List.length_cons] at hQ w1 k2
      simp [w1]
      refine c2 hQ ?_ (h1 := by simpa using w1.symm)
      by_cases hz : er = 0
      case neg =>
        rw [if_pos hz] at k3t
        simp [hz, k3t]
      subst hz
      rw [if_neg (by simp), kd.1] at k3t
      simp
      refine ⟨by simp only [maxL]; omega, ?_⟩
      exact rd (a + w.length + 1, o :: (r ++ [e])) ⟨kd.2, by simp; omega, k3t⟩ (h1 := by dsimp only; omega) (he := by simp [qB, w2, w3]) (hh := by simp [qT]) (hr := by simp [qB]) (hr2 := by simp [qT])
  · have : a = s.length := by omega
    subst this
    have : lnC s.length [] (s.drop s.length) = [] := by simp [lnC]
    rw [this, recL] at k3
    subst k3
    rcases out with _ | ⟨e, r⟩
    · simp [qB, qT]
    · simp [qB, qT]
end Go.Abs
namespace Go.Abs
theorem name_len {k : List Nat} (hk : isName k = true) : k.length ≤ 24 := by
  simp only [isName, Bool.and_eq_true, decide_eq_true_eq] at hk
  exact hk.1.2
theorem itoa_B {n : Nat} (h : n < 10 ^ 9) : (itoaN (n : Int)).length ≤ 9 ∧ ∀ c ∈ itoaN (n : Int), c < 256 := by
  rw [itoaN_nat (by omega)]
  have h1 := nd_le h
  refine ⟨by rw [low_length]; omega, fun c hc => ?_⟩
  have := low_digN (max 1 (nd n)) n
  rw [List.all_eq_true] at this
  have := this c hc
  simp only [digN, Bool.and_eq_true, decide_eq_true_eq] at this
  omega
theorem kinds_B : ∀ k ∈ [kAdd, kSet, kDrop, kMove, kUndo], k.length ≤ 4 ∧ (∀ c ∈ k, c < 256) ∧ (formS k).2.2.2 = true := by decide
theorem evT_of {e : EventD} (h : chkEvent e = 0) (hb : ∀ c ∈ e.text, c < 256) : EvT e := by
  obtain ⟨hK, n1, n2, tl⟩ := evK h
  obtain ⟨num, kind, names, vals, text⟩ := e
  dsimp only at *
  obtain ⟨m, rfl⟩ : ∃ m : Nat, num = m := ⟨num.toNat, by omega⟩
  have hm := itoa_B (n := m) (by omega)
  have hB := body_sp ⟨(m : Int), kind, names, vals, text⟩
  dsimp only at hB
  have hTl : (spT (textW ⟨(m : Int), kind, names, vals, text⟩)).length ≤ 4097 ∧ ∀ c ∈ spT (textW ⟨(m : Int), kind, names, vals, text⟩), c < 256 := by
    rw [textW]
    split
    · refine ⟨by simp [spT]; omega, fun c hc => ?_⟩
      simp [spT] at hc
      rcases hc with rfl | hc
      · omega
      · exact hb c hc
    · simp
  have hN : names = [] ∨ ∃ k, names = [k] ∧ isName k = true := by
    cases hK with
    | row k _ hn _ _ hi => exact .inr ⟨k, hn, hi⟩
    | drop k _ hn _ _ hi => exact .inr ⟨k, hn, hi⟩
    | move k n _ hn _ _ hi _ => exact .inr ⟨k, hn, hi⟩
    | undo _ hn _ _ => exact .inl hn
  have hV : vals = [] ∨ ∃ n : Nat, vals = [(n : Int)] ∧ n < 10 ^ 9 := by
    cases hK with
    | row k _ hn hv _ hi => exact .inl hv
    | drop k _ hn hv _ hi => exact .inl hv
    | move k n _ hn hv _ hi hl => exact .inr ⟨n, hv, hl⟩
    | undo _ hn hv _ => exact .inl hv
  have hk : kind ∈ [kAdd, kSet, kDrop, kMove, kUndo] := by
    cases hK with
    | row k hk => rcases hk with rfl | rfl <;> simp
    | drop k hk => dsimp only at hk; subst hk; simp
    | move k n hk => dsimp only at hk; subst hk; simp
    | undo hk => dsimp only at hk; subst hk; simp
  obtain ⟨k1, k2, k3⟩ := kinds_B kind hk
  have hNl : (spT names).length ≤ 25 ∧ ∀ c ∈ spT names, c < 256 := by
    rcases hN with rfl | ⟨k, rfl, hi⟩
    · simp
    · have := name_len hi
      refine ⟨by simp [spT]; omega, fun c hc => ?_⟩
      simp [spT] at hc
      rcases hc with rfl | hc
      · omega
      · exact isName_byte hi c hc
  have hVl : (spT (vals.map itoaN)).length ≤ 10 ∧ ∀ c ∈ spT (vals.map itoaN), c < 256 := by
    rcases hV with rfl | ⟨n, rfl, hl⟩
    · simp
    · have := itoa_B hl
      refine ⟨by simp [spT]; omega, fun c hc => ?_⟩
      simp [spT] at hc
      rcases hc with rfl | hc
      · omega
      · exact this.2 c hc
  refine ⟨k3, ?_, ?_, ⟨by dsimp only; omega, by dsimp only; omega⟩, ?_, ?_, ?_⟩
  · rcases hN with rfl | ⟨k, rfl, _⟩ <;> simp
  · rcases hV with rfl | ⟨n, rfl, _⟩ <;> simp
  · intro v hv
    rcases hV with rfl | ⟨n, rfl, hl⟩
    · cases hv
    · rw [List.mem_singleton.1 hv]; exact ⟨by omega, by omega⟩
  · rw [hB]; simp only [List.length_append, List.length_cons]; omega
  · rw [hB]
    intro c hc
    simp only [List.mem_append, List.mem_cons] at hc
    rcases hc with hc | rfl | hc | hc | hc | hc
    · exact hm.2 c hc
    · omega
    · exact k2 c hc
    · exact hNl.2 c hc
    · exact hVl.2 c hc
    · exact hTl.2 c hc
theorem text_body {e : EventD} (h : chkEvent e = 0) : ∀ c ∈ e.text, c ∈ bodyT e := by
  obtain ⟨hK, _⟩ := evK h
  intro c hc
  rw [body_sp]
  have key : e.text = [] ∨ textW e = [e.text] := by
    cases hK with
    | row k hk => right; rw [textW]; rcases hk with hk | hk <;> rw [hk] <;> rfl
    | drop k _ _ _ ht => exact .inl ht
    | move k n _ _ _ ht => exact .inl ht
    | undo _ _ _ ht => exact .inl ht
  rcases key with k | k
  · rw [k] at hc; cases hc
  · rw [k]; simp [spT, hc]
theorem log_len : ∀ l : List EventD, l.length ≤ (logT l).length
  | [] => by simp
  | e :: l => by
    have := log_len l
    have e1 : logT (e :: l) = recT e ++ logT l := rfl
    rw [e1]
    simp only [List.length_cons, List.length_append, recT, List.length_nil]; omega
theorem log_mem {l : List EventD} {e : EventD} (h : e ∈ l) : ∀ c ∈ bodyT e, c ∈ logT l := by
  intro c hc
  rw [logT, List.mem_flatMap]
  exact ⟨e, h, by simp [recT, recN, hc]⟩
end Go.Abs
namespace Go.Abs
open Go.Proofs
set_option maxHeartbeats 4000000
set_option maxRecDepth 100000
theorem recover_B {s : List Nat} (hs : s.length ≤ 1000000) (hb : ∀ c ∈ s, c < 256) : (recoverS s).1.length ≤ s.length ∧ (∀ e ∈ (recoverS s).1, EvT e) := by
  obtain ⟨u, h1, _, h3, _⟩ := recover_gen s hs
  have hl := log_len (recoverS s).1
  have hlen := congrArg List.length h3
  rw [List.length_append] at hlen
  refine ⟨by omega, fun e he => evT_of (h1.mem e he) fun c hc => hb c ?_⟩
  rw [h3]
  exact List.mem_append_left _ (log_mem he c (text_body (h1.mem e he) c hc))
theorem c_append (s : List Nat) (e : EventD) (hs : s.length ≤ 1000000) (hb : ∀ c ∈ s, c < 256) (he : evB e) : GoodC Tryz.prog 35 [.str s, eEvent e] (.tup [.str (appendS s e).1, .int .i64 (appendS s e).2]) := by
  refine good_fn nf isF35 mix (by simp [Tryz.f35]) ?_
  have hRc := c_recover s hb (by omega)
  have hRB := recover_B hs hb
  have hC := c_checkEvent e he
  have hE : appendE s e = firstE [(recoverS s).2.2, chkEvent e, whenE (decide (e.num ≠ (recoverS s).1.length + 1)) 11] := rfl
  have hA : appendS s e = if appendE s e ≠ 0 then ([], appendE s e) else if 1000000 < (s ++ recT e).length then ([], 26) else (s ++ recT e, 0) := rfl
  rw [hE] at hA
  clear hE
  generalize appendS s e = A at *
  generalize recoverS s = R at *
  obtain ⟨l, pl, no⟩ := R
  dsimp only at *
  have hw : IntKind.i64.wrap ((l.length : Int) + 1) = l.length + 1 := wi1 (by omega)
  have hEv := evT_of (e := e)
  have hrl : (recT e).length = (bodyT e).length + 8 := by simp [recT, recN, sumT_len]; omega
  obtain ⟨num, kind, names, vals, text⟩ := e
  dsimp only at *
  simp only [eEvent] at hC
  simp [Tryz.f35, eEvent]
  refine c1 hRc ?_
  simp
  refine e1 hC ?_
  simp [hw]
  refine e2 (c_when (decide (num ≠ (l.length : Int) + 1)) 11) ?_ (h1 := by by_cases hq : num = (l.length : Int) + 1 <;> simp [hq])
  simp
  refine ep (h1 := ?g1) (c_first [no, chkEvent ⟨num, kind, names, vals, text⟩, whenE (decide (num ≠ (l.length : Int) + 1)) 11] (by simp)) (by simp; exact ⟨rfl, rfl⟩) (by simp; exact ⟨rfl, rfl⟩) ?_
  case g1 => simp
  by_cases hz : firstE [no, chkEvent ⟨num, kind, names, vals, text⟩, whenE (decide (num ≠ (l.length : Int) + 1)) 11] = 0
  case neg =>
    rw [if_pos hz] at hA
    simp at hz
    simp [hz, hA]
    rfl
  rw [if_neg (by simpa using hz)] at hA
  have hz3 := hz
  rw [first3z] at hz3
  have hT := hEv hz3.2.1 he.2.2.2.2.2
  have hrec := c_record _ hT
  have hbl := hT.bl
  simp only [eEvent] at hrec
  rw [hz]
  simp
  refine ⟨rfl, ?_⟩
  refine c1 hrec ?_
  simp only [List.length_append] at hA
  generalize recT _ = T at *
  by_cases hq : 1000000 < s.length + T.length
  · have hq' : (1000000 : Int) < (s.length : Int) + T.length := by omega
    rw [if_pos hq] at hA
    simp [hA, hq']
    omega
  · have hq' : ¬ (1000000 : Int) < (s.length : Int) + T.length := by omega
    rw [if_neg hq] at hA
    simp [hA, hq']
    omega
theorem c_law6 (hw : GoodC Tryz.prog 17 [] (.bool true)) (e : EventD) (s : List Nat) (_ : True) (hs : s.length ≤ 1048576) (hWe : evW e) (hb : ∀ c ∈ s, c < 256) :
    GoodC Tryz.prog 6 [eEvent e, .str s] (.bool true) := by
  refine good_fn nf isF6 mix (by simp [Tryz.f6]) ?_
  have hse : shp (eEvent e) = .agg 60 := rfl
  simp [Tryz.f6, hse]
  have hH1 := c_heard [e] (by simp) (by simpa using hWe)
  refine cp hH1 (by simp; exact ⟨rfl, rfl⟩) ?_ (h1 := by simp)
  by_cases s2 : heardS [e] = true
  case neg =>
    simp [s2]
    refine c0 hw ?_
    simp
  by_cases s3 : 1500 < s.length
  · have s3' : (1500 : Int) < s.length := by omega
    simp [s2, s3']
    refine c0 hw ?_
    simp
  have s3' : ¬ (1500 : Int) < s.length := by omega
  simp [s2, s3', hse]
  have hee := heardS_B s2 (by simpa using hWe) e (by simp)
  have hRB := recover_B (s := s) (by omega) hb
  have hA := c_append s e (by omega) hb hee
  have hR := c_recover s hb hs
  have hRR := c_recoverR s hb hs
  have hCR := c_checkEventR e hee
  have hinv := @recover_inv s
  have hAp : appendS s e = if appendE s e ≠ 0 then ([], appendE s e) else if 1000000 < (s ++ recT e).length then ([], 26) else (s ++ recT e, 0) := rfl
  have hE : appendE s e = firstE [(recoverS s).2.2, chkEvent e, whenE (decide (e.num ≠ (recoverS s).1.length + 1)) 11] := rfl
  rw [hE] at hAp
  clear hE
  generalize appendS s e = A at *
  refine c2 hA ?_
  simp
  refine c1 hR ?_
  simp
  refine c1 hRR ?_
  simp [hse]
  generalize recoverS s = R at *
  obtain ⟨l, pl, no⟩ := R
  dsimp only at *
  have hll : l.length ≤ 1500 := by omega
  have hSm := c_sameEvents l (by omega) (fun x hx => ⟨by have := (hRB.2 x hx).nl; omega, by have := (hRB.2 x hx).vl; omega⟩)
  have hwl : IntKind.i64.wrap ((l.length : Int) + 1) = l.length + 1 := wi1 (by omega)
  have hEv := evT_of (e := e)
  obtain ⟨num, kind, names, vals, text⟩ := e
  dsimp only at *
  simp only [eEvent] at hCR ⊢
  refine e1 hCR ?_
  simp [hwl]
  refine e2 (c_lwhen (decide (num ≠ (l.length : Int) + 1)) 11) ?_ (h1 := by by_cases hq : num = (l.length : Int) + 1 <;> simp [hq])
  simp
  refine ep (h1 := ?g1) (c_lfirst [no, chkEvent ⟨num, kind, names, vals, text⟩, whenE (decide (num ≠ (l.length : Int) + 1)) 11] (by simp)) (by simp; exact ⟨rfl, rfl⟩) (by simp; exact ⟨rfl, rfl⟩) ?_
  case g1 => simp
  by_cases hz : firstE [no, chkEvent ⟨num, kind, names, vals, text⟩, whenE (decide (num ≠ (l.length : Int) + 1)) 11] = 0
  case neg =>
    rw [if_pos hz] at hAp
    subst hAp
    simp at hz
    simp [hz]
    refine ⟨rfl, ?_⟩
    refine c2 hSm ?_
    simp
    refine c0 hw ?_
    simp
  rw [if_neg (by simpa using hz)] at hAp
  have hz3 := hz
  rw [first3z] at hz3
  have hT := hEv hz3.2.1 hWe
  have hbl := hT.bl
  rw [hz]
  simp
  refine ⟨rfl, ?_⟩
  have hlog := (hinv hz3.1).1
  have hLT : logT (l ++ [⟨num, kind, names, vals, text⟩]) = s ++ recT ⟨num, kind, names, vals, text⟩ := by rw [← hlog]; simp [logT]
  have hrl : (recT ⟨num, kind, names, vals, text⟩).length = (bodyT ⟨num, kind, names, vals, text⟩).length + 8 := by simp [recT, recN, sumT_len]; omega
  have hLog := c_logR (l ++ [⟨num, kind, names, vals, text⟩]) (by simp; omega) (fun x hx => by
    rcases List.mem_append.1 hx with hx | hx
    · exact hRB.2 x hx
    · rw [List.mem_singleton.1 hx]; exact hT) (by rw [hLT, List.length_append]; omega)
  rw [hLT] at hLog
  rw [if_neg (by rw [List.length_append]; omega)] at hAp
  subst hAp
  clear hLT hlog hinv
  generalize s ++ recT ⟨num, kind, names, vals, text⟩ = T at *
  rcases l with _ | ⟨a, r⟩
  · simp
    refine ⟨by decide, ?_⟩
    refine ep (h1 := ?g2) hLog (by simp; exact ⟨rfl, rfl⟩) (by simp; exact ⟨rfl, rfl⟩) ?_
    case g2 => simp [eEvent]
    simp [hz3.1]
    refine ⟨by (repeat' (refine And.intro ?_ ?_)) <;> rfl, ?_⟩
    refine c2 hSm ?_
    simp
    refine c0 hw ?_
    simp
  · have hI : GoodI Tryz.prog 40 [.arr .grow 1 5 (.p (eEvent a) :: (r.map (AV.p ∘ eEvent) ++ [.p (.st 60 [.int .i64 num, .str kind, .seq (names.map .str), .seq (vals.map (.int .i64)), .str text])]))] [.sl 0 1 5 0 (r.length + 1 + 1)] [.dead] (.p (.str T)) :=
      GoodC.eat 9 hLog isF40.enters (by
        simp [eEvent]
        refine purl_of ?_
        rw [List.take_of_length_le (by simp)]
        simp) (by intro b L h; rcases b with _ | b <;> simp at h)
    simp
    refine ⟨⟨shpE r, by simp only [maxL, List.length_cons] at *; omega⟩, by simp only [maxL, List.length_cons] at *; omega, ?_⟩
    refine ef hI [4] ?_
    simp [hz3.1, setAll, sig]
    refine ⟨by (repeat' (refine And.intro ?_ ?_)) <;> rfl, ?_⟩
    refine c2 hSm ?_
    simp
    refine c0 hw ?_
    simp
end Go.Abs
