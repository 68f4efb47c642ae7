import Derived.Test.YthckccalfpnmaaaGreatDoorThD
import Derived.Deep.Slices
import Derived.Test.YthckccalfpnmaaaGreatDoorProg
import Derived.KernelRfl
import Derived.Lib.ItoaNum
import Derived.Laws.RangeAny
import Derived.Laws.RangeString
import Derived.Test.YthckccalfpnmaaaGreatDoorRows
import Derived.Lib.LaidTab
import Derived.ReadAgain
import Derived.ChangeOld
import Derived.RowKit3
import Derived.ChangeSame
import Derived.WideShapes
/-
  Arguments as the statement reads them, as values.
-/
set_option linter.unusedSimpArgs false
set_option linter.unusedVariables false
set_option linter.unusedSectionVars false
namespace Go.Abs
open Go.Deep
section
variable {H : Type}
/-- what a reading is as a value -/
def toPV (P : Program) : Nat → TypeId → DataW H → PV
  | 0, _, _ => .undef
  | n + 1, t, d => match P.underlying t, d with
    | some .bool, .lit (.bool b) => .bool b
    | some (.int k), .lit (.int _ z) => .int k z
    | some .string, .lit (.string s) => .str (s.map (·.toNat))
    | some (.slice e), .slice ds _ => .seq (ds.map (toPV P n e))
    | some (.slice _), .nil => .seq []
    | some (.struct fs), .agg ds => .st (P.underlyingId t) ((fs.toList.zip ds).map fun p => toPV P n p.1.type p.2)
    | _, _ => .undef
def offsOk (P : Program) : Nat → List Field → Bool
  | _, [] => true
  | o, f :: fs => (f.offset == o) && offsOk P (o + P.cellsOf f.type) fs
def okT (P : Program) : Nat → TypeId → Bool
  | 0, _ => false
  | n + 1, t => match P.underlying t with
    | some .bool | some (.int _) | some .string => true
    | some (.slice e) => okT P n e && decide (0 < P.cellsOf e)
    | some (.struct fs) => (szs P (P.underlyingId t) == some (fs.toList.map fun f => P.cellsOf f.type)) && offsOk P 0 fs.toList && (((fs.toList.map fun f => P.cellsOf f.type).sum) == P.cellsOf t) && fs.toList.all fun f => okT P n f.type
    | _ => false
variable {enc : TypeId × Value → H} {P : Program} {w : World} {base : Nat} {held : Bool}

theorem st_aux {n k : Nat} {Imm : Nat → Prop} (ih : ∀ t cs d ps, okT P n t = true → DataW.trod enc P w base (fun _ => true) held k t cs = some (d, ps) → PVC P w Imm (toPV P n t d) cs) :
    ∀ (fs : List Field) (xs : List (DataW H × List MemPlace)) (o : Nat) (cs : List Value), offsOk P o fs = true → xs.length = fs.length → (∀ f ∈ fs, okT P n f.type = true) → o + (fs.map fun f => P.cellsOf f.type).sum ≤ cs.length →
      (∀ (i : Nat) (f : Field), fs[i]? = some f → DataW.trod enc P w base (fun _ => true) held k f.type ((cs.drop f.offset).take (P.cellsOf f.type)) = xs[i]?) →
      PVCl P w Imm (fs.map fun f => P.cellsOf f.type) ((fs.zip (xs.map (·.1))).map fun p => toPV P n p.1.type p.2) (fs.map fun f => (cs.drop f.offset).take (P.cellsOf f.type)) ∧
        (fs.map fun f => (cs.drop f.offset).take (P.cellsOf f.type)).flatten = (cs.drop o).take (fs.map fun f => P.cellsOf f.type).sum
  | [], xs, o, cs, _, hl, _, _, _ => by
    have : xs = [] := by simpa using hl
    subst this
    simp [PVCl]
  | f :: fs, [], o, cs, _, hl, _, _, _ => by simp at hl
  | f :: fs, x :: xs, o, cs, ho, hl, hok, hlen, hx => by
    simp only [offsOk, Bool.and_eq_true, beq_iff_eq] at ho
    obtain ⟨ho, ho2⟩ := ho
    simp only [List.map_cons, List.sum_cons] at hlen
    have hx0 := hx 0 f rfl
    simp only [List.getElem?_cons_zero] at hx0
    have h1 := ih _ _ x.1 x.2 (hok f List.mem_cons_self) hx0
    have ⟨h2, h3⟩ := st_aux ih fs xs (o + P.cellsOf f.type) cs ho2 (by simpa using hl) (fun g hg => hok g (List.mem_cons_of_mem _ hg)) (by omega) (fun i g hg => by have := hx (i + 1) g (by simpa using hg); simpa using this)
    refine ⟨?_, ?_⟩
    · simp only [List.map_cons, List.zip_cons_cons, PVCl]
      exact ⟨_, _, rfl, h1, by simp [ho]; omega, h2⟩
    · simp only [List.map_cons, List.flatten_cons, List.sum_cons, h3, ho]
      rw [← List.drop_drop, List.take_add]

theorem pvcl_range {esz len : Nat} {Imm : Nat → Prop} {f : Nat → PV} {g : Nat → List Value} : ∀ {l : List Nat}, (∀ i ∈ l, PVC P w Imm (f i) (g i) ∧ (g i).length = esz) → PVCl P w Imm (List.replicate l.length esz) (l.map f) (l.map g)
  | [], _ => by simp [PVCl]
  | a :: l, h => by
    simp only [List.length_cons, List.replicate_succ, List.map_cons, PVCl]
    exact ⟨_, _, rfl, (h a List.mem_cons_self).1, (h a List.mem_cons_self).2, pvcl_range (len := len) fun i hi => h i (List.mem_cons_of_mem _ hi)⟩

theorem flat_len {V : Nat → List Value} {esz : Nat} : ∀ (len : Nat), (∀ i, i < len → (V i).length = esz) → ((List.range len).map V).flatten.length = len * esz
  | 0, _ => by simp
  | len + 1, h => by
    rw [List.range_succ, List.map_append, List.flatten_append, List.length_append, flat_len len fun i hi => h i (by omega), Nat.succ_mul]
    simp [h len (by omega)]
theorem cells_flat {V : Nat → List Value} {esz b o : Nat} : ∀ (len : Nat), (∀ i, i < len → (V i).length = esz) → (∀ i, i < len → ∀ j, j < esz → w.cell? ⟨b, o + (i * esz + j), none⟩ = (V i)[j]?) → CellsAt w b o ((List.range len).map V).flatten
  | 0, _, _ => by intro i hi; simp at hi
  | len + 1, h, hc => by
    intro i hi
    have hl := flat_len (V := V) (esz := esz) len fun i hi => h i (by omega)
    have ih := cells_flat (V := V) (esz := esz) (b := b) (o := o) len (fun i hi => h i (by omega)) (fun i hi => hc i (by omega))
    have e : ((List.range (len + 1)).map V).flatten = ((List.range len).map V).flatten ++ V len := by
      rw [List.range_succ, List.map_append, List.flatten_append]; simp
    have hi2 : i < len * esz + esz := by
      have := flat_len (V := V) (esz := esz) (len + 1) h
      rw [Nat.succ_mul] at this; omega
    rw [← List.getElem?_eq_getElem hi, e]
    by_cases h1 : i < len * esz
    · rw [List.getElem?_append_left (by omega), List.getElem?_eq_getElem (by omega)]
      exact ih i (by omega)
    · rw [List.getElem?_append_right (by omega), hl]
      have := hc len (by omega) (i - len * esz) (by omega)
      rw [← this]
      congr 3; omega

/-- THE READING OF AN ARGUMENT's CELLS AS A VALUE. -/
theorem trod_pv : ∀ (n : Nat) (fuel : Nat) (t : TypeId) (cs : List Value) (d : DataW H) (ps : List MemPlace), okT P n t = true → DataW.trod enc P w base (fun _ => true) held fuel t cs = some (d, ps) →
    PVC P w (fun k => k < w.heap.size) (toPV P n t d) cs
  | 0, _, _, _, _, _, h, _ => by simp [okT] at h
  | n + 1, fuel, t, cs, d, ps, h, hd => by
    simp only [okT] at h
    split at h
    · rename_i ht
      obtain ⟨b, rfl, hx⟩ := DataW.trod_bool ht hd
      cases hx
      simp [toPV, ht, PVC]
    · rename_i k ht
      obtain ⟨z, rfl, hx, _⟩ := DataW.trod_int ht hd
      cases hx
      simp [toPV, ht, PVC]
    · rename_i ht
      obtain ⟨s, rfl, hx, _⟩ := DataW.trod_string ht hd
      cases hx
      simp [toPV, ht, PVC]
    · rename_i e ht
      simp only [Bool.and_eq_true, decide_eq_true_eq] at h
      obtain ⟨he, hpos⟩ := h
      rcases open_slice ht hd with ⟨rfl, hx⟩ | ⟨a, len, cap, m, k, D, Pl, rfl, hb, hl, hm, hmm, hx, hel⟩
      · cases hx
        simp [toPV, ht, PVC]
      cases hx
      simp only [if_true] at hmm
      subst hmm
      obtain ⟨V, hV⟩ := choose_lt hel
      have hsp : a.spot = none ∨ m = 0 := by
        by_cases hz : m = 0
        · exact .inr hz
        left
        obtain ⟨c1, _⟩ := hV 0 (by omega)
        obtain ⟨_, c2, c3⟩ := World.cells?_some c1
        have c4 := c3 0 hpos
        rw [List.getElem?_eq_getElem (by omega)] at c4
        simp only [Addr.add, Nat.zero_mul, if_true] at c4
        unfold World.cell? at c4
        split at c4
        · split at c4
          · cases c4
          · rename_i hs; simpa using hs
        · cases c4
      have hcell : ∀ i, i < m → ∀ j, j < P.cellsOf e → w.cell? ⟨a.block, a.off + (i * P.cellsOf e + j), none⟩ = (V i)[j]? := by
        intro i hi j hj
        have hs : a.spot = none := hsp.resolve_right (by omega)
        obtain ⟨_, _, c3⟩ := World.cells?_some (hV i hi).1
        have := c3 j hj
        rw [add_add] at this
        rw [← this]
        obtain ⟨ab, ao, asp⟩ := a
        simp only at hs
        subst hs
        unfold Addr.add; split <;> simp_all
      have hlenV : ∀ i, i < m → (V i).length = P.cellsOf e := fun i hi => (World.cells?_some (hV i hi).1).2.1
      simp only [toPV, ht, PVC]
      right
      obtain ⟨ab, ao, asp⟩ := a
      refine ⟨ab, ao, m, P.cellsOf e, (List.range len).map V, ?_, ?_, ?_, by simpa using hl, asp, hsp, by simp⟩
      · have := pvcl_range (P := P) (w := w) (len := len) (esz := P.cellsOf e) (Imm := fun k => k < w.heap.size) (f := fun i => toPV P n e (D i)) (g := V) (l := List.range len) (fun i hi => by
          have hi : i < m := by have := List.mem_range.1 hi; omega
          exact ⟨trod_pv n k e (V i) (D i) (Pl i) he (hV i hi).2, hlenV i hi⟩)
        simpa [Function.comp_def] using this
      · intro hne
        have h0 : 0 < len := by
          rcases Nat.eq_zero_or_pos len with h | h
          · subst h; simp at hne
          · exact h
        have c := hcell 0 (by omega) 0 hpos
        rw [List.getElem?_eq_getElem (by rw [hlenV 0 (by omega)]; exact hpos)] at c
        unfold World.cell? at c
        split at c
        · rename_i hh; exact (Array.getElem?_eq_some_iff.1 hh).1
        · cases c
      · exact cells_flat len (fun i hi => hlenV i (by omega)) (fun i hi => hcell i (by omega))
    · rename_i fs ht
      simp only [Bool.and_eq_true, beq_iff_eq, List.all_eq_true] at h
      obtain ⟨⟨⟨h1, h2⟩, h3⟩, h4⟩ := h
      obtain ⟨xs, k, rfl, hx, hlen, hxl, hf⟩ := DataW.trod_struct ht hd
      cases hx
      have ⟨g1, g2⟩ := st_aux (Imm := fun k => k < w.heap.size) (fun t cs d ps hok hh => trod_pv n k t cs d ps hok hh) fs.toList xs 0 cs h2 (by simpa using hxl) h4 (by omega) (fun i f hi => hf i f (by simpa using hi))
      simp only [toPV, ht, PVC]
      refine ⟨_, _, h1, g1, ?_⟩
      rw [g2, List.drop_zero, List.take_of_length_le (by omega)]
    · cases h
end
end Go.Abs

/-
  The types of the program, as the reckoning asks of them.
-/
namespace Go.Abs
open Go.Proofs
def tab10 : Array Value := (Lib.pow10Tab.map fun z => Value.int .u64 z).toArray
def rawOff : Nat → Option (Array Value)
  | 1 => some tab10
  | _ => none
instance glOff : Gl := ⟨fun _ => .undef, 5, rawOff, fun u => bif Nat.beq u 161 then some 162 else none⟩
@[simp] theorem ki3 : kindOf Tryz.prog 3 = .leaf := by kernel_rfl
@[simp] theorem un3 : Tryz.prog.underlying 3 = some (.int .i64) := by kernel_rfl
@[simp] theorem at3 : appTy Tryz.prog 3 = false := by kernel_rfl
@[simp] theorem tz3 : tzero Tryz.prog 3 = some (.int .i64 (0)) := by kernel_rfl
@[simp] theorem ki4 : kindOf Tryz.prog 4 = .leaf := by kernel_rfl
@[simp] theorem un4 : Tryz.prog.underlying 4 = some .bool := by kernel_rfl
@[simp] theorem ib4 : isBoolT Tryz.prog 4 = true := by kernel_rfl
@[simp] theorem at4 : appTy Tryz.prog 4 = true := by kernel_rfl
@[simp] theorem tz4 : tzero Tryz.prog 4 = some (.bool false) := by kernel_rfl
@[simp] theorem ki5 : kindOf Tryz.prog 5 = .leaf := by kernel_rfl
@[simp] theorem un5 : Tryz.prog.underlying 5 = some (.int .u8) := by kernel_rfl
@[simp] theorem at5 : appTy Tryz.prog 5 = false := by kernel_rfl
@[simp] theorem tz5 : tzero Tryz.prog 5 = some (.int .u8 (0)) := by kernel_rfl
@[simp] theorem ki9 : kindOf Tryz.prog 9 = .leaf := by kernel_rfl
@[simp] theorem un9 : Tryz.prog.underlying 9 = some .string := by kernel_rfl
@[simp] theorem is9 : isStrT Tryz.prog 9 = true := by kernel_rfl
@[simp] theorem at9 : appTy Tryz.prog 9 = true := by kernel_rfl
@[simp] theorem tz9 : tzero Tryz.prog 9 = some (.str []) := by kernel_rfl
@[simp] theorem ki21 : kindOf Tryz.prog 21 = .leaf := by kernel_rfl
@[simp] theorem un21 : Tryz.prog.underlying 21 = some (.int .i32) := by kernel_rfl
@[simp] theorem at21 : appTy Tryz.prog 21 = false := by kernel_rfl
@[simp] theorem tz21 : tzero Tryz.prog 21 = some (.int .i32 (0)) := by kernel_rfl
@[simp] theorem ki22 : kindOf Tryz.prog 22 = .leaf := by kernel_rfl
@[simp] theorem un22 : Tryz.prog.underlying 22 = some (.slice 168) := by kernel_rfl
@[simp] theorem at22 : appTy Tryz.prog 22 = true := by kernel_rfl
@[simp] theorem el22 : elemOk Tryz.prog 22 = some 2 := by kernel_rfl
@[simp] theorem et22 : elemType Tryz.prog 22 = 168 := by kernel_rfl
@[simp] theorem tz22 : tzero Tryz.prog 22 = some (.nsl) := by kernel_rfl
@[simp] theorem ki24 : kindOf Tryz.prog 24 = .agg 23 := by kernel_rfl
@[simp] theorem at24 : appTy Tryz.prog 24 = true := by kernel_rfl
@[simp] theorem st24 : structT Tryz.prog 24 = some (23, 2) := by kernel_rfl
@[simp] theorem tz24 : tzero Tryz.prog 24 = some (.st 23 [.str [], .nsl]) := by kernel_rfl
@[simp] theorem ki25 : kindOf Tryz.prog 25 = .leaf := by kernel_rfl
@[simp] theorem un25 : Tryz.prog.underlying 25 = some (.slice 55) := by kernel_rfl
@[simp] theorem at25 : appTy Tryz.prog 25 = true := by kernel_rfl
@[simp] theorem el25 : elemOk Tryz.prog 25 = some 2 := by kernel_rfl
@[simp] theorem et25 : elemType Tryz.prog 25 = 55 := by kernel_rfl
@[simp] theorem tz25 : tzero Tryz.prog 25 = some (.nsl) := by kernel_rfl
@[simp] theorem ki27 : kindOf Tryz.prog 27 = .agg 26 := by kernel_rfl
@[simp] theorem at27 : appTy Tryz.prog 27 = true := by kernel_rfl
@[simp] theorem st27 : structT Tryz.prog 27 = some (26, 2) := by kernel_rfl
@[simp] theorem tz27 : tzero Tryz.prog 27 = some (.st 26 [.str [], .nsl]) := by kernel_rfl
@[simp] theorem ki32 : kindOf Tryz.prog 32 = .leaf := by kernel_rfl
@[simp] theorem un32 : Tryz.prog.underlying 32 = some (.int .i64) := by kernel_rfl
@[simp] theorem at32 : appTy Tryz.prog 32 = false := by kernel_rfl
@[simp] theorem tz32 : tzero Tryz.prog 32 = some (.int .i64 (0)) := by kernel_rfl
@[simp] theorem ki44 : kindOf Tryz.prog 44 = .leaf := by kernel_rfl
@[simp] theorem un44 : Tryz.prog.underlying 44 = some (.slice 9) := by kernel_rfl
@[simp] theorem at44 : appTy Tryz.prog 44 = true := by kernel_rfl
@[simp] theorem el44 : elemOk Tryz.prog 44 = some 1 := by kernel_rfl
@[simp] theorem et44 : elemType Tryz.prog 44 = 9 := by kernel_rfl
@[simp] theorem tz44 : tzero Tryz.prog 44 = some (.nsl) := by kernel_rfl
@[simp] theorem ki53 : kindOf Tryz.prog 53 = .leaf := by kernel_rfl
@[simp] theorem un53 : Tryz.prog.underlying 53 = some (.slice 3) := by kernel_rfl
@[simp] theorem at53 : appTy Tryz.prog 53 = true := by kernel_rfl
@[simp] theorem el53 : elemOk Tryz.prog 53 = some 1 := by kernel_rfl
@[simp] theorem et53 : elemType Tryz.prog 53 = 3 := by kernel_rfl
@[simp] theorem tz53 : tzero Tryz.prog 53 = some (.nsl) := by kernel_rfl
@[simp] theorem ki55 : kindOf Tryz.prog 55 = .agg 54 := by kernel_rfl
@[simp] theorem at55 : appTy Tryz.prog 55 = true := by kernel_rfl
@[simp] theorem st55 : structT Tryz.prog 55 = some (54, 2) := by kernel_rfl
@[simp] theorem tz55 : tzero Tryz.prog 55 = some (.st 54 [.str [], .nsl]) := by kernel_rfl
@[simp] theorem ki61 : kindOf Tryz.prog 61 = .agg 60 := by kernel_rfl
@[simp] theorem at61 : appTy Tryz.prog 61 = true := by kernel_rfl
@[simp] theorem st61 : structT Tryz.prog 61 = some (60, 5) := by kernel_rfl
@[simp] theorem tz61 : tzero Tryz.prog 61 = some (.st 60 [.int .i64 (0), .str [], .nsl, .nsl, .str []]) := by kernel_rfl
@[simp] theorem ki63 : kindOf Tryz.prog 63 = .leaf := by kernel_rfl
@[simp] theorem un63 : Tryz.prog.underlying 63 = some (.slice 61) := by kernel_rfl
@[simp] theorem at63 : appTy Tryz.prog 63 = true := by kernel_rfl
@[simp] theorem el63 : elemOk Tryz.prog 63 = some 5 := by kernel_rfl
@[simp] theorem et63 : elemType Tryz.prog 63 = 61 := by kernel_rfl
@[simp] theorem tz63 : tzero Tryz.prog 63 = some (.nsl) := by kernel_rfl
@[simp] theorem ki74 : kindOf Tryz.prog 74 = .leaf := by kernel_rfl
@[simp] theorem un74 : Tryz.prog.underlying 74 = some (.slice 148) := by kernel_rfl
@[simp] theorem at74 : appTy Tryz.prog 74 = true := by kernel_rfl
@[simp] theorem el74 : elemOk Tryz.prog 74 = some 5 := by kernel_rfl
@[simp] theorem et74 : elemType Tryz.prog 74 = 148 := by kernel_rfl
@[simp] theorem tz74 : tzero Tryz.prog 74 = some (.nsl) := by kernel_rfl
@[simp] theorem ki76 : kindOf Tryz.prog 76 = .agg 75 := by kernel_rfl
@[simp] theorem at76 : appTy Tryz.prog 76 = true := by kernel_rfl
@[simp] theorem st76 : structT Tryz.prog 76 = some (75, 1) := by kernel_rfl
@[simp] theorem tz76 : tzero Tryz.prog 76 = some (.st 75 [.nsl]) := by kernel_rfl
@[simp] theorem ki77 : kindOf Tryz.prog 77 = .agg 77 := by kernel_rfl
@[simp] theorem un77 : Tryz.prog.underlying 77 = some (.array 2 9) := by kernel_rfl
@[simp] theorem at77 : appTy Tryz.prog 77 = true := by kernel_rfl
@[simp] theorem ar77 : arrT Tryz.prog 77 = some (77, 2) := by kernel_rfl
@[simp] theorem tz77 : tzero Tryz.prog 77 = some (.st 77 [.str [], .str []]) := by kernel_rfl
@[simp] theorem ki78 : kindOf Tryz.prog 78 = .leaf := by kernel_rfl
@[simp] theorem un78 : Tryz.prog.underlying 78 = some (.slice 197) := by kernel_rfl
@[simp] theorem at78 : appTy Tryz.prog 78 = true := by kernel_rfl
@[simp] theorem el78 : elemOk Tryz.prog 78 = some 5 := by kernel_rfl
@[simp] theorem et78 : elemType Tryz.prog 78 = 197 := by kernel_rfl
@[simp] theorem tz78 : tzero Tryz.prog 78 = some (.nsl) := by kernel_rfl
@[simp] theorem ki104 : kindOf Tryz.prog 104 = .leaf := by kernel_rfl
@[simp] theorem un104 : Tryz.prog.underlying 104 = some (.pointer 240) := by kernel_rfl
@[simp] theorem at104 : appTy Tryz.prog 104 = true := by kernel_rfl
@[simp] theorem tz104 : tzero Tryz.prog 104 = some (.nptr) := by kernel_rfl
@[simp] theorem ki121 : kindOf Tryz.prog 121 = .leaf := by kernel_rfl
@[simp] theorem un121 : Tryz.prog.underlying 121 = some (.int .u16) := by kernel_rfl
@[simp] theorem at121 : appTy Tryz.prog 121 = false := by kernel_rfl
@[simp] theorem tz121 : tzero Tryz.prog 121 = some (.int .u16 (0)) := by kernel_rfl
@[simp] theorem ki122 : kindOf Tryz.prog 122 = .agg 122 := by kernel_rfl
@[simp] theorem un122 : Tryz.prog.underlying 122 = some (.array 3 121) := by kernel_rfl
@[simp] theorem at122 : appTy Tryz.prog 122 = true := by kernel_rfl
@[simp] theorem ar122 : arrT Tryz.prog 122 = some (122, 3) := by kernel_rfl
@[simp] theorem tz122 : tzero Tryz.prog 122 = some (.st 122 [.int .u16 (0), .int .u16 (0), .int .u16 (0)]) := by kernel_rfl
@[simp] theorem ki126 : kindOf Tryz.prog 126 = .leaf := by kernel_rfl
@[simp] theorem un126 : Tryz.prog.underlying 126 = some (.slice 5) := by kernel_rfl
@[simp] theorem at126 : appTy Tryz.prog 126 = true := by kernel_rfl
@[simp] theorem el126 : elemOk Tryz.prog 126 = some 1 := by kernel_rfl
@[simp] theorem et126 : elemType Tryz.prog 126 = 5 := by kernel_rfl
@[simp] theorem tz126 : tzero Tryz.prog 126 = some (.nsl) := by kernel_rfl
@[simp] theorem ki128 : kindOf Tryz.prog 128 = .leaf := by kernel_rfl
@[simp] theorem un128 : Tryz.prog.underlying 128 = some (.slice 266) := by kernel_rfl
@[simp] theorem at128 : appTy Tryz.prog 128 = true := by kernel_rfl
@[simp] theorem el128 : elemOk Tryz.prog 128 = some 3 := by kernel_rfl
@[simp] theorem et128 : elemType Tryz.prog 128 = 266 := by kernel_rfl
@[simp] theorem tz128 : tzero Tryz.prog 128 = some (.nsl) := by kernel_rfl
@[simp] theorem ki129 : kindOf Tryz.prog 129 = .leaf := by kernel_rfl
@[simp] theorem un129 : Tryz.prog.underlying 129 = some (.slice 268) := by kernel_rfl
@[simp] theorem at129 : appTy Tryz.prog 129 = true := by kernel_rfl
@[simp] theorem el129 : elemOk Tryz.prog 129 = some 3 := by kernel_rfl
@[simp] theorem et129 : elemType Tryz.prog 129 = 268 := by kernel_rfl
@[simp] theorem tz129 : tzero Tryz.prog 129 = some (.nsl) := by kernel_rfl
@[simp] theorem ki145 : kindOf Tryz.prog 145 = .agg 145 := by kernel_rfl
@[simp] theorem un145 : Tryz.prog.underlying 145 = some (.array 3 5) := by kernel_rfl
@[simp] theorem at145 : appTy Tryz.prog 145 = true := by kernel_rfl
@[simp] theorem ar145 : arrT Tryz.prog 145 = some (145, 3) := by kernel_rfl
@[simp] theorem tz145 : tzero Tryz.prog 145 = some (.st 145 [.int .u8 (0), .int .u8 (0), .int .u8 (0)]) := by kernel_rfl
@[simp] theorem ki146 : kindOf Tryz.prog 146 = .agg 146 := by kernel_rfl
@[simp] theorem un146 : Tryz.prog.underlying 146 = some (.array 3 76) := by kernel_rfl
@[simp] theorem at146 : appTy Tryz.prog 146 = true := by kernel_rfl
@[simp] theorem ar146 : arrT Tryz.prog 146 = some (146, 3) := by kernel_rfl
@[simp] theorem tz146 : tzero Tryz.prog 146 = some (.st 146 [.st 75 [.nsl], .st 75 [.nsl], .st 75 [.nsl]]) := by kernel_rfl
@[simp] theorem ki148 : kindOf Tryz.prog 148 = .agg 147 := by kernel_rfl
@[simp] theorem at148 : appTy Tryz.prog 148 = true := by kernel_rfl
@[simp] theorem st148 : structT Tryz.prog 148 = some (147, 4) := by kernel_rfl
@[simp] theorem tz148 : tzero Tryz.prog 148 = some (.st 147 [.str [], .int .i64 (0), .nsl, .st 23 [.str [], .nsl]]) := by kernel_rfl
@[simp] theorem ki162 : kindOf Tryz.prog 162 = .agg 161 := by kernel_rfl
@[simp] theorem at162 : appTy Tryz.prog 162 = true := by kernel_rfl
@[simp] theorem st162 : structT Tryz.prog 162 = some (161, 2) := by kernel_rfl
@[simp] theorem tz162 : tzero Tryz.prog 162 = some (.st 161 [.nptr, .nsl]) := by kernel_rfl
@[simp] theorem ki164 : kindOf Tryz.prog 164 = .leaf := by kernel_rfl
@[simp] theorem at164 : appTy Tryz.prog 164 = true := by kernel_rfl
@[simp] theorem ki168 : kindOf Tryz.prog 168 = .agg 54 := by kernel_rfl
@[simp] theorem at168 : appTy Tryz.prog 168 = true := by kernel_rfl
@[simp] theorem st168 : structT Tryz.prog 168 = some (54, 2) := by kernel_rfl
@[simp] theorem tz168 : tzero Tryz.prog 168 = some (.st 54 [.str [], .nsl]) := by kernel_rfl
@[simp] theorem ki197 : kindOf Tryz.prog 197 = .agg 196 := by kernel_rfl
@[simp] theorem at197 : appTy Tryz.prog 197 = true := by kernel_rfl
@[simp] theorem st197 : structT Tryz.prog 197 = some (196, 4) := by kernel_rfl
@[simp] theorem tz197 : tzero Tryz.prog 197 = some (.st 196 [.str [], .int .i64 (0), .nsl, .st 26 [.str [], .nsl]]) := by kernel_rfl
@[simp] theorem ki198 : kindOf Tryz.prog 198 = .leaf := by kernel_rfl
@[simp] theorem un198 : Tryz.prog.underlying 198 = some (.pointer 298) := by kernel_rfl
@[simp] theorem at198 : appTy Tryz.prog 198 = true := by kernel_rfl
@[simp] theorem tz198 : tzero Tryz.prog 198 = some (.nptr) := by kernel_rfl
@[simp] theorem ki201 : kindOf Tryz.prog 201 = .leaf := by kernel_rfl
@[simp] theorem un201 : Tryz.prog.underlying 201 = some (.map 9 4) := by kernel_rfl
@[simp] theorem at201 : appTy Tryz.prog 201 = true := by kernel_rfl
@[simp] theorem tz201 : tzero Tryz.prog 201 = some (.nmap) := by kernel_rfl
@[simp] theorem ki209 : kindOf Tryz.prog 209 = .leaf := by kernel_rfl
@[simp] theorem at209 : appTy Tryz.prog 209 = true := by kernel_rfl
@[simp] theorem tz209 : tzero Tryz.prog 209 = some (.nfunc) := by kernel_rfl
@[simp] theorem ki215 : kindOf Tryz.prog 215 = .leaf := by kernel_rfl
@[simp] theorem un215 : Tryz.prog.underlying 215 = some (.pointer 238) := by kernel_rfl
@[simp] theorem at215 : appTy Tryz.prog 215 = true := by kernel_rfl
@[simp] theorem tz215 : tzero Tryz.prog 215 = some (.nptr) := by kernel_rfl
@[simp] theorem ki220 : kindOf Tryz.prog 220 = .leaf := by kernel_rfl
@[simp] theorem at220 : appTy Tryz.prog 220 = true := by kernel_rfl
@[simp] theorem tz220 : tzero Tryz.prog 220 = some (.nfunc) := by kernel_rfl
@[simp] theorem ki222 : kindOf Tryz.prog 222 = .leaf := by kernel_rfl
@[simp] theorem un222 : Tryz.prog.underlying 222 = some (.slice 25) := by kernel_rfl
@[simp] theorem at222 : appTy Tryz.prog 222 = true := by kernel_rfl
@[simp] theorem el222 : elemOk Tryz.prog 222 = some 1 := by kernel_rfl
@[simp] theorem et222 : elemType Tryz.prog 222 = 25 := by kernel_rfl
@[simp] theorem tz222 : tzero Tryz.prog 222 = some (.nsl) := by kernel_rfl
@[simp] theorem ki224 : kindOf Tryz.prog 224 = .agg 223 := by kernel_rfl
@[simp] theorem at224 : appTy Tryz.prog 224 = true := by kernel_rfl
@[simp] theorem st224 : structT Tryz.prog 224 = some (223, 2) := by kernel_rfl
@[simp] theorem tz224 : tzero Tryz.prog 224 = some (.st 223 [.nsl, .nsl]) := by kernel_rfl
@[simp] theorem ki230 : kindOf Tryz.prog 230 = .agg 229 := by kernel_rfl
@[simp] theorem at230 : appTy Tryz.prog 230 = true := by kernel_rfl
@[simp] theorem st230 : structT Tryz.prog 230 = some (229, 4) := by kernel_rfl
@[simp] theorem tz230 : tzero Tryz.prog 230 = some (.st 229 [.int .i64 (0), .int .i64 (0), .bool false, .nfunc]) := by kernel_rfl
@[simp] theorem ki232 : kindOf Tryz.prog 232 = .leaf := by kernel_rfl
@[simp] theorem un232 : Tryz.prog.underlying 232 = some (.map 9 230) := by kernel_rfl
@[simp] theorem at232 : appTy Tryz.prog 232 = true := by kernel_rfl
@[simp] theorem tz232 : tzero Tryz.prog 232 = some (.nmap) := by kernel_rfl
@[simp] theorem ki238 : kindOf Tryz.prog 238 = .agg 237 := by kernel_rfl
@[simp] theorem at238 : appTy Tryz.prog 238 = true := by kernel_rfl
@[simp] theorem st238 : structT Tryz.prog 238 = some (237, 2) := by kernel_rfl
@[simp] theorem tz238 : tzero Tryz.prog 238 = some (.st 237 [.nsl, .nsl]) := by kernel_rfl
@[simp] theorem ki240 : kindOf Tryz.prog 240 = .agg 239 := by kernel_rfl
@[simp] theorem at240 : appTy Tryz.prog 240 = true := by kernel_rfl
@[simp] theorem st240 : structT Tryz.prog 240 = some (239, 1) := by kernel_rfl
@[simp] theorem tz240 : tzero Tryz.prog 240 = some (.st 239 [.st 237 [.nsl, .nsl]]) := by kernel_rfl
@[simp] theorem ki245 : kindOf Tryz.prog 245 = .leaf := by kernel_rfl
@[simp] theorem at245 : appTy Tryz.prog 245 = true := by kernel_rfl
@[simp] theorem tz245 : tzero Tryz.prog 245 = some (.nfunc) := by kernel_rfl
@[simp] theorem ki248 : kindOf Tryz.prog 248 = .agg 247 := by kernel_rfl
@[simp] theorem at248 : appTy Tryz.prog 248 = true := by kernel_rfl
@[simp] theorem st248 : structT Tryz.prog 248 = some (247, 2) := by kernel_rfl
@[simp] theorem tz248 : tzero Tryz.prog 248 = some (.st 247 [.int .i64 (0), .nfunc]) := by kernel_rfl
@[simp] theorem ki250 : kindOf Tryz.prog 250 = .leaf := by kernel_rfl
@[simp] theorem un250 : Tryz.prog.underlying 250 = some (.map 9 248) := by kernel_rfl
@[simp] theorem at250 : appTy Tryz.prog 250 = true := by kernel_rfl
@[simp] theorem tz250 : tzero Tryz.prog 250 = some (.nmap) := by kernel_rfl
@[simp] theorem ki261 : kindOf Tryz.prog 261 = .leaf := by kernel_rfl
@[simp] theorem un261 : Tryz.prog.underlying 261 = some (.int .u64) := by kernel_rfl
@[simp] theorem at261 : appTy Tryz.prog 261 = false := by kernel_rfl
@[simp] theorem tz261 : tzero Tryz.prog 261 = some (.int .u64 (0)) := by kernel_rfl
@[simp] theorem ki266 : kindOf Tryz.prog 266 = .agg 265 := by kernel_rfl
@[simp] theorem at266 : appTy Tryz.prog 266 = true := by kernel_rfl
@[simp] theorem st266 : structT Tryz.prog 266 = some (265, 2) := by kernel_rfl
@[simp] theorem tz266 : tzero Tryz.prog 266 = some (.st 265 [.str [], .st 54 [.str [], .nsl]]) := by kernel_rfl
@[simp] theorem ki268 : kindOf Tryz.prog 268 = .agg 267 := by kernel_rfl
@[simp] theorem at268 : appTy Tryz.prog 268 = true := by kernel_rfl
@[simp] theorem st268 : structT Tryz.prog 268 = some (267, 2) := by kernel_rfl
@[simp] theorem tz268 : tzero Tryz.prog 268 = some (.st 267 [.str [], .st 54 [.str [], .nsl]]) := by kernel_rfl
@[simp] theorem ki270 : kindOf Tryz.prog 270 = .leaf := by kernel_rfl
@[simp] theorem at270 : appTy Tryz.prog 270 = true := by kernel_rfl
@[simp] theorem tz270 : tzero Tryz.prog 270 = some (.nfunc) := by kernel_rfl
@[simp] theorem ki271 : kindOf Tryz.prog 271 = .leaf := by kernel_rfl
@[simp] theorem at271 : appTy Tryz.prog 271 = true := by kernel_rfl
@[simp] theorem tz271 : tzero Tryz.prog 271 = some (.nfunc) := by kernel_rfl
@[simp] theorem ki272 : kindOf Tryz.prog 272 = .leaf := by kernel_rfl
@[simp] theorem at272 : appTy Tryz.prog 272 = true := by kernel_rfl
@[simp] theorem tz272 : tzero Tryz.prog 272 = some (.nfunc) := by kernel_rfl
@[simp] theorem ki275 : kindOf Tryz.prog 275 = .leaf := by kernel_rfl
@[simp] theorem un275 : Tryz.prog.underlying 275 = some (.map 9 9) := by kernel_rfl
@[simp] theorem at275 : appTy Tryz.prog 275 = true := by kernel_rfl
@[simp] theorem tz275 : tzero Tryz.prog 275 = some (.nmap) := by kernel_rfl
@[simp] theorem ki276 : kindOf Tryz.prog 276 = .leaf := by kernel_rfl
@[simp] theorem at276 : appTy Tryz.prog 276 = true := by kernel_rfl
@[simp] theorem tz276 : tzero Tryz.prog 276 = some (.nfunc) := by kernel_rfl
@[simp] theorem ki277 : kindOf Tryz.prog 277 = .leaf := by kernel_rfl
@[simp] theorem un277 : Tryz.prog.underlying 277 = some (.slice 53) := by kernel_rfl
@[simp] theorem at277 : appTy Tryz.prog 277 = true := by kernel_rfl
@[simp] theorem el277 : elemOk Tryz.prog 277 = some 1 := by kernel_rfl
@[simp] theorem et277 : elemType Tryz.prog 277 = 53 := by kernel_rfl
@[simp] theorem tz277 : tzero Tryz.prog 277 = some (.nsl) := by kernel_rfl
@[simp] theorem ki280 : kindOf Tryz.prog 280 = .leaf := by kernel_rfl
@[simp] theorem un280 : Tryz.prog.underlying 280 = some (.slice 32) := by kernel_rfl
@[simp] theorem at280 : appTy Tryz.prog 280 = true := by kernel_rfl
@[simp] theorem el280 : elemOk Tryz.prog 280 = some 1 := by kernel_rfl
@[simp] theorem et280 : elemType Tryz.prog 280 = 32 := by kernel_rfl
@[simp] theorem tz280 : tzero Tryz.prog 280 = some (.nsl) := by kernel_rfl
@[simp] theorem ki289 : kindOf Tryz.prog 289 = .leaf := by kernel_rfl
@[simp] theorem un289 : Tryz.prog.underlying 289 = some (.map 9 168) := by kernel_rfl
@[simp] theorem at289 : appTy Tryz.prog 289 = true := by kernel_rfl
@[simp] theorem tz289 : tzero Tryz.prog 289 = some (.nmap) := by kernel_rfl
@[simp] theorem ki292 : kindOf Tryz.prog 292 = .leaf := by kernel_rfl
@[simp] theorem at292 : appTy Tryz.prog 292 = true := by kernel_rfl
@[simp] theorem tz292 : tzero Tryz.prog 292 = some (.nfunc) := by kernel_rfl
@[simp] theorem ki294 : kindOf Tryz.prog 294 = .agg 293 := by kernel_rfl
@[simp] theorem at294 : appTy Tryz.prog 294 = true := by kernel_rfl
@[simp] theorem st294 : structT Tryz.prog 294 = some (293, 2) := by kernel_rfl
@[simp] theorem tz294 : tzero Tryz.prog 294 = some (.st 293 [.bool false, .str []]) := by kernel_rfl
@[simp] theorem ki298 : kindOf Tryz.prog 298 = .agg 297 := by kernel_rfl
@[simp] theorem at298 : appTy Tryz.prog 298 = true := by kernel_rfl
@[simp] theorem st298 : structT Tryz.prog 298 = some (297, 2) := by kernel_rfl
@[simp] theorem tz298 : tzero Tryz.prog 298 = some (.st 297 [.st 75 [.nsl], .nmap]) := by kernel_rfl
@[simp] theorem ki303 : kindOf Tryz.prog 303 = .leaf := by kernel_rfl
@[simp] theorem at303 : appTy Tryz.prog 303 = true := by kernel_rfl
@[simp] theorem tz303 : tzero Tryz.prog 303 = some (.nfunc) := by kernel_rfl
@[simp] theorem ki307 : kindOf Tryz.prog 307 = .leaf := by kernel_rfl
@[simp] theorem un307 : Tryz.prog.underlying 307 = some (.map 9 3) := by kernel_rfl
@[simp] theorem at307 : appTy Tryz.prog 307 = true := by kernel_rfl
@[simp] theorem tz307 : tzero Tryz.prog 307 = some (.nmap) := by kernel_rfl
@[simp] theorem ki325 : kindOf Tryz.prog 325 = .leaf := by kernel_rfl
@[simp] theorem at325 : appTy Tryz.prog 325 = true := by kernel_rfl
@[simp] theorem tz325 : tzero Tryz.prog 325 = some (.nfunc) := by kernel_rfl
@[simp] theorem ki330 : kindOf Tryz.prog 330 = .agg 329 := by kernel_rfl
@[simp] theorem un330 : Tryz.prog.underlying 330 = some (.array 256 4) := by kernel_rfl
@[simp] theorem at330 : appTy Tryz.prog 330 = true := by kernel_rfl
@[simp] theorem ar330 : arrT Tryz.prog 330 = some (329, 256) := by kernel_rfl
@[simp] theorem ki334 : kindOf Tryz.prog 334 = .leaf := by kernel_rfl
@[simp] theorem un334 : Tryz.prog.underlying 334 = some (.pointer 330) := by kernel_rfl
@[simp] theorem at334 : appTy Tryz.prog 334 = true := by kernel_rfl
@[simp] theorem tz334 : tzero Tryz.prog 334 = some (.nptr) := by kernel_rfl
@[simp] theorem ki346 : kindOf Tryz.prog 346 = .agg 345 := by kernel_rfl
@[simp] theorem at346 : appTy Tryz.prog 346 = true := by kernel_rfl
@[simp] theorem st346 : structT Tryz.prog 346 = some (345, 2) := by kernel_rfl
@[simp] theorem tz346 : tzero Tryz.prog 346 = some (.st 345 [.bool false, .nsl]) := by kernel_rfl
@[simp] theorem ki350 : kindOf Tryz.prog 350 = .leaf := by kernel_rfl
@[simp] theorem un350 : Tryz.prog.underlying 350 = some (.int .i64) := by kernel_rfl
@[simp] theorem at350 : appTy Tryz.prog 350 = false := by kernel_rfl
@[simp] theorem tz350 : tzero Tryz.prog 350 = some (.int .i64 (0)) := by kernel_rfl
@[simp] theorem ki378 : kindOf Tryz.prog 378 = .leaf := by kernel_rfl
@[simp] theorem un378 : Tryz.prog.underlying 378 = some (.int .u64) := by kernel_rfl
@[simp] theorem at378 : appTy Tryz.prog 378 = false := by kernel_rfl
@[simp] theorem tz378 : tzero Tryz.prog 378 = some (.int .u64 (0)) := by kernel_rfl
@[simp] theorem ki382 : kindOf Tryz.prog 382 = .leaf := by kernel_rfl
@[simp] theorem un382 : Tryz.prog.underlying 382 = some (.pointer 3) := by kernel_rfl
@[simp] theorem at382 : appTy Tryz.prog 382 = true := by kernel_rfl
@[simp] theorem tz382 : tzero Tryz.prog 382 = some (.nptr) := by kernel_rfl
@[simp] theorem ki388 : kindOf Tryz.prog 388 = .leaf := by kernel_rfl
@[simp] theorem un388 : Tryz.prog.underlying 388 = some (.int .i64) := by kernel_rfl
@[simp] theorem at388 : appTy Tryz.prog 388 = false := by kernel_rfl
@[simp] theorem tz388 : tzero Tryz.prog 388 = some (.int .i64 (0)) := by kernel_rfl
@[simp] theorem ki391 : kindOf Tryz.prog 391 = .leaf := by kernel_rfl
@[simp] theorem un391 : Tryz.prog.underlying 391 = some (.pointer 406) := by kernel_rfl
@[simp] theorem at391 : appTy Tryz.prog 391 = true := by kernel_rfl
@[simp] theorem tz391 : tzero Tryz.prog 391 = some (.nptr) := by kernel_rfl
@[simp] theorem ki406 : kindOf Tryz.prog 406 = .agg 405 := by kernel_rfl
@[simp] theorem at406 : appTy Tryz.prog 406 = true := by kernel_rfl
@[simp] theorem st406 : structT Tryz.prog 406 = some (405, 3) := by kernel_rfl
@[simp] theorem sz23 : szs Tryz.prog 23 = some [1, 1] := by kernel_rfl
@[simp] theorem ss23 : shpSize Tryz.prog (.agg 23) = 2 := by kernel_rfl
@[simp] theorem sz26 : szs Tryz.prog 26 = some [1, 1] := by kernel_rfl
@[simp] theorem ss26 : shpSize Tryz.prog (.agg 26) = 2 := by kernel_rfl
@[simp] theorem sz54 : szs Tryz.prog 54 = some [1, 1] := by kernel_rfl
@[simp] theorem ss54 : shpSize Tryz.prog (.agg 54) = 2 := by kernel_rfl
@[simp] theorem sz60 : szs Tryz.prog 60 = some [1, 1, 1, 1, 1] := by kernel_rfl
@[simp] theorem ss60 : shpSize Tryz.prog (.agg 60) = 5 := by kernel_rfl
@[simp] theorem sz75 : szs Tryz.prog 75 = some [1] := by kernel_rfl
@[simp] theorem ss75 : shpSize Tryz.prog (.agg 75) = 1 := by kernel_rfl
@[simp] theorem sz77 : szs Tryz.prog 77 = some [1, 1] := by kernel_rfl
@[simp] theorem ss77 : shpSize Tryz.prog (.agg 77) = 2 := by kernel_rfl
@[simp] theorem sz122 : szs Tryz.prog 122 = some [1, 1, 1] := by kernel_rfl
@[simp] theorem ss122 : shpSize Tryz.prog (.agg 122) = 3 := by kernel_rfl
@[simp] theorem sz145 : szs Tryz.prog 145 = some [1, 1, 1] := by kernel_rfl
@[simp] theorem ss145 : shpSize Tryz.prog (.agg 145) = 3 := by kernel_rfl
@[simp] theorem sz146 : szs Tryz.prog 146 = some [1, 1, 1] := by kernel_rfl
@[simp] theorem ss146 : shpSize Tryz.prog (.agg 146) = 3 := by kernel_rfl
@[simp] theorem sz147 : szs Tryz.prog 147 = some [1, 1, 1, 2] := by kernel_rfl
@[simp] theorem ss147 : shpSize Tryz.prog (.agg 147) = 5 := by kernel_rfl
@[simp] theorem sz161 : szs Tryz.prog 161 = some [1, 1] := by kernel_rfl
@[simp] theorem ss161 : shpSize Tryz.prog (.agg 161) = 2 := by kernel_rfl
@[simp] theorem sz196 : szs Tryz.prog 196 = some [1, 1, 1, 2] := by kernel_rfl
@[simp] theorem ss196 : shpSize Tryz.prog (.agg 196) = 5 := by kernel_rfl
@[simp] theorem sz223 : szs Tryz.prog 223 = some [1, 1] := by kernel_rfl
@[simp] theorem ss223 : shpSize Tryz.prog (.agg 223) = 2 := by kernel_rfl
@[simp] theorem sz229 : szs Tryz.prog 229 = some [1, 1, 1, 1] := by kernel_rfl
@[simp] theorem ss229 : shpSize Tryz.prog (.agg 229) = 4 := by kernel_rfl
@[simp] theorem sz237 : szs Tryz.prog 237 = some [1, 1] := by kernel_rfl
@[simp] theorem ss237 : shpSize Tryz.prog (.agg 237) = 2 := by kernel_rfl
@[simp] theorem sz239 : szs Tryz.prog 239 = some [2] := by kernel_rfl
@[simp] theorem ss239 : shpSize Tryz.prog (.agg 239) = 2 := by kernel_rfl
@[simp] theorem sz247 : szs Tryz.prog 247 = some [1, 1] := by kernel_rfl
@[simp] theorem ss247 : shpSize Tryz.prog (.agg 247) = 2 := by kernel_rfl
@[simp] theorem sz265 : szs Tryz.prog 265 = some [1, 2] := by kernel_rfl
@[simp] theorem ss265 : shpSize Tryz.prog (.agg 265) = 3 := by kernel_rfl
@[simp] theorem sz267 : szs Tryz.prog 267 = some [1, 2] := by kernel_rfl
@[simp] theorem ss267 : shpSize Tryz.prog (.agg 267) = 3 := by kernel_rfl
@[simp] theorem sz293 : szs Tryz.prog 293 = some [1, 1] := by kernel_rfl
@[simp] theorem ss293 : shpSize Tryz.prog (.agg 293) = 2 := by kernel_rfl
@[simp] theorem sz297 : szs Tryz.prog 297 = some [1, 1] := by kernel_rfl
@[simp] theorem ss297 : shpSize Tryz.prog (.agg 297) = 2 := by kernel_rfl
@[simp] theorem sz345 : szs Tryz.prog 345 = some [1, 1] := by kernel_rfl
@[simp] theorem ss345 : shpSize Tryz.prog (.agg 345) = 2 := by kernel_rfl
@[simp] theorem sz405 : szs Tryz.prog 405 = some [1, 1, 1] := by kernel_rfl
@[simp] theorem ss405 : shpSize Tryz.prog (.agg 405) = 3 := by kernel_rfl
@[simp] theorem bx23 : (Gl.bx 23 : Option TypeId) = none := (rfl)
@[simp] theorem bx26 : (Gl.bx 26 : Option TypeId) = none := (rfl)
@[simp] theorem bx54 : (Gl.bx 54 : Option TypeId) = none := (rfl)
@[simp] theorem bx60 : (Gl.bx 60 : Option TypeId) = none := (rfl)
@[simp] theorem bx75 : (Gl.bx 75 : Option TypeId) = none := (rfl)
@[simp] theorem bx77 : (Gl.bx 77 : Option TypeId) = none := (rfl)
@[simp] theorem bx122 : (Gl.bx 122 : Option TypeId) = none := (rfl)
@[simp] theorem bx145 : (Gl.bx 145 : Option TypeId) = none := (rfl)
@[simp] theorem bx146 : (Gl.bx 146 : Option TypeId) = none := (rfl)
@[simp] theorem bx147 : (Gl.bx 147 : Option TypeId) = none := (rfl)
@[simp] theorem bx161 : (Gl.bx 161 : Option TypeId) = some 162 := (rfl)
@[simp] theorem bx196 : (Gl.bx 196 : Option TypeId) = none := (rfl)
@[simp] theorem bx223 : (Gl.bx 223 : Option TypeId) = none := (rfl)
@[simp] theorem bx229 : (Gl.bx 229 : Option TypeId) = none := (rfl)
@[simp] theorem bx237 : (Gl.bx 237 : Option TypeId) = none := (rfl)
@[simp] theorem bx239 : (Gl.bx 239 : Option TypeId) = none := (rfl)
@[simp] theorem bx247 : (Gl.bx 247 : Option TypeId) = none := (rfl)
@[simp] theorem bx265 : (Gl.bx 265 : Option TypeId) = none := (rfl)
@[simp] theorem bx267 : (Gl.bx 267 : Option TypeId) = none := (rfl)
@[simp] theorem bx293 : (Gl.bx 293 : Option TypeId) = none := (rfl)
@[simp] theorem bx297 : (Gl.bx 297 : Option TypeId) = none := (rfl)
@[simp] theorem bx329 : (Gl.bx 329 : Option TypeId) = none := (rfl)
@[simp] theorem bx345 : (Gl.bx 345 : Option TypeId) = none := (rfl)
@[simp] theorem bx405 : (Gl.bx 405 : Option TypeId) = none := (rfl)
@[simp] theorem co23 : Tryz.prog.cellsOf 23 = 2 := by kernel_rfl
@[simp] theorem co26 : Tryz.prog.cellsOf 26 = 2 := by kernel_rfl
@[simp] theorem co54 : Tryz.prog.cellsOf 54 = 2 := by kernel_rfl
@[simp] theorem co60 : Tryz.prog.cellsOf 60 = 5 := by kernel_rfl
@[simp] theorem co75 : Tryz.prog.cellsOf 75 = 1 := by kernel_rfl
@[simp] theorem co77 : Tryz.prog.cellsOf 77 = 2 := by kernel_rfl
@[simp] theorem co122 : Tryz.prog.cellsOf 122 = 3 := by kernel_rfl
@[simp] theorem co145 : Tryz.prog.cellsOf 145 = 3 := by kernel_rfl
@[simp] theorem co146 : Tryz.prog.cellsOf 146 = 3 := by kernel_rfl
@[simp] theorem co147 : Tryz.prog.cellsOf 147 = 5 := by kernel_rfl
@[simp] theorem co161 : Tryz.prog.cellsOf 161 = 2 := by kernel_rfl
@[simp] theorem co196 : Tryz.prog.cellsOf 196 = 5 := by kernel_rfl
@[simp] theorem co223 : Tryz.prog.cellsOf 223 = 2 := by kernel_rfl
@[simp] theorem co229 : Tryz.prog.cellsOf 229 = 4 := by kernel_rfl
@[simp] theorem co237 : Tryz.prog.cellsOf 237 = 2 := by kernel_rfl
@[simp] theorem co239 : Tryz.prog.cellsOf 239 = 2 := by kernel_rfl
@[simp] theorem co247 : Tryz.prog.cellsOf 247 = 2 := by kernel_rfl
@[simp] theorem co265 : Tryz.prog.cellsOf 265 = 3 := by kernel_rfl
@[simp] theorem co267 : Tryz.prog.cellsOf 267 = 3 := by kernel_rfl
@[simp] theorem co293 : Tryz.prog.cellsOf 293 = 2 := by kernel_rfl
@[simp] theorem co297 : Tryz.prog.cellsOf 297 = 2 := by kernel_rfl
@[simp] theorem co345 : Tryz.prog.cellsOf 345 = 2 := by kernel_rfl
@[simp] theorem co405 : Tryz.prog.cellsOf 405 = 3 := by kernel_rfl
end Go.Abs

/-
  The functions of the program: their bodies are such as the theory takes.
-/
namespace Go.Abs
open Go.Proofs
theorem mix : Tryz.prog.follows .mixedOrders = true := by kernel_rfl
abbrev nf : FuncId → Bool := fun _ => false
theorem isF3 : IsFn Tryz.prog 3 Tryz.f3 := ⟨Tryz.func3, by kernel_rfl⟩
theorem isF4 : IsFn Tryz.prog 4 Tryz.f4 := ⟨Tryz.func4, by kernel_rfl⟩
theorem isF5 : IsFn Tryz.prog 5 Tryz.f5 := ⟨Tryz.func5, by kernel_rfl⟩
theorem isF6 : IsFn Tryz.prog 6 Tryz.f6 := ⟨Tryz.func6, by kernel_rfl⟩
theorem isF7 : IsFn Tryz.prog 7 Tryz.f7 := ⟨Tryz.func7, by kernel_rfl⟩
theorem isF8 : IsFn Tryz.prog 8 Tryz.f8 := ⟨Tryz.func8, by kernel_rfl⟩
theorem isF9 : IsFn Tryz.prog 9 Tryz.f9 := ⟨Tryz.func9, by kernel_rfl⟩
theorem isF10 : IsFn Tryz.prog 10 Tryz.f10 := ⟨Tryz.func10, by kernel_rfl⟩
theorem isF11 : IsFn Tryz.prog 11 Tryz.f11 := ⟨Tryz.func11, by kernel_rfl⟩
theorem isF12 : IsFn Tryz.prog 12 Tryz.f12 := ⟨Tryz.func12, by kernel_rfl⟩
theorem isF13 : IsFn Tryz.prog 13 Tryz.f13 := ⟨Tryz.func13, by kernel_rfl⟩
theorem isF14 : IsFn Tryz.prog 14 Tryz.f14 := ⟨Tryz.func14, by kernel_rfl⟩
theorem isF15 : IsFn Tryz.prog 15 Tryz.f15 := ⟨Tryz.func15, by kernel_rfl⟩
theorem isF16 : IsFn Tryz.prog 16 Tryz.f16 := ⟨Tryz.func16, by kernel_rfl⟩
theorem isF17 : IsFn Tryz.prog 17 Tryz.f17 := ⟨Tryz.func17, by kernel_rfl⟩
theorem isF18 : IsFn Tryz.prog 18 Tryz.f18 := ⟨Tryz.func18, by kernel_rfl⟩
theorem isF19 : IsFn Tryz.prog 19 Tryz.f19 := ⟨Tryz.func19, by kernel_rfl⟩
theorem isF20 : IsFn Tryz.prog 20 Tryz.f20 := ⟨Tryz.func20, by kernel_rfl⟩
theorem isF21 : IsFn Tryz.prog 21 Tryz.f21 := ⟨Tryz.func21, by kernel_rfl⟩
theorem isF22 : IsFn Tryz.prog 22 Tryz.f22 := ⟨Tryz.func22, by kernel_rfl⟩
theorem isF23 : IsFn Tryz.prog 23 Tryz.f23 := ⟨Tryz.func23, by kernel_rfl⟩
theorem isF24 : IsFn Tryz.prog 24 Tryz.f24 := ⟨Tryz.func24, by kernel_rfl⟩
theorem isF25 : IsFn Tryz.prog 25 Tryz.f25 := ⟨Tryz.func25, by kernel_rfl⟩
theorem isF26 : IsFn Tryz.prog 26 Tryz.f26 := ⟨Tryz.func26, by kernel_rfl⟩
theorem isF27 : IsFn Tryz.prog 27 Tryz.f27 := ⟨Tryz.func27, by kernel_rfl⟩
theorem isF28 : IsFn Tryz.prog 28 Tryz.f28 := ⟨Tryz.func28, by kernel_rfl⟩
theorem isF29 : IsFn Tryz.prog 29 Tryz.f29 := ⟨Tryz.func29, by kernel_rfl⟩
theorem isF30 : IsFn Tryz.prog 30 Tryz.f30 := ⟨Tryz.func30, by kernel_rfl⟩
theorem isF31 : IsFn Tryz.prog 31 Tryz.f31 := ⟨Tryz.func31, by kernel_rfl⟩
theorem isF32 : IsFn Tryz.prog 32 Tryz.f32 := ⟨Tryz.func32, by kernel_rfl⟩
theorem isF33 : IsFn Tryz.prog 33 Tryz.f33 := ⟨Tryz.func33, by kernel_rfl⟩
theorem isF34 : IsFn Tryz.prog 34 Tryz.f34 := ⟨Tryz.func34, by kernel_rfl⟩
theorem isF35 : IsFn Tryz.prog 35 Tryz.f35 := ⟨Tryz.func35, by kernel_rfl⟩
theorem isF36 : IsFn Tryz.prog 36 Tryz.f36 := ⟨Tryz.func36, by kernel_rfl⟩
theorem isF37 : IsFn Tryz.prog 37 Tryz.f37 := ⟨Tryz.func37, by kernel_rfl⟩
theorem isF38 : IsFn Tryz.prog 38 Tryz.f38 := ⟨Tryz.func38, by kernel_rfl⟩
theorem isF39 : IsFn Tryz.prog 39 Tryz.f39 := ⟨Tryz.func39, by kernel_rfl⟩
theorem isF40 : IsFn Tryz.prog 40 Tryz.f40 := ⟨Tryz.func40, by kernel_rfl⟩
theorem isF41 : IsFn Tryz.prog 41 Tryz.f41 := ⟨Tryz.func41, by kernel_rfl⟩
theorem isF42 : IsFn Tryz.prog 42 Tryz.f42 := ⟨Tryz.func42, by kernel_rfl⟩
theorem isF43 : IsFn Tryz.prog 43 Tryz.f43 := ⟨Tryz.func43, by kernel_rfl⟩
theorem isF44 : IsFn Tryz.prog 44 Tryz.f44 := ⟨Tryz.func44, by kernel_rfl⟩
theorem isF45 : IsFn Tryz.prog 45 Tryz.f45 := ⟨Tryz.func45, by kernel_rfl⟩
theorem isF46 : IsFn Tryz.prog 46 Tryz.f46 := ⟨Tryz.func46, by kernel_rfl⟩
theorem isF47 : IsFn Tryz.prog 47 Tryz.f47 := ⟨Tryz.func47, by kernel_rfl⟩
theorem isF48 : IsFn Tryz.prog 48 Tryz.f48 := ⟨Tryz.func48, by kernel_rfl⟩
theorem isF49 : IsFn Tryz.prog 49 Tryz.f49 := ⟨Tryz.func49, by kernel_rfl⟩
theorem isF50 : IsFn Tryz.prog 50 Tryz.f50 := ⟨Tryz.func50, by kernel_rfl⟩
theorem isF51 : IsFn Tryz.prog 51 Tryz.f51 := ⟨Tryz.func51, by kernel_rfl⟩
theorem isF52 : IsFn Tryz.prog 52 Tryz.f52 := ⟨Tryz.func52, by kernel_rfl⟩
theorem isF53 : IsFn Tryz.prog 53 Tryz.f53 := ⟨Tryz.func53, by kernel_rfl⟩
theorem isF54 : IsFn Tryz.prog 54 Tryz.f54 := ⟨Tryz.func54, by kernel_rfl⟩
theorem isF55 : IsFn Tryz.prog 55 Tryz.f55 := ⟨Tryz.func55, by kernel_rfl⟩
theorem isF56 : IsFn Tryz.prog 56 Tryz.f56 := ⟨Tryz.func56, by kernel_rfl⟩
theorem isF57 : IsFn Tryz.prog 57 Tryz.f57 := ⟨Tryz.func57, by kernel_rfl⟩
theorem isF58 : IsFn Tryz.prog 58 Tryz.f58 := ⟨Tryz.func58, by kernel_rfl⟩
theorem isF59 : IsFn Tryz.prog 59 Tryz.f59 := ⟨Tryz.func59, by kernel_rfl⟩
theorem isF60 : IsFn Tryz.prog 60 Tryz.f60 := ⟨Tryz.func60, by kernel_rfl⟩
theorem isF61 : IsFn Tryz.prog 61 Tryz.f61 := ⟨Tryz.func61, by kernel_rfl⟩
theorem isF62 : IsFn Tryz.prog 62 Tryz.f62 := ⟨Tryz.func62, by kernel_rfl⟩
theorem isF63 : IsFn Tryz.prog 63 Tryz.f63 := ⟨Tryz.func63, by kernel_rfl⟩
theorem isF64 : IsFn Tryz.prog 64 Tryz.f64 := ⟨Tryz.func64, by kernel_rfl⟩
theorem isF65 : IsFn Tryz.prog 65 Tryz.f65 := ⟨Tryz.func65, by kernel_rfl⟩
theorem isF66 : IsFn Tryz.prog 66 Tryz.f66 := ⟨Tryz.func66, by kernel_rfl⟩
theorem isF67 : IsFn Tryz.prog 67 Tryz.f67 := ⟨Tryz.func67, by kernel_rfl⟩
theorem isF68 : IsFn Tryz.prog 68 Tryz.f68 := ⟨Tryz.func68, by kernel_rfl⟩
theorem isF69 : IsFn Tryz.prog 69 Tryz.f69 := ⟨Tryz.func69, by kernel_rfl⟩
theorem isF70 : IsFn Tryz.prog 70 Tryz.f70 := ⟨Tryz.func70, by kernel_rfl⟩
theorem isF71 : IsFn Tryz.prog 71 Tryz.f71 := ⟨Tryz.func71, by kernel_rfl⟩
theorem isF72 : IsFn Tryz.prog 72 Tryz.f72 := ⟨Tryz.func72, by kernel_rfl⟩
theorem isF73 : IsFn Tryz.prog 73 Tryz.f73 := ⟨Tryz.func73, by kernel_rfl⟩
theorem isF74 : IsFn Tryz.prog 74 Tryz.f74 := ⟨Tryz.func74, by kernel_rfl⟩
theorem isF75 : IsFn Tryz.prog 75 Tryz.f75 := ⟨Tryz.func75, by kernel_rfl⟩
theorem isF76 : IsFn Tryz.prog 76 Tryz.f76 := ⟨Tryz.func76, by kernel_rfl⟩
theorem isF77 : IsFn Tryz.prog 77 Tryz.f77 := ⟨Tryz.func77, by kernel_rfl⟩
theorem isF78 : IsFn Tryz.prog 78 Tryz.f78 := ⟨Tryz.func78, by kernel_rfl⟩
theorem isF79 : IsFn Tryz.prog 79 Tryz.f79 := ⟨Tryz.func79, by kernel_rfl⟩
theorem isF80 : IsFn Tryz.prog 80 Tryz.f80 := ⟨Tryz.func80, by kernel_rfl⟩
theorem isF81 : IsFn Tryz.prog 81 Tryz.f81 := ⟨Tryz.func81, by kernel_rfl⟩
theorem isF82 : IsFn Tryz.prog 82 Tryz.f82 := ⟨Tryz.func82, by kernel_rfl⟩
theorem isF83 : IsFn Tryz.prog 83 Tryz.f83 := ⟨Tryz.func83, by kernel_rfl⟩
theorem isF84 : IsFn Tryz.prog 84 Tryz.f84 := ⟨Tryz.func84, by kernel_rfl⟩
theorem isF85 : IsFn Tryz.prog 85 Tryz.f85 := ⟨Tryz.func85, by kernel_rfl⟩
theorem isF86 : IsFn Tryz.prog 86 Tryz.f86 := ⟨Tryz.func86, by kernel_rfl⟩
theorem isF87 : IsFn Tryz.prog 87 Tryz.f87 := ⟨Tryz.func87, by kernel_rfl⟩
theorem isF88 : IsFn Tryz.prog 88 Tryz.f88 := ⟨Tryz.func88, by kernel_rfl⟩
theorem isF89 : IsFn Tryz.prog 89 Tryz.f89 := ⟨Tryz.func89, by kernel_rfl⟩
theorem isF90 : IsFn Tryz.prog 90 Tryz.f90 := ⟨Tryz.func90, by kernel_rfl⟩
theorem isF91 : IsFn Tryz.prog 91 Tryz.f91 := ⟨Tryz.func91, by kernel_rfl⟩
theorem isF92 : IsFn Tryz.prog 92 Tryz.f92 := ⟨Tryz.func92, by kernel_rfl⟩
theorem isF93 : IsFn Tryz.prog 93 Tryz.f93 := ⟨Tryz.func93, by kernel_rfl⟩
theorem isF94 : IsFn Tryz.prog 94 Tryz.f94 := ⟨Tryz.func94, by kernel_rfl⟩
theorem isF95 : IsFn Tryz.prog 95 Tryz.f95 := ⟨Tryz.func95, by kernel_rfl⟩
theorem isF96 : IsFn Tryz.prog 96 Tryz.f96 := ⟨Tryz.func96, by kernel_rfl⟩
theorem isF97 : IsFn Tryz.prog 97 Tryz.f97 := ⟨Tryz.func97, by kernel_rfl⟩
theorem isF98 : IsFn Tryz.prog 98 Tryz.f98 := ⟨Tryz.func98, by kernel_rfl⟩
theorem isF99 : IsFn Tryz.prog 99 Tryz.f99 := ⟨Tryz.func99, by kernel_rfl⟩
theorem isF100 : IsFn Tryz.prog 100 Tryz.f100 := ⟨Tryz.func100, by kernel_rfl⟩
theorem isF101 : IsFn Tryz.prog 101 Tryz.f101 := ⟨Tryz.func101, by kernel_rfl⟩
theorem isF102 : IsFn Tryz.prog 102 Tryz.f102 := ⟨Tryz.func102, by kernel_rfl⟩
theorem isF103 : IsFn Tryz.prog 103 Tryz.f103 := ⟨Tryz.func103, by kernel_rfl⟩
theorem isF104 : IsFn Tryz.prog 104 Tryz.f104 := ⟨Tryz.func104, by kernel_rfl⟩
theorem isF105 : IsFn Tryz.prog 105 Tryz.f105 := ⟨Tryz.func105, by kernel_rfl⟩
theorem isF106 : IsFn Tryz.prog 106 Tryz.f106 := ⟨Tryz.func106, by kernel_rfl⟩
theorem isF107 : IsFn Tryz.prog 107 Tryz.f107 := ⟨Tryz.func107, by kernel_rfl⟩
theorem isF108 : IsFn Tryz.prog 108 Tryz.f108 := ⟨Tryz.func108, by kernel_rfl⟩
theorem isF109 : IsFn Tryz.prog 109 Tryz.f109 := ⟨Tryz.func109, by kernel_rfl⟩
theorem isF110 : IsFn Tryz.prog 110 Tryz.f110 := ⟨Tryz.func110, by kernel_rfl⟩
theorem isF111 : IsFn Tryz.prog 111 Tryz.f111 := ⟨Tryz.func111, by kernel_rfl⟩
theorem isF112 : IsFn Tryz.prog 112 Tryz.f112 := ⟨Tryz.func112, by kernel_rfl⟩
theorem isF113 : IsFn Tryz.prog 113 Tryz.f113 := ⟨Tryz.func113, by kernel_rfl⟩
theorem isF114 : IsFn Tryz.prog 114 Tryz.f114 := ⟨Tryz.func114, by kernel_rfl⟩
theorem isF115 : IsFn Tryz.prog 115 Tryz.f115 := ⟨Tryz.func115, by kernel_rfl⟩
theorem isF116 : IsFn Tryz.prog 116 Tryz.f116 := ⟨Tryz.func116, by kernel_rfl⟩
theorem isF117 : IsFn Tryz.prog 117 Tryz.f117 := ⟨Tryz.func117, by kernel_rfl⟩
theorem isF118 : IsFn Tryz.prog 118 Tryz.f118 := ⟨Tryz.func118, by kernel_rfl⟩
theorem isF119 : IsFn Tryz.prog 119 Tryz.f119 := ⟨Tryz.func119, by kernel_rfl⟩
theorem isF120 : IsFn Tryz.prog 120 Tryz.f120 := ⟨Tryz.func120, by kernel_rfl⟩
theorem isF121 : IsFn Tryz.prog 121 Tryz.f121 := ⟨Tryz.func121, by kernel_rfl⟩
theorem isF122 : IsFn Tryz.prog 122 Tryz.f122 := ⟨Tryz.func122, by kernel_rfl⟩
theorem isF123 : IsFn Tryz.prog 123 Tryz.f123 := ⟨Tryz.func123, by kernel_rfl⟩
theorem isF124 : IsFn Tryz.prog 124 Tryz.f124 := ⟨Tryz.func124, by kernel_rfl⟩
theorem isF125 : IsFn Tryz.prog 125 Tryz.f125 := ⟨Tryz.func125, by kernel_rfl⟩
theorem isF126 : IsFn Tryz.prog 126 Tryz.f126 := ⟨Tryz.func126, by kernel_rfl⟩
theorem isF127 : IsFn Tryz.prog 127 Tryz.f127 := ⟨Tryz.func127, by kernel_rfl⟩
theorem isF128 : IsFn Tryz.prog 128 Tryz.f128 := ⟨Tryz.func128, by kernel_rfl⟩
theorem isF129 : IsFn Tryz.prog 129 Tryz.f129 := ⟨Tryz.func129, by kernel_rfl⟩
theorem isF130 : IsFn Tryz.prog 130 Tryz.f130 := ⟨Tryz.func130, by kernel_rfl⟩
theorem isF131 : IsFn Tryz.prog 131 Tryz.f131 := ⟨Tryz.func131, by kernel_rfl⟩
theorem isF132 : IsFn Tryz.prog 132 Tryz.f132 := ⟨Tryz.func132, by kernel_rfl⟩
theorem isF133 : IsFn Tryz.prog 133 Tryz.f133 := ⟨Tryz.func133, by kernel_rfl⟩
theorem isF134 : IsFn Tryz.prog 134 Tryz.f134 := ⟨Tryz.func134, by kernel_rfl⟩
theorem isF135 : IsFn Tryz.prog 135 Tryz.f135 := ⟨Tryz.func135, by kernel_rfl⟩
theorem isF136 : IsFn Tryz.prog 136 Tryz.f136 := ⟨Tryz.func136, by kernel_rfl⟩
theorem isF137 : IsFn Tryz.prog 137 Tryz.f137 := ⟨Tryz.func137, by kernel_rfl⟩
theorem isF138 : IsFn Tryz.prog 138 Tryz.f138 := ⟨Tryz.func138, by kernel_rfl⟩
theorem isF139 : IsFn Tryz.prog 139 Tryz.f139 := ⟨Tryz.func139, by kernel_rfl⟩
theorem isF140 : IsFn Tryz.prog 140 Tryz.f140 := ⟨Tryz.func140, by kernel_rfl⟩
theorem isF141 : IsFn Tryz.prog 141 Tryz.f141 := ⟨Tryz.func141, by kernel_rfl⟩
theorem isF142 : IsFn Tryz.prog 142 Tryz.f142 := ⟨Tryz.func142, by kernel_rfl⟩
theorem isF143 : IsFn Tryz.prog 143 Tryz.f143 := ⟨Tryz.func143, by kernel_rfl⟩
theorem isF144 : IsFn Tryz.prog 144 Tryz.f144 := ⟨Tryz.func144, by kernel_rfl⟩
theorem isF145 : IsFn Tryz.prog 145 Tryz.f145 := ⟨Tryz.func145, by kernel_rfl⟩
theorem isF146 : IsFn Tryz.prog 146 Tryz.f146 := ⟨Tryz.func146, by kernel_rfl⟩
theorem isF147 : IsFn Tryz.prog 147 Tryz.f147 := ⟨Tryz.func147, by kernel_rfl⟩
theorem isF148 : IsFn Tryz.prog 148 Tryz.f148 := ⟨Tryz.func148, by kernel_rfl⟩
theorem isF149 : IsFn Tryz.prog 149 Tryz.f149 := ⟨Tryz.func149, by kernel_rfl⟩
theorem isF150 : IsFn Tryz.prog 150 Tryz.f150 := ⟨Tryz.func150, by kernel_rfl⟩
theorem isF151 : IsFn Tryz.prog 151 Tryz.f151 := ⟨Tryz.func151, by kernel_rfl⟩
theorem isF152 : IsFn Tryz.prog 152 Tryz.f152 := ⟨Tryz.func152, by kernel_rfl⟩
theorem isF153 : IsFn Tryz.prog 153 Tryz.f153 := ⟨Tryz.func153, by kernel_rfl⟩
theorem isF154 : IsFn Tryz.prog 154 Tryz.f154 := ⟨Tryz.func154, by kernel_rfl⟩
theorem isF155 : IsFn Tryz.prog 155 Tryz.f155 := ⟨Tryz.func155, by kernel_rfl⟩
theorem isF156 : IsFn Tryz.prog 156 Tryz.f156 := ⟨Tryz.func156, by kernel_rfl⟩
theorem isF157 : IsFn Tryz.prog 157 Tryz.f157 := ⟨Tryz.func157, by kernel_rfl⟩
theorem isF158 : IsFn Tryz.prog 158 Tryz.f158 := ⟨Tryz.func158, by kernel_rfl⟩
theorem isF159 : IsFn Tryz.prog 159 Tryz.f159 := ⟨Tryz.func159, by kernel_rfl⟩
theorem isF160 : IsFn Tryz.prog 160 Tryz.f160 := ⟨Tryz.func160, by kernel_rfl⟩
theorem isF161 : IsFn Tryz.prog 161 Tryz.f161 := ⟨Tryz.func161, by kernel_rfl⟩
theorem isF162 : IsFn Tryz.prog 162 Tryz.f162 := ⟨Tryz.func162, by kernel_rfl⟩
theorem isF163 : IsFn Tryz.prog 163 Tryz.f163 := ⟨Tryz.func163, by kernel_rfl⟩
theorem isF164 : IsFn Tryz.prog 164 Tryz.f164 := ⟨Tryz.func164, by kernel_rfl⟩
theorem isF165 : IsFn Tryz.prog 165 Tryz.f165 := ⟨Tryz.func165, by kernel_rfl⟩
theorem isF166 : IsFn Tryz.prog 166 Tryz.f166 := ⟨Tryz.func166, by kernel_rfl⟩
theorem isF167 : IsFn Tryz.prog 167 Tryz.f167 := ⟨Tryz.func167, by kernel_rfl⟩
theorem isF168 : IsFn Tryz.prog 168 Tryz.f168 := ⟨Tryz.func168, by kernel_rfl⟩
theorem isF169 : IsFn Tryz.prog 169 Tryz.f169 := ⟨Tryz.func169, by kernel_rfl⟩
theorem isF170 : IsFn Tryz.prog 170 Tryz.f170 := ⟨Tryz.func170, by kernel_rfl⟩
theorem isF171 : IsFn Tryz.prog 171 Tryz.f171 := ⟨Tryz.func171, by kernel_rfl⟩
theorem isF172 : IsFn Tryz.prog 172 Tryz.f172 := ⟨Tryz.func172, by kernel_rfl⟩
theorem isF173 : IsFn Tryz.prog 173 Tryz.f173 := ⟨Tryz.func173, by kernel_rfl⟩
theorem isF174 : IsFn Tryz.prog 174 Tryz.f174 := ⟨Tryz.func174, by kernel_rfl⟩
theorem isF175 : IsFn Tryz.prog 175 Tryz.f175 := ⟨Tryz.func175, by kernel_rfl⟩
theorem isF176 : IsFn Tryz.prog 176 Tryz.f176 := ⟨Tryz.func176, by kernel_rfl⟩
theorem isF177 : IsFn Tryz.prog 177 Tryz.f177 := ⟨Tryz.func177, by kernel_rfl⟩
theorem isF178 : IsFn Tryz.prog 178 Tryz.f178 := ⟨Tryz.func178, by kernel_rfl⟩
theorem isF179 : IsFn Tryz.prog 179 Tryz.f179 := ⟨Tryz.func179, by kernel_rfl⟩
theorem isF180 : IsFn Tryz.prog 180 Tryz.f180 := ⟨Tryz.func180, by kernel_rfl⟩
theorem isF181 : IsFn Tryz.prog 181 Tryz.f181 := ⟨Tryz.func181, by kernel_rfl⟩
theorem isF182 : IsFn Tryz.prog 182 Tryz.f182 := ⟨Tryz.func182, by kernel_rfl⟩
theorem isF183 : IsFn Tryz.prog 183 Tryz.f183 := ⟨Tryz.func183, by kernel_rfl⟩
theorem isF184 : IsFn Tryz.prog 184 Tryz.f184 := ⟨Tryz.func184, by kernel_rfl⟩
theorem isF185 : IsFn Tryz.prog 185 Tryz.f185 := ⟨Tryz.func185, by kernel_rfl⟩
theorem isF186 : IsFn Tryz.prog 186 Tryz.f186 := ⟨Tryz.func186, by kernel_rfl⟩
theorem isF187 : IsFn Tryz.prog 187 Tryz.f187 := ⟨Tryz.func187, by kernel_rfl⟩
theorem isF188 : IsFn Tryz.prog 188 Tryz.f188 := ⟨Tryz.func188, by kernel_rfl⟩
theorem isF189 : IsFn Tryz.prog 189 Tryz.f189 := ⟨Tryz.func189, by kernel_rfl⟩
theorem isF190 : IsFn Tryz.prog 190 Tryz.f190 := ⟨Tryz.func190, by kernel_rfl⟩
theorem isF191 : IsFn Tryz.prog 191 Tryz.f191 := ⟨Tryz.func191, by kernel_rfl⟩
theorem isF192 : IsFn Tryz.prog 192 Tryz.f192 := ⟨Tryz.func192, by kernel_rfl⟩
theorem isF193 : IsFn Tryz.prog 193 Tryz.f193 := ⟨Tryz.func193, by kernel_rfl⟩
theorem isF194 : IsFn Tryz.prog 194 Tryz.f194 := ⟨Tryz.func194, by kernel_rfl⟩
theorem isF195 : IsFn Tryz.prog 195 Tryz.f195 := ⟨Tryz.func195, by kernel_rfl⟩
theorem isF196 : IsFn Tryz.prog 196 Tryz.f196 := ⟨Tryz.func196, by kernel_rfl⟩
theorem isF197 : IsFn Tryz.prog 197 Tryz.f197 := ⟨Tryz.func197, by kernel_rfl⟩
theorem isF198 : IsFn Tryz.prog 198 Tryz.f198 := ⟨Tryz.func198, by kernel_rfl⟩
theorem isF199 : IsFn Tryz.prog 199 Tryz.f199 := ⟨Tryz.func199, by kernel_rfl⟩
theorem isF200 : IsFn Tryz.prog 200 Tryz.f200 := ⟨Tryz.func200, by kernel_rfl⟩
theorem isF201 : IsFn Tryz.prog 201 Tryz.f201 := ⟨Tryz.func201, by kernel_rfl⟩
theorem isF202 : IsFn Tryz.prog 202 Tryz.f202 := ⟨Tryz.func202, by kernel_rfl⟩
theorem isF203 : IsFn Tryz.prog 203 Tryz.f203 := ⟨Tryz.func203, by kernel_rfl⟩
theorem isF204 : IsFn Tryz.prog 204 Tryz.f204 := ⟨Tryz.func204, by kernel_rfl⟩
theorem isF205 : IsFn Tryz.prog 205 Tryz.f205 := ⟨Tryz.func205, by kernel_rfl⟩
theorem isF206 : IsFn Tryz.prog 206 Tryz.f206 := ⟨Tryz.func206, by kernel_rfl⟩
theorem isF207 : IsFn Tryz.prog 207 Tryz.f207 := ⟨Tryz.func207, by kernel_rfl⟩
theorem isF208 : IsFn Tryz.prog 208 Tryz.f208 := ⟨Tryz.func208, by kernel_rfl⟩
theorem isF209 : IsFn Tryz.prog 209 Tryz.f209 := ⟨Tryz.func209, by kernel_rfl⟩
theorem isF210 : IsFn Tryz.prog 210 Tryz.f210 := ⟨Tryz.func210, by kernel_rfl⟩
theorem isF211 : IsFn Tryz.prog 211 Tryz.f211 := ⟨Tryz.func211, by kernel_rfl⟩
theorem isF212 : IsFn Tryz.prog 212 Tryz.f212 := ⟨Tryz.func212, by kernel_rfl⟩
theorem isF213 : IsFn Tryz.prog 213 Tryz.f213 := ⟨Tryz.func213, by kernel_rfl⟩
theorem isF214 : IsFn Tryz.prog 214 Tryz.f214 := ⟨Tryz.func214, by kernel_rfl⟩
theorem isF215 : IsFn Tryz.prog 215 Tryz.f215 := ⟨Tryz.func215, by kernel_rfl⟩
theorem isF216 : IsFn Tryz.prog 216 Tryz.f216 := ⟨Tryz.func216, by kernel_rfl⟩
theorem isF217 : IsFn Tryz.prog 217 Tryz.f217 := ⟨Tryz.func217, by kernel_rfl⟩
theorem isF218 : IsFn Tryz.prog 218 Tryz.f218 := ⟨Tryz.func218, by kernel_rfl⟩
theorem isF219 : IsFn Tryz.prog 219 Tryz.f219 := ⟨Tryz.func219, by kernel_rfl⟩
theorem isF220 : IsFn Tryz.prog 220 Tryz.f220 := ⟨Tryz.func220, by kernel_rfl⟩
theorem isF221 : IsFn Tryz.prog 221 Tryz.f221 := ⟨Tryz.func221, by kernel_rfl⟩
theorem isF222 : IsFn Tryz.prog 222 Tryz.f222 := ⟨Tryz.func222, by kernel_rfl⟩
theorem isF223 : IsFn Tryz.prog 223 Tryz.f223 := ⟨Tryz.func223, by kernel_rfl⟩
theorem isF225 : IsFn Tryz.prog 225 Tryz.f225 := ⟨Tryz.func225, by kernel_rfl⟩
theorem isF226 : IsFn Tryz.prog 226 Tryz.f226 := ⟨Tryz.func226, by kernel_rfl⟩
theorem isF227 : IsFn Tryz.prog 227 Tryz.f227 := ⟨Tryz.func227, by kernel_rfl⟩
theorem isF228 : IsFn Tryz.prog 228 Tryz.f228 := ⟨Tryz.func228, by kernel_rfl⟩
theorem isF229 : IsFn Tryz.prog 229 Tryz.f229 := ⟨Tryz.func229, by kernel_rfl⟩
theorem isF230 : IsFn Tryz.prog 230 Tryz.f230 := ⟨Tryz.func230, by kernel_rfl⟩
theorem isF231 : IsFn Tryz.prog 231 Tryz.f231 := ⟨Tryz.func231, by kernel_rfl⟩
theorem isF232 : IsFn Tryz.prog 232 Tryz.f232 := ⟨Tryz.func232, by kernel_rfl⟩
theorem isF233 : IsFn Tryz.prog 233 Tryz.f233 := ⟨Tryz.func233, by kernel_rfl⟩
theorem isF234 : IsFn Tryz.prog 234 Tryz.f234 := ⟨Tryz.func234, by kernel_rfl⟩
theorem isF235 : IsFn Tryz.prog 235 Tryz.f235 := ⟨Tryz.func235, by kernel_rfl⟩
theorem isF237 : IsFn Tryz.prog 237 Tryz.f237 := ⟨Tryz.func237, by kernel_rfl⟩
theorem isF238 : IsFn Tryz.prog 238 Tryz.f238 := ⟨Tryz.func238, by kernel_rfl⟩
theorem isF239 : IsFn Tryz.prog 239 Tryz.f239 := ⟨Tryz.func239, by kernel_rfl⟩
theorem isF240 : IsFn Tryz.prog 240 Tryz.f240 := ⟨Tryz.func240, by kernel_rfl⟩
theorem isF241 : IsFn Tryz.prog 241 Tryz.f241 := ⟨Tryz.func241, by kernel_rfl⟩
theorem isF242 : IsFn Tryz.prog 242 Tryz.f242 := ⟨Tryz.func242, by kernel_rfl⟩
theorem isF243 : IsFn Tryz.prog 243 Tryz.f243 := ⟨Tryz.func243, by kernel_rfl⟩
theorem isF244 : IsFn Tryz.prog 244 Tryz.f244 := ⟨Tryz.func244, by kernel_rfl⟩
theorem isF245 : IsFn Tryz.prog 245 Tryz.f245 := ⟨Tryz.func245, by kernel_rfl⟩
theorem isF246 : IsFn Tryz.prog 246 Tryz.f246 := ⟨Tryz.func246, by kernel_rfl⟩
theorem isF247 : IsFn Tryz.prog 247 Tryz.f247 := ⟨Tryz.func247, by kernel_rfl⟩
theorem isF248 : IsFn Tryz.prog 248 Tryz.f248 := ⟨Tryz.func248, by kernel_rfl⟩
theorem isF249 : IsFn Tryz.prog 249 Tryz.f249 := ⟨Tryz.func249, by kernel_rfl⟩
theorem isF250 : IsFn Tryz.prog 250 Tryz.f250 := ⟨Tryz.func250, by kernel_rfl⟩
theorem isF251 : IsFn Tryz.prog 251 Tryz.f251 := ⟨Tryz.func251, by kernel_rfl⟩
theorem isF252 : IsFn Tryz.prog 252 Tryz.f252 := ⟨Tryz.func252, by kernel_rfl⟩
theorem isF253 : IsFn Tryz.prog 253 Tryz.f253 := ⟨Tryz.func253, by kernel_rfl⟩
theorem isF254 : IsFn Tryz.prog 254 Tryz.f254 := ⟨Tryz.func254, by kernel_rfl⟩
theorem isF255 : IsFn Tryz.prog 255 Tryz.f255 := ⟨Tryz.func255, by kernel_rfl⟩
theorem isF256 : IsFn Tryz.prog 256 Tryz.f256 := ⟨Tryz.func256, by kernel_rfl⟩
theorem isF257 : IsFn Tryz.prog 257 Tryz.f257 := ⟨Tryz.func257, by kernel_rfl⟩
theorem isF258 : IsFn Tryz.prog 258 Tryz.f258 := ⟨Tryz.func258, by kernel_rfl⟩
theorem isF259 : IsFn Tryz.prog 259 Tryz.f259 := ⟨Tryz.func259, by kernel_rfl⟩
theorem isF260 : IsFn Tryz.prog 260 Tryz.f260 := ⟨Tryz.func260, by kernel_rfl⟩
theorem isF261 : IsFn Tryz.prog 261 Tryz.f261 := ⟨Tryz.func261, by kernel_rfl⟩
theorem isF262 : IsFn Tryz.prog 262 Tryz.f262 := ⟨Tryz.func262, by kernel_rfl⟩
theorem isF263 : IsFn Tryz.prog 263 Tryz.f263 := ⟨Tryz.func263, by kernel_rfl⟩
theorem isF264 : IsFn Tryz.prog 264 Tryz.f264 := ⟨Tryz.func264, by kernel_rfl⟩
theorem isF265 : IsFn Tryz.prog 265 Tryz.f265 := ⟨Tryz.func265, by kernel_rfl⟩
theorem isF266 : IsFn Tryz.prog 266 Tryz.f266 := ⟨Tryz.func266, by kernel_rfl⟩
theorem isF267 : IsFn Tryz.prog 267 Tryz.f267 := ⟨Tryz.func267, by kernel_rfl⟩
theorem isF268 : IsFn Tryz.prog 268 Tryz.f268 := ⟨Tryz.func268, by kernel_rfl⟩
theorem isF269 : IsFn Tryz.prog 269 Tryz.f269 := ⟨Tryz.func269, by kernel_rfl⟩
theorem isF270 : IsFn Tryz.prog 270 Tryz.f270 := ⟨Tryz.func270, by kernel_rfl⟩
theorem isF271 : IsFn Tryz.prog 271 Tryz.f271 := ⟨Tryz.func271, by kernel_rfl⟩
theorem isF273 : IsFn Tryz.prog 273 Tryz.f273 := ⟨Tryz.func273, by kernel_rfl⟩
theorem isF275 : IsFn Tryz.prog 275 Tryz.f275 := ⟨Tryz.func275, by kernel_rfl⟩
theorem isF276 : IsFn Tryz.prog 276 Tryz.f276 := ⟨Tryz.func276, by kernel_rfl⟩
theorem isF277 : IsFn Tryz.prog 277 Tryz.f277 := ⟨Tryz.func277, by kernel_rfl⟩
theorem isF278 : IsFn Tryz.prog 278 Tryz.f278 := ⟨Tryz.func278, by kernel_rfl⟩
theorem isF279 : IsFn Tryz.prog 279 Tryz.f279 := ⟨Tryz.func279, by kernel_rfl⟩
theorem isF280 : IsFn Tryz.prog 280 Tryz.f280 := ⟨Tryz.func280, by kernel_rfl⟩
theorem isF281 : IsFn Tryz.prog 281 Tryz.f281 := ⟨Tryz.func281, by kernel_rfl⟩
theorem isF282 : IsFn Tryz.prog 282 Tryz.f282 := ⟨Tryz.func282, by kernel_rfl⟩
theorem isF283 : IsFn Tryz.prog 283 Tryz.f283 := ⟨Tryz.func283, by kernel_rfl⟩
theorem isF284 : IsFn Tryz.prog 284 Tryz.f284 := ⟨Tryz.func284, by kernel_rfl⟩
theorem isF285 : IsFn Tryz.prog 285 Tryz.f285 := ⟨Tryz.func285, by kernel_rfl⟩
theorem isF286 : IsFn Tryz.prog 286 Tryz.f286 := ⟨Tryz.func286, by kernel_rfl⟩
theorem isF287 : IsFn Tryz.prog 287 Tryz.f287 := ⟨Tryz.func287, by kernel_rfl⟩
theorem isF288 : IsFn Tryz.prog 288 Tryz.f288 := ⟨Tryz.func288, by kernel_rfl⟩
theorem isF289 : IsFn Tryz.prog 289 Tryz.f289 := ⟨Tryz.func289, by kernel_rfl⟩
theorem isF290 : IsFn Tryz.prog 290 Tryz.f290 := ⟨Tryz.func290, by kernel_rfl⟩
theorem isF291 : IsFn Tryz.prog 291 Tryz.f291 := ⟨Tryz.func291, by kernel_rfl⟩
theorem isF292 : IsFn Tryz.prog 292 Tryz.f292 := ⟨Tryz.func292, by kernel_rfl⟩
theorem isF293 : IsFn Tryz.prog 293 Tryz.f293 := ⟨Tryz.func293, by kernel_rfl⟩
theorem isF295 : IsFn Tryz.prog 295 Tryz.f295 := ⟨Tryz.func295, by kernel_rfl⟩
theorem isF296 : IsFn Tryz.prog 296 Tryz.f296 := ⟨Tryz.func296, by kernel_rfl⟩
theorem isF298 : IsFn Tryz.prog 298 Tryz.f298 := ⟨Tryz.func298, by kernel_rfl⟩
theorem isF299 : IsFn Tryz.prog 299 Tryz.f299 := ⟨Tryz.func299, by kernel_rfl⟩
theorem isF300 : IsFn Tryz.prog 300 Tryz.f300 := ⟨Tryz.func300, by kernel_rfl⟩
theorem isF301 : IsFn Tryz.prog 301 Tryz.f301 := ⟨Tryz.func301, by kernel_rfl⟩
theorem isF302 : IsFn Tryz.prog 302 Tryz.f302 := ⟨Tryz.func302, by kernel_rfl⟩
theorem isF303 : IsFn Tryz.prog 303 Tryz.f303 := ⟨Tryz.func303, by kernel_rfl⟩
theorem isF304 : IsFn Tryz.prog 304 Tryz.f304 := ⟨Tryz.func304, by kernel_rfl⟩
theorem isF305 : IsFn Tryz.prog 305 Tryz.f305 := ⟨Tryz.func305, by kernel_rfl⟩
theorem isF306 : IsFn Tryz.prog 306 Tryz.f306 := ⟨Tryz.func306, by kernel_rfl⟩
theorem isF307 : IsFn Tryz.prog 307 Tryz.f307 := ⟨Tryz.func307, by kernel_rfl⟩
theorem isF308 : IsFn Tryz.prog 308 Tryz.f308 := ⟨Tryz.func308, by kernel_rfl⟩
theorem isF309 : IsFn Tryz.prog 309 Tryz.f309 := ⟨Tryz.func309, by kernel_rfl⟩
theorem isF310 : IsFn Tryz.prog 310 Tryz.f310 := ⟨Tryz.func310, by kernel_rfl⟩
theorem isF311 : IsFn Tryz.prog 311 Tryz.f311 := ⟨Tryz.func311, by kernel_rfl⟩
theorem isF312 : IsFn Tryz.prog 312 Tryz.f312 := ⟨Tryz.func312, by kernel_rfl⟩
theorem isF313 : IsFn Tryz.prog 313 Tryz.f313 := ⟨Tryz.func313, by kernel_rfl⟩
theorem isF314 : IsFn Tryz.prog 314 Tryz.f314 := ⟨Tryz.func314, by kernel_rfl⟩
theorem isF315 : IsFn Tryz.prog 315 Tryz.f315 := ⟨Tryz.func315, by kernel_rfl⟩
theorem isF316 : IsFn Tryz.prog 316 Tryz.f316 := ⟨Tryz.func316, by kernel_rfl⟩
theorem isF317 : IsFn Tryz.prog 317 Tryz.f317 := ⟨Tryz.func317, by kernel_rfl⟩
theorem isF318 : IsFn Tryz.prog 318 Tryz.f318 := ⟨Tryz.func318, by kernel_rfl⟩
theorem isF319 : IsFn Tryz.prog 319 Tryz.f319 := ⟨Tryz.func319, by kernel_rfl⟩
theorem isF320 : IsFn Tryz.prog 320 Tryz.f320 := ⟨Tryz.func320, by kernel_rfl⟩
theorem isF321 : IsFn Tryz.prog 321 Tryz.f321 := ⟨Tryz.func321, by kernel_rfl⟩
theorem isF322 : IsFn Tryz.prog 322 Tryz.f322 := ⟨Tryz.func322, by kernel_rfl⟩
theorem isF323 : IsFn Tryz.prog 323 Tryz.f323 := ⟨Tryz.func323, by kernel_rfl⟩
theorem isF324 : IsFn Tryz.prog 324 Tryz.f324 := ⟨Tryz.func324, by kernel_rfl⟩
theorem isF325 : IsFn Tryz.prog 325 Tryz.f325 := ⟨Tryz.func325, by kernel_rfl⟩
theorem isF326 : IsFn Tryz.prog 326 Tryz.f326 := ⟨Tryz.func326, by kernel_rfl⟩
theorem isF327 : IsFn Tryz.prog 327 Tryz.f327 := ⟨Tryz.func327, by kernel_rfl⟩
theorem isF328 : IsFn Tryz.prog 328 Tryz.f328 := ⟨Tryz.func328, by kernel_rfl⟩
theorem isF329 : IsFn Tryz.prog 329 Tryz.f329 := ⟨Tryz.func329, by kernel_rfl⟩
theorem isF330 : IsFn Tryz.prog 330 Tryz.f330 := ⟨Tryz.func330, by kernel_rfl⟩
theorem isF331 : IsFn Tryz.prog 331 Tryz.f331 := ⟨Tryz.func331, by kernel_rfl⟩
theorem isF332 : IsFn Tryz.prog 332 Tryz.f332 := ⟨Tryz.func332, by kernel_rfl⟩
theorem isF333 : IsFn Tryz.prog 333 Tryz.f333 := ⟨Tryz.func333, by kernel_rfl⟩
theorem isF334 : IsFn Tryz.prog 334 Tryz.f334 := ⟨Tryz.func334, by kernel_rfl⟩
theorem isF335 : IsFn Tryz.prog 335 Tryz.f335 := ⟨Tryz.func335, by kernel_rfl⟩
theorem isF336 : IsFn Tryz.prog 336 Tryz.f336 := ⟨Tryz.func336, by kernel_rfl⟩
end Go.Abs

/-
  What the chapter's functions are told to do, and how its values lie in the program.
-/
namespace Go.Abs
open Go.Proofs
def firstE : List Int → Int
  | [] => 0
  | e :: r => if e = 0 then firstE r else e
def whenE (b : Bool) (e : Int) : Int := if b then e else 0

def isLet (c : Int) : Bool := (decide (97 ≤ c) && decide (c ≤ 122)) || (decide (65 ≤ c) && decide (c ≤ 90))
def isDig (c : Int) : Bool := decide (48 ≤ c) && decide (c ≤ 57)
/-- letters; behind the first place digits and underscores, too -/
def okN : Nat → List Nat → Bool
  | _, [] => true
  | i, c :: r => (isLet c || (decide (i ≠ 0) && (isDig c || decide ((c : Int) = 95)))) && okN (i + 1) r
def isName (s : List Nat) : Bool := decide (1 ≤ s.length) && decide (s.length ≤ 24) && okN 0 s

structure RowD where
  key : List Nat
  vals : List Int
  deriving DecidableEq
structure EditD where
  kind : List Nat
  row : RowD
  deriving DecidableEq
def eIs (l : List Int) : PV := .seq (l.map (.int .i64))
def eRow (r : RowD) : PV := .st 54 [.str r.key, .seq (r.vals.map (.int .i64))]
def eRows (l : List RowD) : PV := .seq (l.map eRow)
def eEdit (e : EditD) : PV := .st 265 [.str e.kind, eRow e.row]
def rEdit (e : EditD) : PV := .st 267 [.str e.kind, eRow e.row]

def far (n : Int) : Bool := decide (n < -999999999) || decide (n > 999999999)
def chkVals (l : List Int) : Int := firstE [whenE ((l.length : Int) == 0) 12, whenE (decide (16 < (l.length : Int))) 5, whenE (l.any far) 3]
def chkRowsFrom (seen : List (List Nat)) : List RowD → Int
  | [] => 0
  | r :: rs => if firstE [whenE (!isName r.key) 8, whenE (seen.contains r.key) 9, chkVals r.vals] = 0 then chkRowsFrom (seen ++ [r.key]) rs
    else firstE [whenE (!isName r.key) 8, whenE (seen.contains r.key) 9, chkVals r.vals]
def chkRows (l : List RowD) : Int := if l.length > 256 then 5 else chkRowsFrom [] l
def kKeep : List Nat := [107, 101, 101, 112]
def kDrop : List Nat := [100, 114, 111, 112]
def kAdd : List Nat := [97, 100, 100]
def known (k : List Nat) : Bool := k == kKeep || k == kDrop || k == kAdd
def chkEdit (e : EditD) : Int := firstE [whenE (!known e.kind) 13, whenE (!isName e.row.key) 8, chkVals e.row.vals]
def chkEditsFrom : List EditD → Int
  | [] => 0
  | e :: r => if chkEdit e = 0 then chkEditsFrom r else chkEdit e
def chkEdits (l : List EditD) : Int := if l.length > 512 then 5 else chkEditsFrom l
def shortRow (r : RowD) : Bool := decide (r.key.length ≤ 60) && decide (r.vals.length ≤ 19)
def shortRows (l : List RowD) (n : Nat) : Bool := (decide (l.length ≤ n) || decide (256 < l.length)) && decide (l.length ≤ 259) && l.all shortRow
def shortEdit (e : EditD) : Bool := decide (e.kind.length ≤ 60) && shortRow e.row
def shortEdits (l : List EditD) (n : Nat) : Bool := (decide (l.length ≤ n) || decide (512 < l.length)) && decide (l.length ≤ 515) && l.all shortEdit

theorem any_drop {α : Type} {p : α → Bool} {l : List α} {i : Nat} (hi : i < l.length) : (l.drop i).any p = (p l[i] || (l.drop (i + 1)).any p) := by
  rw [List.drop_eq_getElem_cons hi, List.any_cons]
theorem all_drop {α : Type} {p : α → Bool} {l : List α} {i : Nat} (hi : i < l.length) : (l.drop i).all p = (p l[i] && (l.drop (i + 1)).all p) := by
  rw [List.drop_eq_getElem_cons hi, List.all_cons]
theorem take_next {α β : Type} (f : α → β) {l : List α} {i : Nat} (hi : i < l.length) : (l.map f).take (i + 1) = (l.map f).take i ++ [f l[i]] := by
  rw [List.take_succ_eq_append_getElem (by simpa using hi)]; simp
def bnd {α : Type} (l : List α) : Prop := l.length ≤ 1048576

@[simp] theorem shp_eRow {r : RowD} : shp (eRow r) = .agg 54 := rfl
attribute [simp] nilOf nilEq lookupM eqP updateM
end Go.Abs

/-
  Arguments of the office's laws: rows and edits.
-/
namespace Go.Abs
open Go.Proofs
set_option maxRecDepth 100000
section
variable {H : Type} {w : World} {Imm : Nat → Prop}
theorem pvcl_mem {P : Program} : ∀ {l : List Nat} {es : List PV} {css : List (List Value)}, PVCl P w Imm l es css → ∀ e ∈ es, ∃ c, PVC P w Imm e c
  | _, [], _, _ => fun e he => by cases he
  | [], v :: vs, _, h => by simp [PVCl] at h
  | n :: ns, v :: vs, css, h => by
    simp only [PVCl] at h
    obtain ⟨c, cs, _, h1, _, h2⟩ := h
    intro e he
    rcases List.mem_cons.1 he with rfl | he
    · exact ⟨c, h1⟩
    · exact pvcl_mem h2 e he
/-- a slice whose elements are all of a form -/
theorem seq_of {P : Program} {α : Type} {n : Nat} {t e : TypeId} {F : α → PV} (ht : P.underlying t = some (.slice e)) (hF : ∀ (d : DataW H) c, PVC P w Imm (toPV P n e d) c → ∃ a, toPV P n e d = F a)
    {d : DataW H} {cs : List Value} (h : PVC P w Imm (toPV P (n + 1) t d) cs) : ∃ l : List α, toPV P (n + 1) t d = .seq (l.map F) ∧ ∀ es sp, d = .slice es sp → l.length = es.length := by
  cases d with
  | nil => exact ⟨[], by simp [toPV, ht], fun _ _ h => by cases h⟩
  | slice ds sp =>
    simp only [toPV, ht, PVC] at h ⊢
    have hm : ∀ e' ∈ ds.map (toPV P n e), ∃ c, PVC P w Imm e' c := by
      rcases h with ⟨h, _⟩ | ⟨_, _, _, _, css, h, _⟩
      · rw [h]; intro _ h; cases h
      · exact pvcl_mem h
    have key : ∀ ds : List (DataW H), (∀ e' ∈ ds.map (toPV P n e), ∃ c, PVC P w Imm e' c) → ∃ l : List α, ds.map (toPV P n e) = l.map F ∧ l.length = ds.length := by
      intro ds
      induction ds with
      | nil => intro _; exact ⟨[], rfl, rfl⟩
      | cons d r ih =>
        intro hm
        obtain ⟨c, hc⟩ := hm _ List.mem_cons_self
        obtain ⟨a, ha⟩ := hF d c hc
        obtain ⟨l, h1, h2⟩ := ih fun e' he => hm e' (List.mem_cons_of_mem _ he)
        exact ⟨a :: l, by simp only [List.map_cons]; rw [ha, h1], by simp [h2]⟩
    obtain ⟨l, h1, h2⟩ := key ds hm
    exact ⟨l, by rw [h1], fun es sp' he => by cases he; exact h2⟩
  | lit l => simp only [toPV, ht, PVC] at h
  | ptr d => simp only [toPV, ht, PVC] at h
  | agg l => simp only [toPV, ht, PVC] at h
  | iface a b => simp only [toPV, ht, PVC] at h
  | map l => simp only [toPV, ht, PVC] at h
  | held a => simp only [toPV, ht, PVC] at h
theorem int_of {n : Nat} (d : DataW H) (c) (h : PVC Tryz.prog w Imm (toPV Tryz.prog (n + 1) 3 d) c) : ∃ z : Int, toPV Tryz.prog (n + 1) 3 d = .int .i64 z := by
  cases d with
  | lit l => cases l <;> first | exact ⟨_, by simp only [toPV, un3]; rfl⟩ | simp only [toPV, un3, PVC] at h
  | _ => simp only [toPV, un3, PVC] at h
theorem str_of {n : Nat} (d : DataW H) (c) (h : PVC Tryz.prog w Imm (toPV Tryz.prog (n + 1) 9 d) c) : ∃ s : List Nat, toPV Tryz.prog (n + 1) 9 d = .str s := by
  cases d with
  | lit l => cases l <;> first | exact ⟨_, by simp only [toPV, un9]; rfl⟩ | simp only [toPV, un9, PVC] at h
  | _ => simp only [toPV, un9, PVC] at h
theorem un168' : ∃ f0 f1 : Field, Tryz.prog.underlying 168 = some (.struct #[f0, f1]) ∧ f0.type = 9 ∧ f1.type = 53 := ⟨_, _, Tryz.underlying168, rfl, rfl⟩
theorem un266' : ∃ f0 f1 : Field, Tryz.prog.underlying 266 = some (.struct #[f0, f1]) ∧ f0.type = 9 ∧ f1.type = 168 := ⟨_, _, Tryz.underlying266, rfl, rfl⟩
theorem uid168 : Tryz.prog.underlyingId 168 = 54 := by kernel_rfl
theorem uid266 : Tryz.prog.underlyingId 266 = 265 := by kernel_rfl
/-- a struct of two fields -/
theorem two_of {P : Program} {n : Nat} {t : TypeId} {f0 f1 : Field} {k0 k1 : Nat} (ht : P.underlying t = some (.struct #[f0, f1])) (hs : szs P (P.underlyingId t) = some [k0, k1])
    {d : DataW H} {cs : List Value} (h : PVC P w Imm (toPV P (n + 1) t d) cs) :
    ∃ (x y : DataW H) (c0 c1 : List Value), toPV P (n + 1) t d = .st (P.underlyingId t) [toPV P n f0.type x, toPV P n f1.type y] ∧ PVC P w Imm (toPV P n f0.type x) c0 ∧ PVC P w Imm (toPV P n f1.type y) c1 := by
  cases d with
  | agg l =>
    simp only [toPV, ht, PVC] at h ⊢
    obtain ⟨l', css, h1, h2, _⟩ := h
    rw [hs] at h1; cases h1
    match l, h2 with
    | [], h2 => simp [PVCl] at h2
    | [x], h2 => simp [PVCl] at h2
    | x :: y :: r, h2 =>
      simp only [List.zip_cons_cons, List.map_cons, PVCl, List.zip_nil_left, List.map_nil] at h2 ⊢
      obtain ⟨c0, _, _, g1, _, c1, _, _, g2, _⟩ := h2
      exact ⟨x, y, c0, c1, rfl, g1, g2⟩
  | _ => simp only [toPV, ht, PVC] at h
theorem row_of {n : Nat} (d : DataW H) (c) (h : PVC Tryz.prog w Imm (toPV Tryz.prog (n + 3) 168 d) c) : ∃ r : RowD, toPV Tryz.prog (n + 3) 168 d = eRow r := by
  obtain ⟨f0, f1, hu, t0, t1⟩ := un168'
  obtain ⟨x, y, c0, c1, h1, h2, h3⟩ := two_of hu (by rw [uid168]; exact sz54) h
  rw [t0] at h1 h2; rw [t1] at h1 h3
  obtain ⟨s, hs⟩ := str_of x c0 h2
  obtain ⟨l, hl, _⟩ := seq_of un53 (fun d c hh => int_of d c hh) h3
  exact ⟨⟨s, l⟩, by rw [h1, hs, hl, uid168]; rfl⟩
theorem edit_of {n : Nat} (d : DataW H) (c) (h : PVC Tryz.prog w Imm (toPV Tryz.prog (n + 4) 266 d) c) : ∃ e : EditD, toPV Tryz.prog (n + 4) 266 d = eEdit e := by
  obtain ⟨f0, f1, hu, t0, t1⟩ := un266'
  obtain ⟨x, y, c0, c1, h1, h2, h3⟩ := two_of hu (by rw [uid266]; exact sz265) h
  rw [t0] at h1 h2; rw [t1] at h1 h3
  obtain ⟨s, hs⟩ := str_of x c0 h2
  obtain ⟨r, hr⟩ := row_of y c1 h3
  exact ⟨⟨s, r⟩, by rw [h1, hs, hr, uid266]; rfl⟩
end
end Go.Abs

/-
  The listed variables of the statement's world.
-/
namespace Go.Abs
open Go.Proofs
set_option maxRecDepth 100000
theorem laidVars_mem {P : Program} {W : World} {name : String} {d : DataW Unit} : ∀ {l : List (String × DataW Unit)} {ps : List MemPlace}, DataW.LaidVars P W l ps → (name, d) ∈ l →
    ∃ g t cs fuel p, P.globalNamed name = some g ∧ (P.globals[g]?).map (·.type) = some t ∧ W.var? P name = some cs ∧ DataW.trod (fun _ => ()) P W 0 (fun _ => true) false fuel t cs.toList = some (d, p) ∧ ∀ x ∈ MemPlace.row ⟨g, 0, none⟩ cs.size, x ∈ ps
  | [], _, _, h => by cases h
  | (n, d0) :: r, ps, h, hm => by
    obtain ⟨g, t, cs, fuel, p, q, h1, h2, h3, h4, h5, rfl⟩ := h
    rcases List.mem_cons.1 hm with e | hm
    · cases e
      exact ⟨g, t, cs, fuel, p, h1, h2, h3, h4, fun x hx => by simp [hx]⟩
    · obtain ⟨g', t', cs', fuel', p', k1, k2, k3, k4, k5⟩ := laidVars_mem h5 hm
      exact ⟨g', t', cs', fuel', p', k1, k2, k3, k4, fun x hx => by simp [k5 x hx]⟩
end Go.Abs

/-
  What the statement gives of the world's variables.
-/
namespace Go.Abs
open Go.Proofs Go.Proofs.YthckccalfpnmaaaGreatDoor
set_option maxRecDepth 100000
theorem pow_named : Tryz.prog.globalNamed "internal/strconv.uint64pow10" = some 1 := by kernel_rfl
theorem laid_filter : ((Rows.officeScriptsUptoRow.laid).filter fun x => x.2.handleName?.isSome) = [] := by kernel_rfl
theorem pow_t : (Tryz.prog.globals[1]?).map (·.type) = some 401 := by kernel_rfl
theorem pow_u : Tryz.prog.underlying 401 = some (.array 20 320) := by kernel_rfl
theorem pow_e : Tryz.prog.underlying 320 = some (.int .u64) := by kernel_rfl
theorem pow_ce : Tryz.prog.cellsOf 320 = 1 := by kernel_rfl
theorem pow_ct : Tryz.prog.cellsOf 401 = 20 := by kernel_rfl
theorem glob_ok {W : World} (h : laidMetH Tryz.prog Rows.officeScriptsUptoRow.laid W) : GlobOk Tryz.prog W (fun k => k < W.heap.size) := by
  unfold laidMetH at h
  rw [laid_filter] at h
  obtain ⟨ps, hv, _, hz⟩ := h
  obtain ⟨g, t, cs, fuel, p, k1, k2, k3, k4, k5⟩ := laidVars_mem (name := "internal/strconv.uint64pow10") (d := Lib.tabData .u64 Lib.pow10Tab) hv (by
    show _ ∈ [_, _, _, _, _, _, _]
    exact List.mem_cons_of_mem _ (List.mem_cons_of_mem _ List.mem_cons_self))
  rw [pow_named] at k1; cases k1
  rw [pow_t] at k2; cases k2
  have hcs := Lib.cells_of_tab pow_u pow_e pow_ce pow_ct k4
  have hcs' : cs = tab10 := by rw [tab10, ← hcs]
  have hlen : 0 < cs.size := by rw [hcs']; decide
  obtain ⟨⟨c, T, hh⟩, _⟩ := hz 1 0 (k5 _ (by simp [MemPlace.row]; exact hlen))
  refine ⟨fun g => by simp [PVV, Gl.g], fun g cs' hg => ?_⟩
  match g, hg with
  | 1, hg =>
    cases hg
    refine ⟨(Array.getElem?_eq_some_iff.1 hh).1, T, ?_⟩
    simp only [World.var?, pow_named, Option.bind_some, hh, Option.some.injEq] at k3
    rw [hh, k3, hcs']
end Go.Abs

/-
  A contract, as the statement's end wants it.
-/
namespace Go.Abs
section
variable [Gl] {P : Program}
theorem calls_of {f : FuncId} {args : List PV} {v : PV} (he : Enters P f) (h : GoodC P f args v) {w : World} {Imm : Nat → Prop} {cargs : List Value} (h1 : ∀ k, Imm k → k < w.heap.size) (hg : GlobOk P w Imm) (ha : PVVl P w Imm args cargs) :
    Calls P f cargs.toArray w fun e w' => ∃ cv, ∃ Imm' : Nat → Prop, e = .returned cv ∧ w.heap.size ≤ w'.heap.size ∧ (∀ k, k < w.heap.size → w'.heap[k]? = w.heap[k]?) ∧ (w'.os = w.os ∧ w'.output = w.output) ∧ PVV P w' Imm' v cv := by
  rcases h with h | h
  · refine (h.2 w Imm cargs h1 hg ha).mono ?_
    rintro e w' ⟨cv, Imm', k1, _, _, _, k5, k6, kio, k7⟩
    exact ⟨cv, Imm', k1, k5, k6, kio, k7⟩
  · obtain ⟨cv, k1, _⟩ := h w Imm cargs ha
    rw [he cargs.toArray w] at k1
    cases k1
theorem kept_of {w w' : World} (h : ∀ k, k < w.heap.size → w'.heap[k]? = w.heap[k]?) (hio : w'.os = w.os ∧ w'.output = w.output) (may : MemPlace → Prop) : w.keptBut w' may := by
  refine ⟨hio.1, hio.2, fun i hi => ?_⟩
  rw [h i hi]
  cases w.heap[i]? with
  | none => rfl
  | some o => cases o <;> first | exact ⟨rfl, rfl, rfl, fun _ _ => rfl⟩ | exact .inr ⟨rfl, rfl⟩ | rfl
theorem same_of {w w' : World} (h : ∀ k, k < w.heap.size → w'.heap[k]? = w.heap[k]?) {p : MemPlace} (hp : p.block < w.heap.size) : w.sameAt w' p := by
  cases p with
  | cell b o => simp only [World.sameAt, World.cell?]; rw [h b hp]
  | map b => simp only [World.sameAt]; rw [h b hp]
theorem post_plain {H : Type} {enc : TypeId × Value → H} {f : Func} {s : ChangeSpec} {apart fresh handsOn : Bool} {W W' : World} {args : Array Value} {v : Value} {ds gs : List (DataW H)} {before pa pv : List MemPlace}
    (hW : DataW.Whole enc P f.params.toList s.vars apart W args.toList ds gs before)
    (hres : ∀ (b : Nat) (sp : Nat → Bool) (hd : Bool), DataW.TrodAll enc P W' b sp hd f.resultTypes.toList (v.resultList f.resultTypes.size) (s.fn H (ds ++ gs)).results [])
    (hargs : ∀ sp : Nat → Bool, (∀ p ∈ before, sp p.block = true) → DataW.TrodAll enc P W' 0 sp true f.params.toList args.toList (s.fn H (ds ++ gs)).args pa)
    (hvars : ∀ sp : Nat → Bool, (∀ p ∈ before, sp p.block = true) → DataW.TrodVars enc P W' sp s.vars (s.fn H (ds ++ gs)).vars pv)
    (hps : before = pa ++ pv) (hk : W.keptBut W' (· ∈ before)) : s.post enc P f apart fresh handsOn false W args v W' := by
  have hold : ∀ p ∈ before, (fun b => decide (b < W.heap.size)) p.block = true := fun p hp => by simpa using hW.lt p hp
  refine ⟨ds, gs, before, [], pa, pv, hW, hres _ _ _, hargs _ hold, hvars _ hold, World.keptBut_mono (fun p hp => ⟨hp, ?_⟩) hk, fun h => by cases h⟩
  rw [hps, List.mem_append] at hp
  exact Or.inr hp
end
end Go.Abs

/-
  The statement of a law that returns true: what its contract gives.
-/
namespace Go.Abs
open Go.Deep
section
variable {H : Type} {enc : TypeId × Value → H} {P : Program} {w : World}

theorem toPV_shp {n : Nat} {t : TypeId} {d : DataW H} {cs : List Value} {Imm : Nat → Prop} (h : PVC P w Imm (toPV P n t d) cs) :
    (∃ fs, P.underlying t = some (.struct fs) ∧ ∃ u, shp (toPV P n t d) = .agg u) ∨ ((P.underlying t = some .bool ∨ (∃ k, P.underlying t = some (.int k)) ∨ P.underlying t = some .string ∨ ∃ e, P.underlying t = some (.slice e)) ∧ shp (toPV P n t d) = .leaf) := by
  cases n with
  | zero => simp only [toPV, PVC] at h
  | succ n =>
    unfold toPV at h ⊢
    split at h
    · rename_i hu; exact .inr ⟨.inl hu, rfl⟩
    · rename_i k _ hu; exact .inr ⟨.inr (.inl ⟨_, hu⟩), rfl⟩
    · rename_i hu; exact .inr ⟨.inr (.inr (.inl hu)), rfl⟩
    · rename_i hu; exact .inr ⟨.inr (.inr (.inr ⟨_, hu⟩)), rfl⟩
    · rename_i hu; exact .inr ⟨.inr (.inr (.inr ⟨_, hu⟩)), rfl⟩
    · rename_i hu; exact .inl ⟨_, hu, _, rfl⟩
    · simp only [PVC] at h
theorem trod_pvv [Gl] {n : Nat} {t : TypeId} {v : Value} {d : DataW H} {ps : List MemPlace} {base base' : Nat} {r : Reach} (ho : okT P n t = true) (h : DataW.Trod enc P w base (fun _ => true) true t v d ps) (hv : Value.okWide P w r base' t v) :
    PVV P w (fun k => k < w.heap.size) (toPV P n t d) v := by
  obtain ⟨fuel, h⟩ := h
  have hc := trod_pv n fuel t _ d ps ho h
  rcases toPV_shp hc with ⟨fs, hu, u, hs⟩ | ⟨hu, hs⟩
  · simp only [Value.okWide, hu] at hv
    obtain ⟨cs, rfl, _, _⟩ := hv
    rw [PVC_agg hs] at hc
    simpa [Value.cells] using hc
  · rw [PVC_leaf hs] at hc
    obtain ⟨c, hc, hp⟩ := hc
    have : v = c := by
      cases v with
      | agg cs => rcases hu with hu | ⟨k, hu⟩ | hu | ⟨e, hu⟩ <;> simp [Value.okWide, hu, Cell.okWide, Cell.ok] at hv
      | _ => simpa [Value.cells] using hc
    rw [this]; exact hp
/-- the values of a list of readings -/
def toPVs (P : Program) (n : Nat) : List TypeId → List (DataW H) → List PV
  | t :: ts, d :: ds => toPV P n t d :: toPVs P n ts ds
  | _, _ => []
theorem trod_pvvl [Gl] {n : Nat} {base : Nat} {r : Reach} : ∀ {ts : List TypeId} {vs : List Value} {ds : List (DataW H)} {ps : List MemPlace}, (∀ t ∈ ts, okT P n t = true) → DataW.TrodAll enc P w 0 (fun _ => true) true ts vs ds ps →
    (∀ (j : Nat) t v, ts[j]? = some t → vs[j]? = some v → Value.okWide P w r base t v) → PVVl P w (fun k => k < w.heap.size) (toPVs P n ts ds) vs ∧ ds.length = ts.length
  | [], [], [], _, _, _, _ => by simp [toPVs, PVVl]
  | t :: ts, v :: vs, d :: ds, _, ho, ⟨p, q, h1, h2, _⟩, hv => by
    have ⟨i1, i2⟩ := trod_pvvl (ts := ts) (vs := vs) (ds := ds) (fun t ht => ho t (List.mem_cons_of_mem _ ht)) h2 (fun j t v ht hv' => hv (j + 1) t v (by simpa using ht) (by simpa using hv'))
    refine ⟨?_, by simp [i2]⟩
    simp only [toPVs, PVVl]
    exact ⟨v, vs, rfl, trod_pvv (ho t List.mem_cons_self) h1 (hv 0 t v rfl rfl), i1⟩
/-- what is read of an argument can be read, again -/
theorem trod_pvc {n : Nat} : ∀ {ts : List TypeId} {vs : List Value} {ds : List (DataW H)} {ps : List MemPlace}, (∀ t ∈ ts, okT P n t = true) → DataW.TrodAll enc P w 0 (fun _ => true) true ts vs ds ps →
    ∀ p ∈ ts.zip ds, ∃ cs, PVC P w (fun k => k < w.heap.size) (toPV P n p.1 p.2) cs
  | [], [], [], _, _, _ => by simp
  | t :: ts, v :: vs, d :: ds, _, ho, ⟨p, q, ⟨fuel, h1⟩, h2, _⟩ => by
    have i1 := trod_pvc (ts := ts) (vs := vs) (ds := ds) (fun t ht => ho t (List.mem_cons_of_mem _ ht)) h2
    intro x hx
    rw [List.zip_cons_cons] at hx
    rcases List.mem_cons.1 hx with rfl | hx
    · exact ⟨_, trod_pv n fuel t _ d p (ho t List.mem_cons_self) h1⟩
    · exact i1 x hx
theorem trodAll_carry {w' : World} {base : Nat} {spare : Nat → Bool} {held : Bool} : ∀ {ts : List TypeId} {vs : List Value} {ds : List (DataW H)} {ps : List MemPlace}, DataW.TrodAll enc P w base spare held ts vs ds ps → (∀ p ∈ ps, w.sameAt w' p) →
    DataW.TrodAll enc P w' base spare held ts vs ds ps
  | [], [], [], _, h, _ => h
  | t :: ts, v :: vs, d :: ds, _, ⟨p, q, ⟨n, h1⟩, h2, e⟩, hs => by
    subst e
    exact ⟨p, q, ⟨n, DataW.trod_carry n _ _ _ h1 fun x hx => hs x (List.mem_append_left _ hx)⟩, trodAll_carry h2 fun x hx => hs x (List.mem_append_right _ hx), rfl⟩

/-- A LAW's CONTRACT, AS THE STATEMENT WANTS IT -/
theorem law_contract [Gl] {f : FuncId} {fn : Func} {s : ChangeSpec} {n : Nat} {T : TypeId → Prop} (hvars : s.vars = []) (hfn : ∀ (H : Type) (ds : List (DataW H)), ds.length = fn.params.size → (s.fn H ds).results = [.lit (.bool true)] ∧ (s.fn H ds).args = ds ∧ (s.fn H ds).vars = [])
    (K : Kids P T) (hz : ∀ t e, T t → P.underlying t = some (.slice e) → 0 < P.cellsOf e) (hT : ∀ t ∈ fn.params.toList, T t) (hok : ∀ t ∈ fn.params.toList, okT P n t = true) {tb : TypeId} (hr : fn.resultTypes = #[tb]) (hb : P.underlying tb = some .bool)
    (hent : Enters P f) {W : World} {args : Array Value} {ds gs : List (DataW H)} {before : List MemPlace} {base : Nat} (hg : GlobOk P W (fun k => k < W.heap.size))
    (hgood : (∀ p ∈ fn.params.toList.zip ds, ∃ cs, PVC P W (fun k => k < W.heap.size) (toPV P n p.1 p.2) cs) → GoodC P f (toPVs P n fn.params.toList ds) (.bool true))
    (hval : ∀ (j : Nat) t v, fn.params[j]? = some t → args[j]? = some v → Value.okWide P W .any base t v)
    (hW : DataW.Whole enc P fn.params.toList s.vars false W args.toList ds gs before) :
    Calls P f args W fun e W' => ∃ v, e = .returned v ∧ s.post enc P fn false true false false W args v W' := by
  have hW' := hW
  obtain ⟨p, q, hA, hV, rfl, hfz, hnd⟩ := hW
  rw [hvars] at hV
  have ⟨hp, hlen⟩ := trod_pvvl hok hA (fun j t v ht hv => hval j t v (by simpa using ht) (by simpa using hv))
  have hgs : gs = [] ∧ q = [] := by
    cases gs with
    | nil => exact ⟨rfl, hV⟩
    | cons g gs => exact hV.elim
  obtain ⟨rfl, rfl⟩ := hgs
  have hc := calls_of hent (hgood (trod_pvc hok hA)) (fun k hk => hk) hg hp
  refine hc.mono ?_
  rintro e W' ⟨cv, Imm', rfl, k1, k2, k3, k4⟩
  refine ⟨cv, rfl, ?_⟩
  obtain ⟨f1, f2, f3⟩ := hfn H (ds ++ []) (by simpa using hlen)
  have e1 : cv = .bool true := by simpa [PVV] using k4
  have hlt := DataW.TrodAll.lt hA
  refine post_plain (pa := p) (pv := []) hW' ?_ ?_ ?_ rfl (kept_of k2 k3 _)
  · intro b sp hd
    rw [f1, hr, e1]
    refine ⟨[], [], ⟨1, ?_⟩, rfl, rfl⟩
    simp [DataW.trod, hb, Value.cells]
  · intro sp hs
    rw [f2]
    simp only [List.append_nil] at hs ⊢
    exact trodAll_carry (DataW.TrodAll.respare K hz hT hA fun p hp => hs p hp) fun x hx => same_of k2 (hlt x hx)
  · intro sp hs
    rw [f3, hvars]; rfl
end
end Go.Abs
