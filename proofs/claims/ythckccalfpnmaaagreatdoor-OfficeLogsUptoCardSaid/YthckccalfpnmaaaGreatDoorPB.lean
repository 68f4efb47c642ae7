import Derived.Test.YthckccalfpnmaaaGreatDoorRows
import Derived.Deep.DeepHandedRow
import Derived.Deep.DeepWitnessRowRef
import Derived.Lib.LaidIn
import Derived.Lib.LaidTab
import Derived.ProofKit
import Derived.OpenShut
import Derived.Test.YthckccalfpnmaaaGreatDoorPA
import Derived.ChangeBears
import Derived.JoinedCond
import Derived.Seven
import Derived.SevenTiedAt
import Derived.Shelf.Strings.OnBuilder
import Derived.Shelf.Strings.BuilderX
import Derived.Shelf.Small.Strs
import Derived.Shelf.Strconv.Itoa3
import Derived.Shelf.Strconv.AtoiAll
import Derived.Shelf.Strings.Search1
import Derived.Shelf.Strings.Search2
import Derived.Shelf.Strings.Search3
import Derived.Shelf.Strings.Count
import Derived.Shelf.Strings.Repeat
import Derived.Test.YthckccalfpnmaaaGreatDoorProg
import Derived.Shelf.LaysM
import Derived.Shelf.LaysC
import Derived.Lib.AtoiErrMem
import Derived.Lib.Builder
import Derived.WalkKit
import Derived.Laws.Externs
import Derived.Shelf.RegionOpenPlain
import Derived.Lib.Overlaps
import Derived.KernelRfl
/-
  A world for the witness: the settled one, the listed variables holding what their initialisers lay.
-/
set_option linter.unusedSimpArgs false
set_option linter.unusedVariables false
set_option linter.unusedSectionVars false
namespace Go.Abs
open Go.Proofs Go.Proofs.YthckccalfpnmaaaGreatDoor
def litV : DataW Unit → Value
  | .lit (.int k n) => .int k n
  | _ => .bool false
def aggL : DataW Unit → List (DataW Unit)
  | .agg l => l
  | _ => []
def cells1 (d : DataW Unit) : List Value := (aggL d).map litV
def cells2 (d : DataW Unit) : List Value := (aggL d).flatMap cells1
def bytesOfErr : DataW Unit → List UInt8
  | .iface _ (.ptr (.agg [.lit (.string b)])) => b
  | _ => []
def putG (h : Array Go.Obj) (g : Nat) (cs : Array Value) : Array Go.Obj := h.modify g fun
  | .cells _ t frozen => Go.Obj.cells cs t frozen
  | o => o
noncomputable def laidWorld (os : Os) : World :=
  let N := (World.settled Tryz.prog os).heap.size
  let w0 := World.holding Tryz.prog os ⟨#[.cells #[.string ⟨(bytesOfErr Rows.laid_strconv_ErrRange).toArray⟩] 417, .cells #[.string ⟨(bytesOfErr Rows.laid_strconv_ErrSyntax).toArray⟩] 417], #[], []⟩
  let h0 := putG w0.heap 3 #[.iface 415 (.pointer (some ⟨N, 0, none⟩))]
  let h1 := putG h0 2 #[.iface 415 (.pointer (some ⟨N + 1, 0, none⟩))]
  let h2 := putG h1 6 (cells1 Rows.laid_math_bits_deBruijn32tab).toArray
  let h3 := putG h2 7 (cells1 Rows.laid_math_bits_deBruijn64tab).toArray
  let h4 := putG h3 1 (cells1 Rows.laid_internal_strconv_uint64pow10).toArray
  let h5 := putG h4 5 (cells2 Rows.laid_unicode_utf8_acceptRanges).toArray
  let h6 := putG h5 4 (cells1 Rows.laid_unicode_utf8_first).toArray
  { w0 with heap := h6 }
noncomputable abbrev laidN : Nat := (World.settled Tryz.prog default).heap.size
set_option maxRecDepth 1000000 in
theorem laid_in (os : Os) (args : Array Value) : LaidIn Tryz.prog ((laidWorld os).forCall (fun _ _ => 0) ⟨#[], args, []⟩).memory Rows.officeScriptsUptoRow.laid [6, 7, 1, 5, 3, laidN, 2, laidN + 1, 4] :=
  LaidIn.of_run [6, 7, 1, 5, 3, laidN, 2, laidN + 1, 4] 8 (by kernel_rfl) (by kernel_rfl) (by kernel_rfl) (by kernel_rfl)
theorem laid_met (os : Os) (args : Array Value) : laidMet Tryz.prog Rows.officeScriptsUptoRow.laid ((laidWorld os).forCall (fun _ _ => 0) ⟨#[], args, []⟩).memory := (laid_in os args).met
end Go.Abs

/-
  FOR A PROOF OF AN '..UptoSaid': WHAT THE BOUND GIVES. Copy it as <Name>Bulk.lean (put your seat's Name for YthckccalfpnmaaaGreatDoor, the bound of 'uptoSmall' for 1048576), name it in GOCLAIM.json's 'order' behind <Name>Rows. By an AI agent, Sun Nov 15 2026. No person has read it. No macro, syntax, notation, axiom, sorry.
-/
namespace Go.Proofs.YthckccalfpnmaaaGreatDoor.bulks

theorem one_le {H : Type} (d : DataW H) : 1 ≤ Rows.uptoBulk d := by
  cases d with
  | lit l => cases l <;> simp [Rows.uptoBulk]
  | nil => simp [Rows.uptoBulk]
  | ptr d => simp [Rows.uptoBulk]
  | slice elems spare => simp [Rows.uptoBulk]
  | agg parts => simp [Rows.uptoBulk]
  | iface t d => simp [Rows.uptoBulk]
  | map entries => simp [Rows.uptoBulk]
  | held h => simp [Rows.uptoBulk]

/-- a part's bulk is at most the whole's -/
theorem part_le {H : Type} {d : DataW H} {l : List (DataW H)} (h : d ∈ l) : Rows.uptoBulk d ≤ Rows.uptoBulkAll l := by
  induction l with
  | nil => cases h
  | cons x r ih =>
    simp only [Rows.uptoBulkAll]
    cases List.mem_cons.1 h with
    | inl e => subst e; omega
    | inr e => have := ih e; omega

theorem append {H : Type} (l r : List (DataW H)) : Rows.uptoBulkAll (l ++ r) = Rows.uptoBulkAll l + Rows.uptoBulkAll r := by
  induction l with
  | nil => simp [Rows.uptoBulkAll]
  | cons x l ih => simp only [List.cons_append, Rows.uptoBulkAll, ih]; omega

/-- so many values at the most -/
theorem length_le {H : Type} (l : List (DataW H)) : l.length ≤ Rows.uptoBulkAll l := by
  induction l with
  | nil => simp [Rows.uptoBulkAll]
  | cons x r ih => have := one_le x; simp only [Rows.uptoBulkAll, List.length_cons]; omega

/-- a slice's places, and what they hold -/
theorem slice_le {H : Type} (elems spare : List (DataW H)) : elems.length + spare.length + 1 ≤ Rows.uptoBulk (.slice elems spare) := by
  have h1 := length_le elems
  have h2 := length_le spare
  simp only [Rows.uptoBulk]
  omega
theorem slice_elems {H : Type} (elems spare : List (DataW H)) : Rows.uptoBulkAll elems + 1 ≤ Rows.uptoBulk (.slice elems spare) := by
  simp only [Rows.uptoBulk]
  omega

/-- a string's letters -/
theorem string_eq {H : Type} (bytes : List UInt8) : Rows.uptoBulk (DataW.lit (H := H) (.string bytes)) = bytes.length + 1 := by
  simp [Rows.uptoBulk]

/-- THE BOUND, as the builder hands it over ('hk') -/
theorem bound {H : Type} {l : List (DataW H)} (hk : Rows.uptoSmall H l = true) : Rows.uptoBulkAll l ≤ 1048576 := by
  simpa [Rows.uptoSmall] using hk

/-- ROOM: a slice of n elements of b bytes, grown by append: below the 2^48 bytes that append, make and a Builder bear. Here n up to 2^21, b up to 4,096: put your own numbers. -/
theorem room {n b : Nat} (hn : n ≤ 2097152) (hb : b ≤ 4096) : (n + n / 4 + 192) * b ≤ 281474976710656 := by
  have h : (n + n / 4 + 192) * b ≤ 2621632 * 4096 := Nat.mul_le_mul (by omega) hb
  omega

end Go.Proofs.YthckccalfpnmaaaGreatDoor.bulks

/-
  What the statements of this seat share: the table of types; the bulk of an argument.
-/
namespace Go.Abs
open Go.Proofs Go.Proofs.YthckccalfpnmaaaGreatDoor
set_option maxRecDepth 100000
theorem kidsT : Kids Tryz.prog (· < Tryz.prog.types.size) := kids_rows (by kernel_rfl) (by kernel_rfl)
theorem fullT : ∀ t e, t < Tryz.prog.types.size → Tryz.prog.underlying t = some (.slice e) → 0 < Tryz.prog.cellsOf e := slices_full_of Tryz.prog (by kernel_rfl)
section
variable {H : Type} {W : World} {Imm : Nat → Prop}
/-- an argument that is a slice: a list, no longer than its bulk -/
theorem list_arg {α : Type} {F : α → PV} {n : Nat} {t e : TypeId} (ht : Tryz.prog.underlying t = some (.slice e)) (hF : ∀ (d : DataW H) c, PVC Tryz.prog W Imm (toPV Tryz.prog n e d) c → ∃ a, toPV Tryz.prog n e d = F a)
    {d : DataW H} (h : ∃ cs, PVC Tryz.prog W Imm (toPV Tryz.prog (n + 1) t d) cs) (hb : Rows.uptoBulk d ≤ 1048576) : ∃ l : List α, toPV Tryz.prog (n + 1) t d = .seq (l.map F) ∧ l.length ≤ 1048576 := by
  obtain ⟨cs, hc⟩ := h
  obtain ⟨l, h1, h2⟩ := seq_of ht hF hc
  refine ⟨l, h1, ?_⟩
  cases d with
  | slice es sp =>
    have := bulks.slice_le es sp
    rw [h2 es sp rfl]; omega
  | nil =>
    have : l.map F = [] := by
      have h3 := h1
      simp only [toPV, ht, PV.seq.injEq] at h3
      exact h3.symm
    have : l = [] := by simpa using this
    subst this; simp
  | lit x => simp only [toPV, ht, PVC] at hc
  | ptr x => simp only [toPV, ht, PVC] at hc
  | agg x => simp only [toPV, ht, PVC] at hc
  | iface x y => simp only [toPV, ht, PVC] at hc
  | map x => simp only [toPV, ht, PVC] at hc
  | held x => simp only [toPV, ht, PVC] at hc
theorem rows_arg {d : DataW H} (h : ∃ cs, PVC Tryz.prog W Imm (toPV Tryz.prog 8 22 d) cs) (hb : Rows.uptoBulk d ≤ 1048576) : ∃ l : List RowD, toPV Tryz.prog 8 22 d = .seq (l.map eRow) ∧ l.length ≤ 1048576 :=
  list_arg (n := 7) un22 (fun d c hc => row_of (n := 4) d c hc) h hb
theorem edits_arg {d : DataW H} (h : ∃ cs, PVC Tryz.prog W Imm (toPV Tryz.prog 8 128 d) cs) (hb : Rows.uptoBulk d ≤ 1048576) : ∃ l : List EditD, toPV Tryz.prog 8 128 d = .seq (l.map eEdit) ∧ l.length ≤ 1048576 :=
  list_arg (n := 7) un128 (fun d c hc => edit_of (n := 3) d c hc) h hb
end
end Go.Abs

/-
  Facts about the whole program that each statement of this seat asks.
-/
namespace Go.Abs
open Go.Proofs Go.Proofs.YthckccalfpnmaaaGreatDoor
set_option maxRecDepth 100000
theorem p_laid : laidOutB Tryz.prog = true := by kernel_rfl
theorem p_maps : mapsRowed Tryz.prog = true := by kernel_rfl
theorem p_stops : Tryz.prog.stops = [] := by kernel_rfl
theorem p_stopKnobs : Tryz.prog.stopKnobs = [] := by kernel_rfl
theorem p_plainKeys : Tryz.prog.plainKeys = true := by kernel_rfl
theorem p_stopsHeard : Tryz.prog.stopsHeard = true := by kernel_rfl
theorem p_mayEnter : Tryz.prog.mayEnter = true := by kernel_rfl
theorem p_lifts : Tryz.prog.liftsFinal = Rows.officeScriptsUptoRow.lifted := by kernel_rfl
theorem p_make : Tryz.prog.make = some Rows.officeScriptsUptoRow.make := by kernel_rfl
end Go.Abs

/-
  The statement's builders, said of the program by its own name.
-/
namespace Go.Abs
open Go.Proofs
section
variable {H : Type} {enc : TypeId × Value → H}
theorem said_of {p : Pinned} {C : Checked} {P : Program} (hC : p.checked = C) (hP : C.prog = P) {s : OpenSpec} {c : OpenClaim} (f : FuncId) (fn : Func)
    (hn : c.program = p.name) (hs : c.sum = p.sum) (hsp : c.spec = s.name)
    (hstart : c.start = .entering) (hout : c.outside = []) (hin : c.inits = []) (hun : c.under = none) (hi4 : c.initsInPlace = [] ∧ c.initsUnfollowed = false ∧ c.initsRecurse = false ∧ c.initsNamed = [] ∧ c.initsPassed = []) (hnb : c.noBlocks = false) (hlv : c.leaving = false) (hfo : c.followed = none) (hnar : c.narrowed = s.cond.isSome) (hstill : c.still = false)
    (hfn : P.funcNamed c.func = some f) (hf : P.funcs[f]? = some fn)
    (closed : joinedFacts P f fn s.bare c = true)
    (hinst : fn.isInstance P c.origin c.targs) (hwrap : fn.isWrapper P c.wrapper c.mainSum)
    (h : ∀ os : Os, os.Started → ∀ (H : Type) (enc : TypeId × Value → H) (F : Stop.Interp),
      ReturnsInHanded c.assume C os f .any (s.preRow enc P fn c.domain c.apart c.laid) ((s.at F).post enc P fn c.apart c.fresh c.handsOn c.again)) : c.holds p s := by
  subst hC; subst hP
  exact OpenClaim.holds_of_cond f fn hn hs hsp hstart hout hin hun hi4 hnb hlv hfo hnar hstill hfn hf closed hinst hwrap (fun os st H enc _ F => by rw [OpenClaim.pre_eq_preRow]; exact h os st H enc F)
theorem lifted_of {a : Assume} {C : Checked} {P : Program} (hP : C.prog = P) {os : Os} {f : FuncId} {fn : Func} {s : OpenSpec} {F : Stop.Interp} {conds : List PathCond} {apart fresh handsOn again : Bool} {laid : List (String × DataW Unit)}
    (own : ownKnob P.godebug = none) (started : os.Started) (noInit : P.inits.idxOf? f = none) (hfn : P.funcs[f]? = some fn)
    (witness : ∃ (w : World) (tape : Tape) (i : Input), w.os = os ∧ (w.forCall tape i).Shaped P ∧ i.vars = [] ∧ Input.okWide P (w.forCall tape i) .any w.heap.size f i ∧
      s.preRow enc P fn conds apart laid (w.forCall tape i).memory i.args ∧ a.holds P (lone (Frame.enter P f i.args .normal) [] (w.forCall tape i)))
    (contract : ∀ (W : World) (base : Nat) (args : Array Value) (ds gs : List (DataW H)) (before : List MemPlace),
      (∀ (j : Nat) t v, fn.params[j]? = some t → args[j]? = some v → Value.okWide P W .any base t v) →
      DataW.Whole enc P fn.params.toList s.vars apart W args.toList ds gs before →
      (∀ k, s.cond = some k → k H (ds ++ gs) = true) →
      laidMetH P laid W →
      Calls P f args W fun e W' => ∃ v, e = .returned v ∧ (s.at F).post enc P fn apart fresh handsOn again W args v W') :
    ReturnsInHanded a C os f .any (s.preRow enc P fn conds apart laid) ((s.at F).post enc P fn apart fresh handsOn again) := by
  subst hP
  exact returnsInHanded_of_row own started noInit hfn witness (fun W base args ds gs before h1 h2 _ h4 _ h6 _ _ => contract W base args ds gs before h1 h2 h4 h6)
theorem witness_of {C : Checked} {P : Program} (hP : C.prog = P) {os : Os} {f : FuncId} {fn : Func} {s : OpenSpec} {conds : List PathCond} {apart : Bool} {laid : List (String × DataW Unit)} (w0 : World) (args : Array Value) (hos : w0.os = os)
    (hv : (w0.forCall (fun _ _ => 0) ⟨#[], args, []⟩).variablesRefB P = true)
    (hr : ((w0.forCall (fun _ _ => 0) ⟨#[], args, []⟩).heap.toList.drop P.globals.size).take ((begin P (fun _ _ => 0) default).world.heap.size - P.globals.size) =
      (begin P (fun _ _ => 0) default).world.heap.toList.drop P.globals.size)
    (hok : Input.okWideB P (w0.forCall (fun _ _ => 0) ⟨#[], args, []⟩) f ⟨#[], args, []⟩ = true)
    (hrow : s.preRow enc P fn conds apart laid (w0.forCall (fun _ _ => 0) ⟨#[], args, []⟩).memory args) :
    ∃ (w : World) (tape : Tape) (i : Input), w.os = os ∧ (w.forCall tape i).Shaped P ∧ i.vars = [] ∧ Input.okWide P (w.forCall tape i) .any w.heap.size f i ∧
      s.preRow enc P fn conds apart laid (w.forCall tape i).memory i.args ∧ ({ modest := false } : Assume).holds P (lone (Frame.enter P f i.args .normal) [] (w.forCall tape i)) := by
  subst hP
  exact witness_row_atRef (C := C) false w0 args hos hv hr hok hrow
theorem card_of {p : Pinned} {C : Checked} {P : Program} (hC : p.checked = C) (hP : C.prog = P) (Lk : Looks) {s : OpenSpec} {c : OpenClaim} (kinds : List LaidKind) (tests : Bool) (har : Bool × String) (lk : Bool) {f0 : FuncId} {fn0 : Func}
    (hc : c.holds p s) (hw : c.wfByText s = true) (htie : c.laidByTextAt Lk p kinds tests)
    (hst : c.start = .entering) (hnb : c.noBlocks = false ∧ c.again = false) (hm : P.mainIs = some (har.1, har.2.toList)) (hn : (!har.1 && har.2.isEmpty && !lk) = false)
    (hfn : P.funcNamed c.func = some f0) (hf : P.funcs[f0]? = some fn0) (hlk : lk = P.looks []) (hsi : ∀ t ∈ fn0.params.toList, P.wantsStandIn t = false)
    (hg : false = c.goesBy P) :
    Claim7.holds p (.plain s) { stood := { row := c, standIns := [], harness := har, looks := lk }, kinds := [], alts := [], laidByText := true, laidKinds := kinds, laidTests := tests, laidLooks := Lk } := by
  subst hC; subst hP
  refine Claim7.holds_tied_plain_at Lk [] kinds tests har lk hc (fun _ h => by cases h) hw (fun _ h => by cases h) htie hst hnb hm hn (fun f fn h1 h2 => ?_) hg
  rw [hfn] at h1
  cases h1
  rw [hf] at h2
  cases h2
  exact ⟨hlk, fun j t ht => hsi t (by simpa using Array.mem_of_getElem? ht)⟩
end
theorem pin_checked : Go.Proofs.YthckccalfpnmaaaGreatDoor.Tryz.pinned.checked = Tryz.checked := rfl
theorem checked_prog : Tryz.checked.prog = Tryz.prog := rfl
theorem p_looks : true = Tryz.prog.looks [] := by kernel_rfl
theorem p_own : ownKnob Tryz.prog.godebug = none := by kernel_rfl
end Go.Abs

/-
  The functions of the program, as the reckoner looks them up.
-/
namespace Go.Abs
open Go.Proofs
noncomputable def tabL : List (Nat × Func) := [(17, Tryz.f17), (19, Tryz.f19), (20, Tryz.f20), (21, Tryz.f21), (25, Tryz.f25), (28, Tryz.f28), (29, Tryz.f29), (31, Tryz.f31), (36, Tryz.f36), (45, Tryz.f45), (46, Tryz.f46), (55, Tryz.f55), (56, Tryz.f56), (61, Tryz.f61), (63, Tryz.f63), (64, Tryz.f64), (66, Tryz.f66), (67, Tryz.f67), (72, Tryz.f72), (73, Tryz.f73), (77, Tryz.f77), (88, Tryz.f88), (89, Tryz.f89), (90, Tryz.f90), (91, Tryz.f91), (92, Tryz.f92), (93, Tryz.f93), (94, Tryz.f94), (95, Tryz.f95), (96, Tryz.f96), (97, Tryz.f97), (98, Tryz.f98), (99, Tryz.f99), (100, Tryz.f100), (101, Tryz.f101), (102, Tryz.f102), (103, Tryz.f103), (104, Tryz.f104), (105, Tryz.f105), (106, Tryz.f106), (107, Tryz.f107), (109, Tryz.f109), (110, Tryz.f110), (111, Tryz.f111), (115, Tryz.f115), (117, Tryz.f117), (118, Tryz.f118), (119, Tryz.f119), (124, Tryz.f124), (125, Tryz.f125), (126, Tryz.f126), (127, Tryz.f127), (128, Tryz.f128), (129, Tryz.f129), (130, Tryz.f130), (131, Tryz.f131), (132, Tryz.f132), (138, Tryz.f138), (139, Tryz.f139), (140, Tryz.f140), (141, Tryz.f141), (144, Tryz.f144), (145, Tryz.f145), (146, Tryz.f146), (148, Tryz.f148), (151, Tryz.f151), (152, Tryz.f152), (153, Tryz.f153), (154, Tryz.f154), (157, Tryz.f157), (158, Tryz.f158), (159, Tryz.f159), (160, Tryz.f160), (161, Tryz.f161), (163, Tryz.f163), (164, Tryz.f164), (165, Tryz.f165), (166, Tryz.f166), (167, Tryz.f167), (168, Tryz.f168), (169, Tryz.f169), (170, Tryz.f170), (171, Tryz.f171), (172, Tryz.f172), (177, Tryz.f177), (178, Tryz.f178), (179, Tryz.f179), (180, Tryz.f180), (181, Tryz.f181), (182, Tryz.f182), (183, Tryz.f183), (184, Tryz.f184), (185, Tryz.f185), (186, Tryz.f186), (187, Tryz.f187), (188, Tryz.f188), (189, Tryz.f189), (190, Tryz.f190), (191, Tryz.f191), (192, Tryz.f192), (193, Tryz.f193), (194, Tryz.f194), (195, Tryz.f195), (196, Tryz.f196), (197, Tryz.f197), (199, Tryz.f199), (200, Tryz.f200), (201, Tryz.f201), (202, Tryz.f202), (203, Tryz.f203), (204, Tryz.f204), (205, Tryz.f205), (206, Tryz.f206), (207, Tryz.f207), (208, Tryz.f208), (209, Tryz.f209), (210, Tryz.f210), (212, Tryz.f212), (213, Tryz.f213), (214, Tryz.f214), (215, Tryz.f215), (216, Tryz.f216), (217, Tryz.f217), (218, Tryz.f218), (221, Tryz.f221), (222, Tryz.f222), (223, Tryz.f223), (225, Tryz.f225), (226, Tryz.f226), (227, Tryz.f227), (228, Tryz.f228), (229, Tryz.f229), (230, Tryz.f230), (231, Tryz.f231), (232, Tryz.f232), (233, Tryz.f233), (234, Tryz.f234), (235, Tryz.f235), (237, Tryz.f237), (238, Tryz.f238), (239, Tryz.f239), (240, Tryz.f240), (241, Tryz.f241), (242, Tryz.f242), (243, Tryz.f243), (244, Tryz.f244), (245, Tryz.f245), (246, Tryz.f246), (247, Tryz.f247), (248, Tryz.f248), (249, Tryz.f249), (250, Tryz.f250), (251, Tryz.f251), (252, Tryz.f252), (255, Tryz.f255), (256, Tryz.f256), (257, Tryz.f257), (258, Tryz.f258), (259, Tryz.f259), (260, Tryz.f260), (261, Tryz.f261), (262, Tryz.f262), (263, Tryz.f263), (264, Tryz.f264), (265, Tryz.f265), (266, Tryz.f266), (267, Tryz.f267), (268, Tryz.f268), (269, Tryz.f269), (270, Tryz.f270), (271, Tryz.f271), (273, Tryz.f273), (275, Tryz.f275), (276, Tryz.f276), (277, Tryz.f277), (278, Tryz.f278), (279, Tryz.f279), (280, Tryz.f280), (281, Tryz.f281), (282, Tryz.f282), (283, Tryz.f283), (284, Tryz.f284), (285, Tryz.f285), (286, Tryz.f286), (287, Tryz.f287), (288, Tryz.f288), (289, Tryz.f289), (290, Tryz.f290), (291, Tryz.f291), (292, Tryz.f292), (293, Tryz.f293), (295, Tryz.f295), (296, Tryz.f296), (298, Tryz.f298), (299, Tryz.f299), (300, Tryz.f300), (301, Tryz.f301), (302, Tryz.f302), (303, Tryz.f303), (304, Tryz.f304), (305, Tryz.f305), (306, Tryz.f306), (307, Tryz.f307), (308, Tryz.f308), (309, Tryz.f309), (310, Tryz.f310), (311, Tryz.f311), (312, Tryz.f312), (313, Tryz.f313), (314, Tryz.f314), (315, Tryz.f315), (316, Tryz.f316), (317, Tryz.f317), (318, Tryz.f318), (319, Tryz.f319), (320, Tryz.f320), (321, Tryz.f321), (322, Tryz.f322), (323, Tryz.f323), (324, Tryz.f324), (325, Tryz.f325), (326, Tryz.f326), (327, Tryz.f327), (328, Tryz.f328), (329, Tryz.f329), (330, Tryz.f330), (331, Tryz.f331), (332, Tryz.f332), (333, Tryz.f333), (334, Tryz.f334), (335, Tryz.f335), (336, Tryz.f336)]
def lookT : List (Nat × Func) → Nat → Option Func
  | [], _ => none
  | (i, f) :: r, n => bif Nat.beq n i then some f else lookT r n
noncomputable def pl0 : Plan := ⟨lookT tabL, fun _ _ => none, fun _ _ _ => none, fun _ _ => 0, fun _ _ _ => none⟩
noncomputable def P0 := Tryz.prog
def S (s : String) : PV := .str (s.toUTF8.data.toList.map (·.toNat))
end Go.Abs

/- Contracts of library functions at this program, as the shelf lays them. -/
namespace Go.Proofs
open Go.Shelf
def Tryz.lays156_ren : Go.Shelf.Ren := ⟨fun | 156 => 159 | 165 => 169 | 166 => 97 | 169 => 101 | 240 => 180 | 241 => 230 | 276 => 236 | 277 => 274 | n => n, fun | 31 => 44 | 9 => 9 | 3 => 3 | 4 => 4 | 0 => 0 | 20 => 20 | 72 => 162 | 76 => 165 | 70 => 160 | 37 => 126 | 75 => 164 | 127 => 283 | 164 => 326 | 5 => 5 | 80 => 111 | n => n, fun | n => n⟩
theorem Tryz.lays156 : Go.Proofs.Lays.n156 Tryz.prog Tryz.lays156_ren := {
  mixed := by kernel_rfl
  f156 := Tryz.func159.trans (congrArg some (by kernel_rfl))
  f165 := Tryz.func169.trans (congrArg some (by kernel_rfl))
  f166 := Tryz.func97.trans (congrArg some (by kernel_rfl))
  f169 := Tryz.func101.trans (congrArg some (by kernel_rfl))
  f240 := Tryz.func180.trans (congrArg some (by kernel_rfl))
  f241 := Tryz.func230.trans (congrArg some (by kernel_rfl))
  f276 := Tryz.func236.trans (congrArg some (by kernel_rfl))
  f277 := Tryz.func274.trans (congrArg some (by kernel_rfl))
  t0 := Tryz.underlying0
  a0 := Tryz.isAgg0
  z0 := Tryz.sizeOf0
  v0 := Tryz.zeroValue0
  t3 := Tryz.underlying3
  a3 := Tryz.isAgg3
  z3 := Tryz.sizeOf3
  v3 := Tryz.zeroValue3
  t4 := Tryz.underlying4
  a4 := Tryz.isAgg4
  z4 := Tryz.sizeOf4
  v4 := Tryz.zeroValue4
  t9 := Tryz.underlying9
  a9 := Tryz.isAgg9
  z9 := Tryz.sizeOf9
  v9 := Tryz.zeroValue9
  t20 := Tryz.underlying20
  a20 := Tryz.isAgg20
  z20 := Tryz.sizeOf20
  v20 := Tryz.zeroValue20
  t31 := Tryz.underlying44
  a31 := Tryz.isAgg44
  z31 := Tryz.sizeOf44
  v31 := Tryz.zeroValue44
  t37 := Tryz.underlying126
  a37 := Tryz.isAgg126
  z37 := Tryz.sizeOf126
  v37 := Tryz.zeroValue126
  t70 := Tryz.underlying160
  a70 := Tryz.isAgg160
  z70 := Tryz.sizeOf160
  v70 := Tryz.zeroValue160
  t72 := Tryz.underlying162
  a72 := Tryz.isAgg162
  z72 := Tryz.sizeOf162
  v72 := Tryz.zeroValue162
  t75 := Tryz.underlying164
  a75 := Tryz.isAgg164
  z75 := Tryz.sizeOf164
  v75 := Tryz.zeroValue164
  t76 := Tryz.underlying165
  a76 := Tryz.isAgg165
  z76 := Tryz.sizeOf165
  v76 := Tryz.zeroValue165
  t127 := Tryz.underlying283
  a127 := Tryz.isAgg283
  z127 := Tryz.sizeOf283
  v127 := Tryz.zeroValue283
  t164 := Tryz.underlying326
  a164 := Tryz.isAgg326
  z164 := Tryz.sizeOf326
  v164 := Tryz.zeroValue326 }
theorem Tryz.Builder_Extra_156 : Builder.Extra Tryz.prog Tryz.lays156_ren := {
  sizeBuilder := by kernel_rfl
  liesBuilder := by kernel_rfl
  t5 := Tryz.underlying5
  a5 := Tryz.isAgg5
  z5 := Tryz.sizeOf5
  v5 := Tryz.zeroValue5
  infoByte := by kernel_rfl
  cellsByte := by kernel_rfl
  sizeByte := by kernel_rfl
  neB5 := by decide }
open Go.RowKit in
/-- No element: the empty string; the world is as it was. (Whatever the slice's address and capacity: a nil slice too.) (LAID: no walk: one application.) -/
theorem Tryz.strings_Join_none (a : Option Addr) (c : Nat) (sep : ByteArray) (w : World) :
    Calls Tryz.prog 159 #[.slice a 0 c, .string sep] w fun e w' => e = .returned (.string ⟨#[]⟩) ∧ w' = w := Any.strings_Join_none Tryz.lays156 Tryz.Builder_Extra_156 a c sep w
open Go.RowKit in
/-- strings.Join: "Join concatenates the elements of its first argument to create a single string. The separator string sep is placed between elements in the resulting string.": HOWEVER MANY ELEMENTS. Below the heap's end the world is as it was. (LAID: no walk: one application.) -/
theorem Tryz.strings_Join (bk o c : Nat) (xs : List ByteArray) (sep : ByteArray) (w : World) (hcells : ∀ (j : Nat) x, xs[j]? = some x → w.cell? ⟨bk, o + j, none⟩ = some (.string x)) (hbk : bk < w.heap.size) (hN : xs.length ≤ 140737488355328) (hcap : xs.length ≤ c) (hlen : (Lib.join (xs.map (·.data.toList)) sep.data.toList).length ≤ 140737488355328) :
    Calls Tryz.prog 159 #[.slice (some ⟨bk, o, none⟩) xs.length c, .string sep] w fun e w' => e = .returned (.string ⟨(Lib.join (xs.map (·.data.toList)) sep.data.toList).toArray⟩) ∧ Below w.heap.size w w' := Any.strings_Join Tryz.lays156 Tryz.Builder_Extra_156 bk o c xs sep w hcells hbk hN hcap hlen
def Tryz.laysM171_ren : Go.Shelf.Ren := ⟨fun | 171 => 182 | 243 => 237 | 246 => 276 | 283 => 305 | 284 => 306 | 285 => 307 | 286 => 308 | 129 => 271 | 317 => 323 | 318 => 324 | 319 => 325 | 320 => 326 | 337 => 333 | 338 => 334 | n => n, fun | 3 => 3 | 9 => 9 | 2 => 2 | 4 => 4 | 171 => 384 | 0 => 0 | 53 => 320 | 37 => 126 | 5 => 5 | 173 => 386 | 212 => 401 | 51 => 317 | 20 => 20 | 213 => 402 | 46 => 261 | 232 => 418 | 233 => 419 | n => n, fun | 17 => 1 | 18 => 6 | 19 => 7 | n => n⟩
theorem Tryz.laysM171 : Go.Proofs.LaysM.n171 Tryz.prog Tryz.laysM171_ren := {
  mixed := by kernel_rfl
  f129 := Tryz.func271.trans (congrArg some (by kernel_rfl))
  f171 := Tryz.func182.trans (congrArg some (by kernel_rfl))
  f243 := Tryz.func237.trans (congrArg some (by kernel_rfl))
  f246 := Tryz.func276.trans (congrArg some (by kernel_rfl))
  f283 := Tryz.func305.trans (congrArg some (by kernel_rfl))
  f284 := Tryz.func306.trans (congrArg some (by kernel_rfl))
  f285 := Tryz.func307.trans (congrArg some (by kernel_rfl))
  f286 := Tryz.func308.trans (congrArg some (by kernel_rfl))
  f317 := Tryz.func323.trans (congrArg some (by kernel_rfl))
  f318 := Tryz.func324.trans (congrArg some (by kernel_rfl))
  f319 := Tryz.func325.trans (congrArg some (by kernel_rfl))
  f320 := Tryz.func326.trans (congrArg some (by kernel_rfl))
  f337 := Tryz.func333.trans (congrArg some (by kernel_rfl))
  f338 := Tryz.func334.trans (congrArg some (by kernel_rfl))
  t0 := Tryz.underlying0
  a0 := Tryz.isAgg0
  z0 := Tryz.sizeOf0
  v0 := Tryz.zeroValue0
  t2 := Tryz.underlying2
  a2 := Tryz.isAgg2
  z2 := Tryz.sizeOf2
  v2 := Tryz.zeroValue2
  t3 := Tryz.underlying3
  a3 := Tryz.isAgg3
  z3 := Tryz.sizeOf3
  v3 := Tryz.zeroValue3
  t4 := Tryz.underlying4
  a4 := Tryz.isAgg4
  z4 := Tryz.sizeOf4
  v4 := Tryz.zeroValue4
  t5 := Tryz.underlying5
  a5 := Tryz.isAgg5
  z5 := Tryz.sizeOf5
  v5 := Tryz.zeroValue5
  t9 := Tryz.underlying9
  a9 := Tryz.isAgg9
  z9 := Tryz.sizeOf9
  v9 := Tryz.zeroValue9
  t20 := Tryz.underlying20
  a20 := Tryz.isAgg20
  z20 := Tryz.sizeOf20
  v20 := Tryz.zeroValue20
  t37 := Tryz.underlying126
  a37 := Tryz.isAgg126
  z37 := Tryz.sizeOf126
  v37 := Tryz.zeroValue126
  t46 := Tryz.underlying261
  a46 := Tryz.isAgg261
  z46 := Tryz.sizeOf261
  v46 := Tryz.zeroValue261
  t51 := Tryz.underlying317
  a51 := Tryz.isAgg317
  z51 := Tryz.sizeOf317
  v51 := Tryz.zeroValue317
  t53 := Tryz.underlying320
  a53 := Tryz.isAgg320
  z53 := Tryz.sizeOf320
  v53 := Tryz.zeroValue320
  t171 := Tryz.underlying384
  a171 := Tryz.isAgg384
  z171 := Tryz.sizeOf384
  v171 := Tryz.zeroValue384
  t173 := Tryz.underlying386
  a173 := Tryz.isAgg386
  z173 := Tryz.sizeOf386
  v173 := Tryz.zeroValue386
  t212 := Tryz.underlying401
  a212 := Tryz.isAgg401
  z212 := Tryz.sizeOf401
  v212 := Tryz.zeroValue401
  t213 := Tryz.underlying402
  a213 := Tryz.isAgg402
  z213 := Tryz.sizeOf402
  t232 := Tryz.underlying418
  a232 := Tryz.isAgg418
  z232 := Tryz.sizeOf418
  v232 := Tryz.zeroValue418
  t233 := Tryz.underlying419
  a233 := Tryz.isAgg419
  z233 := Tryz.sizeOf419
  v233 := Tryz.zeroValue419
  g17 := by kernel_rfl
  g18 := by kernel_rfl
  g19 := by kernel_rfl
  i0 := by kernel_rfl
  i2 := by kernel_rfl
  i3 := by kernel_rfl
  i4 := by kernel_rfl
  i5 := by kernel_rfl
  i9 := by kernel_rfl
  i20 := by kernel_rfl
  i37 := by kernel_rfl
  i46 := by kernel_rfl
  i51 := by kernel_rfl
  i53 := by kernel_rfl
  i171 := by kernel_rfl
  i173 := by kernel_rfl
  i212 := by kernel_rfl
  i232 := by kernel_rfl
  i233 := by kernel_rfl
  m17 := by kernel_rfl
  m18 := by kernel_rfl
  m19 := by kernel_rfl }
open Go.RowKit Go.Sort Go.Lib in
/-- strconv.Itoa: "Itoa is equivalent to FormatInt(int64(i), 10).": i's DECIMAL NUMERAL ('Lib.itoa': a '-' where i is negative, then the digits), FOR EVERY int. The world behind the call: the world before it, new blocks behind the heap (the library's 'var a [24]byte'), draws. (LAID: no walk: one application.) -/
theorem Tryz.strconv_Itoa (n : Int) (h0 : -9223372036854775808 ≤ n) (h1 : n ≤ 9223372036854775807) (w : World) (htab : Lib.TabIs Tryz.prog w "internal/strconv.uint64pow10" .u64 Lib.pow10Tab) :
    Calls Tryz.prog 182 #[.int .i64 n] w fun e w' => e = .returned (.string ⟨(Lib.itoa n).toArray⟩) ∧ ∃ k os, w' = grow (w.drewN k) os := Any.strconv_Itoa Tryz.laysM171 n h0 h1 w htab
def Tryz.laysC172_ren : Go.Shelf.Ren := ⟨fun | 172 => 239 | 244 => 278 | 245 => 279 | 247 => 309 | 279 => 310 | 280 => 311 | 281 => 312 | 282 => 313 | 287 => 327 | 316 => 328 | 171 => 182 | 205 => 329 | 321 => 335 | 322 => 336 | 243 => 237 | 246 => 276 | 283 => 305 | 284 => 306 | 285 => 307 | 286 => 308 | 129 => 271 | 317 => 323 | 318 => 324 | 319 => 325 | 320 => 326 | 337 => 333 | 338 => 334 | n => n, fun | 9 => 9 | 3 => 3 | 75 => 164 | 76 => 165 | 4 => 4 | 5 => 5 | 167 => 388 | 37 => 126 | 0 => 0 | 85 => 389 | 2 => 2 | 168 => 391 | 53 => 320 | 175 => 403 | 46 => 261 | 210 => 406 | 127 => 283 | 145 => 417 | 143 => 415 | 21 => 21 | 171 => 384 | 173 => 386 | 212 => 401 | 51 => 317 | 20 => 20 | 213 => 402 | 232 => 418 | 233 => 419 | 80 => 111 | n => n, fun | 15 => 2 | 16 => 3 | 17 => 1 | 18 => 6 | 19 => 7 | n => n⟩
theorem Tryz.laysC172 : Go.Proofs.LaysC.n172 Tryz.prog Tryz.laysC172_ren := {
  mixed := by kernel_rfl
  f129 := Tryz.func271.trans (congrArg some (by kernel_rfl))
  f171 := Tryz.func182.trans (congrArg some (by kernel_rfl))
  f172 := Tryz.func239.trans (congrArg some (by kernel_rfl))
  f205 := Tryz.func329.trans (congrArg some (by kernel_rfl))
  f243 := Tryz.func237.trans (congrArg some (by kernel_rfl))
  f244 := Tryz.func278.trans (congrArg some (by kernel_rfl))
  f245 := Tryz.func279.trans (congrArg some (by kernel_rfl))
  f246 := Tryz.func276.trans (congrArg some (by kernel_rfl))
  f247 := Tryz.func309.trans (congrArg some (by kernel_rfl))
  f279 := Tryz.func310.trans (congrArg some (by kernel_rfl))
  f280 := Tryz.func311.trans (congrArg some (by kernel_rfl))
  f281 := Tryz.func312.trans (congrArg some (by kernel_rfl))
  f282 := Tryz.func313.trans (congrArg some (by kernel_rfl))
  f283 := Tryz.func305.trans (congrArg some (by kernel_rfl))
  f284 := Tryz.func306.trans (congrArg some (by kernel_rfl))
  f285 := Tryz.func307.trans (congrArg some (by kernel_rfl))
  f286 := Tryz.func308.trans (congrArg some (by kernel_rfl))
  f287 := Tryz.func327.trans (congrArg some (by kernel_rfl))
  f316 := Tryz.func328.trans (congrArg some (by kernel_rfl))
  f317 := Tryz.func323.trans (congrArg some (by kernel_rfl))
  f318 := Tryz.func324.trans (congrArg some (by kernel_rfl))
  f319 := Tryz.func325.trans (congrArg some (by kernel_rfl))
  f320 := Tryz.func326.trans (congrArg some (by kernel_rfl))
  f321 := Tryz.func335.trans (congrArg some (by kernel_rfl))
  f322 := Tryz.func336.trans (congrArg some (by kernel_rfl))
  f337 := Tryz.func333.trans (congrArg some (by kernel_rfl))
  f338 := Tryz.func334.trans (congrArg some (by kernel_rfl))
  t0 := Tryz.underlying0
  a0 := Tryz.isAgg0
  z0 := Tryz.sizeOf0
  v0 := Tryz.zeroValue0
  t2 := Tryz.underlying2
  a2 := Tryz.isAgg2
  z2 := Tryz.sizeOf2
  v2 := Tryz.zeroValue2
  t3 := Tryz.underlying3
  a3 := Tryz.isAgg3
  z3 := Tryz.sizeOf3
  v3 := Tryz.zeroValue3
  t4 := Tryz.underlying4
  a4 := Tryz.isAgg4
  z4 := Tryz.sizeOf4
  v4 := Tryz.zeroValue4
  t5 := Tryz.underlying5
  a5 := Tryz.isAgg5
  z5 := Tryz.sizeOf5
  v5 := Tryz.zeroValue5
  t9 := Tryz.underlying9
  a9 := Tryz.isAgg9
  z9 := Tryz.sizeOf9
  v9 := Tryz.zeroValue9
  t20 := Tryz.underlying20
  a20 := Tryz.isAgg20
  z20 := Tryz.sizeOf20
  v20 := Tryz.zeroValue20
  t21 := Tryz.underlying21
  a21 := Tryz.isAgg21
  z21 := Tryz.sizeOf21
  v21 := Tryz.zeroValue21
  t37 := Tryz.underlying126
  a37 := Tryz.isAgg126
  z37 := Tryz.sizeOf126
  v37 := Tryz.zeroValue126
  t46 := Tryz.underlying261
  a46 := Tryz.isAgg261
  z46 := Tryz.sizeOf261
  v46 := Tryz.zeroValue261
  t51 := Tryz.underlying317
  a51 := Tryz.isAgg317
  z51 := Tryz.sizeOf317
  v51 := Tryz.zeroValue317
  t53 := Tryz.underlying320
  a53 := Tryz.isAgg320
  z53 := Tryz.sizeOf320
  v53 := Tryz.zeroValue320
  t75 := Tryz.underlying164
  a75 := Tryz.isAgg164
  z75 := Tryz.sizeOf164
  v75 := Tryz.zeroValue164
  t76 := Tryz.underlying165
  a76 := Tryz.isAgg165
  z76 := Tryz.sizeOf165
  v76 := Tryz.zeroValue165
  t85 := Tryz.underlying389
  a85 := Tryz.isAgg389
  z85 := Tryz.sizeOf389
  v85 := Tryz.zeroValue389
  t127 := Tryz.underlying283
  a127 := Tryz.isAgg283
  z127 := Tryz.sizeOf283
  v127 := Tryz.zeroValue283
  t143 := Tryz.underlying415
  a143 := Tryz.isAgg415
  z143 := Tryz.sizeOf415
  v143 := Tryz.zeroValue415
  t145 := Tryz.underlying417
  a145 := Tryz.isAgg417
  z145 := Tryz.sizeOf417
  v145 := Tryz.zeroValue417
  t167 := Tryz.underlying388
  a167 := Tryz.isAgg388
  z167 := Tryz.sizeOf388
  v167 := Tryz.zeroValue388
  t168 := Tryz.underlying391
  a168 := Tryz.isAgg391
  z168 := Tryz.sizeOf391
  v168 := Tryz.zeroValue391
  t171 := Tryz.underlying384
  a171 := Tryz.isAgg384
  z171 := Tryz.sizeOf384
  v171 := Tryz.zeroValue384
  t173 := Tryz.underlying386
  a173 := Tryz.isAgg386
  z173 := Tryz.sizeOf386
  v173 := Tryz.zeroValue386
  t175 := Tryz.underlying403
  a175 := Tryz.isAgg403
  z175 := Tryz.sizeOf403
  v175 := Tryz.zeroValue403
  t210 := Tryz.underlying406
  a210 := Tryz.isAgg406
  z210 := Tryz.sizeOf406
  v210 := Tryz.zeroValue406
  t212 := Tryz.underlying401
  a212 := Tryz.isAgg401
  z212 := Tryz.sizeOf401
  v212 := Tryz.zeroValue401
  t213 := Tryz.underlying402
  a213 := Tryz.isAgg402
  z213 := Tryz.sizeOf402
  t232 := Tryz.underlying418
  a232 := Tryz.isAgg418
  z232 := Tryz.sizeOf418
  v232 := Tryz.zeroValue418
  t233 := Tryz.underlying419
  a233 := Tryz.isAgg419
  z233 := Tryz.sizeOf419
  v233 := Tryz.zeroValue419
  g15 := by kernel_rfl
  g16 := by kernel_rfl
  g17 := by kernel_rfl
  g18 := by kernel_rfl
  g19 := by kernel_rfl
  t80 := Tryz.underlying111
  a80 := Tryz.isAgg111
  z80 := Tryz.sizeOf111
  v80 := Tryz.zeroValue111
  i0 := by kernel_rfl
  i2 := by kernel_rfl
  i3 := by kernel_rfl
  i4 := by kernel_rfl
  i5 := by kernel_rfl
  i9 := by kernel_rfl
  i20 := by kernel_rfl
  i21 := by kernel_rfl
  i37 := by kernel_rfl
  i46 := by kernel_rfl
  i51 := by kernel_rfl
  i53 := by kernel_rfl
  i75 := by kernel_rfl
  i76 := by kernel_rfl
  i80 := by kernel_rfl
  i85 := by kernel_rfl
  i127 := by kernel_rfl
  i143 := by kernel_rfl
  i145 := by kernel_rfl
  i167 := by kernel_rfl
  i168 := by kernel_rfl
  i171 := by kernel_rfl
  i173 := by kernel_rfl
  i175 := by kernel_rfl
  i210 := by kernel_rfl
  i212 := by kernel_rfl
  i232 := by kernel_rfl
  i233 := by kernel_rfl
  m15 := by kernel_rfl
  m16 := by kernel_rfl
  m17 := by kernel_rfl
  m18 := by kernel_rfl
  m19 := by kernel_rfl
  c0 := by kernel_rfl
  c2 := by kernel_rfl
  c3 := by kernel_rfl
  c4 := by kernel_rfl
  c5 := by kernel_rfl
  c9 := by kernel_rfl
  c20 := by kernel_rfl
  c21 := by kernel_rfl
  c37 := by kernel_rfl
  c46 := by kernel_rfl
  c51 := by kernel_rfl
  c53 := by kernel_rfl
  c75 := by kernel_rfl
  c76 := by kernel_rfl
  c80 := by kernel_rfl
  c85 := by kernel_rfl
  c127 := by kernel_rfl
  c143 := by kernel_rfl
  c145 := by kernel_rfl
  c167 := by kernel_rfl
  c168 := by kernel_rfl
  c171 := by kernel_rfl
  c173 := by kernel_rfl
  c175 := by kernel_rfl
  c210 := by kernel_rfl
  c212 := by kernel_rfl
  c213 := by kernel_rfl
  c232 := by kernel_rfl
  c233 := by kernel_rfl }
open Go.RowKit in
/-- strconv.Atoi, AT EVERY STRING THAT SPELLS AN int ('Lib.atoiAll .. = .ok v'; of whatever length: leading zeros count): v, AND NO ERROR. The world: as it was, or with the one new row that '[]byte(..)' lays. (LAID: no walk: one application.) -/
theorem Tryz.strconv_Atoi_ok (s : ByteArray) (hmax : s.size ≤ 9223372036854775806) (v : Int) (h : Lib.atoiAll s.data.toList = .ok v) (w : World) :
    Calls Tryz.prog 239 #[.string s] w fun e w' => e = .returned (.tuple #[.int .i64 v, .nilIface]) ∧ (w' = w ∨ ∃ t, w' = Lib.bytesWorld w 5 t) := Any.strconv_Atoi_ok Tryz.laysC172 s hmax v h w
def Tryz.lays217_ren : Go.Shelf.Ren := ⟨fun | 217 => 223 | 266 => 272 | n => n, fun | 9 => 9 | 5 => 5 | 3 => 3 | n => n, fun | n => n⟩
theorem Tryz.lays217 : Go.Proofs.Lays.n217 Tryz.prog Tryz.lays217_ren := {
  mixed := by kernel_rfl
  f217 := Tryz.func223.trans (congrArg some (by kernel_rfl))
  f266 := Tryz.func272.trans (congrArg some (by kernel_rfl))
  t3 := Tryz.underlying3
  a3 := Tryz.isAgg3
  z3 := Tryz.sizeOf3
  v3 := Tryz.zeroValue3
  t5 := Tryz.underlying5
  a5 := Tryz.isAgg5
  z5 := Tryz.sizeOf5
  v5 := Tryz.zeroValue5
  t9 := Tryz.underlying9
  a9 := Tryz.isAgg9
  z9 := Tryz.sizeOf9
  v9 := Tryz.zeroValue9 }
open Go.RowKit Go.Lib in
/-- internal/stringslite.IndexByte (what strings.IndexByte calls): IT RETURNS 'Lib.indexByte s c'; the world is as it was. (LAID: no walk: one application.) -/
theorem Tryz.stringslite_IndexByte (s : ByteArray) (c : Int) (w : World) :
    Calls Tryz.prog 223 #[.string s, .int .u8 c] w fun e w' => e = .returned (.int .i64 (Lib.indexByte s.data.toList c.toNat.toUInt8)) ∧ w' = w := Any.stringslite_IndexByte Tryz.lays217 s c w
def Tryz.lays219_ren : Go.Shelf.Ren := ⟨fun | 219 => 166 | 217 => 223 | 225 => 224 | 224 => 225 | 267 => 226 | 266 => 272 | 314 => 273 | n => n, fun | 9 => 9 | 3 => 3 | 4 => 4 | 5 => 5 | 46 => 261 | 146 => 318 | 51 => 317 | n => n, fun | 1 => 0 | n => n⟩
theorem Tryz.lays219 : Go.Proofs.Lays.n219 Tryz.prog Tryz.lays219_ren := {
  mixed := by kernel_rfl
  f217 := Tryz.func223.trans (congrArg some (by kernel_rfl))
  f219 := Tryz.func166.trans (congrArg some (by kernel_rfl))
  f224 := Tryz.func225.trans (congrArg some (by kernel_rfl))
  f225 := Tryz.func224.trans (congrArg some (by kernel_rfl))
  f266 := Tryz.func272.trans (congrArg some (by kernel_rfl))
  f267 := Tryz.func226.trans (congrArg some (by kernel_rfl))
  f314 := Tryz.func273.trans (congrArg some (by kernel_rfl))
  t3 := Tryz.underlying3
  a3 := Tryz.isAgg3
  z3 := Tryz.sizeOf3
  v3 := Tryz.zeroValue3
  t4 := Tryz.underlying4
  a4 := Tryz.isAgg4
  z4 := Tryz.sizeOf4
  v4 := Tryz.zeroValue4
  t5 := Tryz.underlying5
  a5 := Tryz.isAgg5
  z5 := Tryz.sizeOf5
  v5 := Tryz.zeroValue5
  t9 := Tryz.underlying9
  a9 := Tryz.isAgg9
  z9 := Tryz.sizeOf9
  v9 := Tryz.zeroValue9
  t46 := Tryz.underlying261
  a46 := Tryz.isAgg261
  z46 := Tryz.sizeOf261
  v46 := Tryz.zeroValue261
  t51 := Tryz.underlying317
  a51 := Tryz.isAgg317
  z51 := Tryz.sizeOf317
  v51 := Tryz.zeroValue317
  t146 := Tryz.underlying318
  a146 := Tryz.isAgg318
  z146 := Tryz.sizeOf318
  v146 := Tryz.zeroValue318
  g1 := by kernel_rfl }
open Go.RowKit Go.Lib in
/-- internal/stringslite.Index (what strings.Index calls) AT A substr OF ONE BYTE c: IT RETURNS 'Lib.indexByte s c'; the world is as it was. (LAID: no walk: one application.) -/
theorem Tryz.stringslite_Index_one (s : ByteArray) (c : UInt8) (w : World) :
    Calls Tryz.prog 166 #[.string s, .string ⟨#[c]⟩] w fun e w' => e = .returned (.int .i64 (Lib.indexByte s.data.toList c)) ∧ w' = w := Any.stringslite_Index_one Tryz.lays219 s c w
def Tryz.lays138_ren : Go.Shelf.Ren := ⟨fun | 138 => 256 | 195 => 296 | 218 => 297 | 143 => 72 | 219 => 166 | 217 => 223 | 225 => 224 | 224 => 225 | 267 => 226 | 266 => 272 | 314 => 273 | n => n, fun | 9 => 9 | 3 => 3 | 4 => 4 | 5 => 5 | 0 => 0 | 46 => 261 | 146 => 318 | 51 => 317 | n => n, fun | 1 => 0 | n => n⟩
theorem Tryz.lays138 : Go.Proofs.Lays.n138 Tryz.prog Tryz.lays138_ren := {
  mixed := by kernel_rfl
  f138 := Tryz.func256.trans (congrArg some (by kernel_rfl))
  f143 := Tryz.func72.trans (congrArg some (by kernel_rfl))
  f195 := Tryz.func296.trans (congrArg some (by kernel_rfl))
  f217 := Tryz.func223.trans (congrArg some (by kernel_rfl))
  f218 := Tryz.func297.trans (congrArg some (by kernel_rfl))
  f219 := Tryz.func166.trans (congrArg some (by kernel_rfl))
  f224 := Tryz.func225.trans (congrArg some (by kernel_rfl))
  f225 := Tryz.func224.trans (congrArg some (by kernel_rfl))
  f266 := Tryz.func272.trans (congrArg some (by kernel_rfl))
  f267 := Tryz.func226.trans (congrArg some (by kernel_rfl))
  f314 := Tryz.func273.trans (congrArg some (by kernel_rfl))
  t0 := Tryz.underlying0
  a0 := Tryz.isAgg0
  z0 := Tryz.sizeOf0
  v0 := Tryz.zeroValue0
  t3 := Tryz.underlying3
  a3 := Tryz.isAgg3
  z3 := Tryz.sizeOf3
  v3 := Tryz.zeroValue3
  t4 := Tryz.underlying4
  a4 := Tryz.isAgg4
  z4 := Tryz.sizeOf4
  v4 := Tryz.zeroValue4
  t5 := Tryz.underlying5
  a5 := Tryz.isAgg5
  z5 := Tryz.sizeOf5
  v5 := Tryz.zeroValue5
  t9 := Tryz.underlying9
  a9 := Tryz.isAgg9
  z9 := Tryz.sizeOf9
  v9 := Tryz.zeroValue9
  t46 := Tryz.underlying261
  a46 := Tryz.isAgg261
  z46 := Tryz.sizeOf261
  v46 := Tryz.zeroValue261
  t51 := Tryz.underlying317
  a51 := Tryz.isAgg317
  z51 := Tryz.sizeOf317
  v51 := Tryz.zeroValue317
  t146 := Tryz.underlying318
  a146 := Tryz.isAgg318
  z146 := Tryz.sizeOf318
  v146 := Tryz.zeroValue318
  g1 := by kernel_rfl }
open Go.RowKit Go.Lib in
/-- strings.Count AT A substr OF ONE BYTE ('hp'): "Count counts the number of non-overlapping instances of substr in s.": IT RETURNS 'Lib.countByte s (that byte)'; the world is as it was. ✋ NO CONTRACT HERE YET at an empty substr (utf8.RuneCountInString) or at a longer one (a loop over strings.Index). (LAID: no walk: one application.) -/
theorem Tryz.strings_Count_one (s : ByteArray) (c : UInt8) (w : World) :
    Calls Tryz.prog 256 #[.string s, .string ⟨#[c]⟩] w fun e w' => e = .returned (.int .i64 (Lib.countByte s.data.toList c)) ∧ w' = w := Any.strings_Count_one Tryz.lays138 s c w
def Tryz.lays105_ren : Go.Shelf.Ren := ⟨fun | 105 => 73 | 212 => 167 | 99 => 168 | 165 => 169 | 166 => 97 | 170 => 100 | 169 => 101 | 263 => 227 | 264 => 228 | 206 => 229 | 240 => 180 | 241 => 230 | 276 => 236 | 277 => 274 | n => n, fun | 9 => 9 | 3 => 3 | 4 => 4 | 20 => 20 | 0 => 0 | 46 => 261 | 109 => 262 | 5 => 5 | 72 => 162 | 76 => 165 | 51 => 317 | 146 => 318 | 53 => 320 | 148 => 321 | 70 => 160 | 37 => 126 | 75 => 164 | 127 => 283 | 164 => 326 | 80 => 111 | n => n, fun | n => n⟩
theorem Tryz.lays105 : Go.Proofs.Lays.n105 Tryz.prog Tryz.lays105_ren := {
  mixed := by kernel_rfl
  f99 := Tryz.func168.trans (congrArg some (by kernel_rfl))
  f105 := Tryz.func73.trans (congrArg some (by kernel_rfl))
  f165 := Tryz.func169.trans (congrArg some (by kernel_rfl))
  f166 := Tryz.func97.trans (congrArg some (by kernel_rfl))
  f169 := Tryz.func101.trans (congrArg some (by kernel_rfl))
  f170 := Tryz.func100.trans (congrArg some (by kernel_rfl))
  f206 := Tryz.func229.trans (congrArg some (by kernel_rfl))
  f212 := Tryz.func167.trans (congrArg some (by kernel_rfl))
  f240 := Tryz.func180.trans (congrArg some (by kernel_rfl))
  f241 := Tryz.func230.trans (congrArg some (by kernel_rfl))
  f263 := Tryz.func227.trans (congrArg some (by kernel_rfl))
  f264 := Tryz.func228.trans (congrArg some (by kernel_rfl))
  f276 := Tryz.func236.trans (congrArg some (by kernel_rfl))
  f277 := Tryz.func274.trans (congrArg some (by kernel_rfl))
  t0 := Tryz.underlying0
  a0 := Tryz.isAgg0
  z0 := Tryz.sizeOf0
  v0 := Tryz.zeroValue0
  t3 := Tryz.underlying3
  a3 := Tryz.isAgg3
  z3 := Tryz.sizeOf3
  v3 := Tryz.zeroValue3
  t4 := Tryz.underlying4
  a4 := Tryz.isAgg4
  z4 := Tryz.sizeOf4
  v4 := Tryz.zeroValue4
  t5 := Tryz.underlying5
  a5 := Tryz.isAgg5
  z5 := Tryz.sizeOf5
  v5 := Tryz.zeroValue5
  t9 := Tryz.underlying9
  a9 := Tryz.isAgg9
  z9 := Tryz.sizeOf9
  v9 := Tryz.zeroValue9
  t20 := Tryz.underlying20
  a20 := Tryz.isAgg20
  z20 := Tryz.sizeOf20
  v20 := Tryz.zeroValue20
  t37 := Tryz.underlying126
  a37 := Tryz.isAgg126
  z37 := Tryz.sizeOf126
  v37 := Tryz.zeroValue126
  t46 := Tryz.underlying261
  a46 := Tryz.isAgg261
  z46 := Tryz.sizeOf261
  v46 := Tryz.zeroValue261
  t51 := Tryz.underlying317
  a51 := Tryz.isAgg317
  z51 := Tryz.sizeOf317
  v51 := Tryz.zeroValue317
  t53 := Tryz.underlying320
  a53 := Tryz.isAgg320
  z53 := Tryz.sizeOf320
  v53 := Tryz.zeroValue320
  t70 := Tryz.underlying160
  a70 := Tryz.isAgg160
  z70 := Tryz.sizeOf160
  v70 := Tryz.zeroValue160
  t72 := Tryz.underlying162
  a72 := Tryz.isAgg162
  z72 := Tryz.sizeOf162
  v72 := Tryz.zeroValue162
  t75 := Tryz.underlying164
  a75 := Tryz.isAgg164
  z75 := Tryz.sizeOf164
  v75 := Tryz.zeroValue164
  t76 := Tryz.underlying165
  a76 := Tryz.isAgg165
  z76 := Tryz.sizeOf165
  v76 := Tryz.zeroValue165
  t109 := Tryz.underlying262
  a109 := Tryz.isAgg262
  z109 := Tryz.sizeOf262
  v109 := Tryz.zeroValue262
  t127 := Tryz.underlying283
  a127 := Tryz.isAgg283
  z127 := Tryz.sizeOf283
  v127 := Tryz.zeroValue283
  t146 := Tryz.underlying318
  a146 := Tryz.isAgg318
  z146 := Tryz.sizeOf318
  v146 := Tryz.zeroValue318
  t148 := Tryz.underlying321
  a148 := Tryz.isAgg321
  z148 := Tryz.sizeOf321
  v148 := Tryz.zeroValue321
  t164 := Tryz.underlying326
  a164 := Tryz.isAgg326
  z164 := Tryz.sizeOf326
  v164 := Tryz.zeroValue326 }
theorem Tryz.Builder_Extra_105 : Builder.Extra Tryz.prog Tryz.lays105_ren := {
  sizeBuilder := by kernel_rfl
  liesBuilder := by kernel_rfl
  t5 := Tryz.underlying5
  a5 := Tryz.isAgg5
  z5 := Tryz.sizeOf5
  v5 := Tryz.zeroValue5
  infoByte := by kernel_rfl
  cellsByte := by kernel_rfl
  sizeByte := by kernel_rfl
  neB5 := by decide }
open Go.RowKit Go.Lib in
/-- **strings.Repeat: count ≥ 0, the result within one allocation: count copies of s.** (LAID: no walk: one application.) -/
theorem Tryz.strings_Repeat (s : ByteArray) (c : Nat) (w : World) (hc : c ≤ 9223372036854775807) (hlen : s.size * c ≤ 140737488355328) :
    Calls Tryz.prog 73 #[.string s, .int .i64 c] w fun e w' => e = .returned (.string ⟨(Lib.repeatL s.data.toList c).toArray⟩) ∧ Below w.heap.size w w' := Any.strings_Repeat Tryz.lays105 Tryz.Builder_Extra_105 s c w hc hlen
end Go.Proofs

/-
  Library functions: contracts of immutable values, out of the shelf's contracts.
-/
namespace Go.Abs
open Go.Proofs
set_option linter.unusedSectionVars false

/-- first place of a byte -/
def idxB (c : Nat) : List Nat → Nat → Int
  | [], _ => -1
  | x :: r, i => bif Nat.beq x c then (i : Int) else idxB c r (i + 1)
def cntB (c : Nat) : List Nat → Nat → Nat
  | [], n => n
  | x :: r, n => bif Nat.beq x c then cntB c r (n + 1) else cntB c r n
def digitsF : Nat → Nat → List Nat → List Nat
  | 0, _, acc => acc
  | f + 1, n, acc => bif Nat.ble n 9 then (48 + n) :: acc else digitsF f (n / 10) ((48 + n % 10) :: acc)
def itoaN (n : Int) : List Nat := match n with
  | .ofNat n => digitsF 20 n []
  | .negSucc n => 45 :: digitsF 20 (n + 1) []
def joinN (sep : List Nat) : List (List Nat) → List Nat
  | [] => []
  | [s] => s
  | s :: r => s ++ (sep ++ joinN sep r)
def repN (s : List Nat) : Nat → List Nat
  | 0 => []
  | n + 1 => s ++ repN s n
def atoiN : List Nat → Nat → Option Nat
  | [], n => some n
  | c :: r, n => bif Nat.ble 48 c && Nat.ble c 57 then atoiN r (n * 10 + (c - 48)) else none

section
variable [Gl] {P : Program}

theorem enters_fn {f : FuncId} {fn : Func} (h : P.funcs[f]? = some fn) (hs : (fn.body.isSome && (fn.name != "runtime.NumGoroutine")) = true) : Enters P f := by
  intro args w
  simp only [Bool.and_eq_true, bne_iff_ne] at hs
  cases hfb : fn.body with
  | none => rw [hfb] at hs; simp at hs
  | some c => simp [callFunc, h, hs.2, hfb]

theorem goodP_flat {f : FuncId} {args : List PV} {v : PV} (he : Enters P f)
    (h : ∀ (w : World) (Imm : Nat → Prop) (cargs : List Value), (∀ k, Imm k → k < w.heap.size) → GlobOk P w Imm → PVVl P w Imm args cargs →
      Calls P f cargs.toArray w fun e w' => ∃ cv, e = .returned cv ∧ (w.heap.size ≤ w'.heap.size ∧ (∀ k, k < w.heap.size → w'.heap[k]? = w.heap[k]?) ∧ w'.os = w.os ∧ w'.output = w.output) ∧ ∀ (w : World) (Imm : Nat → Prop), PVV P w Imm v cv) : GoodC P f args v := by
  refine .inl ⟨he, fun w Imm cargs hb hg ha => (h w Imm cargs hb hg ha).mono ?_⟩
  rintro e w' ⟨cv, rfl, ⟨h1, h2, hio⟩, h3⟩
  exact ⟨cv, Imm, rfl, fun _ x => x, fun _ x => .inl x, fun k hk => Nat.lt_of_lt_of_le (hb k hk) h1, h1, h2, hio, h3 _ _⟩

theorem PVVl_two {w : World} {Imm : Nat → Prop} {a b : PV} {cs : List Value} (h : PVVl P w Imm [a, b] cs) : ∃ x y, cs = [x, y] ∧ PVV P w Imm a x ∧ PVV P w Imm b y := by
  simp only [PVVl] at h
  obtain ⟨x, xs, rfl, h1, y, ys, rfl, h2, rfl⟩ := h
  exact ⟨x, y, rfl, h1, h2⟩
theorem PVVl_one {w : World} {Imm : Nat → Prop} {a : PV} {cs : List Value} (h : PVVl P w Imm [a] cs) : ∃ x, cs = [x] ∧ PVV P w Imm a x := by
  simp only [PVVl] at h
  obtain ⟨x, xs, rfl, h1, rfl⟩ := h
  exact ⟨x, rfl, h1⟩

def natsB (l : List UInt8) : List Nat := l.map (·.toNat)

theorem PVV_strB {w : World} {Imm : Nat → Prop} (l : List UInt8) : PVV P w Imm (.str (natsB l)) (.string ⟨l.toArray⟩) := by
  simp only [PVV]; exact ⟨_, rfl, by simp [natsB]⟩

theorem idxB_lib (c : UInt8) : ∀ (l : List UInt8) (i : Nat), idxB c.toNat (natsB l) i = if Lib.indexByte l c = -1 then -1 else Lib.indexByte l c + i
  | [], i => by simp [idxB, natsB, Lib.indexByte]
  | x :: r, i => by
    have ih := idxB_lib c r (i + 1)
    simp only [natsB] at ih
    simp only [natsB, List.map_cons, idxB, Lib.indexByte]
    by_cases hx : x = c
    · subst hx; simp
    · have hn : Nat.beq x.toNat c.toNat = false := by
        cases hb : Nat.beq x.toNat c.toNat
        · rfl
        · exact (hx (UInt8.toNat_inj.1 (beq2 hb))).elim
      have hge := Lib.indexByte_ge r c
      simp only [hn, cond_false, ih, beq_iff_eq, hx, if_false]
      by_cases h1 : Lib.indexByte r c = -1
      · simp [h1]
      · rw [if_neg h1, if_neg h1]
        rw [if_neg (by omega)]
        omega

theorem cntB_lib (c : UInt8) : ∀ (l : List UInt8) (n : Nat), cntB c.toNat (natsB l) n = n + Lib.countByte l c
  | [], n => by simp [cntB, natsB, Lib.countByte]
  | x :: r, n => by
    have ih := cntB_lib c r
    simp only [natsB] at ih
    simp only [natsB, List.map_cons, cntB, Lib.countByte, List.count_cons]
    by_cases hx : x = c
    · subst hx
      simp [ih, Lib.countByte]; omega
    · have hn : Nat.beq x.toNat c.toNat = false := by
        cases hb : Nat.beq x.toNat c.toNat
        · rfl
        · exact (hx (UInt8.toNat_inj.1 (beq2 hb))).elim
      simp [hn, ih, Lib.countByte, hx]
end

section
variable [Gl]

theorem h223 (s : List Nat) (c : Nat) (hc : c < 256) : GoodC Tryz.prog 223 [.str s, .int .u8 c] (.int .i64 (idxB c s 0)) := by
  refine goodP_flat (enters_fn Tryz.func223 (by kernel_rfl)) fun w Imm cargs _ _ ha => ?_
  obtain ⟨x, y, rfl, h1, h2⟩ := PVVl_two ha
  simp only [PVV] at h1 h2
  obtain ⟨bs, rfl, rfl⟩ := h1
  subst h2
  refine (Tryz.stringslite_IndexByte bs c w).mono ?_
  rintro e w' ⟨rfl, rfl⟩
  refine ⟨_, rfl, ⟨Nat.le_refl _, fun _ _ => rfl, rfl, rfl⟩, fun w Imm => ?_⟩
  have e1 := idxB_lib (UInt8.ofNat c) bs.data.toList 0
  have e2 : (UInt8.ofNat c).toNat = c := by simp [UInt8.toNat_ofNat']; omega
  rw [e2] at e1
  simp only [PVV, natsB] at e1 ⊢
  rw [e1]
  have e3 : ((c : Int).toNat).toUInt8 = UInt8.ofNat c := by simp
  rw [e3]
  have := Lib.indexByte_ge bs.data.toList (UInt8.ofNat c)
  by_cases h : Lib.indexByte bs.data.toList (UInt8.ofNat c) = -1 <;> simp [h]

theorem one_byte {w : World} {Imm : Nat → Prop} {c : Nat} {v : Value} (h : PVV Tryz.prog w Imm (.str [c]) v) : ∃ b : UInt8, v = .string ⟨#[b]⟩ ∧ c = b.toNat := by
  simp only [PVV] at h
  obtain ⟨bs, rfl, h⟩ := h
  match hb : bs.data.toList with
  | [] => rw [hb] at h; simp at h
  | [b] =>
    rw [hb] at h; simp at h
    refine ⟨b, ?_, h⟩
    congr 1
    cases bs with
    | mk d => simp at hb ⊢; exact Array.ext' (by simpa using hb)
  | a :: b :: r => rw [hb] at h; simp at h

theorem h166 (s : List Nat) (c : Nat) : GoodC Tryz.prog 166 [.str s, .str [c]] (.int .i64 (idxB c s 0)) := by
  refine goodP_flat (enters_fn Tryz.func166 (by kernel_rfl)) fun w Imm cargs _ _ ha => ?_
  obtain ⟨x, y, rfl, h1, h2⟩ := PVVl_two ha
  obtain ⟨b, rfl, rfl⟩ := one_byte h2
  simp only [PVV] at h1
  obtain ⟨bs, rfl, rfl⟩ := h1
  refine (Tryz.stringslite_Index_one bs b w).mono ?_
  rintro e w' ⟨rfl, rfl⟩
  refine ⟨_, rfl, ⟨Nat.le_refl _, fun _ _ => rfl, rfl, rfl⟩, fun w Imm => ?_⟩
  have e1 := idxB_lib b bs.data.toList 0
  simp only [PVV, natsB] at e1 ⊢
  rw [e1]
  by_cases h : Lib.indexByte bs.data.toList b = -1 <;> simp [h]

theorem h256 (s : List Nat) (c : Nat) : GoodC Tryz.prog 256 [.str s, .str [c]] (.int .i64 (cntB c s 0 : Nat)) := by
  refine goodP_flat (enters_fn Tryz.func256 (by kernel_rfl)) fun w Imm cargs _ _ ha => ?_
  obtain ⟨x, y, rfl, h1, h2⟩ := PVVl_two ha
  obtain ⟨b, rfl, rfl⟩ := one_byte h2
  simp only [PVV] at h1
  obtain ⟨bs, rfl, rfl⟩ := h1
  refine (Tryz.strings_Count_one bs b w).mono ?_
  rintro e w' ⟨rfl, rfl⟩
  refine ⟨_, rfl, ⟨Nat.le_refl _, fun _ _ => rfl, rfl, rfl⟩, fun w Imm => ?_⟩
  have e1 := cntB_lib b bs.data.toList 0
  simp only [PVV, natsB] at e1 ⊢
  rw [e1]; simp
end
end Go.Abs

/-
  Library functions: numbers as texts, joined and repeated texts.
-/
namespace Go.Abs
open Go.Proofs
set_option linter.unusedSectionVars false

theorem u8_of (n : Nat) (h : n < 256) : (UInt8.ofNat n).toNat = n := by simp [UInt8.toNat_ofNat']; omega

theorem digitsF_lib : ∀ (f n : Nat) (acc : List Nat), n < 10 ^ (f + 1) → digitsF (f + 1) n acc = natsB (Lib.decDigits n) ++ acc
  | 0, n, acc, h => by
    have h9 : n ≤ 9 := by simp at h; omega
    rw [Lib.decDigits, dif_pos (by omega)]
    simp only [digitsF, ble_of h9, cond_true, natsB, List.map_cons, List.map_nil, u8_of (48 + n) (by omega), List.singleton_append]
  | f + 1, n, acc, h => by
    rw [Lib.decDigits, digitsF]
    by_cases h9 : n ≤ 9
    · rw [dif_pos (by omega)]
      simp only [ble_of h9, cond_true, natsB, List.map_cons, List.map_nil, u8_of (48 + n) (by omega), List.singleton_append]
    · rw [dif_neg (by omega)]
      have hm : n % 10 < 10 := Nat.mod_lt _ (by omega)
      simp only [ble_not h9, cond_false]
      rw [digitsF_lib f (n / 10) _ (by rw [Nat.pow_succ] at h; omega)]
      simp only [natsB, List.map_append, List.map_cons, List.map_nil, u8_of (48 + n % 10) (by omega), List.append_assoc, List.singleton_append]

theorem itoaN_lib (n : Int) (h0 : -9223372036854775808 ≤ n) (h1 : n ≤ 9223372036854775807) : itoaN n = natsB (Lib.itoa n) := by
  unfold itoaN Lib.itoa
  split
  · rename_i n
    have hn : ¬ ((Int.ofNat n) < 0) := by simp
    rw [if_neg hn, digitsF_lib 19 n [] (by simp at h1 ⊢; omega)]
    simp
  · rename_i n
    rw [if_pos (Int.negSucc_lt_zero n), digitsF_lib 19 (n + 1) [] (by simp at h0 ⊢; omega)]
    simp [natsB, Int.natAbs]

theorem joinN_lib (sep : List UInt8) : ∀ (xs : List (List UInt8)), joinN (natsB sep) (xs.map natsB) = natsB (Lib.join xs sep)
  | [] => by simp [joinN, Lib.join_nil, natsB]
  | [x] => by simp [joinN, Lib.join_one]
  | x :: y :: r => by
    have ih := joinN_lib sep (y :: r)
    rw [Lib.join_cons] at ih ⊢
    simp only [List.map_cons] at ih ⊢
    rw [joinN, ih]
    · simp [natsB, Lib.joinTail]
    · simp

theorem repN_lib (s : List UInt8) : ∀ n, repN (natsB s) n = natsB (Lib.repeatL s n)
  | 0 => by simp [repN, Lib.repeatL, natsB]
  | n + 1 => by
    have ih := repN_lib s n
    simp only [natsB] at ih
    simp [repN, Lib.repeatL, natsB, ih]

theorem ofNat_natsB (l : List UInt8) : (natsB l).map UInt8.ofNat = l := by
  induction l with
  | nil => rfl
  | cons a r ih => simp only [natsB, List.map_cons] at ih ⊢; rw [ih]; simp

section
variable {P : Program} {w : World} {Imm : Nat → Prop}

/-- a row of texts in the memory -/
theorem strs_of [Gl] : ∀ {l : List (List Nat)} {ns : List Nat} {css : List (List Value)}, PVCl P w Imm ns (l.map .str) css →
    ∃ xs : List ByteArray, css.flatten = xs.map .string ∧ l = xs.map (fun b => natsB b.data.toList)
  | [], ns, css, h => by
    have := flatten_nil_of_PVCl h
    subst this; exact ⟨[], by simp, by simp⟩
  | s :: l, [], css, h => by simp [PVCl] at h
  | s :: l, n :: ns, css, h => by
    simp only [List.map_cons, PVCl, PVC] at h
    obtain ⟨c, cs, rfl, ⟨bs, rfl, h1⟩, _, h2⟩ := h
    obtain ⟨xs, g1, g2⟩ := strs_of h2
    exact ⟨bs :: xs, by simp [g1], by simp [g2, h1, natsB]⟩
end

theorem h182 (n : Int) (h0 : -9223372036854775808 ≤ n) (h1 : n ≤ 9223372036854775807) : GoodC Tryz.prog 182 [.int .i64 n] (.str (itoaN n)) := by
  refine goodP_flat (enters_fn Tryz.func182 (by kernel_rfl)) fun w Imm cargs _ hg ha => ?_
  obtain ⟨x, rfl, h2⟩ := PVVl_one ha
  simp only [PVV] at h2
  subst h2
  obtain ⟨_, T, hT⟩ := hg.raw 1 _ rfl
  refine (Tryz.strconv_Itoa n h0 h1 w ?_).mono ?_
  · have hn : Tryz.prog.globalNamed "internal/strconv.uint64pow10" = some 1 := by kernel_rfl
    simp only [Lib.TabIs, World.var?, hn, Option.bind_some, hT]
    rfl
  · rintro e w' ⟨rfl, k, os, rfl⟩
    refine ⟨_, rfl, ⟨?_, fun k hk => ?_, rfl, rfl⟩, fun w Imm => ?_⟩
    · simp [Go.Sort.grow, World.drewN]
    · simp only [Go.Sort.grow]
      exact Array.getElem?_append_left hk
    · rw [itoaN_lib n h0 h1]; exact PVV_strB _

theorem h73 (s : List Nat) (c : Nat) (hc : c ≤ 9223372036854775807) (hl : s.length * c ≤ 140737488355328) : GoodC Tryz.prog 73 [.str s, .int .i64 c] (.str (repN s c)) := by
  refine goodP_flat (enters_fn Tryz.func73 (by kernel_rfl)) fun w Imm cargs _ hg ha => ?_
  obtain ⟨x, y, rfl, h1, h2⟩ := PVVl_two ha
  simp only [PVV] at h1 h2
  obtain ⟨bs, rfl, rfl⟩ := h1
  subst h2
  refine (Tryz.strings_Repeat bs c w hc (by simpa using hl)).mono ?_
  rintro e w' ⟨rfl, hb⟩
  exact ⟨_, rfl, ⟨hb.size, hb.block, hb.os, hb.output⟩, fun w Imm => by
    have := repN_lib bs.data.toList c
    simp only [natsB] at this
    rw [this]; exact PVV_strB _⟩

theorem h239 (s : List Nat) (v : Int) (h : Lib.atoiAll (s.map UInt8.ofNat) = .ok v) (hl : s.length ≤ 9223372036854775806) : GoodC Tryz.prog 239 [.str s] (.tup [.int .i64 v, .nif]) := by
  refine goodP_flat (enters_fn Tryz.func239 (by kernel_rfl)) fun w Imm cargs _ hg ha => ?_
  obtain ⟨x, rfl, h1⟩ := PVVl_one ha
  simp only [PVV] at h1
  obtain ⟨bs, rfl, rfl⟩ := h1
  have e := ofNat_natsB bs.data.toList
  simp only [natsB] at e
  rw [e] at h
  refine (Tryz.strconv_Atoi_ok bs (by simpa using hl) v h w).mono ?_
  rintro e w' ⟨rfl, hw⟩
  refine ⟨_, rfl, ?_, fun w Imm => by simp [PVV, PVVl]⟩
  rcases hw with rfl | ⟨t, rfl⟩
  · exact ⟨Nat.le_refl _, fun _ _ => rfl, rfl, rfl⟩
  · have hb := Lib.bytesWorld_below w 5 t
    exact ⟨hb.size, hb.block, hb.os, hb.output⟩

theorem h159 (full : Bool) (l : List (List Nat)) (sep : List Nat) (hl : l.length ≤ 140737488355328) (hj : (joinN sep l).length ≤ 140737488355328) : GoodC Tryz.prog 159 [.lst full (l.map .str), .str sep] (.str (joinN sep l)) := by
  refine goodP_flat (enters_fn Tryz.func159 (by kernel_rfl)) fun w Imm cargs hb hg ha => ?_
  obtain ⟨x, y, rfl, h1, h2⟩ := PVVl_two ha
  simp only [PVV] at h1 h2
  obtain ⟨sp, rfl, rfl⟩ := h2
  obtain ⟨blk, off, cap, esz, css, h3, h4, h5, h6, h7, spt, hspt, rfl⟩ := h1
  obtain ⟨xs, g1, g2⟩ := strs_of h3
  have hlen : (l.map PV.str).length = xs.length := by rw [g2]; simp
  cases hxs : xs with
  | nil =>
    subst hxs
    have hl0 : l = [] := by simpa using g2
    subst hl0
    refine (Tryz.strings_Join_none (some ⟨blk, off, spt⟩) cap sp w).mono ?_
    rintro e w' ⟨rfl, rfl⟩
    exact ⟨_, rfl, ⟨Nat.le_refl _, fun _ _ => rfl, rfl, rfl⟩, fun w Imm => by simpa [joinN, natsB] using PVV_strB (P := Tryz.prog) (w := w) (Imm := Imm) []⟩
  | cons x0 r =>
    have hne : l.map PV.str ≠ [] := by rw [g2, hxs]; simp
    obtain rfl : spt = none := hspt.resolve_right (by rw [hlen, hxs] at h7; simp at h7; omega)
    have hjn := joinN_lib sp.data.toList (xs.map (·.data.toList))
    have e2 : (xs.map (·.data.toList)).map natsB = l := by rw [g2]; simp
    rw [e2] at hjn
    have hjn' : joinN (sp.data.toList.map (·.toNat)) l = natsB (Lib.join (xs.map (·.data.toList)) sp.data.toList) := hjn
    rw [hlen]
    refine (Tryz.strings_Join blk off cap xs sp w (fun j x hx => ?_) (hb _ (h4 hne)) (by simp at hlen; omega) (by omega) ?_).mono ?_
    · have hjl : j < xs.length := (List.getElem?_eq_some_iff.1 hx).1
      rw [g1] at h5
      have := h5 j (by simpa using hjl)
      rw [this]
      simp [(List.getElem?_eq_some_iff.1 hx).2]
    · rw [hjn'] at hj; simpa [natsB] using hj
    · rintro e w' ⟨rfl, hbl⟩
      exact ⟨_, rfl, ⟨hbl.size, hbl.block, hbl.os, hbl.output⟩, fun w Imm => by rw [hjn']; exact PVV_strB _⟩

theorem h159n (sep : List Nat) : GoodC Tryz.prog 159 [.nsl, .str sep] (.str []) := by
  refine goodP_flat (enters_fn Tryz.func159 (by kernel_rfl)) fun w Imm cargs hb hg ha => ?_
  obtain ⟨x, y, rfl, h1, h2⟩ := PVVl_two ha
  simp only [PVV] at h1 h2
  obtain ⟨sp, rfl, rfl⟩ := h2
  subst h1
  refine (Tryz.strings_Join_none none 0 sp w).mono ?_
  rintro e w' ⟨rfl, rfl⟩
  exact ⟨_, rfl, ⟨Nat.le_refl _, fun _ _ => rfl, rfl, rfl⟩, fun w Imm => by simpa [natsB] using PVV_strB (P := Tryz.prog) (w := w) (Imm := Imm) []⟩
end Go.Abs

/-
  strings.Builder: the check of its own address.
-/
namespace Go.Proofs
open Go.Abs

theorem Tryz.und160 : Tryz.prog.underlying 160 = some (.pointer 162) := by kernel_rfl
theorem Tryz.und326 : Tryz.prog.underlying 326 = some .unsafePointer := by kernel_rfl
theorem Tryz.size162 : (Tryz.prog.info? 162).map (·.size) = some 2 := by kernel_rfl
theorem Tryz.lies162 : liesAt Tryz.prog Tryz.prog.depth 162 (2 / Tryz.prog.cellsOf 162) 0 162 1 = true := by kernel_rfl

set_option maxHeartbeats 1000000 in
set_option maxRecDepth 100000 in
theorem Tryz.copyCheck_used (b : Nat) (w : World) (h0 : w.cell? ⟨b, 0, none⟩ = some (.pointer (some ⟨b, 0, none⟩))) :
    Calls Tryz.prog 180 #[.pointer (some ⟨b, 0, none⟩)] w fun e w' => e = .returned (.tuple #[]) ∧ w' = w := by
  obtain ⟨j, hj, _⟩ := Option.map_eq_some_iff.1 Tryz.size162
  go_enter Tryz.func180, Tryz.ntmps180
  go_wp2
  rw [Lib.run_neq_ptr_same w _ Tryz.und160 hj]
  go_wp2
  go_end0
  exact ⟨rfl, rfl⟩

set_option maxHeartbeats 1000000 in
set_option maxRecDepth 100000 in
theorem Tryz.copyCheck_fresh (b : Nat) (w : World) (h0 : w.cell? ⟨b, 0, none⟩ = some (.pointer none)) (hsh : w.shape? b = some (162, 2)) (hfz : w.frozen? ⟨b, 0, none⟩ = false) :
    Calls Tryz.prog 180 #[.pointer (some ⟨b, 0, none⟩)] w fun e w' => e = .returned (.tuple #[]) ∧ w' = w.setCell ⟨b, 0, none⟩ (.pointer (some ⟨b, 0, none⟩)) := by
  obtain ⟨j, hj, hjs⟩ := Option.map_eq_some_iff.1 Tryz.size162
  go_enter Tryz.func180, Tryz.ntmps180
  go_wp2
  rw [Lib.run_to_unsafe w ⟨b, 0, none⟩ Tryz.und160 Tryz.und326 hj (by rw [hjs]; decide) hsh (Nat.zero_lt_succ 1)]
  simp only [Result.andThen]
  rw [Oper.upon_value]
  go_wp2
  rw [run_callFunc_extern Tryz.func236 (by kernel_rfl) (by kernel_rfl) (by kernel_rfl) (e := Extern.AbiNoEscape.same) (by kernel_rfl)]
  rw [Lib.run_noEscape]
  simp only [Result.andThen]
  rw [Oper.upon_value]
  go_wp2
  rw [Lib.run_from_unsafe w ⟨b, 0, none⟩ Tryz.und326 Tryz.und160 hj hsh Tryz.lies162]
  simp only [Result.andThen]
  rw [Oper.upon_value]
  go_wp2
  go_end0
  exact ⟨rfl, rfl⟩
end Go.Proofs

/-
  strings.Builder: the check of its own address, as a contract in a heap.
-/
namespace Go.Abs
open Go.Proofs
set_option linter.unusedSectionVars false

theorem szs161 : szs Tryz.prog 161 = some [1, 1] := by kernel_rfl

section
variable {w : World} {Imm Prot : Nat → Prop} {β : Bd} {H : Heap}

theorem setCell_row {blk : Nat} {c0 c1 v : Value} {T : TypeId} (h : w.heap[blk]? = some (.cells #[c0, c1] T (0, 0))) : w.setCell ⟨blk, 0, none⟩ v = w.setRow blk #[v, c1] := by
  obtain ⟨hb, he⟩ := Array.getElem?_eq_some_iff.1 h
  unfold World.setCell World.setRow
  congr 1
  apply Array.ext
  · simp
  · intro i h1 h2
    simp only [Array.getElem_modify]
    by_cases hi : blk = i
    · subst hi; simp [he]
    · simp [hi]

/-- the two cells of a builder -/
theorem builder_cells {t x : AV} {cs : Array Value} (ht : t = mkSt 161 [.p .nptr, x] ∨ t = .st 161 [.p .nptr, x]) (h : AVC Tryz.prog w Imm β H t cs.toList) : ∃ y, cs = #[.pointer none, y] ∧ AVC Tryz.prog w Imm β H x [y] := by
  have h' : AVC Tryz.prog w Imm β H (.st 161 [.p .nptr, x]) cs.toList := by
    rcases ht with rfl | rfl
    · exact AVC_mkSt.1 h
    · exact h
  simp only [AVC, szs161, Option.some.injEq] at h'
  obtain ⟨l, css, rfl, h1, h2⟩ := h'
  simp only [AVCl, AVC, PVC] at h1
  obtain ⟨c, cs1, rfl, rfl, _, c2, cs2, rfl, h3, h4, rfl⟩ := h1
  match c2, h4 with
  | [y], _ => exact ⟨y, Array.ext' (by simpa using h2), h3⟩

theorem builder_cells2 {b : Nat} {x : AV} {cs : Array Value} (h : AVC Tryz.prog w Imm β H (.st 161 [.ptr b [], x]) cs.toList) : ∃ v y, cs = #[v, y] ∧ RefV Tryz.prog β H (.ptr b []) v := by
  simp only [AVC, szs161, Option.some.injEq] at h
  obtain ⟨l, css, rfl, h1, h2⟩ := h
  simp only [AVCl, AVC] at h1
  obtain ⟨c, cs1, rfl, ⟨v, rfl, hv⟩, _, c2, cs2, rfl, h3, h4, rfl⟩ := h1
  match c2, h4 with
  | [y], _ => exact ⟨v, y, Array.ext' (by simpa using h2), hv⟩
end

theorem g180f {H : Heap} {b : Nat} {t x : AV} (hb : H[b]? = some (.box false t)) (ht : t = mkSt 161 [.p .nptr, x] ∨ t = .st 161 [.p .nptr, x]) :
    GoodI Tryz.prog 180 H [.ptr b []] (H.set b (.box false (.st 161 [.ptr b [], x]))) (.p (.tup [])) := by
  refine ⟨enters_fn Tryz.func180 (by kernel_rfl), fun w Imm Prot β cargs hr ha hre => ?_⟩
  simp only [AVVl, AVV] at ha
  obtain ⟨v, vs, rfl, ⟨_, blk0, off0, oo, rfl, ho, hp⟩, rfl⟩ := ha
  simp only [pathOff, Option.some.injEq] at ho
  subst ho
  obtain ⟨rfl, rfl⟩ := hp (.inl ⟨false, t, hb⟩)
  obtain ⟨cs, T, k1, k2, k3, _, k5⟩ := hr.objs b _ hb
  have hsh : shpA t = .agg 161 := by
    rcases ht with rfl | rfl
    · exact shpA_mkSt _ _
    · rfl
  have hT : T = 162 := by
    rw [hsh] at k5
    exact beq2 (by simpa [bxB, Gl.bx, glOff] using k5)
  subst hT
  obtain ⟨y, rfl, hy⟩ := builder_cells ht k2
  have k3' : ¬ Imm (β.blk b) ∧ ¬ Prot (β.blk b) := by simpa [Held] using k3
  refine (Tryz.copyCheck_fresh (β.blk b) w (by simp [World.cell?, k1]) (by simp [World.shape?, k1]) (by simp [World.frozen?, k1])).mono ?_
  rintro e w' ⟨rfl, rfl⟩
  rw [setCell_row k1]
  have hst : HStep β H β (H.set b (.box false (.st 161 [.ptr b [], x]))) := set_step hb (.inl ⟨_, _, _, _, rfl, rfl⟩)
  have hin : ∀ z, InH H z → InH (H.set b (.box false (.st 161 [.ptr b [], x]))) z := InH_set hb (fun _ h => h)
  have hbl : b < H.length := (List.getElem?_eq_some_iff.1 hb).1
  have hg : (H.set b (.box false (.st 161 [.ptr b [], x])))[b]? = some (.box false (.st 161 [.ptr b [], x])) := List.getElem?_set_self hbl
  have hrx : refsLt (InH H) x := by
    have := hr.refs b _ hb
    rcases ht with rfl | rfl
    · simp only [Obj.refs] at this
      unfold mkSt at this
      split at this
      · rename_i l hl
        have hl := allP_eq hl
        match l, hl with
        | [a, c], hl => simp at hl; rw [hl.2]; simp [refsLt]
        | [], hl => simp at hl
        | [_], hl => simp at hl
        | _ :: _ :: _ :: _, hl => simp at hl
      · simp only [refsLt, refsLtl] at this; exact this.2.1
    · simp only [Obj.refs, refsLt, refsLtl] at this; exact this.2.1
  have hsame : ∀ k, Imm k → (w.setRow (β.blk b) #[.pointer (some ⟨β.blk b, 0, none⟩), y]).heap[k]? = w.heap[k]? := fun k hki => setRow_other w _ k _ (fun he => k3'.1 (he ▸ hki))
  have href : Obj.refs (InH (H.set b (.box false (.st 161 [.ptr b [], x])))) (.box false (.st 161 [.ptr b [], x])) := by
    simp only [Obj.refs, refsLt, refsLtl, and_true]
    exact ⟨⟨_, hg, trivial⟩, refsLt.mono hin _ hrx⟩
  have hpost := write_post hr hb trivial (o' := .box false (.st 161 [.ptr b [], x])) trivial (fun _ h => h) k1 (new := #[.pointer (some ⟨β.blk b, 0, none⟩), y]) k3' hst
    ⟨_, 162, setRow_heap w _ _ _ 162 _ k1, by
      simp only [AVC, szs161, Option.some.injEq]
      refine ⟨_, [[.pointer (some ⟨β.blk b, 0, none⟩)], [y]], rfl, ?_, rfl⟩
      simp only [AVCl, AVC]
      exact ⟨_, _, rfl, ⟨_, rfl, ⟨rfl, _, _, 0, rfl, rfl, fun _ => ⟨rfl, rfl⟩⟩⟩, rfl, _, _, rfl, AVC.mono (fun _ x => x) hsame hst _ _ hrx hy, rfl, rfl⟩, k3, by simp, by simp [shpA, bxB, Gl.bx]⟩ href
  exact ⟨_, β, Imm, rfl, hpost, by simp [AVV, PVV, PVVl], by simp [refsLt]⟩

theorem g180u {H : Heap} {b : Nat} {x : AV} (hb : H[b]? = some (.box false (.st 161 [.ptr b [], x]))) : GoodI Tryz.prog 180 H [.ptr b []] H (.p (.tup [])) := by
  refine ⟨enters_fn Tryz.func180 (by kernel_rfl), fun w Imm Prot β cargs hr ha hre => ?_⟩
  simp only [AVVl, AVV] at ha
  obtain ⟨v, vs, rfl, ⟨_, blk0, off0, oo, rfl, ho, hp⟩, rfl⟩ := ha
  simp only [pathOff, Option.some.injEq] at ho
  subst ho
  obtain ⟨rfl, rfl⟩ := hp (.inl ⟨false, _, hb⟩)
  obtain ⟨cs, T, k1, k2, k3, _, k5⟩ := hr.objs b _ hb
  obtain ⟨v, y, rfl, hv⟩ := builder_cells2 k2
  simp only [RefV, RefC] at hv
  obtain ⟨_, blk1, off1, oo, rfl, ho, hp⟩ := hv
  simp only [pathOff, Option.some.injEq] at ho
  subst ho
  obtain ⟨rfl, rfl⟩ := hp (.inl ⟨false, _, hb⟩)
  refine (Tryz.copyCheck_used (β.blk b) w (by simp [World.cell?, k1])).mono ?_
  rintro e w' ⟨rfl, rfl⟩
  exact ⟨_, β, Imm, rfl, Post.refl hr, by simp [AVV, PVV, PVVl], by simp [refsLt]⟩
end Go.Abs

/-
  slices.overlaps; the hooks of the reckoner, and that they hold.
-/
namespace Go.Abs
open Go.Proofs
set_option linter.unusedSectionVars false

theorem und22 : Tryz.prog.underlying 22 = some (.slice 168) := by kernel_rfl
theorem info168 : (Tryz.prog.info? 168).map (·.size) = some 2 := by kernel_rfl
theorem size168 (w : World) : (Go.sizeOf 168).run Tryz.prog w = .ok 2 w := by
  obtain ⟨j, hj, hs⟩ := Option.map_eq_some_iff.1 info168
  simp [Go.sizeOf, typeInfo, hj, hs]

/-- rows that a reader may look at: mutable, not nil -/
def rowM : Obj → Nat → Nat → Bool
  | .arr k v z es, ver, esz => Nat.beq ver v && (Nat.beq esz z && (nfz k && nnl k es))
  | _, _, _ => false
def rowNE : Obj → Nat → Nat → Bool
  | .arr k v z (_ :: _), ver, esz => Nat.beq ver v && (Nat.beq esz z && (nfz k && Nat.ble 1 z))
  | _, _, _ => false

theorem x294 {b ver esz off len b' ver' esz' off' len' : Nat} {o o' : Obj} (hne : b ≠ b') (h1 : rowM o ver esz = true) (h2 : rowNE o' ver' esz' = true) :
    GoodXE Tryz.prog 294 [.sl b ver esz off len, .sl b' ver' esz' off' len'] [(b, o), (b', o')] (.bool false) := by
  intro H w Imm Prot β cargs hr ha hre hin
  have hb : H[b]? = some o := hin (b, o) (by simp)
  have hb' : H[b']? = some o' := hin (b', o') (by simp)
  cases o <;> simp only [rowM] at h1 <;> first | cases h1 | skip
  rename_i k v z es
  simp only [Bool.and_eq_true] at h1
  obtain ⟨a1, a2, a3, a4⟩ := h1
  obtain rfl := beq2 a1
  obtain rfl := beq2 a2
  cases o' <;> simp only [rowNE] at h2 <;> first | cases h2 | skip
  rename_i k' v' z' es'
  cases es' with
  | nil => simp [rowNE] at h2
  | cons e0 er =>
    simp only [rowNE, Bool.and_eq_true] at h2
    obtain ⟨c1, c2, c3, c4⟩ := h2
    obtain rfl := beq2 c1
    obtain rfl := beq2 c2
    have c4 := ble2 c4
    simp only [AVVl, AVV, RefV, RefC] at ha
    obtain ⟨x, xs, rfl, ⟨_, hx⟩, y, ys, rfl, ⟨_, hy⟩, rfl⟩ := ha
    obtain ⟨x1, _, x2⟩ := hx k es hb
    have hnn : ¬ isNilArr k es := nnl_ne a4
    have hnn' : ¬ isNilArr k' (e0 :: er) := fun h => by cases h.2
    obtain ⟨y1, _, y2⟩ := hy k' (e0 :: er) hb'
    rw [x2 hnn, y2 hnn']
    rcases hr.objs b _ hb with hold | ⟨cs, T, css, rest, k1, k2, k3, k4, k5, k6, k7, k8⟩
    · exact (hnn hold).elim
    rcases hr.objs b' _ hb' with hold | ⟨cs', T', css', rest', l1, l2, l3, l4, l5, l6, l7, l8⟩
    · exact (hnn' hold).elim
    have hni : ¬ Imm (β.blk b) := by
      have : k ≠ .frozen := nfz_ne a3
      have hf : (k == AK.frozen) = false := by simpa using this
      simp only [Held, hf, Bool.false_eq_true, if_false] at k7
      exact k7.1
    have hblk : β.blk b ≠ β.blk b' := fun he => hne (hr.inj b b' _ _ hb hb' hnn hnn' hni he)
    refine ⟨.bool false, ?_, by simp [PVV]⟩
    rw [run_callFunc_extern Tryz.func294 (by kernel_rfl) (by kernel_rfl) (by kernel_rfl) (e := Extern.SlicesOverlaps.overlaps #[22, 22] #[4]) (by kernel_rfl)]
    rw [Lib.run_overlaps_apart w 22 4 168 und22 2 size168 _ _ _ _ _ _ hblk T T' cs.size cs'.size (by simp [World.shape?, k1]) (by simp [World.shape?, l1]) ?_ (by simp [World.frozen?, k1]) (by simp [World.frozen?, k1])]
    · rfl
    · have : 1 ≤ β.cap b' := by simp at l5; omega
      rw [l4]
      exact Nat.mul_ne_zero (by omega) (by omega)

def strsP : List PV → Option (List (List Nat))
  | [] => some []
  | .str s :: r => match strsP r with
    | some t => some (s :: t)
    | none => none
  | _ => none
theorem strsP_ok : ∀ {l : List PV} {ss : List (List Nat)}, strsP l = some ss → l = ss.map .str
  | [], ss, h => by simp only [strsP, Option.some.injEq] at h; subst h; rfl
  | v :: r, ss, h => by
    cases v <;> simp only [strsP] at h <;> first | cases h | skip
    split at h
    · rename_i t ht
      simp only [Option.some.injEq] at h; subst h
      simp [strsP_ok ht]
    · cases h

def inI64 : Int → Bool
  | .ofNat n => Nat.ble n 9223372036854775807
  | .negSucc n => Nat.ble n 9223372036854775807
theorem inI64_ok {n : Int} (h : inI64 n = true) : -9223372036854775808 ≤ n ∧ n ≤ 9223372036854775807 := by
  cases n with
  | ofNat n => have := ble2 h; simp; omega
  | negSucc n => have := ble2 h; simp [Int.negSucc_eq]; omega

def hkO (f : FuncId) (vs : List PV) : Option PV :=
  bif Nat.beq f 223 then match vs with
    | [.str s, .int .u8 (.ofNat c)] => bif Nat.ble (c + 1) 256 then some (.int .i64 (idxB c s 0)) else none
    | _ => none
  else bif Nat.beq f 166 then match vs with
    | [.str s, .str [c]] => some (.int .i64 (idxB c s 0))
    | _ => none
  else bif Nat.beq f 256 then match vs with
    | [.str s, .str [c]] => some (.int .i64 (cntB c s 0 : Nat))
    | _ => none
  else bif Nat.beq f 182 then match vs with
    | [.int .i64 n] => bif inI64 n then some (.str (itoaN n)) else none
    | _ => none
  else bif Nat.beq f 159 then match vs with
    | [.lst full l, .str sep] => match strsP l with
      | some ss => bif Nat.ble ss.length 140737488355328 && Nat.ble (joinN sep ss).length 140737488355328 then some (.str (joinN sep ss)) else none
      | none => none
    | [.nsl, .str _] => some (.str [])
    | _ => none
  else bif Nat.beq f 73 then match vs with
    | [.str s, .int .i64 (.ofNat n)] => bif Nat.ble n 9223372036854775807 && Nat.ble (s.length * n) 140737488355328 then some (.str (repN s n)) else none
    | _ => none
  else bif Nat.beq f 239 then match vs with
    | [.str s] => match Lib.atoiAll (s.map UInt8.ofNat) with
      | .ok v => bif Nat.ble s.length 9223372036854775806 then some (.tup [.int .i64 v, .nif]) else none
      | _ => none
    | _ => none
  else none

theorem hkO_ok {f : FuncId} {vs : List PV} {v : PV} (h : hkO f vs = some v) : GoodC Tryz.prog f vs v := by
  unfold hkO at h
  simp only [Bool.cond_eq_ite] at h
  split at h
  · rename_i hf; obtain rfl := beq2 hf
    split at h
    · simp only [Option.ite_none_right_eq_some, Option.some.injEq] at h
      obtain ⟨h1, rfl⟩ := h
      exact h223 _ _ (ble2 h1)
    · cases h
  split at h
  · rename_i hf; obtain rfl := beq2 hf
    split at h
    · simp only [Option.some.injEq] at h; subst h; exact h166 _ _
    · cases h
  split at h
  · rename_i hf; obtain rfl := beq2 hf
    split at h
    · simp only [Option.some.injEq] at h; subst h; exact h256 _ _
    · cases h
  split at h
  · rename_i hf; obtain rfl := beq2 hf
    split at h
    · simp only [Option.ite_none_right_eq_some, Option.some.injEq] at h
      obtain ⟨h1, rfl⟩ := h
      exact h182 _ (inI64_ok h1).1 (inI64_ok h1).2
    · cases h
  split at h
  · rename_i hf; obtain rfl := beq2 hf
    split at h
    · split at h
      · rename_i ss hs
        simp only [Option.ite_none_right_eq_some, Bool.and_eq_true, Option.some.injEq] at h
        obtain ⟨⟨h1, h2⟩, rfl⟩ := h
        rw [strsP_ok hs]
        exact h159 _ _ _ (ble2 h1) (ble2 h2)
      · cases h
    · simp only [Option.some.injEq] at h; subst h; exact h159n _
    · cases h
  split at h
  · rename_i hf; obtain rfl := beq2 hf
    split at h
    · simp only [Option.ite_none_right_eq_some, Bool.and_eq_true, Option.some.injEq] at h
      obtain ⟨⟨h1, h2⟩, rfl⟩ := h
      exact h73 _ _ (ble2 h1) (ble2 h2)
    · cases h
  split at h
  · rename_i hf; obtain rfl := beq2 hf
    split at h
    · split at h
      · rename_i v hv
        simp only [Option.ite_none_right_eq_some, Option.some.injEq] at h
        obtain ⟨h1, rfl⟩ := h
        exact h239 _ _ hv (ble2 h1)
      · cases h
    · cases h
  cases h

def hkI (f : FuncId) (args : List AV) (H : Heap) : Option (AV × Heap) :=
  bif Nat.beq f 180 then match args with
    | [.ptr b []] => match H[b]? with
      | some (.box false (.p (.st u [.nptr, x]))) => bif Nat.beq u 161 then some (.p (.tup []), H.set b (.box false (.st 161 [.ptr b [], .p x]))) else none
      | some (.box false (.st u [.p .nptr, x])) => bif Nat.beq u 161 then some (.p (.tup []), H.set b (.box false (.st 161 [.ptr b [], x]))) else none
      | some (.box false (.st u [.ptr b' [], _])) => bif Nat.beq u 161 && Nat.beq b' b then some (.p (.tup []), H) else none
      | _ => none
    | _ => none
  else none

theorem hkI_ok {f : FuncId} {args : List AV} {H H' : Heap} {v : AV} (h : hkI f args H = some (v, H')) : GoodI Tryz.prog f H args H' v := by
  unfold hkI at h
  simp only [Bool.cond_eq_ite] at h
  split at h
  case isFalse => cases h
  rename_i hf; obtain rfl := beq2 hf
  split at h
  case h_2 => cases h
  split at h
  · rename_i hb
    simp only [Option.ite_none_right_eq_some, Option.some.injEq, Prod.mk.injEq] at h
    obtain ⟨h1, rfl, rfl⟩ := h
    obtain rfl := beq2 h1
    exact g180f hb (.inl rfl)
  · rename_i hb
    simp only [Option.ite_none_right_eq_some, Option.some.injEq, Prod.mk.injEq] at h
    obtain ⟨h1, rfl, rfl⟩ := h
    obtain rfl := beq2 h1
    exact g180f hb (.inr rfl)
  · rename_i hb
    simp only [Option.ite_none_right_eq_some, Option.some.injEq, Prod.mk.injEq, Bool.and_eq_true] at h
    obtain ⟨⟨h1, h2⟩, rfl, rfl⟩ := h
    obtain rfl := beq2 h1
    obtain rfl := beq2 h2
    exact g180u hb
  · cases h

def hkX (f : FuncId) (args : List AV) (H : Heap) : Option (List (Nat × Obj) × PV) :=
  bif Nat.beq f 294 then match args with
    | [.sl b ver esz _ _, .sl b' ver' esz' _ _] => match H[b]?, H[b']? with
      | some o, some o' => bif Nat.beq b b' then none else (bif rowM o ver esz && rowNE o' ver' esz' then some ([(b, o), (b', o')], .bool false) else none)
      | _, _ => none
    | _ => none
  else none

theorem hkX_ok {f : FuncId} {args : List AV} {H : Heap} {hin : List (Nat × Obj)} {v : PV} (h : hkX f args H = some (hin, v)) : GoodXE Tryz.prog f args hin v ∧ ∀ p ∈ hin, H[p.1]? = some p.2 := by
  unfold hkX at h
  simp only [Bool.cond_eq_ite] at h
  split at h
  case isFalse => cases h
  rename_i hf; obtain rfl := beq2 hf
  split at h
  case h_2 => cases h
  split at h
  case h_2 => cases h
  rename_i o o' hb hb'
  split at h
  · cases h
  rename_i hne
  simp only [Option.ite_none_right_eq_some, Option.some.injEq, Prod.mk.injEq, Bool.and_eq_true] at h
  obtain ⟨⟨h1, h2⟩, rfl, rfl⟩ := h
  refine ⟨x294 (fun e => hne (by rw [e]; exact Nat.beq_refl _)) h1 h2, ?_⟩
  intro p hp
  simp only [List.mem_cons, List.not_mem_nil, or_false] at hp
  rcases hp with rfl | rfl
  · exact hb
  · exact hb'
end Go.Abs

/-
  The plan of the reckoner for this program, and that it holds.
-/
namespace Go.Abs
open Go.Proofs

def AllFn (P : Program) : List (Nat × Func) → Prop
  | [] => True
  | p :: r => IsFn P p.1 p.2 ∧ AllFn P r

theorem lookT_ok {P : Program} : ∀ {l : List (Nat × Func)}, AllFn P l → ∀ {f : Nat} {fn : Func}, lookT l f = some fn → IsFn P f fn
  | [], _, f, fn, h => by simp [lookT] at h
  | (i, g) :: r, ha, f, fn, h => by
    simp only [lookT, Bool.cond_eq_ite] at h
    split at h
    · rename_i hf
      simp only [Option.some.injEq] at h
      subst h
      rw [beq2 hf]; exact ha.1
    · exact lookT_ok ha.2 h

theorem tab_ok : AllFn Tryz.prog tabL := ⟨isF17, isF19, isF20, isF21, isF25, isF28, isF29, isF31, isF36, isF45, isF46, isF55, isF56, isF61, isF63, isF64, isF66, isF67, isF72, isF73, isF77, isF88, isF89, isF90, isF91, isF92, isF93, isF94, isF95, isF96, isF97, isF98, isF99, isF100, isF101, isF102, isF103, isF104, isF105, isF106, isF107, isF109, isF110, isF111, isF115, isF117, isF118, isF119, isF124, isF125, isF126, isF127, isF128, isF129, isF130, isF131, isF132, isF138, isF139, isF140, isF141, isF144, isF145, isF146, isF148, isF151, isF152, isF153, isF154, isF157, isF158, isF159, isF160, isF161, isF163, isF164, isF165, isF166, isF167, isF168, isF169, isF170, isF171, isF172, isF177, isF178, isF179, isF180, isF181, isF182, isF183, isF184, isF185, isF186, isF187, isF188, isF189, isF190, isF191, isF192, isF193, isF194, isF195, isF196, isF197, isF199, isF200, isF201, isF202, isF203, isF204, isF205, isF206, isF207, isF208, isF209, isF210, isF212, isF213, isF214, isF215, isF216, isF217, isF218, isF221, isF222, isF223, isF225, isF226, isF227, isF228, isF229, isF230, isF231, isF232, isF233, isF234, isF235, isF237, isF238, isF239, isF240, isF241, isF242, isF243, isF244, isF245, isF246, isF247, isF248, isF249, isF250, isF251, isF252, isF255, isF256, isF257, isF258, isF259, isF260, isF261, isF262, isF263, isF264, isF265, isF266, isF267, isF268, isF269, isF270, isF271, isF273, isF275, isF276, isF277, isF278, isF279, isF280, isF281, isF282, isF283, isF284, isF285, isF286, isF287, isF288, isF289, isF290, isF291, isF292, isF293, isF295, isF296, isF298, isF299, isF300, isF301, isF302, isF303, isF304, isF305, isF306, isF307, isF308, isF309, isF310, isF311, isF312, isF313, isF314, isF315, isF316, isF317, isF318, isF319, isF320, isF321, isF322, isF323, isF324, isF325, isF326, isF327, isF328, isF329, isF330, isF331, isF332, isF333, isF334, isF335, isF336, trivial⟩

def memN (n : Nat) : List Nat → Bool
  | [] => false
  | x :: r => bif Nat.beq n x then true else memN n r
def polL : List Nat := [190]
def polT : List (Nat × Nat × Nat) := [(67, 124, 1), (46, 130, 3), (46, 129, 3), (17, 91, 1), (152, 206, 3), (146, 207, 3), (146, 208, 3), (146, 209, 3), (146, 210, 3), (210, 251, 3), (210, 252, 3), (210, 249, 3)]
def polF (c f : Nat) : List (Nat × Nat × Nat) → Option Nat
  | [] => none
  | (a, b, n) :: r => bif Nat.beq a c && Nat.beq b f then some n else polF c f r
def polC (c f : Nat) : Nat := match polF c f polT with
  | some n => n
  | none => bif memN f [124, 159] then 2 else bif memN f [97, 100, 101] then 3 else bif memN f polL then 1 else 0


/-- the plan, with facts that are known already -/
noncomputable def plan (facts : FuncId → List PV → Option PV) : Plan := ⟨lookT tabL, fun f vs => match facts f vs with
  | some v => some v
  | none => hkO f vs, hkI, polC, hkX⟩

theorem plan_ok {facts : FuncId → List PV → Option PV} (h : ∀ f vs v, facts f vs = some v → GoodC Tryz.prog f vs v) : PlanOk Tryz.prog (plan facts) := by
  refine ⟨mix, fun f fn hf => lookT_ok tab_ok hf, fun f vs v hk => ?_, fun f args H v H' hk => hkI_ok hk, fun f args H hin v hk => hkX_ok hk⟩
  simp only [plan] at hk
  split at hk
  · rename_i hf
    simp only [Option.some.injEq] at hk; subst hk
    exact h _ _ _ hf
  · exact hkO_ok hk

noncomputable def run0 (facts : FuncId → List PV → Option PV) (f : FuncId) (vs : List PV) : Option PV := runP Tryz.prog nf (plan facts) (callsR Tryz.prog nf (plan facts) 20) f vs
theorem run0_ok {facts : FuncId → List PV → Option PV} (h : ∀ f vs v, facts f vs = some v → GoodC Tryz.prog f vs v) {f : FuncId} {vs : List PV} {v : PV} (hr : run0 facts f vs = some v) : GoodC Tryz.prog f vs v := reckon 20 (plan_ok h) hr
def noF : FuncId → List PV → Option PV := fun _ _ => none
end Go.Abs

/-
  Values of the awake run: equal values, told by a test.
-/
namespace Go.Abs
open Go.Proofs
set_option maxRecDepth 100000
def samN : List Nat → List Nat → Bool
  | [], [] => true
  | x :: a, y :: b => bif Nat.beq x y then samN a b else false
  | _, _ => false
theorem samN_eq : ∀ {a b : List Nat}, samN a b = true → a = b
  | [], [], _ => rfl
  | [], _ :: _, h => by simp [samN] at h
  | _ :: _, [], h => by simp [samN] at h
  | x :: a, y :: b, h => by
    simp only [samN, Bool.cond_eq_ite] at h
    split at h
    · rename_i hx; rw [Nat.eq_of_beq_eq_true hx, samN_eq h]
    · cases h
def samI : Int → Int → Bool
  | .ofNat a, .ofNat b => Nat.beq a b
  | .negSucc a, .negSucc b => Nat.beq a b
  | _, _ => false
theorem samI_eq : ∀ {a b : Int}, samI a b = true → a = b
  | .ofNat a, .ofNat b, h => by simp only [samI] at h; rw [Nat.eq_of_beq_eq_true h]
  | .negSucc a, .negSucc b, h => by simp only [samI] at h; rw [Nat.eq_of_beq_eq_true h]
  | .ofNat a, .negSucc b, h => by simp [samI] at h
  | .negSucc a, .ofNat b, h => by simp [samI] at h
mutual
def samV : PV → PV → Bool
  | .int .i64 a, .int .i64 b => samI a b
  | .str a, .str b => samN a b
  | .nsl, .nsl => true
  | .lst f a, .lst g b => bif Bool.xor f g then false else samL a b
  | .st u a, .st v b => bif Nat.beq u v then samL a b else false
  | .tup a, .tup b => samL a b
  | _, _ => false
def samL : List PV → List PV → Bool
  | [], [] => true
  | a :: l, b :: m => bif samV a b then samL l m else false
  | _, _ => false
end
mutual
theorem samV_eq : ∀ {a b : PV}, samV a b = true → a = b
  | a, b, h => by
    unfold samV at h
    split at h
    · rw [samI_eq h]
    · rw [samN_eq h]
    · rfl
    · rename_i f a g b
      cases f <;> cases g <;> simp only [Bool.xor_self, Bool.xor_true, Bool.xor_false, Bool.not_false, cond_true, cond_false] at h
      · rw [samL_eq h]
      · cases h
      · cases h
      · rw [samL_eq h]
    · simp only [Bool.cond_eq_ite] at h
      split at h
      · rename_i hu; rw [Nat.eq_of_beq_eq_true hu, samL_eq h]
      · cases h
    · rw [samL_eq h]
    · cases h
theorem samL_eq : ∀ {a b : List PV}, samL a b = true → a = b
  | [], [], _ => rfl
  | [], _ :: _, h => by simp [samL] at h
  | _ :: _, [], h => by simp [samL] at h
  | a :: l, b :: m, h => by
    simp only [samL, Bool.cond_eq_ite] at h
    split at h
    · rename_i hv; rw [samV_eq hv, samL_eq h]
    · cases h
end
/-- what is known: function, arguments, result -/
def knownF : List (FuncId × List PV × PV) → FuncId → List PV → Option PV
  | [], _, _ => none
  | (g, us, v) :: r, f, vs => bif Nat.beq g f then (bif samL us vs then some v else knownF r f vs) else knownF r f vs
def AllG (P : Program) [Gl] : List (FuncId × List PV × PV) → Prop
  | [] => True
  | (g, us, v) :: r => GoodC P g us v ∧ AllG P r
theorem knownF_ok {P : Program} [Gl] : ∀ {l : List (FuncId × List PV × PV)}, AllG P l → ∀ f vs v, knownF l f vs = some v → GoodC P f vs v
  | [], _, f, vs, v, h => by simp [knownF] at h
  | (g, us, w) :: r, ha, f, vs, v, h => by
    simp only [knownF, Bool.cond_eq_ite] at h
    split at h
    · rename_i hg
      split at h
      · rename_i hs
        simp only [Option.some.injEq] at h
        subst h
        rw [← samL_eq hs, ← Nat.eq_of_beq_eq_true hg]; exact ha.1
      · exact knownF_ok ha.2 f vs v h
    · exact knownF_ok ha.2 f vs v h
/-- a result, told by a test -/
def isR (v : PV) : Option PV → Bool
  | some w => samV v w
  | none => false
theorem isR_eq {v : PV} {o : Option PV} (h : isR v o = true) : o = some v := by
  cases o with
  | none => cases h
  | some w => rw [samV_eq h]
def isT : Option PV → Bool | some (.bool true) => true | _ => false
theorem isT_eq {o : Option PV} (h : isT o = true) : o = some (.bool true) := by
  unfold isT at h; split at h
  · rfl
  · cases h
theorem by_run {f : FuncId} {vs : List PV} {v : PV} (h : isR v (run0 noF f vs) = true) : GoodC Tryz.prog f vs v := run0_ok (fun _ _ _ h => by cases h) (isR_eq h)
end Go.Abs
