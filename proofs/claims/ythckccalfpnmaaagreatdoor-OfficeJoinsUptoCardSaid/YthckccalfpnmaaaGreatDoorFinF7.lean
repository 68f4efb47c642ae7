import Derived.Test.YthckccalfpnmaaaGreatDoorPA
import Derived.Test.YthckccalfpnmaaaGreatDoorPD
import Derived.Test.YthckccalfpnmaaaGreatDoorPE
import Derived.Test.YthckccalfpnmaaaGreatDoorPG
import Derived.Test.YthckccalfpnmaaaGreatDoorCards
import Derived.Test.YthckccalfpnmaaaGreatDoorTie
import Derived.Seven
/-
  The law OfficeJoins returns true for all arguments whose bulk is at most 1048576, and the arguments read as before.
-/
set_option linter.unusedSimpArgs false
set_option linter.unusedVariables false
set_option linter.unusedSectionVars false
namespace Go.Proofs.YthckccalfpnmaaaGreatDoor.officeJoins
open Go.Abs
set_option maxRecDepth 100000
theorem params : Tryz.f7.params.toList = [76, 77, 9] := by kernel_rfl
theorem good {H : Type} {W : World} {ds : List (DataW H)} (hl : ds.length = 3) (hb : Rows.uptoSmall H (ds ++ []) = true) (h : ∀ p ∈ Tryz.f7.params.toList.zip ds, ∃ cs, PVC Tryz.prog W (fun k => k < W.heap.size) (toPV Tryz.prog 8 p.1 p.2) cs) :
    GoodC Tryz.prog 7 (toPVs Tryz.prog 8 Tryz.f7.params.toList ds) (.bool true) := by
  rw [params] at h ⊢
  match ds, hl with
  | [d1, d2, d3], _ =>
    have hb := bulks.bound hb
    simp only [List.append_nil, Rows.uptoBulkAll] at hb
    obtain ⟨x1, e1, b1⟩ := hist_arg (h (76, d1) (.head _)) (show Rows.uptoBulk d1 ≤ 1048576 by omega)
    obtain ⟨x2, e2, b2⟩ := pair_arg (h (77, d2) (.tail _ (.head _))) (show Rows.uptoBulk d2 ≤ 1048576 by omega)
    obtain ⟨x3, e3, b3, y3⟩ := str_arg (h (9, d3) (.tail _ (.tail _ (.head _)))) (show Rows.uptoBulk d3 ≤ 1048576 by omega)
    simp only [toPVs, e1, e2, e3]
    exact c_law7 c_awake x1 x2 x3 b1 b2 b3 y3
theorem laid_eq : Rows.officeJoinsUptoRow.laid = Rows.officeScriptsUptoRow.laid := by kernel_rfl
theorem reads (os : Os) {H : Type} (enc : TypeId × Value → H) : ∃ places, DataW.whole enc Tryz.prog ((laidWorld os).forCall (fun _ _ => 0) ⟨#[], #[Value.agg #[.slice none 0 0], Value.agg #[.string ⟨#[]⟩, .string ⟨#[]⟩], Value.string ⟨#[]⟩], []⟩).memory Tryz.f7.params.toList Rows.officeJoinsSpec.vars false #[Value.agg #[.slice none 0 0], Value.agg #[.string ⟨#[]⟩, .string ⟨#[]⟩], Value.string ⟨#[]⟩].toList 8 = some ([.agg [.nil], .agg [.lit (.string []), .lit (.string [])], .lit (.string [])], [], places) :=
  ⟨[], by kernel_rfl⟩
theorem contract (H : Type) (enc : TypeId × Value → H) (W : World) (base : Nat) (args : Array Value) (ds gs : List (DataW H)) (before : List MemPlace)
    (hval : ∀ (j : Nat) t v, Tryz.f7.params[j]? = some t → args[j]? = some v → Value.okWide Tryz.prog W .any base t v)
    (hW : DataW.Whole enc Tryz.prog Tryz.f7.params.toList Rows.officeJoinsSpec.vars false W args.toList ds gs before) (hk : Rows.uptoSmall H (ds ++ gs) = true) (hL : laidMetH Tryz.prog Rows.officeJoinsUptoRow.laid W) :
    Calls Tryz.prog 7 args W fun e W' => ∃ v, e = .returned v ∧ Rows.officeJoinsSpec.post enc Tryz.prog Tryz.f7 false true false false W args v W' := by
  rw [laid_eq] at hL
  have hgs : gs = [] := by
    obtain ⟨p, q, _, hV, _⟩ := hW
    cases gs with
    | nil => rfl
    | cons g gs => exact hV.elim
  have hlen : ds.length = 3 := by
    obtain ⟨p, q, hA, _⟩ := hW
    have := (trod_pvvl (n := 8) (base := base) (r := .any) (by rw [params]; decide +kernel) hA (fun j t v ht hv => hval j t v (by simpa using ht) (by simpa using hv))).2
    rw [this, params]; rfl
  subst hgs
  exact law_contract (n := 8) (T := (· < Tryz.prog.types.size)) (tb := 4) rfl
    (fun H ds hd => by
      have hd : ds.length = 3 := hd.trans (by kernel_rfl)
      match ds, hd with
      | [d1, d2, d3], _ => exact ⟨rfl, rfl, rfl⟩)
    kidsT fullT (by rw [params]; decide +kernel) (by rw [params]; decide +kernel) (by kernel_rfl) Tryz.underlying4 isF7.enters (glob_ok hL) (fun h => good hlen hk h) hval hW
theorem liftedUpto (os : Os) (started : os.Started) (H : Type) (enc : TypeId × Value → H) (F : Stop.Interp) :
    ReturnsInHanded {} Tryz.checked os 7 .any ((Rows.OpenSpec.upto Rows.officeJoinsSpec).preRow enc Tryz.prog Tryz.f7 Rows.officeJoinsUptoRow.domain false Rows.officeJoinsUptoRow.laid) (((Rows.OpenSpec.upto Rows.officeJoinsSpec).at F).post enc Tryz.prog Tryz.f7 false true false false) := by
  obtain ⟨places, hx⟩ := reads os enc
  refine lifted_of checked_prog p_own started (by kernel_rfl) Tryz.func7
    (witness_of checked_prog (laidWorld os) #[Value.agg #[.slice none 0 0], Value.agg #[.string ⟨#[]⟩, .string ⟨#[]⟩], Value.string ⟨#[]⟩] rfl (by kernel_rfl) (by kernel_rfl) (by kernel_rfl)
      (OpenSpec.preRow_of_cond 8 hx (by kernel_rfl) (fun k hk => by cases hk; kernel_rfl) (by kernel_rfl) (by rw [laid_eq]; exact laid_met os _))) ?_
  intro W base args ds gs before hval hW hcond hL
  exact contract H enc W base args ds gs before hval hW (hcond _ rfl) hL
theorem k0 : (Rows.officeJoinsUptoRow.wf (OpenSpec.ofChange (Rows.OpenSpec.upto Rows.officeJoinsSpec).bare)) = true := by kernel_rfl
theorem k1 : (laidOutB Tryz.prog) = true := p_laid
theorem k2 : (mapsRowed Tryz.prog) = true := p_maps
theorem k3 : (Tryz.f7.params.all (Tryz.prog.readableRec ·)) = true := by kernel_rfl
theorem k4 : (namedTie Tryz.prog Rows.officeJoinsUptoRow.named (Rows.OpenSpec.upto Rows.officeJoinsSpec).bare.vars) = true := by kernel_rfl
theorem k5 : ((Rows.officeJoinsUptoRow.stops == [])) = true := by kernel_rfl
theorem k6 : ((Tryz.prog.stops == [])) = true := by rw [p_stops]; rfl
theorem k7 : ((Rows.officeJoinsUptoRow.knobs == [])) = true := by kernel_rfl
theorem k8 : ((Tryz.prog.stopKnobs == [])) = true := by rw [p_stopKnobs]; rfl
theorem k9 : ((Rows.officeJoinsUptoRow.inPlace == Tryz.prog.inPlace 7)) = true := by kernel_rfl
theorem k10 : ((Rows.officeJoinsUptoRow.unfollowed == Tryz.prog.unfollowed 7)) = true := by kernel_rfl
theorem k11 : ((Rows.officeJoinsUptoRow.recurses == Tryz.prog.recurses 7)) = true := by kernel_rfl
theorem k12 : ((Rows.officeJoinsUptoRow.named == Tryz.prog.varsNamed 7)) = true := by kernel_rfl
theorem k13 : ((Rows.officeJoinsUptoRow.maps == (Tryz.f7.params.toList ++ (Rows.OpenSpec.upto Rows.officeJoinsSpec).bare.plain.varTypes Tryz.prog).any (Tryz.prog.mapsRec ·))) = true := by kernel_rfl
theorem k14 : ((Rows.officeJoinsUptoRow.ifaces == (Tryz.f7.params.toList ++ (Rows.OpenSpec.upto Rows.officeJoinsSpec).bare.plain.varTypes Tryz.prog).any (Tryz.prog.ifacesRec ·))) = true := by kernel_rfl
theorem k15 : ((Rows.officeJoinsUptoRow.mapsOut == Tryz.prog.mapsAmong Tryz.f7.resultTypes.toList)) = true := by kernel_rfl
theorem k16 : ((Rows.officeJoinsUptoRow.loops == (Tryz.f7.params.toList ++ (Rows.OpenSpec.upto Rows.officeJoinsSpec).bare.plain.varTypes Tryz.prog).any (Tryz.prog.loopsFrom ·))) = true := by kernel_rfl
theorem k17 : ((Rows.officeJoinsUptoRow.wideKeys == (Tryz.f7.params.toList ++ (Rows.OpenSpec.upto Rows.officeJoinsSpec).bare.plain.varTypes Tryz.prog ++ Tryz.f7.resultTypes.toList).any (Tryz.prog.wideKeysFrom ·))) = true := by kernel_rfl
theorem k18 : ((Rows.OpenSpec.upto Rows.officeJoinsSpec).bare.vars.all (Tryz.prog.varReadable ·)) = true := by kernel_rfl
theorem k19 : (Tryz.f7.resultTypes.all (fun t => Tryz.prog.readableRec t && decide (t < Tryz.prog.types.size))) = true := by kernel_rfl
theorem k20 : ((Rows.officeJoinsUptoRow.ifacesOut == Tryz.f7.resultTypes.toList.any (Tryz.prog.ifacesRec ·))) = true := by kernel_rfl
theorem k21 : ((Rows.officeJoinsUptoRow.loopsOut == Tryz.f7.resultTypes.toList.any (Tryz.prog.loopsFrom ·))) = true := by kernel_rfl
theorem k22 : ((Rows.officeJoinsUptoRow.plainKeys == Tryz.prog.plainKeys)) = true := by rw [p_plainKeys]; rfl
theorem k23 : (Rows.officeJoinsUptoRow.shortTexts.isNone) = true := by kernel_rfl
theorem k24 : (Tryz.prog.stopsHeard) = true := p_stopsHeard
theorem k25 : (Tryz.prog.mayEnter) = true := p_mayEnter
theorem k26 : ((Rows.officeJoinsUptoRow.lifted == Tryz.prog.liftsFinal)) = true := by rw [p_lifts]; rfl
theorem k27 : ((Tryz.prog.make == some Rows.officeJoinsUptoRow.make)) = true := by rw [p_make]; rfl
theorem k28 : ((Rows.officeJoinsUptoRow.kinds == (if Rows.officeJoinsUptoRow.domain.isEmpty then [] else Tryz.f7.params.toList.map fun t => match Tryz.prog.underlying t with | some (.int k) => some k | _ => none))) = true := by kernel_rfl
theorem k29 : ((Rows.officeJoinsUptoRow.pinned == Rows.officeJoinsUptoRow.pinnedBy)) = true := by kernel_rfl
theorem k30 : ((Rows.officeJoinsUptoRow.veiled == (Tryz.f7.params.toList ++ (Rows.OpenSpec.upto Rows.officeJoinsSpec).bare.plain.varTypes Tryz.prog ++ Tryz.f7.resultTypes.toList).any (Tryz.prog.veiledRec ·))) = true := by kernel_rfl
theorem k31 : (Rows.officeJoinsUptoRow.veiledFits Tryz.prog Tryz.f7.params.toList (Tryz.f7.params.toList ++ (Rows.OpenSpec.upto Rows.officeJoinsSpec).bare.plain.varTypes Tryz.prog ++ Tryz.f7.resultTypes.toList)) = true := by kernel_rfl
theorem and2 {a b : Bool} (h : a = true) (k : b = true) : (a && b) = true := by rw [h, k]; rfl
theorem closed : joinedFacts Tryz.prog 7 Tryz.f7 (Rows.OpenSpec.upto Rows.officeJoinsSpec).bare Rows.officeJoinsUptoRow = true :=
  and2 (and2 (and2 (and2 (and2 (and2 (and2 (and2 (and2 (and2 (and2 (and2 (and2 (and2 (and2 (and2 (and2 (and2 (and2 (and2 (and2 (and2 (and2 (and2 (and2 (and2 (and2 (and2 (and2 (and2 (and2 (k0) k1) k2) k3) k4) k5) k6) k7) k8) k9) k10) k11) k12) k13) k14) k15) k16) k17) k18) k19) k20) k21) k22) k23) k24) k25) k26) k27) k28) k29) k30) k31
theorem named : Tryz.prog.funcNamed Rows.officeJoinsUptoRow.func = some 7 := by kernel_rfl
theorem inst : Tryz.f7.isInstance Tryz.prog Rows.officeJoinsUptoRow.origin Rows.officeJoinsUptoRow.targs := of_decide_eq_true (by kernel_rfl)
theorem wrap : Tryz.f7.isWrapper Tryz.prog Rows.officeJoinsUptoRow.wrapper Rows.officeJoinsUptoRow.mainSum := by
  unfold Func.isWrapper; first | (rw [if_pos (by decide +kernel)]; kernel_rfl) | (rw [if_neg (by decide +kernel)]; exact ⟨rfl, rfl⟩)
theorem saidUpto : Rows.OfficeJoinsUptoSaid :=
  said_of pin_checked checked_prog 7 Tryz.f7 rfl rfl rfl rfl rfl rfl rfl ⟨rfl, rfl, rfl, rfl, rfl⟩ rfl rfl rfl rfl rfl named Tryz.func7 closed inst wrap
    (fun os started H enc F => liftedUpto os started H enc F)
theorem stands : ∀ t ∈ Tryz.f7.params.toList, Tryz.prog.wantsStandIn t = false := by rw [params]; decide +kernel
theorem byText : Rows.officeJoinsUptoRow.wfByText (Rows.OpenSpec.upto Rows.officeJoinsSpec) = true := by kernel_rfl
theorem mainIs : Tryz.prog.mainIs = some (Rows.officeJoinsUptoCard.stood.harness.1, Rows.officeJoinsUptoCard.stood.harness.2.toList) := by kernel_rfl
theorem goes : false = Rows.officeJoinsUptoRow.goesBy Tryz.prog := by kernel_rfl
theorem cardUpto : Rows.OfficeJoinsUptoCardSaid :=
  card_of pin_checked checked_prog .later _ _ _ _ saidUpto byText officeJoinsUpto_row_tie rfl ⟨rfl, rfl⟩ mainIs rfl named Tryz.func7 p_looks stands goes
end Go.Proofs.YthckccalfpnmaaaGreatDoor.officeJoins
