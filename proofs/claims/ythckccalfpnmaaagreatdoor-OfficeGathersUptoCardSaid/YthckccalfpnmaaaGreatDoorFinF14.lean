import Derived.Test.YthckccalfpnmaaaGreatDoorPA
import Derived.Test.YthckccalfpnmaaaGreatDoorPD
import Derived.Test.YthckccalfpnmaaaGreatDoorPE
import Derived.Test.YthckccalfpnmaaaGreatDoorPG
import Derived.Test.YthckccalfpnmaaaGreatDoorCards
import Derived.Test.YthckccalfpnmaaaGreatDoorTie
import Derived.Seven
/-
  The law OfficeGathers returns true for all arguments whose bulk is at most 1048576, and the arguments read as before.
-/
set_option linter.unusedSimpArgs false
set_option linter.unusedVariables false
set_option linter.unusedSectionVars false
namespace Go.Proofs.YthckccalfpnmaaaGreatDoor.officeGathers
open Go.Abs
set_option maxRecDepth 100000
theorem params : Tryz.f14.params.toList = [76, 145, 9] := by kernel_rfl
theorem good {H : Type} {W : World} {ds : List (DataW H)} (hl : ds.length = 3) (hb : Rows.uptoSmall H (ds ++ []) = true) (h : ∀ p ∈ Tryz.f14.params.toList.zip ds, ∃ cs, PVC Tryz.prog W (fun k => k < W.heap.size) (toPV Tryz.prog 8 p.1 p.2) cs) :
    GoodC Tryz.prog 14 (toPVs Tryz.prog 8 Tryz.f14.params.toList ds) (.bool true) := by
  rw [params] at h ⊢
  match ds, hl with
  | [d1, d2, d3], _ =>
    have hb := bulks.bound hb
    simp only [List.append_nil, Rows.uptoBulkAll] at hb
    obtain ⟨x1, e1, b1⟩ := hist_arg (h (76, d1) (.head _)) (show Rows.uptoBulk d1 ≤ 1048576 by omega)
    obtain ⟨x2, e2, b2⟩ := cut3_arg (h (145, d2) (.tail _ (.head _))) (show Rows.uptoBulk d2 ≤ 1048576 by omega)
    obtain ⟨x3, e3, b3, y3⟩ := str_arg (h (9, d3) (.tail _ (.tail _ (.head _)))) (show Rows.uptoBulk d3 ≤ 1048576 by omega)
    simp only [toPVs, e1, e2, e3]
    exact c_law14 c_awake x1 x2 x3 b1 b2 b3 y3
theorem laid_eq : Rows.officeGathersUptoRow.laid = Rows.officeScriptsUptoRow.laid := by kernel_rfl
theorem reads (os : Os) {H : Type} (enc : TypeId × Value → H) : ∃ places, DataW.whole enc Tryz.prog ((laidWorld os).forCall (fun _ _ => 0) ⟨#[], #[Value.agg #[.slice none 0 0], Value.agg #[.int .u8 0, .int .u8 0, .int .u8 0], Value.string ⟨#[]⟩], []⟩).memory Tryz.f14.params.toList Rows.officeGathersSpec.vars false #[Value.agg #[.slice none 0 0], Value.agg #[.int .u8 0, .int .u8 0, .int .u8 0], Value.string ⟨#[]⟩].toList 8 = some ([.agg [.nil], .agg [.lit (.int .u8 0), .lit (.int .u8 0), .lit (.int .u8 0)], .lit (.string [])], [], places) :=
  ⟨[], by kernel_rfl⟩
theorem contract (H : Type) (enc : TypeId × Value → H) (W : World) (base : Nat) (args : Array Value) (ds gs : List (DataW H)) (before : List MemPlace)
    (hval : ∀ (j : Nat) t v, Tryz.f14.params[j]? = some t → args[j]? = some v → Value.okWide Tryz.prog W .any base t v)
    (hW : DataW.Whole enc Tryz.prog Tryz.f14.params.toList Rows.officeGathersSpec.vars false W args.toList ds gs before) (hk : Rows.uptoSmall H (ds ++ gs) = true) (hL : laidMetH Tryz.prog Rows.officeGathersUptoRow.laid W) :
    Calls Tryz.prog 14 args W fun e W' => ∃ v, e = .returned v ∧ Rows.officeGathersSpec.post enc Tryz.prog Tryz.f14 false true false false W args v W' := by
  rw [laid_eq] at hL
  have hgs : gs = [] := by
    obtain ⟨p, q, _, hV, _⟩ := hW
    cases gs with
    | nil => rfl
    | cons g gs => exact hV.elim
  have hlen : ds.length = 3 := by
    obtain ⟨p, q, hA, _⟩ := hW
    have := (trod_pvvl (n := 8) (base := base) (r := .any) (by rw [params]; decide +kernel) hA (fun j t v ht hv => hval j t v (by simpa using ht) (by simpa using hv))).2
    rw [this, params]; rfl
  subst hgs
  exact law_contract (n := 8) (T := (· < Tryz.prog.types.size)) (tb := 4) rfl
    (fun H ds hd => by
      have hd : ds.length = 3 := hd.trans (by kernel_rfl)
      match ds, hd with
      | [d1, d2, d3], _ => exact ⟨rfl, rfl, rfl⟩)
    kidsT fullT (by rw [params]; decide +kernel) (by rw [params]; decide +kernel) (by kernel_rfl) Tryz.underlying4 isF14.enters (glob_ok hL) (fun h => good hlen hk h) hval hW
theorem liftedUpto (os : Os) (started : os.Started) (H : Type) (enc : TypeId × Value → H) (F : Stop.Interp) :
    ReturnsInHanded {} Tryz.checked os 14 .any ((Rows.OpenSpec.upto Rows.officeGathersSpec).preRow enc Tryz.prog Tryz.f14 Rows.officeGathersUptoRow.domain false Rows.officeGathersUptoRow.laid) (((Rows.OpenSpec.upto Rows.officeGathersSpec).at F).post enc Tryz.prog Tryz.f14 false true false false) := by
  obtain ⟨places, hx⟩ := reads os enc
  refine lifted_of checked_prog p_own started (by kernel_rfl) Tryz.func14
    (witness_of checked_prog (laidWorld os) #[Value.agg #[.slice none 0 0], Value.agg #[.int .u8 0, .int .u8 0, .int .u8 0], Value.string ⟨#[]⟩] rfl (by kernel_rfl) (by kernel_rfl) (by kernel_rfl)
      (OpenSpec.preRow_of_cond 8 hx (by kernel_rfl) (fun k hk => by cases hk; kernel_rfl) (by kernel_rfl) (by rw [laid_eq]; exact laid_met os _))) ?_
  intro W base args ds gs before hval hW hcond hL
  exact contract H enc W base args ds gs before hval hW (hcond _ rfl) hL
theorem k0 : (Rows.officeGathersUptoRow.wf (OpenSpec.ofChange (Rows.OpenSpec.upto Rows.officeGathersSpec).bare)) = true := by kernel_rfl
theorem k1 : (laidOutB Tryz.prog) = true := p_laid
theorem k2 : (mapsRowed Tryz.prog) = true := p_maps
theorem k3 : (Tryz.f14.params.all (Tryz.prog.readableRec ·)) = true := by kernel_rfl
theorem k4 : (namedTie Tryz.prog Rows.officeGathersUptoRow.named (Rows.OpenSpec.upto Rows.officeGathersSpec).bare.vars) = true := by kernel_rfl
theorem k5 : ((Rows.officeGathersUptoRow.stops == [])) = true := by kernel_rfl
theorem k6 : ((Tryz.prog.stops == [])) = true := by rw [p_stops]; rfl
theorem k7 : ((Rows.officeGathersUptoRow.knobs == [])) = true := by kernel_rfl
theorem k8 : ((Tryz.prog.stopKnobs == [])) = true := by rw [p_stopKnobs]; rfl
theorem k9 : ((Rows.officeGathersUptoRow.inPlace == Tryz.prog.inPlace 14)) = true := by kernel_rfl
theorem k10 : ((Rows.officeGathersUptoRow.unfollowed == Tryz.prog.unfollowed 14)) = true := by kernel_rfl
theorem k11 : ((Rows.officeGathersUptoRow.recurses == Tryz.prog.recurses 14)) = true := by kernel_rfl
theorem k12 : ((Rows.officeGathersUptoRow.named == Tryz.prog.varsNamed 14)) = true := by kernel_rfl
theorem k13 : ((Rows.officeGathersUptoRow.maps == (Tryz.f14.params.toList ++ (Rows.OpenSpec.upto Rows.officeGathersSpec).bare.plain.varTypes Tryz.prog).any (Tryz.prog.mapsRec ·))) = true := by kernel_rfl
theorem k14 : ((Rows.officeGathersUptoRow.ifaces == (Tryz.f14.params.toList ++ (Rows.OpenSpec.upto Rows.officeGathersSpec).bare.plain.varTypes Tryz.prog).any (Tryz.prog.ifacesRec ·))) = true := by kernel_rfl
theorem k15 : ((Rows.officeGathersUptoRow.mapsOut == Tryz.prog.mapsAmong Tryz.f14.resultTypes.toList)) = true := by kernel_rfl
theorem k16 : ((Rows.officeGathersUptoRow.loops == (Tryz.f14.params.toList ++ (Rows.OpenSpec.upto Rows.officeGathersSpec).bare.plain.varTypes Tryz.prog).any (Tryz.prog.loopsFrom ·))) = true := by kernel_rfl
theorem k17 : ((Rows.officeGathersUptoRow.wideKeys == (Tryz.f14.params.toList ++ (Rows.OpenSpec.upto Rows.officeGathersSpec).bare.plain.varTypes Tryz.prog ++ Tryz.f14.resultTypes.toList).any (Tryz.prog.wideKeysFrom ·))) = true := by kernel_rfl
theorem k18 : ((Rows.OpenSpec.upto Rows.officeGathersSpec).bare.vars.all (Tryz.prog.varReadable ·)) = true := by kernel_rfl
theorem k19 : (Tryz.f14.resultTypes.all (fun t => Tryz.prog.readableRec t && decide (t < Tryz.prog.types.size))) = true := by kernel_rfl
theorem k20 : ((Rows.officeGathersUptoRow.ifacesOut == Tryz.f14.resultTypes.toList.any (Tryz.prog.ifacesRec ·))) = true := by kernel_rfl
theorem k21 : ((Rows.officeGathersUptoRow.loopsOut == Tryz.f14.resultTypes.toList.any (Tryz.prog.loopsFrom ·))) = true := by kernel_rfl
theorem k22 : ((Rows.officeGathersUptoRow.plainKeys == Tryz.prog.plainKeys)) = true := by rw [p_plainKeys]; rfl
theorem k23 : (Rows.officeGathersUptoRow.shortTexts.isNone) = true := by kernel_rfl
theorem k24 : (Tryz.prog.stopsHeard) = true := p_stopsHeard
theorem k25 : (Tryz.prog.mayEnter) = true := p_mayEnter
theorem k26 : ((Rows.officeGathersUptoRow.lifted == Tryz.prog.liftsFinal)) = true := by rw [p_lifts]; rfl
theorem k27 : ((Tryz.prog.make == some Rows.officeGathersUptoRow.make)) = true := by rw [p_make]; rfl
theorem k28 : ((Rows.officeGathersUptoRow.kinds == (if Rows.officeGathersUptoRow.domain.isEmpty then [] else Tryz.f14.params.toList.map fun t => match Tryz.prog.underlying t with | some (.int k) => some k | _ => none))) = true := by kernel_rfl
theorem k29 : ((Rows.officeGathersUptoRow.pinned == Rows.officeGathersUptoRow.pinnedBy)) = true := by kernel_rfl
theorem k30 : ((Rows.officeGathersUptoRow.veiled == (Tryz.f14.params.toList ++ (Rows.OpenSpec.upto Rows.officeGathersSpec).bare.plain.varTypes Tryz.prog ++ Tryz.f14.resultTypes.toList).any (Tryz.prog.veiledRec ·))) = true := by kernel_rfl
theorem k31 : (Rows.officeGathersUptoRow.veiledFits Tryz.prog Tryz.f14.params.toList (Tryz.f14.params.toList ++ (Rows.OpenSpec.upto Rows.officeGathersSpec).bare.plain.varTypes Tryz.prog ++ Tryz.f14.resultTypes.toList)) = true := by kernel_rfl
theorem and2 {a b : Bool} (h : a = true) (k : b = true) : (a && b) = true := by rw [h, k]; rfl
theorem closed : joinedFacts Tryz.prog 14 Tryz.f14 (Rows.OpenSpec.upto Rows.officeGathersSpec).bare Rows.officeGathersUptoRow = true :=
  and2 (and2 (and2 (and2 (and2 (and2 (and2 (and2 (and2 (and2 (and2 (and2 (and2 (and2 (and2 (and2 (and2 (and2 (and2 (and2 (and2 (and2 (and2 (and2 (and2 (and2 (and2 (and2 (and2 (and2 (and2 (k0) k1) k2) k3) k4) k5) k6) k7) k8) k9) k10) k11) k12) k13) k14) k15) k16) k17) k18) k19) k20) k21) k22) k23) k24) k25) k26) k27) k28) k29) k30) k31
theorem named : Tryz.prog.funcNamed Rows.officeGathersUptoRow.func = some 14 := by kernel_rfl
theorem inst : Tryz.f14.isInstance Tryz.prog Rows.officeGathersUptoRow.origin Rows.officeGathersUptoRow.targs := of_decide_eq_true (by kernel_rfl)
theorem wrap : Tryz.f14.isWrapper Tryz.prog Rows.officeGathersUptoRow.wrapper Rows.officeGathersUptoRow.mainSum := by
  unfold Func.isWrapper; first | (rw [if_pos (by decide +kernel)]; kernel_rfl) | (rw [if_neg (by decide +kernel)]; exact ⟨rfl, rfl⟩)
theorem saidUpto : Rows.OfficeGathersUptoSaid :=
  said_of pin_checked checked_prog 14 Tryz.f14 rfl rfl rfl rfl rfl rfl rfl ⟨rfl, rfl, rfl, rfl, rfl⟩ rfl rfl rfl rfl rfl named Tryz.func14 closed inst wrap
    (fun os started H enc F => liftedUpto os started H enc F)
theorem stands : ∀ t ∈ Tryz.f14.params.toList, Tryz.prog.wantsStandIn t = false := by rw [params]; decide +kernel
theorem byText : Rows.officeGathersUptoRow.wfByText (Rows.OpenSpec.upto Rows.officeGathersSpec) = true := by kernel_rfl
theorem mainIs : Tryz.prog.mainIs = some (Rows.officeGathersUptoCard.stood.harness.1, Rows.officeGathersUptoCard.stood.harness.2.toList) := by kernel_rfl
theorem goes : false = Rows.officeGathersUptoRow.goesBy Tryz.prog := by kernel_rfl
theorem cardUpto : Rows.OfficeGathersUptoCardSaid :=
  card_of pin_checked checked_prog .later _ _ _ _ saidUpto byText officeGathersUpto_row_tie rfl ⟨rfl, rfl⟩ mainIs rfl named Tryz.func14 p_looks stands goes
end Go.Proofs.YthckccalfpnmaaaGreatDoor.officeGathers
