import Derived.Test.YtanjnahmbanmaaaGreatDoorPC
import Derived.Test.YtanjnahmbanmaaaGreatDoorPD
import Derived.Test.YtanjnahmbanmaaaGreatDoorPE
import Derived.Test.YtanjnahmbanmaaaGreatDoorPH
import Derived.Test.YtanjnahmbanmaaaGreatDoorPN
import Derived.Test.YtanjnahmbanmaaaGreatDoorPQ
import Derived.Test.YtanjnahmbanmaaaGreatDoorCards
import Derived.Test.YtanjnahmbanmaaaGreatDoorTie
import Derived.Seven
/-
  The law AimAligns returns true for all arguments whose bulk is at most 1048576, and the arguments read as before.
-/
set_option linter.unusedSimpArgs false
set_option linter.unusedVariables false
set_option linter.unusedSectionVars false
namespace Go.Proofs.YtanjnahmbanmaaaGreatDoor.aimAligns
open Go.Abs
set_option maxRecDepth 100000
theorem params : Tryz.f8.params.toList = [3, 24, 24] := by kernel_rfl
theorem good {H : Type} {W : World} {ds : List (DataW H)} (hl : ds.length = 3) (hb : Rows.uptoSmall H (ds ++ []) = true) (h : ∀ p ∈ Tryz.f8.params.toList.zip ds, ∃ cs, PVC Tryz.prog W (fun k => k < W.heap.size) (toPV Tryz.prog 8 p.1 p.2) cs) :
    aab Tryz.prog 8 (amW Tryz.prog 8 Tryz.f8.params.toList ds) (.bool true) := by
  rw [params] at h ⊢
  match ds, hl with
  | [d1, d2, d3], _ =>
    have hb := bulks.bound hb
    simp only [List.append_nil, Rows.uptoBulkAll] at hb
    obtain ⟨x1, e1, b1⟩ := ato (h (3, d1) (.head _)) (show Rows.uptoBulk d1 ≤ 1048576 by omega)
    obtain ⟨x2, e2, b2, y2⟩ := az6 (h (24, d2) (.tail _ (.head _))) (show Rows.uptoBulk d2 ≤ 1048576 by omega)
    obtain ⟨x3, e3, b3, y3⟩ := az6 (h (24, d3) (.tail _ (.tail _ (.head _)))) (show Rows.uptoBulk d3 ≤ 1048576 by omega)
    simp only [amW, e1, e2, e3]
    exact c_law8 awC x1 x2 x3 y2 y3
theorem atd : Rows.aimAlignsUptoRow.laid = Rows.aimContactsUptoRow.laid := by kernel_rfl
theorem reads (os : Os) {H : Type} (enc : TypeId × Value → H) : ∃ places, DataW.whole enc Tryz.prog ((afB os).forCall (fun _ _ => 0) ⟨#[], #[Value.int .i64 0, Value.agg #[Value.string ⟨#[]⟩, Value.string ⟨#[]⟩], Value.agg #[Value.string ⟨#[]⟩, Value.string ⟨#[]⟩]], []⟩).memory Tryz.f8.params.toList Rows.aimAlignsSpec.vars false #[Value.int .i64 0, Value.agg #[Value.string ⟨#[]⟩, Value.string ⟨#[]⟩], Value.agg #[Value.string ⟨#[]⟩, Value.string ⟨#[]⟩]].toList 8 = some ([.lit (.int .i64 0), .agg [.lit (.string []), .lit (.string [])], .agg [.lit (.string []), .lit (.string [])]], [], places) :=
  ⟨[], by kernel_rfl⟩
theorem akH (H : Type) (enc : TypeId × Value → H) (W : World) (base : Nat) (args : Array Value) (ds gs : List (DataW H)) (before : List MemPlace)
    (hval : ∀ (j : Nat) t v, Tryz.f8.params[j]? = some t → args[j]? = some v → Value.okWide Tryz.prog W .any base t v)
    (hW : DataW.Whole enc Tryz.prog Tryz.f8.params.toList Rows.aimAlignsSpec.vars false W args.toList ds gs before) (hk : Rows.uptoSmall H (ds ++ gs) = true) (hL : laidMetH Tryz.prog Rows.aimAlignsUptoRow.laid W) :
    Calls Tryz.prog 8 args W fun e W' => ∃ v, e = .returned v ∧ Rows.aimAlignsSpec.post enc Tryz.prog Tryz.f8 false true false false W args v W' := by
  rw [atd] at hL
  have hgs : gs = [] := by
    obtain ⟨p, q, _, hV, _⟩ := hW
    cases gs with
    | nil => rfl
    | cons g gs => exact hV.elim
  have hlen : ds.length = 3 := by
    obtain ⟨p, q, hA, _⟩ := hW
    have := (ahn (n := 8) (base := base) (r := .any) (by rw [params]; decide +kernel) hA (fun j t v ht hv => hval j t v (by simpa using ht) (by simpa using hv))).2
    rw [this, params]; rfl
  subst hgs
  exact al2 (n := 8) (T := (· < Tryz.prog.types.size)) (tb := 4) rfl
    (fun H ds hd => by
      have hd : ds.length = 3 := hd.trans (by kernel_rfl)
      match ds, hd with
      | [d1, d2, d3], _ => exact ⟨rfl, rfl, rfl⟩)
    kidsT fullT (by rw [params]; decide +kernel) (by rw [params]; decide +kernel) (by kernel_rfl) Tryz.underlying4 isF8.enters (aAP hL) (fun h => good hlen hk h) hval hW
theorem aqP (os : Os) (started : os.Started) (H : Type) (enc : TypeId × Value → H) (F : Stop.Interp) :
    ReturnsInHanded {} Tryz.checked os 8 .any ((Rows.OpenSpec.upto Rows.aimAlignsSpec).preRow enc Tryz.prog Tryz.f8 Rows.aimAlignsUptoRow.domain false Rows.aimAlignsUptoRow.laid) (((Rows.OpenSpec.upto Rows.aimAlignsSpec).at F).post enc Tryz.prog Tryz.f8 false true false false) := by
  obtain ⟨places, hx⟩ := reads os enc
  refine atb ac1 p_own started (by kernel_rfl) Tryz.func8
    (aqj ac1 (afB os) #[Value.int .i64 0, Value.agg #[Value.string ⟨#[]⟩, Value.string ⟨#[]⟩], Value.agg #[Value.string ⟨#[]⟩, Value.string ⟨#[]⟩]] rfl (by kernel_rfl) (by kernel_rfl) (by kernel_rfl)
      (OpenSpec.preRow_of_cond 8 hx (by kernel_rfl) (fun k hk => by cases hk; kernel_rfl) (by kernel_rfl) (by rw [atd]; exact avU os _))) ?_
  intro W base args ds gs before hval hW hcond hL
  exact akH H enc W base args ds gs before hval hW (hcond _ rfl) hL
theorem k0 : (Rows.aimAlignsUptoRow.wf (OpenSpec.ofChange (Rows.OpenSpec.upto Rows.aimAlignsSpec).bare)) = true := by kernel_rfl
theorem k1 : (laidOutB Tryz.prog) = true := aAU
theorem k2 : (mapsRowed Tryz.prog) = true := aAS
theorem k3 : (Tryz.f8.params.all (Tryz.prog.readableRec ·)) = true := by kernel_rfl
theorem k4 : (namedTie Tryz.prog Rows.aimAlignsUptoRow.named (Rows.OpenSpec.upto Rows.aimAlignsSpec).bare.vars) = true := by kernel_rfl
theorem k5 : ((Rows.aimAlignsUptoRow.stops == [])) = true := by kernel_rfl
theorem k6 : ((Tryz.prog.stops == [])) = true := by rw [aAL]; rfl
theorem k7 : ((Rows.aimAlignsUptoRow.knobs == [])) = true := by kernel_rfl
theorem k8 : ((Tryz.prog.stopKnobs == [])) = true := by rw [anh]; rfl
theorem k9 : ((Rows.aimAlignsUptoRow.inPlace == Tryz.prog.inPlace 8)) = true := by kernel_rfl
theorem k10 : ((Rows.aimAlignsUptoRow.unfollowed == Tryz.prog.unfollowed 8)) = true := by kernel_rfl
theorem k11 : ((Rows.aimAlignsUptoRow.recurses == Tryz.prog.recurses 8)) = true := by kernel_rfl
theorem k12 : ((Rows.aimAlignsUptoRow.named == Tryz.prog.varsNamed 8)) = true := by kernel_rfl
theorem k13 : ((Rows.aimAlignsUptoRow.maps == (Tryz.f8.params.toList ++ (Rows.OpenSpec.upto Rows.aimAlignsSpec).bare.plain.varTypes Tryz.prog).any (Tryz.prog.mapsRec ·))) = true := by kernel_rfl
theorem k14 : ((Rows.aimAlignsUptoRow.ifaces == (Tryz.f8.params.toList ++ (Rows.OpenSpec.upto Rows.aimAlignsSpec).bare.plain.varTypes Tryz.prog).any (Tryz.prog.ifacesRec ·))) = true := by kernel_rfl
theorem k15 : ((Rows.aimAlignsUptoRow.mapsOut == Tryz.prog.mapsAmong Tryz.f8.resultTypes.toList)) = true := by kernel_rfl
theorem k16 : ((Rows.aimAlignsUptoRow.loops == (Tryz.f8.params.toList ++ (Rows.OpenSpec.upto Rows.aimAlignsSpec).bare.plain.varTypes Tryz.prog).any (Tryz.prog.loopsFrom ·))) = true := by kernel_rfl
theorem k17 : ((Rows.aimAlignsUptoRow.wideKeys == (Tryz.f8.params.toList ++ (Rows.OpenSpec.upto Rows.aimAlignsSpec).bare.plain.varTypes Tryz.prog ++ Tryz.f8.resultTypes.toList).any (Tryz.prog.wideKeysFrom ·))) = true := by kernel_rfl
theorem k18 : ((Rows.OpenSpec.upto Rows.aimAlignsSpec).bare.vars.all (Tryz.prog.varReadable ·)) = true := by kernel_rfl
theorem k19 : (Tryz.f8.resultTypes.all (fun t => Tryz.prog.readableRec t && decide (t < Tryz.prog.types.size))) = true := by kernel_rfl
theorem k20 : ((Rows.aimAlignsUptoRow.ifacesOut == Tryz.f8.resultTypes.toList.any (Tryz.prog.ifacesRec ·))) = true := by kernel_rfl
theorem k21 : ((Rows.aimAlignsUptoRow.loopsOut == Tryz.f8.resultTypes.toList.any (Tryz.prog.loopsFrom ·))) = true := by kernel_rfl
theorem k22 : ((Rows.aimAlignsUptoRow.plainKeys == Tryz.prog.plainKeys)) = true := by rw [ani]; rfl
theorem k23 : (Rows.aimAlignsUptoRow.shortTexts.isNone) = true := by kernel_rfl
theorem k24 : (Tryz.prog.stopsHeard) = true := alv
theorem k25 : (Tryz.prog.mayEnter) = true := aqC
theorem k26 : ((Rows.aimAlignsUptoRow.lifted == Tryz.prog.liftsFinal)) = true := by rw [aAN]; rfl
theorem k27 : ((Tryz.prog.make == some Rows.aimAlignsUptoRow.make)) = true := by rw [aAT]; rfl
theorem k28 : ((Rows.aimAlignsUptoRow.kinds == (if Rows.aimAlignsUptoRow.domain.isEmpty then [] else Tryz.f8.params.toList.map fun t => match Tryz.prog.underlying t with | some (.int k) => some k | _ => none))) = true := by kernel_rfl
theorem k29 : ((Rows.aimAlignsUptoRow.pinned == Rows.aimAlignsUptoRow.pinnedBy)) = true := by kernel_rfl
theorem k30 : ((Rows.aimAlignsUptoRow.veiled == (Tryz.f8.params.toList ++ (Rows.OpenSpec.upto Rows.aimAlignsSpec).bare.plain.varTypes Tryz.prog ++ Tryz.f8.resultTypes.toList).any (Tryz.prog.veiledRec ·))) = true := by kernel_rfl
theorem k31 : (Rows.aimAlignsUptoRow.veiledFits Tryz.prog Tryz.f8.params.toList (Tryz.f8.params.toList ++ (Rows.OpenSpec.upto Rows.aimAlignsSpec).bare.plain.varTypes Tryz.prog ++ Tryz.f8.resultTypes.toList)) = true := by kernel_rfl
theorem and2 {a b : Bool} (h : a = true) (k : b = true) : (a && b) = true := by rw [h, k]; rfl
theorem closed : joinedFacts Tryz.prog 8 Tryz.f8 (Rows.OpenSpec.upto Rows.aimAlignsSpec).bare Rows.aimAlignsUptoRow = true :=
  and2 (and2 (and2 (and2 (and2 (and2 (and2 (and2 (and2 (and2 (and2 (and2 (and2 (and2 (and2 (and2 (and2 (and2 (and2 (and2 (and2 (and2 (and2 (and2 (and2 (and2 (and2 (and2 (and2 (and2 (and2 (k0) k1) k2) k3) k4) k5) k6) k7) k8) k9) k10) k11) k12) k13) k14) k15) k16) k17) k18) k19) k20) k21) k22) k23) k24) k25) k26) k27) k28) k29) k30) k31
theorem named : Tryz.prog.funcNamed Rows.aimAlignsUptoRow.func = some 8 := by kernel_rfl
theorem inst : Tryz.f8.isInstance Tryz.prog Rows.aimAlignsUptoRow.origin Rows.aimAlignsUptoRow.targs := of_decide_eq_true (by kernel_rfl)
theorem wrap : Tryz.f8.isWrapper Tryz.prog Rows.aimAlignsUptoRow.wrapper Rows.aimAlignsUptoRow.mainSum := by
  unfold Func.isWrapper; first | (rw [if_pos (by decide +kernel)]; kernel_rfl) | (rw [if_neg (by decide +kernel)]; exact ⟨rfl, rfl⟩)
theorem au9 : Rows.AimAlignsUptoSaid :=
  aAK ahM ac1 8 Tryz.f8 rfl rfl rfl rfl rfl rfl rfl ⟨rfl, rfl, rfl, rfl, rfl⟩ rfl rfl rfl rfl rfl named Tryz.func8 closed inst wrap
    (fun os started H enc F => aqP os started H enc F)
theorem aAJ : ∀ t ∈ Tryz.f8.params.toList, Tryz.prog.wantsStandIn t = false := by rw [params]; decide +kernel
theorem aAR : Rows.aimAlignsUptoRow.wfByText (Rows.OpenSpec.upto Rows.aimAlignsSpec) = true := by kernel_rfl
theorem mainIs : Tryz.prog.mainIs = some (Rows.aimAlignsUptoCard.stood.harness.1, Rows.aimAlignsUptoCard.stood.harness.2.toList) := by kernel_rfl
theorem goes : false = Rows.aimAlignsUptoRow.goesBy Tryz.prog := by kernel_rfl
theorem cardUpto : Rows.AimAlignsUptoCardSaid :=
  aAQ ahM ac1 .later _ _ _ _ au9 aAR aimAlignsUpto_row_tie rfl ⟨rfl, rfl⟩ mainIs rfl named Tryz.func8 aAM aAJ goes
end Go.Proofs.YtanjnahmbanmaaaGreatDoor.aimAligns
