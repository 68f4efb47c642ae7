import Derived.Test.YtanjnahmbanmaaaGreatDoorPC
import Derived.Test.YtanjnahmbanmaaaGreatDoorPD
import Derived.Test.YtanjnahmbanmaaaGreatDoorPE
import Derived.Test.YtanjnahmbanmaaaGreatDoorPH
import Derived.Test.YtanjnahmbanmaaaGreatDoorPN
import Derived.Test.YtanjnahmbanmaaaGreatDoorPQ
import Derived.Test.YtanjnahmbanmaaaGreatDoorCards
import Derived.Test.YtanjnahmbanmaaaGreatDoorTie
import Derived.Seven
/-
  The law AimContacts returns true for all arguments whose bulk is at most 1048576, and the arguments read as before.
-/
set_option linter.unusedSimpArgs false
set_option linter.unusedVariables false
set_option linter.unusedSectionVars false
namespace Go.Proofs.YtanjnahmbanmaaaGreatDoor.aimContacts
open Go.Abs
set_option maxRecDepth 100000
theorem params : Tryz.f3.params.toList = [3, 3, 25] := by kernel_rfl
theorem good {H : Type} {W : World} {ds : List (DataW H)} (hl : ds.length = 3) (hb : Rows.uptoSmall H (ds ++ []) = true) (h : ∀ p ∈ Tryz.f3.params.toList.zip ds, ∃ cs, PVC Tryz.prog W (fun k => k < W.heap.size) (toPV Tryz.prog 8 p.1 p.2) cs) :
    aab Tryz.prog 3 (amW Tryz.prog 8 Tryz.f3.params.toList ds) (.bool true) := by
  rw [params] at h ⊢
  match ds, hl with
  | [d1, d2, d3], _ =>
    have hb := bulks.bound hb
    simp only [List.append_nil, Rows.uptoBulkAll] at hb
    obtain ⟨x1, e1, b1⟩ := ato (h (3, d1) (.head _)) (show Rows.uptoBulk d1 ≤ 1048576 by omega)
    obtain ⟨x2, e2, b2⟩ := ato (h (3, d2) (.tail _ (.head _))) (show Rows.uptoBulk d2 ≤ 1048576 by omega)
    obtain ⟨x3, e3, b3, y3⟩ := p3_arg (h (25, d3) (.tail _ (.tail _ (.head _)))) (show Rows.uptoBulk d3 ≤ 1048576 by omega)
    simp only [amW, e1, e2, e3]
    exact c_law3 awC x1 x2 x3.a x3.b x3.c y3.1 y3.2.1 y3.2.2
theorem atd : Rows.aimContactsUptoRow.laid = Rows.aimContactsUptoRow.laid := by kernel_rfl
theorem reads (os : Os) {H : Type} (enc : TypeId × Value → H) : ∃ places, DataW.whole enc Tryz.prog ((afB os).forCall (fun _ _ => 0) ⟨#[], #[Value.int .i64 0, Value.int .i64 0, Value.agg #[Value.string ⟨#[]⟩, Value.string ⟨#[]⟩, Value.string ⟨#[]⟩, Value.string ⟨#[]⟩, Value.string ⟨#[]⟩, Value.string ⟨#[]⟩]], []⟩).memory Tryz.f3.params.toList Rows.aimContactsSpec.vars false #[Value.int .i64 0, Value.int .i64 0, Value.agg #[Value.string ⟨#[]⟩, Value.string ⟨#[]⟩, Value.string ⟨#[]⟩, Value.string ⟨#[]⟩, Value.string ⟨#[]⟩, Value.string ⟨#[]⟩]].toList 8 = some ([.lit (.int .i64 0), .lit (.int .i64 0), .agg [.agg [.lit (.string []), .lit (.string [])], .agg [.lit (.string []), .lit (.string [])], .agg [.lit (.string []), .lit (.string [])]]], [], places) :=
  ⟨[], by kernel_rfl⟩
theorem akH (H : Type) (enc : TypeId × Value → H) (W : World) (base : Nat) (args : Array Value) (ds gs : List (DataW H)) (before : List MemPlace)
    (hval : ∀ (j : Nat) t v, Tryz.f3.params[j]? = some t → args[j]? = some v → Value.okWide Tryz.prog W .any base t v)
    (hW : DataW.Whole enc Tryz.prog Tryz.f3.params.toList Rows.aimContactsSpec.vars false W args.toList ds gs before) (hk : Rows.uptoSmall H (ds ++ gs) = true) (hL : laidMetH Tryz.prog Rows.aimContactsUptoRow.laid W) :
    Calls Tryz.prog 3 args W fun e W' => ∃ v, e = .returned v ∧ Rows.aimContactsSpec.post enc Tryz.prog Tryz.f3 false true false false W args v W' := by
  rw [atd] at hL
  have hgs : gs = [] := by
    obtain ⟨p, q, _, hV, _⟩ := hW
    cases gs with
    | nil => rfl
    | cons g gs => exact hV.elim
  have hlen : ds.length = 3 := by
    obtain ⟨p, q, hA, _⟩ := hW
    have := (ahn (n := 8) (base := base) (r := .any) (by rw [params]; decide +kernel) hA (fun j t v ht hv => hval j t v (by simpa using ht) (by simpa using hv))).2
    rw [this, params]; rfl
  subst hgs
  exact al2 (n := 8) (T := (· < Tryz.prog.types.size)) (tb := 4) rfl
    (fun H ds hd => by
      have hd : ds.length = 3 := hd.trans (by kernel_rfl)
      match ds, hd with
      | [d1, d2, d3], _ => exact ⟨rfl, rfl, rfl⟩)
    kidsT fullT (by rw [params]; decide +kernel) (by rw [params]; decide +kernel) (by kernel_rfl) Tryz.underlying4 isF3.enters (glob_ok hL) (fun h => good hlen hk h) hval hW
theorem aqP (os : Os) (started : os.Started) (H : Type) (enc : TypeId × Value → H) (F : Stop.Interp) :
    ReturnsInHanded {} Tryz.checked os 3 .any ((Rows.OpenSpec.upto Rows.aimContactsSpec).preRow enc Tryz.prog Tryz.f3 Rows.aimContactsUptoRow.domain false Rows.aimContactsUptoRow.laid) (((Rows.OpenSpec.upto Rows.aimContactsSpec).at F).post enc Tryz.prog Tryz.f3 false true false false) := by
  obtain ⟨places, hx⟩ := reads os enc
  refine atb ac1 p_own started (by kernel_rfl) Tryz.func3
    (aqj ac1 (afB os) #[Value.int .i64 0, Value.int .i64 0, Value.agg #[Value.string ⟨#[]⟩, Value.string ⟨#[]⟩, Value.string ⟨#[]⟩, Value.string ⟨#[]⟩, Value.string ⟨#[]⟩, Value.string ⟨#[]⟩]] rfl (by kernel_rfl) (by kernel_rfl) (by kernel_rfl)
      (OpenSpec.preRow_of_cond 8 hx (by kernel_rfl) (fun k hk => by cases hk; kernel_rfl) (by kernel_rfl) (by rw [atd]; exact avU os _))) ?_
  intro W base args ds gs before hval hW hcond hL
  exact akH H enc W base args ds gs before hval hW (hcond _ rfl) hL
theorem k0 : (Rows.aimContactsUptoRow.wf (OpenSpec.ofChange (Rows.OpenSpec.upto Rows.aimContactsSpec).bare)) = true := by kernel_rfl
theorem k1 : (laidOutB Tryz.prog) = true := p_laid
theorem k2 : (mapsRowed Tryz.prog) = true := p_maps
theorem k3 : (Tryz.f3.params.all (Tryz.prog.readableRec ·)) = true := by kernel_rfl
theorem k4 : (namedTie Tryz.prog Rows.aimContactsUptoRow.named (Rows.OpenSpec.upto Rows.aimContactsSpec).bare.vars) = true := by kernel_rfl
theorem k5 : ((Rows.aimContactsUptoRow.stops == [])) = true := by kernel_rfl
theorem k6 : ((Tryz.prog.stops == [])) = true := by rw [p_stops]; rfl
theorem k7 : ((Rows.aimContactsUptoRow.knobs == [])) = true := by kernel_rfl
theorem k8 : ((Tryz.prog.stopKnobs == [])) = true := by rw [anh]; rfl
theorem k9 : ((Rows.aimContactsUptoRow.inPlace == Tryz.prog.inPlace 3)) = true := by kernel_rfl
theorem k10 : ((Rows.aimContactsUptoRow.unfollowed == Tryz.prog.unfollowed 3)) = true := by kernel_rfl
theorem k11 : ((Rows.aimContactsUptoRow.recurses == Tryz.prog.recurses 3)) = true := by kernel_rfl
theorem k12 : ((Rows.aimContactsUptoRow.named == Tryz.prog.varsNamed 3)) = true := by kernel_rfl
theorem k13 : ((Rows.aimContactsUptoRow.maps == (Tryz.f3.params.toList ++ (Rows.OpenSpec.upto Rows.aimContactsSpec).bare.plain.varTypes Tryz.prog).any (Tryz.prog.mapsRec ·))) = true := by kernel_rfl
theorem k14 : ((Rows.aimContactsUptoRow.ifaces == (Tryz.f3.params.toList ++ (Rows.OpenSpec.upto Rows.aimContactsSpec).bare.plain.varTypes Tryz.prog).any (Tryz.prog.ifacesRec ·))) = true := by kernel_rfl
theorem k15 : ((Rows.aimContactsUptoRow.mapsOut == Tryz.prog.mapsAmong Tryz.f3.resultTypes.toList)) = true := by kernel_rfl
theorem k16 : ((Rows.aimContactsUptoRow.loops == (Tryz.f3.params.toList ++ (Rows.OpenSpec.upto Rows.aimContactsSpec).bare.plain.varTypes Tryz.prog).any (Tryz.prog.loopsFrom ·))) = true := by kernel_rfl
theorem k17 : ((Rows.aimContactsUptoRow.wideKeys == (Tryz.f3.params.toList ++ (Rows.OpenSpec.upto Rows.aimContactsSpec).bare.plain.varTypes Tryz.prog ++ Tryz.f3.resultTypes.toList).any (Tryz.prog.wideKeysFrom ·))) = true := by kernel_rfl
theorem k18 : ((Rows.OpenSpec.upto Rows.aimContactsSpec).bare.vars.all (Tryz.prog.varReadable ·)) = true := by kernel_rfl
theorem k19 : (Tryz.f3.resultTypes.all (fun t => Tryz.prog.readableRec t && decide (t < Tryz.prog.types.size))) = true := by kernel_rfl
theorem k20 : ((Rows.aimContactsUptoRow.ifacesOut == Tryz.f3.resultTypes.toList.any (Tryz.prog.ifacesRec ·))) = true := by kernel_rfl
theorem k21 : ((Rows.aimContactsUptoRow.loopsOut == Tryz.f3.resultTypes.toList.any (Tryz.prog.loopsFrom ·))) = true := by kernel_rfl
theorem k22 : ((Rows.aimContactsUptoRow.plainKeys == Tryz.prog.plainKeys)) = true := by rw [ani]; rfl
theorem k23 : (Rows.aimContactsUptoRow.shortTexts.isNone) = true := by kernel_rfl
theorem k24 : (Tryz.prog.stopsHeard) = true := alv
theorem k25 : (Tryz.prog.mayEnter) = true := aqC
theorem k26 : ((Rows.aimContactsUptoRow.lifted == Tryz.prog.liftsFinal)) = true := by rw [p_lifts]; rfl
theorem k27 : ((Tryz.prog.make == some Rows.aimContactsUptoRow.make)) = true := by rw [p_make]; rfl
theorem k28 : ((Rows.aimContactsUptoRow.kinds == (if Rows.aimContactsUptoRow.domain.isEmpty then [] else Tryz.f3.params.toList.map fun t => match Tryz.prog.underlying t with | some (.int k) => some k | _ => none))) = true := by kernel_rfl
theorem k29 : ((Rows.aimContactsUptoRow.pinned == Rows.aimContactsUptoRow.pinnedBy)) = true := by kernel_rfl
theorem k30 : ((Rows.aimContactsUptoRow.veiled == (Tryz.f3.params.toList ++ (Rows.OpenSpec.upto Rows.aimContactsSpec).bare.plain.varTypes Tryz.prog ++ Tryz.f3.resultTypes.toList).any (Tryz.prog.veiledRec ·))) = true := by kernel_rfl
theorem k31 : (Rows.aimContactsUptoRow.veiledFits Tryz.prog Tryz.f3.params.toList (Tryz.f3.params.toList ++ (Rows.OpenSpec.upto Rows.aimContactsSpec).bare.plain.varTypes Tryz.prog ++ Tryz.f3.resultTypes.toList)) = true := by kernel_rfl
theorem and2 {a b : Bool} (h : a = true) (k : b = true) : (a && b) = true := by rw [h, k]; rfl
theorem closed : joinedFacts Tryz.prog 3 Tryz.f3 (Rows.OpenSpec.upto Rows.aimContactsSpec).bare Rows.aimContactsUptoRow = true :=
  and2 (and2 (and2 (and2 (and2 (and2 (and2 (and2 (and2 (and2 (and2 (and2 (and2 (and2 (and2 (and2 (and2 (and2 (and2 (and2 (and2 (and2 (and2 (and2 (and2 (and2 (and2 (and2 (and2 (and2 (and2 (k0) k1) k2) k3) k4) k5) k6) k7) k8) k9) k10) k11) k12) k13) k14) k15) k16) k17) k18) k19) k20) k21) k22) k23) k24) k25) k26) k27) k28) k29) k30) k31
theorem named : Tryz.prog.funcNamed Rows.aimContactsUptoRow.func = some 3 := by kernel_rfl
theorem inst : Tryz.f3.isInstance Tryz.prog Rows.aimContactsUptoRow.origin Rows.aimContactsUptoRow.targs := of_decide_eq_true (by kernel_rfl)
theorem wrap : Tryz.f3.isWrapper Tryz.prog Rows.aimContactsUptoRow.wrapper Rows.aimContactsUptoRow.mainSum := by
  unfold Func.isWrapper; first | (rw [if_pos (by decide +kernel)]; kernel_rfl) | (rw [if_neg (by decide +kernel)]; exact ⟨rfl, rfl⟩)
theorem au9 : Rows.AimContactsUptoSaid :=
  said_of ahM ac1 3 Tryz.f3 rfl rfl rfl rfl rfl rfl rfl ⟨rfl, rfl, rfl, rfl, rfl⟩ rfl rfl rfl rfl rfl named Tryz.func3 closed inst wrap
    (fun os started H enc F => aqP os started H enc F)
theorem stands : ∀ t ∈ Tryz.f3.params.toList, Tryz.prog.wantsStandIn t = false := by rw [params]; decide +kernel
theorem byText : Rows.aimContactsUptoRow.wfByText (Rows.OpenSpec.upto Rows.aimContactsSpec) = true := by kernel_rfl
theorem mainIs : Tryz.prog.mainIs = some (Rows.aimContactsUptoCard.stood.harness.1, Rows.aimContactsUptoCard.stood.harness.2.toList) := by kernel_rfl
theorem goes : false = Rows.aimContactsUptoRow.goesBy Tryz.prog := by kernel_rfl
theorem cardUpto : Rows.AimContactsUptoCardSaid :=
  card_of ahM ac1 .later _ _ _ _ au9 byText aimContactsUpto_row_tie rfl ⟨rfl, rfl⟩ mainIs rfl named Tryz.func3 p_looks stands goes
end Go.Proofs.YtanjnahmbanmaaaGreatDoor.aimContacts
