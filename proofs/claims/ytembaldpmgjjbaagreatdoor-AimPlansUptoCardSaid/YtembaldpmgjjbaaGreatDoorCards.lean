/-
  DERIVED. GIVEN WITH THE SEED: THE CARDS: each row of YtembaldpmgjjbaaGreatDoorRows.lean that lists a variable, with what it lists TIED to the program's text (the seventh form; the later family's looks); each row that meets fmt, with fmt's text TOLD by the authors' own Lean function (tested against real Go, not proved from fmt's source: count such statements apart). THE CARD IS WHAT COUNTS. Prove the row's statement (the work); the ties are given (YtembaldpmgjjbaaGreatDoorTie.lean); close each card by the builder's one call (the guide's Derived/Test/ToyasCard.lean, 'card_holds'). Laid BY PROGRAM, IN A SANDBOX (cutbox-door.mjs). By AI agents, Wed Nov 11 2026. No macro, syntax, notation, axiom, sorry.
-/
import Derived.Test.YtembaldpmgjjbaaGreatDoorRows
import GoSem.ClaimSeven
namespace Go.Proofs.YtembaldpmgjjbaaGreatDoor
namespace Rows

/-- THE TIED CARD OF 'baulklaw04.AimPlans'. -/
def aimPlansCard : Claim7 := { stood := { row := aimPlansRow, standIns := [], harness := (true, "5127690207a83651c418562948e89ee647e0c30734f5e697154dc42b6145a9fe"), looks := true }, kinds := [], alts := [], laidByText := true, laidKinds := [.data, .data, .data, .data, .sentinel, .sentinel, .pinned], laidTests := true, laidLooks := .later }
def AimPlansCardSaid : Prop := Claim7.holds Tryz.pinned (.plain (OpenSpec.ofChange aimPlansSpec)) aimPlansCard

/-- THE SECOND FORM's CARD OF 'baulklaw04.AimPlans'. -/
def aimPlansUptoCard : Claim7 := { stood := { row := aimPlansUptoRow, standIns := [], harness := (true, "5127690207a83651c418562948e89ee647e0c30734f5e697154dc42b6145a9fe"), looks := true }, kinds := [], alts := [], laidByText := true, laidKinds := [.data, .data, .data, .data, .sentinel, .sentinel, .pinned], laidTests := true, laidLooks := .later }
def AimPlansUptoCardSaid : Prop := Claim7.holds Tryz.pinned (.plain (OpenSpec.upto aimPlansSpec)) aimPlansUptoCard
end Rows
end Go.Proofs.YtembaldpmgjjbaaGreatDoor
