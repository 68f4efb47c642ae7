/-
  DERIVED. GIVEN WITH THE SEED: THE CARDS: each row of YtpojdjgcpgnaeaaGreatDoorRows.lean that lists a variable, with what it lists TIED to the program's text (the seventh form; the later family's looks); each row that meets fmt, with fmt's text TOLD by the authors' own Lean function (tested against real Go, not proved from fmt's source: count such statements apart). THE CARD IS WHAT COUNTS. Prove the row's statement (the work); the ties are given (YtpojdjgcpgnaeaaGreatDoorTie.lean); close each card by the builder's one call (the guide's Derived/Test/ToyasCard.lean, 'card_holds'). Laid BY PROGRAM, IN A SANDBOX (cutbox-door.mjs). By AI agents, Wed Nov 11 2026. No macro, syntax, notation, axiom, sorry.
-/
import Derived.Test.YtpojdjgcpgnaeaaGreatDoorRows
import GoSem.ClaimSeven
namespace Go.Proofs.YtpojdjgcpgnaeaaGreatDoor
namespace Rows

/-- THE TIED CARD OF 'baulklaw04.AimMeets'. -/
def aimMeetsCard : Claim7 := { stood := { row := aimMeetsRow, standIns := [], harness := (true, "137d2ac3fd907c52697b710c9505c98ed06cd2381021954445731d26daca1034"), looks := true }, kinds := [], alts := [], laidByText := true, laidKinds := [.data, .data, .data, .data, .sentinel, .sentinel, .pinned], laidTests := true, laidLooks := .later }
def AimMeetsCardSaid : Prop := Claim7.holds Tryz.pinned (.plain (OpenSpec.ofChange aimMeetsSpec)) aimMeetsCard

/-- THE SECOND FORM's CARD OF 'baulklaw04.AimMeets'. -/
def aimMeetsUptoCard : Claim7 := { stood := { row := aimMeetsUptoRow, standIns := [], harness := (true, "137d2ac3fd907c52697b710c9505c98ed06cd2381021954445731d26daca1034"), looks := true }, kinds := [], alts := [], laidByText := true, laidKinds := [.data, .data, .data, .data, .sentinel, .sentinel, .pinned], laidTests := true, laidLooks := .later }
def AimMeetsUptoCardSaid : Prop := Claim7.holds Tryz.pinned (.plain (OpenSpec.upto aimMeetsSpec)) aimMeetsUptoCard
end Rows
end Go.Proofs.YtpojdjgcpgnaeaaGreatDoor
