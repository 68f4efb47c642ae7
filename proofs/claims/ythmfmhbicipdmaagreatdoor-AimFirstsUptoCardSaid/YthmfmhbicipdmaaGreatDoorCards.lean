/-
  DERIVED. GIVEN WITH THE SEED: THE CARDS: each row of YthmfmhbicipdmaaGreatDoorRows.lean that lists a variable, with what it lists TIED to the program's text (the seventh form; the later family's looks); each row that meets fmt, with fmt's text TOLD by the authors' own Lean function (tested against real Go, not proved from fmt's source: count such statements apart). THE CARD IS WHAT COUNTS. Prove the row's statement (the work); the ties are given (YthmfmhbicipdmaaGreatDoorTie.lean); close each card by the builder's one call (the guide's Derived/Test/ToyasCard.lean, 'card_holds'). Laid BY PROGRAM, IN A SANDBOX (cutbox-door.mjs). By AI agents, Wed Nov 11 2026. No macro, syntax, notation, axiom, sorry.
-/
import Derived.Test.YthmfmhbicipdmaaGreatDoorRows
import GoSem.ClaimSeven
namespace Go.Proofs.YthmfmhbicipdmaaGreatDoor
namespace Rows

/-- THE TIED CARD OF 'baulklaw04.AimFirsts'. -/
def aimFirstsCard : Claim7 := { stood := { row := aimFirstsRow, standIns := [], harness := (true, "a9061dc15190a6007ea8abd6ce8566e226cebcf33443b89c2df385b68afd3377"), looks := true }, kinds := [], alts := [], laidByText := true, laidKinds := [.data, .data, .data, .data, .sentinel, .sentinel, .pinned], laidTests := true, laidLooks := .later }
def AimFirstsCardSaid : Prop := Claim7.holds Tryz.pinned (.plain (OpenSpec.ofChange aimFirstsSpec)) aimFirstsCard

/-- THE TIED CARD OF 'baulklaw04.AimWindows'. -/
def aimWindowsCard : Claim7 := { stood := { row := aimWindowsRow, standIns := [], harness := (true, "a9061dc15190a6007ea8abd6ce8566e226cebcf33443b89c2df385b68afd3377"), looks := true }, kinds := [], alts := [], laidByText := true, laidKinds := [.data, .data, .data, .data, .sentinel, .sentinel, .pinned], laidTests := true, laidLooks := .later }
def AimWindowsCardSaid : Prop := Claim7.holds Tryz.pinned (.plain (OpenSpec.ofChange aimWindowsSpec)) aimWindowsCard

/-- THE TIED CARD OF 'baulklaw04.AimAfters'. -/
def aimAftersCard : Claim7 := { stood := { row := aimAftersRow, standIns := [], harness := (true, "a9061dc15190a6007ea8abd6ce8566e226cebcf33443b89c2df385b68afd3377"), looks := true }, kinds := [], alts := [], laidByText := true, laidKinds := [.data, .data, .data, .data, .sentinel, .sentinel, .pinned], laidTests := true, laidLooks := .later }
def AimAftersCardSaid : Prop := Claim7.holds Tryz.pinned (.plain (OpenSpec.ofChange aimAftersSpec)) aimAftersCard

/-- THE TIED CARD OF 'baulklaw04.AimHides'. -/
def aimHidesCard : Claim7 := { stood := { row := aimHidesRow, standIns := [], harness := (true, "a9061dc15190a6007ea8abd6ce8566e226cebcf33443b89c2df385b68afd3377"), looks := true }, kinds := [], alts := [], laidByText := true, laidKinds := [.data, .data, .data, .data, .sentinel, .sentinel, .pinned], laidTests := true, laidLooks := .later }
def AimHidesCardSaid : Prop := Claim7.holds Tryz.pinned (.plain (OpenSpec.ofChange aimHidesSpec)) aimHidesCard

/-- THE SECOND FORM's CARD OF 'baulklaw04.AimFirsts'. -/
def aimFirstsUptoCard : Claim7 := { stood := { row := aimFirstsUptoRow, standIns := [], harness := (true, "a9061dc15190a6007ea8abd6ce8566e226cebcf33443b89c2df385b68afd3377"), looks := true }, kinds := [], alts := [], laidByText := true, laidKinds := [.data, .data, .data, .data, .sentinel, .sentinel, .pinned], laidTests := true, laidLooks := .later }
def AimFirstsUptoCardSaid : Prop := Claim7.holds Tryz.pinned (.plain (OpenSpec.upto aimFirstsSpec)) aimFirstsUptoCard

/-- THE SECOND FORM's CARD OF 'baulklaw04.AimWindows'. -/
def aimWindowsUptoCard : Claim7 := { stood := { row := aimWindowsUptoRow, standIns := [], harness := (true, "a9061dc15190a6007ea8abd6ce8566e226cebcf33443b89c2df385b68afd3377"), looks := true }, kinds := [], alts := [], laidByText := true, laidKinds := [.data, .data, .data, .data, .sentinel, .sentinel, .pinned], laidTests := true, laidLooks := .later }
def AimWindowsUptoCardSaid : Prop := Claim7.holds Tryz.pinned (.plain (OpenSpec.upto aimWindowsSpec)) aimWindowsUptoCard

/-- THE SECOND FORM's CARD OF 'baulklaw04.AimAfters'. -/
def aimAftersUptoCard : Claim7 := { stood := { row := aimAftersUptoRow, standIns := [], harness := (true, "a9061dc15190a6007ea8abd6ce8566e226cebcf33443b89c2df385b68afd3377"), looks := true }, kinds := [], alts := [], laidByText := true, laidKinds := [.data, .data, .data, .data, .sentinel, .sentinel, .pinned], laidTests := true, laidLooks := .later }
def AimAftersUptoCardSaid : Prop := Claim7.holds Tryz.pinned (.plain (OpenSpec.upto aimAftersSpec)) aimAftersUptoCard

/-- THE SECOND FORM's CARD OF 'baulklaw04.AimHides'. -/
def aimHidesUptoCard : Claim7 := { stood := { row := aimHidesUptoRow, standIns := [], harness := (true, "a9061dc15190a6007ea8abd6ce8566e226cebcf33443b89c2df385b68afd3377"), looks := true }, kinds := [], alts := [], laidByText := true, laidKinds := [.data, .data, .data, .data, .sentinel, .sentinel, .pinned], laidTests := true, laidLooks := .later }
def AimHidesUptoCardSaid : Prop := Claim7.holds Tryz.pinned (.plain (OpenSpec.upto aimHidesSpec)) aimHidesUptoCard
end Rows
end Go.Proofs.YthmfmhbicipdmaaGreatDoor
