/-
  DERIVED. GIVEN WITH THE SEED: THE CARDS: each row of YtdjojlnnobkliaaGreatDoorRows.lean that lists a variable, with what it lists TIED to the program's text (the seventh form; the later family's looks); each row that meets fmt, with fmt's text TOLD by the authors' own Lean function (tested against real Go, not proved from fmt's source: count such statements apart). THE CARD IS WHAT COUNTS. Prove the row's statement (the work); the ties are given (YtdjojlnnobkliaaGreatDoorTie.lean); close each card by the builder's one call (the guide's Derived/Test/ToyasCard.lean, 'card_holds'). Laid BY PROGRAM, IN A SANDBOX (cutbox-door.mjs). By AI agents, Wed Nov 11 2026. No macro, syntax, notation, axiom, sorry.
-/
import Derived.Test.YtdjojlnnobkliaaGreatDoorRows
import GoSem.ClaimSeven
namespace Go.Proofs.YtdjojlnnobkliaaGreatDoor
namespace Rows

/-- THE TIED CARD OF 'baulklaw04.AimPlans'. -/
def aimPlansCard : Claim7 := { stood := { row := aimPlansRow, standIns := [], harness := (true, "695d88005e5aa416bef0e3f2bb0788448108a3df5b618d3711c7ae04470d4a91"), looks := true }, kinds := [], alts := [], laidByText := true, laidKinds := [.data, .data, .data, .data, .sentinel, .sentinel, .pinned], laidTests := true, laidLooks := .later }
def AimPlansCardSaid : Prop := Claim7.holds Tryz.pinned (.plain (OpenSpec.ofChange aimPlansSpec)) aimPlansCard

/-- THE TIED CARD OF 'baulklaw04.AimAfters'. -/
def aimAftersCard : Claim7 := { stood := { row := aimAftersRow, standIns := [], harness := (true, "695d88005e5aa416bef0e3f2bb0788448108a3df5b618d3711c7ae04470d4a91"), looks := true }, kinds := [], alts := [], laidByText := true, laidKinds := [.data, .data, .data, .data, .sentinel, .sentinel, .pinned], laidTests := true, laidLooks := .later }
def AimAftersCardSaid : Prop := Claim7.holds Tryz.pinned (.plain (OpenSpec.ofChange aimAftersSpec)) aimAftersCard

/-- THE TIED CARD OF 'baulklaw04.AimUncovers'. -/
def aimUncoversCard : Claim7 := { stood := { row := aimUncoversRow, standIns := [], harness := (true, "695d88005e5aa416bef0e3f2bb0788448108a3df5b618d3711c7ae04470d4a91"), looks := true }, kinds := [], alts := [], laidByText := true, laidKinds := [.data, .data, .data, .data, .sentinel, .sentinel, .pinned], laidTests := true, laidLooks := .later }
def AimUncoversCardSaid : Prop := Claim7.holds Tryz.pinned (.plain (OpenSpec.ofChange aimUncoversSpec)) aimUncoversCard

/-- THE SECOND FORM's CARD OF 'baulklaw04.AimPlans'. -/
def aimPlansUptoCard : Claim7 := { stood := { row := aimPlansUptoRow, standIns := [], harness := (true, "695d88005e5aa416bef0e3f2bb0788448108a3df5b618d3711c7ae04470d4a91"), looks := true }, kinds := [], alts := [], laidByText := true, laidKinds := [.data, .data, .data, .data, .sentinel, .sentinel, .pinned], laidTests := true, laidLooks := .later }
def AimPlansUptoCardSaid : Prop := Claim7.holds Tryz.pinned (.plain (OpenSpec.upto aimPlansSpec)) aimPlansUptoCard

/-- THE SECOND FORM's CARD OF 'baulklaw04.AimAfters'. -/
def aimAftersUptoCard : Claim7 := { stood := { row := aimAftersUptoRow, standIns := [], harness := (true, "695d88005e5aa416bef0e3f2bb0788448108a3df5b618d3711c7ae04470d4a91"), looks := true }, kinds := [], alts := [], laidByText := true, laidKinds := [.data, .data, .data, .data, .sentinel, .sentinel, .pinned], laidTests := true, laidLooks := .later }
def AimAftersUptoCardSaid : Prop := Claim7.holds Tryz.pinned (.plain (OpenSpec.upto aimAftersSpec)) aimAftersUptoCard

/-- THE SECOND FORM's CARD OF 'baulklaw04.AimUncovers'. -/
def aimUncoversUptoCard : Claim7 := { stood := { row := aimUncoversUptoRow, standIns := [], harness := (true, "695d88005e5aa416bef0e3f2bb0788448108a3df5b618d3711c7ae04470d4a91"), looks := true }, kinds := [], alts := [], laidByText := true, laidKinds := [.data, .data, .data, .data, .sentinel, .sentinel, .pinned], laidTests := true, laidLooks := .later }
def AimUncoversUptoCardSaid : Prop := Claim7.holds Tryz.pinned (.plain (OpenSpec.upto aimUncoversSpec)) aimUncoversUptoCard
end Rows
end Go.Proofs.YtdjojlnnobkliaaGreatDoor
