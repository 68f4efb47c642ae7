/-
  DERIVED. GIVEN WITH THE SEED: THE CARDS: each row of YtanjnahmbanmaaaGreatDoorRows.lean that lists a variable, with what it lists TIED to the program's text (the seventh form; the later family's looks); each row that meets fmt, with fmt's text TOLD by the authors' own Lean function (tested against real Go, not proved from fmt's source: count such statements apart). THE CARD IS WHAT COUNTS. Prove the row's statement (the work); the ties are given (YtanjnahmbanmaaaGreatDoorTie.lean); close each card by the builder's one call (the guide's Derived/Test/ToyasCard.lean, 'card_holds'). Laid BY PROGRAM, IN A SANDBOX (cutbox-door.mjs). By AI agents, Wed Nov 11 2026. No macro, syntax, notation, axiom, sorry.
-/
import Derived.Test.YtanjnahmbanmaaaGreatDoorRows
import GoSem.ClaimSeven
namespace Go.Proofs.YtanjnahmbanmaaaGreatDoor
namespace Rows

/-- THE TIED CARD OF 'baulklaw04.AimContacts'. -/
def aimContactsCard : Claim7 := { stood := { row := aimContactsRow, standIns := [], harness := (true, "e6bf58ab48d11b1d727bd59090310aff55ec6eb1d6c97557e6e5ab56818d95cc"), looks := true }, kinds := [], alts := [], laidByText := true, laidKinds := [.data, .data, .data, .data, .sentinel, .sentinel, .pinned], laidTests := true, laidLooks := .later }
def AimContactsCardSaid : Prop := Claim7.holds Tryz.pinned (.plain (OpenSpec.ofChange aimContactsSpec)) aimContactsCard

/-- THE TIED CARD OF 'baulklaw04.AimExits'. -/
def aimExitsCard : Claim7 := { stood := { row := aimExitsRow, standIns := [], harness := (true, "e6bf58ab48d11b1d727bd59090310aff55ec6eb1d6c97557e6e5ab56818d95cc"), looks := true }, kinds := [], alts := [], laidByText := true, laidKinds := [.data, .data, .data, .data, .sentinel, .sentinel, .pinned], laidTests := true, laidLooks := .later }
def AimExitsCardSaid : Prop := Claim7.holds Tryz.pinned (.plain (OpenSpec.ofChange aimExitsSpec)) aimExitsCard

/-- THE TIED CARD OF 'baulklaw04.AimGhosts'. -/
def aimGhostsCard : Claim7 := { stood := { row := aimGhostsRow, standIns := [], harness := (true, "e6bf58ab48d11b1d727bd59090310aff55ec6eb1d6c97557e6e5ab56818d95cc"), looks := true }, kinds := [], alts := [], laidByText := true, laidKinds := [.data, .data, .data, .data, .sentinel, .sentinel, .pinned], laidTests := true, laidLooks := .later }
def AimGhostsCardSaid : Prop := Claim7.holds Tryz.pinned (.plain (OpenSpec.ofChange aimGhostsSpec)) aimGhostsCard

/-- THE TIED CARD OF 'baulklaw04.AimOpens'. -/
def aimOpensCard : Claim7 := { stood := { row := aimOpensRow, standIns := [], harness := (true, "e6bf58ab48d11b1d727bd59090310aff55ec6eb1d6c97557e6e5ab56818d95cc"), looks := true }, kinds := [], alts := [], laidByText := true, laidKinds := [.data, .data, .data, .data, .sentinel, .sentinel, .pinned], laidTests := true, laidLooks := .later }
def AimOpensCardSaid : Prop := Claim7.holds Tryz.pinned (.plain (OpenSpec.ofChange aimOpensSpec)) aimOpensCard

/-- THE TIED CARD OF 'baulklaw04.AimPlans'. -/
def aimPlansCard : Claim7 := { stood := { row := aimPlansRow, standIns := [], harness := (true, "e6bf58ab48d11b1d727bd59090310aff55ec6eb1d6c97557e6e5ab56818d95cc"), looks := true }, kinds := [], alts := [], laidByText := true, laidKinds := [.data, .data, .data, .data, .sentinel, .sentinel, .pinned], laidTests := true, laidLooks := .later }
def AimPlansCardSaid : Prop := Claim7.holds Tryz.pinned (.plain (OpenSpec.ofChange aimPlansSpec)) aimPlansCard

/-- THE TIED CARD OF 'baulklaw04.AimAligns'. -/
def aimAlignsCard : Claim7 := { stood := { row := aimAlignsRow, standIns := [], harness := (true, "e6bf58ab48d11b1d727bd59090310aff55ec6eb1d6c97557e6e5ab56818d95cc"), looks := true }, kinds := [], alts := [], laidByText := true, laidKinds := [.data, .data, .data, .data, .sentinel, .sentinel, .pinned], laidTests := true, laidLooks := .later }
def AimAlignsCardSaid : Prop := Claim7.holds Tryz.pinned (.plain (OpenSpec.ofChange aimAlignsSpec)) aimAlignsCard

/-- THE SECOND FORM's CARD OF 'baulklaw04.AimContacts'. -/
def aimContactsUptoCard : Claim7 := { stood := { row := aimContactsUptoRow, standIns := [], harness := (true, "e6bf58ab48d11b1d727bd59090310aff55ec6eb1d6c97557e6e5ab56818d95cc"), looks := true }, kinds := [], alts := [], laidByText := true, laidKinds := [.data, .data, .data, .data, .sentinel, .sentinel, .pinned], laidTests := true, laidLooks := .later }
def AimContactsUptoCardSaid : Prop := Claim7.holds Tryz.pinned (.plain (OpenSpec.upto aimContactsSpec)) aimContactsUptoCard

/-- THE SECOND FORM's CARD OF 'baulklaw04.AimExits'. -/
def aimExitsUptoCard : Claim7 := { stood := { row := aimExitsUptoRow, standIns := [], harness := (true, "e6bf58ab48d11b1d727bd59090310aff55ec6eb1d6c97557e6e5ab56818d95cc"), looks := true }, kinds := [], alts := [], laidByText := true, laidKinds := [.data, .data, .data, .data, .sentinel, .sentinel, .pinned], laidTests := true, laidLooks := .later }
def AimExitsUptoCardSaid : Prop := Claim7.holds Tryz.pinned (.plain (OpenSpec.upto aimExitsSpec)) aimExitsUptoCard

/-- THE SECOND FORM's CARD OF 'baulklaw04.AimGhosts'. -/
def aimGhostsUptoCard : Claim7 := { stood := { row := aimGhostsUptoRow, standIns := [], harness := (true, "e6bf58ab48d11b1d727bd59090310aff55ec6eb1d6c97557e6e5ab56818d95cc"), looks := true }, kinds := [], alts := [], laidByText := true, laidKinds := [.data, .data, .data, .data, .sentinel, .sentinel, .pinned], laidTests := true, laidLooks := .later }
def AimGhostsUptoCardSaid : Prop := Claim7.holds Tryz.pinned (.plain (OpenSpec.upto aimGhostsSpec)) aimGhostsUptoCard

/-- THE SECOND FORM's CARD OF 'baulklaw04.AimOpens'. -/
def aimOpensUptoCard : Claim7 := { stood := { row := aimOpensUptoRow, standIns := [], harness := (true, "e6bf58ab48d11b1d727bd59090310aff55ec6eb1d6c97557e6e5ab56818d95cc"), looks := true }, kinds := [], alts := [], laidByText := true, laidKinds := [.data, .data, .data, .data, .sentinel, .sentinel, .pinned], laidTests := true, laidLooks := .later }
def AimOpensUptoCardSaid : Prop := Claim7.holds Tryz.pinned (.plain (OpenSpec.upto aimOpensSpec)) aimOpensUptoCard

/-- THE SECOND FORM's CARD OF 'baulklaw04.AimPlans'. -/
def aimPlansUptoCard : Claim7 := { stood := { row := aimPlansUptoRow, standIns := [], harness := (true, "e6bf58ab48d11b1d727bd59090310aff55ec6eb1d6c97557e6e5ab56818d95cc"), looks := true }, kinds := [], alts := [], laidByText := true, laidKinds := [.data, .data, .data, .data, .sentinel, .sentinel, .pinned], laidTests := true, laidLooks := .later }
def AimPlansUptoCardSaid : Prop := Claim7.holds Tryz.pinned (.plain (OpenSpec.upto aimPlansSpec)) aimPlansUptoCard

/-- THE SECOND FORM's CARD OF 'baulklaw04.AimAligns'. -/
def aimAlignsUptoCard : Claim7 := { stood := { row := aimAlignsUptoRow, standIns := [], harness := (true, "e6bf58ab48d11b1d727bd59090310aff55ec6eb1d6c97557e6e5ab56818d95cc"), looks := true }, kinds := [], alts := [], laidByText := true, laidKinds := [.data, .data, .data, .data, .sentinel, .sentinel, .pinned], laidTests := true, laidLooks := .later }
def AimAlignsUptoCardSaid : Prop := Claim7.holds Tryz.pinned (.plain (OpenSpec.upto aimAlignsSpec)) aimAlignsUptoCard
end Rows
end Go.Proofs.YtanjnahmbanmaaaGreatDoor
