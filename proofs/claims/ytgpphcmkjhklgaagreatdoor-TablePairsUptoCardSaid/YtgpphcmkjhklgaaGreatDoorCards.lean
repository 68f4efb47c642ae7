/-
  DERIVED. GIVEN WITH THE SEED: THE CARDS: each row of YtgpphcmkjhklgaaGreatDoorRows.lean that lists a variable, with what it lists TIED to the program's text (the seventh form; the later family's looks); each row that meets fmt, with fmt's text TOLD by the authors' own Lean function (tested against real Go, not proved from fmt's source: count such statements apart). THE CARD IS WHAT COUNTS. Prove the row's statement (the work); the ties are given (YtgpphcmkjhklgaaGreatDoorTie.lean); close each card by the builder's one call (the guide's Derived/Test/ToyasCard.lean, 'card_holds'). Laid BY PROGRAM, IN A SANDBOX (cutbox-door.mjs). By AI agents, Wed Nov 11 2026. No macro, syntax, notation, axiom, sorry.
-/
import Derived.Test.YtgpphcmkjhklgaaGreatDoorRows
import GoSem.ClaimSeven
namespace Go.Proofs.YtgpphcmkjhklgaaGreatDoor
namespace Rows

/-- THE TIED CARD OF 'baulklaw02.TableChecks'. -/
def tableChecksCard : Claim7 := { stood := { row := tableChecksRow, standIns := [], harness := (true, "830114b70cc7b75bca3a5bcf786500a60f06a901afa482fc1245c6d87b5a281f"), looks := true }, kinds := [], alts := [], laidByText := true, laidKinds := [.data, .data, .data, .data, .sentinel, .sentinel, .pinned], laidTests := true, laidLooks := .later }
def TableChecksCardSaid : Prop := Claim7.holds Tryz.pinned (.plain (OpenSpec.ofChange tableChecksSpec)) tableChecksCard

/-- THE TIED CARD OF 'baulklaw02.TableEdges'. -/
def tableEdgesCard : Claim7 := { stood := { row := tableEdgesRow, standIns := [], harness := (true, "830114b70cc7b75bca3a5bcf786500a60f06a901afa482fc1245c6d87b5a281f"), looks := true }, kinds := [], alts := [], laidByText := true, laidKinds := [.data, .data, .data, .data, .sentinel, .sentinel, .pinned], laidTests := true, laidLooks := .later }
def TableEdgesCardSaid : Prop := Claim7.holds Tryz.pinned (.plain (OpenSpec.ofChange tableEdgesSpec)) tableEdgesCard

/-- THE TIED CARD OF 'baulklaw02.TableFinds'. -/
def tableFindsCard : Claim7 := { stood := { row := tableFindsRow, standIns := [], harness := (true, "830114b70cc7b75bca3a5bcf786500a60f06a901afa482fc1245c6d87b5a281f"), looks := true }, kinds := [], alts := [], laidByText := true, laidKinds := [.data, .data, .data, .data, .sentinel, .sentinel, .pinned], laidTests := true, laidLooks := .later }
def TableFindsCardSaid : Prop := Claim7.holds Tryz.pinned (.plain (OpenSpec.ofChange tableFindsSpec)) tableFindsCard

/-- THE TIED CARD OF 'baulklaw02.TableSpotted'. -/
def tableSpottedCard : Claim7 := { stood := { row := tableSpottedRow, standIns := [], harness := (true, "830114b70cc7b75bca3a5bcf786500a60f06a901afa482fc1245c6d87b5a281f"), looks := true }, kinds := [], alts := [], laidByText := true, laidKinds := [.data, .data, .data, .data, .sentinel, .sentinel, .pinned], laidTests := true, laidLooks := .later }
def TableSpottedCardSaid : Prop := Claim7.holds Tryz.pinned (.plain (OpenSpec.ofChange tableSpottedSpec)) tableSpottedCard

/-- THE TIED CARD OF 'baulklaw02.TableRacks'. -/
def tableRacksCard : Claim7 := { stood := { row := tableRacksRow, standIns := [], harness := (true, "830114b70cc7b75bca3a5bcf786500a60f06a901afa482fc1245c6d87b5a281f"), looks := true }, kinds := [], alts := [], laidByText := true, laidKinds := [.data, .data, .data, .data, .sentinel, .sentinel, .pinned], laidTests := true, laidLooks := .later }
def TableRacksCardSaid : Prop := Claim7.holds Tryz.pinned (.plain (OpenSpec.ofChange tableRacksSpec)) tableRacksCard

/-- THE TIED CARD OF 'baulklaw02.TablePairs'. -/
def tablePairsCard : Claim7 := { stood := { row := tablePairsRow, standIns := [], harness := (true, "830114b70cc7b75bca3a5bcf786500a60f06a901afa482fc1245c6d87b5a281f"), looks := true }, kinds := [], alts := [], laidByText := true, laidKinds := [.data, .data, .data, .data, .sentinel, .sentinel, .pinned], laidTests := true, laidLooks := .later }
def TablePairsCardSaid : Prop := Claim7.holds Tryz.pinned (.plain (OpenSpec.ofChange tablePairsSpec)) tablePairsCard

/-- THE TIED CARD OF 'baulklaw02.TableLayouts'. -/
def tableLayoutsCard : Claim7 := { stood := { row := tableLayoutsRow, standIns := [], harness := (true, "830114b70cc7b75bca3a5bcf786500a60f06a901afa482fc1245c6d87b5a281f"), looks := true }, kinds := [], alts := [], laidByText := true, laidKinds := [.data, .data, .data, .data, .sentinel, .sentinel, .pinned], laidTests := true, laidLooks := .later }
def TableLayoutsCardSaid : Prop := Claim7.holds Tryz.pinned (.plain (OpenSpec.ofChange tableLayoutsSpec)) tableLayoutsCard

/-- THE TIED CARD OF 'baulklaw02.TableShares'. -/
def tableSharesCard : Claim7 := { stood := { row := tableSharesRow, standIns := [], harness := (true, "830114b70cc7b75bca3a5bcf786500a60f06a901afa482fc1245c6d87b5a281f"), looks := true }, kinds := [], alts := [], laidByText := true, laidKinds := [.data, .data, .data, .data, .sentinel, .sentinel, .pinned], laidTests := true, laidLooks := .later }
def TableSharesCardSaid : Prop := Claim7.holds Tryz.pinned (.plain (OpenSpec.ofChange tableSharesSpec)) tableSharesCard

/-- THE SECOND FORM's CARD OF 'baulklaw02.TableChecks'. -/
def tableChecksUptoCard : Claim7 := { stood := { row := tableChecksUptoRow, standIns := [], harness := (true, "830114b70cc7b75bca3a5bcf786500a60f06a901afa482fc1245c6d87b5a281f"), looks := true }, kinds := [], alts := [], laidByText := true, laidKinds := [.data, .data, .data, .data, .sentinel, .sentinel, .pinned], laidTests := true, laidLooks := .later }
def TableChecksUptoCardSaid : Prop := Claim7.holds Tryz.pinned (.plain (OpenSpec.upto tableChecksSpec)) tableChecksUptoCard

/-- THE SECOND FORM's CARD OF 'baulklaw02.TableEdges'. -/
def tableEdgesUptoCard : Claim7 := { stood := { row := tableEdgesUptoRow, standIns := [], harness := (true, "830114b70cc7b75bca3a5bcf786500a60f06a901afa482fc1245c6d87b5a281f"), looks := true }, kinds := [], alts := [], laidByText := true, laidKinds := [.data, .data, .data, .data, .sentinel, .sentinel, .pinned], laidTests := true, laidLooks := .later }
def TableEdgesUptoCardSaid : Prop := Claim7.holds Tryz.pinned (.plain (OpenSpec.upto tableEdgesSpec)) tableEdgesUptoCard

/-- THE SECOND FORM's CARD OF 'baulklaw02.TableFinds'. -/
def tableFindsUptoCard : Claim7 := { stood := { row := tableFindsUptoRow, standIns := [], harness := (true, "830114b70cc7b75bca3a5bcf786500a60f06a901afa482fc1245c6d87b5a281f"), looks := true }, kinds := [], alts := [], laidByText := true, laidKinds := [.data, .data, .data, .data, .sentinel, .sentinel, .pinned], laidTests := true, laidLooks := .later }
def TableFindsUptoCardSaid : Prop := Claim7.holds Tryz.pinned (.plain (OpenSpec.upto tableFindsSpec)) tableFindsUptoCard

/-- THE SECOND FORM's CARD OF 'baulklaw02.TableSpotted'. -/
def tableSpottedUptoCard : Claim7 := { stood := { row := tableSpottedUptoRow, standIns := [], harness := (true, "830114b70cc7b75bca3a5bcf786500a60f06a901afa482fc1245c6d87b5a281f"), looks := true }, kinds := [], alts := [], laidByText := true, laidKinds := [.data, .data, .data, .data, .sentinel, .sentinel, .pinned], laidTests := true, laidLooks := .later }
def TableSpottedUptoCardSaid : Prop := Claim7.holds Tryz.pinned (.plain (OpenSpec.upto tableSpottedSpec)) tableSpottedUptoCard

/-- THE SECOND FORM's CARD OF 'baulklaw02.TableRacks'. -/
def tableRacksUptoCard : Claim7 := { stood := { row := tableRacksUptoRow, standIns := [], harness := (true, "830114b70cc7b75bca3a5bcf786500a60f06a901afa482fc1245c6d87b5a281f"), looks := true }, kinds := [], alts := [], laidByText := true, laidKinds := [.data, .data, .data, .data, .sentinel, .sentinel, .pinned], laidTests := true, laidLooks := .later }
def TableRacksUptoCardSaid : Prop := Claim7.holds Tryz.pinned (.plain (OpenSpec.upto tableRacksSpec)) tableRacksUptoCard

/-- THE SECOND FORM's CARD OF 'baulklaw02.TablePairs'. -/
def tablePairsUptoCard : Claim7 := { stood := { row := tablePairsUptoRow, standIns := [], harness := (true, "830114b70cc7b75bca3a5bcf786500a60f06a901afa482fc1245c6d87b5a281f"), looks := true }, kinds := [], alts := [], laidByText := true, laidKinds := [.data, .data, .data, .data, .sentinel, .sentinel, .pinned], laidTests := true, laidLooks := .later }
def TablePairsUptoCardSaid : Prop := Claim7.holds Tryz.pinned (.plain (OpenSpec.upto tablePairsSpec)) tablePairsUptoCard

/-- THE SECOND FORM's CARD OF 'baulklaw02.TableLayouts'. -/
def tableLayoutsUptoCard : Claim7 := { stood := { row := tableLayoutsUptoRow, standIns := [], harness := (true, "830114b70cc7b75bca3a5bcf786500a60f06a901afa482fc1245c6d87b5a281f"), looks := true }, kinds := [], alts := [], laidByText := true, laidKinds := [.data, .data, .data, .data, .sentinel, .sentinel, .pinned], laidTests := true, laidLooks := .later }
def TableLayoutsUptoCardSaid : Prop := Claim7.holds Tryz.pinned (.plain (OpenSpec.upto tableLayoutsSpec)) tableLayoutsUptoCard

/-- THE SECOND FORM's CARD OF 'baulklaw02.TableShares'. -/
def tableSharesUptoCard : Claim7 := { stood := { row := tableSharesUptoRow, standIns := [], harness := (true, "830114b70cc7b75bca3a5bcf786500a60f06a901afa482fc1245c6d87b5a281f"), looks := true }, kinds := [], alts := [], laidByText := true, laidKinds := [.data, .data, .data, .data, .sentinel, .sentinel, .pinned], laidTests := true, laidLooks := .later }
def TableSharesUptoCardSaid : Prop := Claim7.holds Tryz.pinned (.plain (OpenSpec.upto tableSharesSpec)) tableSharesUptoCard
end Rows
end Go.Proofs.YtgpphcmkjhklgaaGreatDoor
