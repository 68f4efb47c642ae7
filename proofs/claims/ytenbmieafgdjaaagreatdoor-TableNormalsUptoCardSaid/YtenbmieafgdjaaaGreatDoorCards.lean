/-
  DERIVED. GIVEN WITH THE SEED: THE CARDS: each row of YtenbmieafgdjaaaGreatDoorRows.lean that lists a variable, with what it lists TIED to the program's text (the seventh form; the later family's looks); each row that meets fmt, with fmt's text TOLD by the authors' own Lean function (tested against real Go, not proved from fmt's source: count such statements apart). THE CARD IS WHAT COUNTS. Prove the row's statement (the work); the ties are given (YtenbmieafgdjaaaGreatDoorTie.lean); close each card by the builder's one call (the guide's Derived/Test/ToyasCard.lean, 'card_holds'). Laid BY PROGRAM, IN A SANDBOX (cutbox-door.mjs). By AI agents, Wed Nov 11 2026. No macro, syntax, notation, axiom, sorry.
-/
import Derived.Test.YtenbmieafgdjaaaGreatDoorRows
import GoSem.ClaimSeven
namespace Go.Proofs.YtenbmieafgdjaaaGreatDoor
namespace Rows

/-- THE TIED CARD OF 'baulklaw02.TableRacks'. -/
def tableRacksCard : Claim7 := { stood := { row := tableRacksRow, standIns := [], harness := (true, "1717ee6f02554bac7d9020e3e11db3866e1730977cdae6a536f8096c9705a8b8"), looks := true }, kinds := [], alts := [], laidByText := true, laidKinds := [.data, .data, .data, .data, .sentinel, .sentinel, .pinned], laidTests := true, laidLooks := .later }
def TableRacksCardSaid : Prop := Claim7.holds Tryz.pinned (.plain (OpenSpec.ofChange tableRacksSpec)) tableRacksCard

/-- THE TIED CARD OF 'baulklaw02.TableSplits'. -/
def tableSplitsCard : Claim7 := { stood := { row := tableSplitsRow, standIns := [], harness := (true, "1717ee6f02554bac7d9020e3e11db3866e1730977cdae6a536f8096c9705a8b8"), looks := true }, kinds := [], alts := [], laidByText := true, laidKinds := [.data, .data, .data, .data, .sentinel, .sentinel, .pinned], laidTests := true, laidLooks := .later }
def TableSplitsCardSaid : Prop := Claim7.holds Tryz.pinned (.plain (OpenSpec.ofChange tableSplitsSpec)) tableSplitsCard

/-- THE TIED CARD OF 'baulklaw02.TableSettles'. -/
def tableSettlesCard : Claim7 := { stood := { row := tableSettlesRow, standIns := [], harness := (true, "1717ee6f02554bac7d9020e3e11db3866e1730977cdae6a536f8096c9705a8b8"), looks := true }, kinds := [], alts := [], laidByText := true, laidKinds := [.data, .data, .data, .data, .sentinel, .sentinel, .pinned], laidTests := true, laidLooks := .later }
def TableSettlesCardSaid : Prop := Claim7.holds Tryz.pinned (.plain (OpenSpec.ofChange tableSettlesSpec)) tableSettlesCard

/-- THE TIED CARD OF 'baulklaw02.TablePacks'. -/
def tablePacksCard : Claim7 := { stood := { row := tablePacksRow, standIns := [], harness := (true, "1717ee6f02554bac7d9020e3e11db3866e1730977cdae6a536f8096c9705a8b8"), looks := true }, kinds := [], alts := [], laidByText := true, laidKinds := [.data, .data, .data, .data, .sentinel, .sentinel, .pinned], laidTests := true, laidLooks := .later }
def TablePacksCardSaid : Prop := Claim7.holds Tryz.pinned (.plain (OpenSpec.ofChange tablePacksSpec)) tablePacksCard

/-- THE TIED CARD OF 'baulklaw02.TableMoves'. -/
def tableMovesCard : Claim7 := { stood := { row := tableMovesRow, standIns := [], harness := (true, "1717ee6f02554bac7d9020e3e11db3866e1730977cdae6a536f8096c9705a8b8"), looks := true }, kinds := [], alts := [], laidByText := true, laidKinds := [.data, .data, .data, .data, .sentinel, .sentinel, .pinned], laidTests := true, laidLooks := .later }
def TableMovesCardSaid : Prop := Claim7.holds Tryz.pinned (.plain (OpenSpec.ofChange tableMovesSpec)) tableMovesCard

/-- THE TIED CARD OF 'baulklaw02.TableNormals'. -/
def tableNormalsCard : Claim7 := { stood := { row := tableNormalsRow, standIns := [], harness := (true, "1717ee6f02554bac7d9020e3e11db3866e1730977cdae6a536f8096c9705a8b8"), looks := true }, kinds := [], alts := [], laidByText := true, laidKinds := [.data, .data, .data, .data, .sentinel, .sentinel, .pinned], laidTests := true, laidLooks := .later }
def TableNormalsCardSaid : Prop := Claim7.holds Tryz.pinned (.plain (OpenSpec.ofChange tableNormalsSpec)) tableNormalsCard

/-- THE TIED CARD OF 'baulklaw02.TableKeeps'. -/
def tableKeepsCard : Claim7 := { stood := { row := tableKeepsRow, standIns := [], harness := (true, "1717ee6f02554bac7d9020e3e11db3866e1730977cdae6a536f8096c9705a8b8"), looks := true }, kinds := [], alts := [], laidByText := true, laidKinds := [.data, .data, .data, .data, .sentinel, .sentinel, .pinned], laidTests := true, laidLooks := .later }
def TableKeepsCardSaid : Prop := Claim7.holds Tryz.pinned (.plain (OpenSpec.ofChange tableKeepsSpec)) tableKeepsCard

/-- THE SECOND FORM's CARD OF 'baulklaw02.TableRacks'. -/
def tableRacksUptoCard : Claim7 := { stood := { row := tableRacksUptoRow, standIns := [], harness := (true, "1717ee6f02554bac7d9020e3e11db3866e1730977cdae6a536f8096c9705a8b8"), looks := true }, kinds := [], alts := [], laidByText := true, laidKinds := [.data, .data, .data, .data, .sentinel, .sentinel, .pinned], laidTests := true, laidLooks := .later }
def TableRacksUptoCardSaid : Prop := Claim7.holds Tryz.pinned (.plain (OpenSpec.upto tableRacksSpec)) tableRacksUptoCard

/-- THE SECOND FORM's CARD OF 'baulklaw02.TableSplits'. -/
def tableSplitsUptoCard : Claim7 := { stood := { row := tableSplitsUptoRow, standIns := [], harness := (true, "1717ee6f02554bac7d9020e3e11db3866e1730977cdae6a536f8096c9705a8b8"), looks := true }, kinds := [], alts := [], laidByText := true, laidKinds := [.data, .data, .data, .data, .sentinel, .sentinel, .pinned], laidTests := true, laidLooks := .later }
def TableSplitsUptoCardSaid : Prop := Claim7.holds Tryz.pinned (.plain (OpenSpec.upto tableSplitsSpec)) tableSplitsUptoCard

/-- THE SECOND FORM's CARD OF 'baulklaw02.TableSettles'. -/
def tableSettlesUptoCard : Claim7 := { stood := { row := tableSettlesUptoRow, standIns := [], harness := (true, "1717ee6f02554bac7d9020e3e11db3866e1730977cdae6a536f8096c9705a8b8"), looks := true }, kinds := [], alts := [], laidByText := true, laidKinds := [.data, .data, .data, .data, .sentinel, .sentinel, .pinned], laidTests := true, laidLooks := .later }
def TableSettlesUptoCardSaid : Prop := Claim7.holds Tryz.pinned (.plain (OpenSpec.upto tableSettlesSpec)) tableSettlesUptoCard

/-- THE SECOND FORM's CARD OF 'baulklaw02.TablePacks'. -/
def tablePacksUptoCard : Claim7 := { stood := { row := tablePacksUptoRow, standIns := [], harness := (true, "1717ee6f02554bac7d9020e3e11db3866e1730977cdae6a536f8096c9705a8b8"), looks := true }, kinds := [], alts := [], laidByText := true, laidKinds := [.data, .data, .data, .data, .sentinel, .sentinel, .pinned], laidTests := true, laidLooks := .later }
def TablePacksUptoCardSaid : Prop := Claim7.holds Tryz.pinned (.plain (OpenSpec.upto tablePacksSpec)) tablePacksUptoCard

/-- THE SECOND FORM's CARD OF 'baulklaw02.TableMoves'. -/
def tableMovesUptoCard : Claim7 := { stood := { row := tableMovesUptoRow, standIns := [], harness := (true, "1717ee6f02554bac7d9020e3e11db3866e1730977cdae6a536f8096c9705a8b8"), looks := true }, kinds := [], alts := [], laidByText := true, laidKinds := [.data, .data, .data, .data, .sentinel, .sentinel, .pinned], laidTests := true, laidLooks := .later }
def TableMovesUptoCardSaid : Prop := Claim7.holds Tryz.pinned (.plain (OpenSpec.upto tableMovesSpec)) tableMovesUptoCard

/-- THE SECOND FORM's CARD OF 'baulklaw02.TableNormals'. -/
def tableNormalsUptoCard : Claim7 := { stood := { row := tableNormalsUptoRow, standIns := [], harness := (true, "1717ee6f02554bac7d9020e3e11db3866e1730977cdae6a536f8096c9705a8b8"), looks := true }, kinds := [], alts := [], laidByText := true, laidKinds := [.data, .data, .data, .data, .sentinel, .sentinel, .pinned], laidTests := true, laidLooks := .later }
def TableNormalsUptoCardSaid : Prop := Claim7.holds Tryz.pinned (.plain (OpenSpec.upto tableNormalsSpec)) tableNormalsUptoCard

/-- THE SECOND FORM's CARD OF 'baulklaw02.TableKeeps'. -/
def tableKeepsUptoCard : Claim7 := { stood := { row := tableKeepsUptoRow, standIns := [], harness := (true, "1717ee6f02554bac7d9020e3e11db3866e1730977cdae6a536f8096c9705a8b8"), looks := true }, kinds := [], alts := [], laidByText := true, laidKinds := [.data, .data, .data, .data, .sentinel, .sentinel, .pinned], laidTests := true, laidLooks := .later }
def TableKeepsUptoCardSaid : Prop := Claim7.holds Tryz.pinned (.plain (OpenSpec.upto tableKeepsSpec)) tableKeepsUptoCard
end Rows
end Go.Proofs.YtenbmieafgdjaaaGreatDoor
