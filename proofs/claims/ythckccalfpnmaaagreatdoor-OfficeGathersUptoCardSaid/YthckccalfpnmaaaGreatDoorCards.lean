/-
  DERIVED. GIVEN WITH THE SEED: THE CARDS: each row of YthckccalfpnmaaaGreatDoorRows.lean that lists a variable, with what it lists TIED to the program's text (the seventh form; the later family's looks); each row that meets fmt, with fmt's text TOLD by the authors' own Lean function (tested against real Go, not proved from fmt's source: count such statements apart). THE CARD IS WHAT COUNTS. Prove the row's statement (the work); the ties are given (YthckccalfpnmaaaGreatDoorTie.lean); close each card by the builder's one call (the guide's Derived/Test/ToyasCard.lean, 'card_holds'). Laid BY PROGRAM, IN A SANDBOX (cutbox-door.mjs). By AI agents, Wed Nov 11 2026. No macro, syntax, notation, axiom, sorry.
-/
import Derived.Test.YthckccalfpnmaaaGreatDoorRows
import GoSem.ClaimSeven
namespace Go.Proofs.YthckccalfpnmaaaGreatDoor
namespace Rows

/-- THE TIED CARD OF 'baulklaw10.OfficeTexts'. -/
def officeTextsCard : Claim7 := { stood := { row := officeTextsRow, standIns := [], harness := (true, "2e7ca3d960c6d70c559b68f957747c02ce4e42a5fdd2036da2fc78c0f6ce1adf"), looks := true }, kinds := [], alts := [], laidByText := true, laidKinds := [.data, .data, .data, .data, .sentinel, .sentinel, .pinned], laidTests := true, laidLooks := .later }
def OfficeTextsCardSaid : Prop := Claim7.holds Tryz.pinned (.plain (OpenSpec.ofChange officeTextsSpec)) officeTextsCard

/-- THE TIED CARD OF 'baulklaw10.OfficeMerges'. -/
def officeMergesCard : Claim7 := { stood := { row := officeMergesRow, standIns := [], harness := (true, "2e7ca3d960c6d70c559b68f957747c02ce4e42a5fdd2036da2fc78c0f6ce1adf"), looks := true }, kinds := [], alts := [], laidByText := true, laidKinds := [.data, .data, .data, .data, .sentinel, .sentinel, .pinned], laidTests := true, laidLooks := .later }
def OfficeMergesCardSaid : Prop := Claim7.holds Tryz.pinned (.plain (OpenSpec.ofChange officeMergesSpec)) officeMergesCard

/-- THE TIED CARD OF 'baulklaw10.OfficeMeets'. -/
def officeMeetsCard : Claim7 := { stood := { row := officeMeetsRow, standIns := [], harness := (true, "2e7ca3d960c6d70c559b68f957747c02ce4e42a5fdd2036da2fc78c0f6ce1adf"), looks := true }, kinds := [], alts := [], laidByText := true, laidKinds := [.data, .data, .data, .data, .sentinel, .sentinel, .pinned], laidTests := true, laidLooks := .later }
def OfficeMeetsCardSaid : Prop := Claim7.holds Tryz.pinned (.plain (OpenSpec.ofChange officeMeetsSpec)) officeMeetsCard

/-- THE TIED CARD OF 'baulklaw10.OfficeLogs'. -/
def officeLogsCard : Claim7 := { stood := { row := officeLogsRow, standIns := [], harness := (true, "2e7ca3d960c6d70c559b68f957747c02ce4e42a5fdd2036da2fc78c0f6ce1adf"), looks := true }, kinds := [], alts := [], laidByText := true, laidKinds := [.data, .data, .data, .data, .sentinel, .sentinel, .pinned], laidTests := true, laidLooks := .later }
def OfficeLogsCardSaid : Prop := Claim7.holds Tryz.pinned (.plain (OpenSpec.ofChange officeLogsSpec)) officeLogsCard

/-- THE TIED CARD OF 'baulklaw10.OfficeJoins'. -/
def officeJoinsCard : Claim7 := { stood := { row := officeJoinsRow, standIns := [], harness := (true, "2e7ca3d960c6d70c559b68f957747c02ce4e42a5fdd2036da2fc78c0f6ce1adf"), looks := true }, kinds := [], alts := [], laidByText := true, laidKinds := [.data, .data, .data, .data, .sentinel, .sentinel, .pinned], laidTests := true, laidLooks := .later }
def OfficeJoinsCardSaid : Prop := Claim7.holds Tryz.pinned (.plain (OpenSpec.ofChange officeJoinsSpec)) officeJoinsCard

/-- THE TIED CARD OF 'baulklaw10.OfficeEvents'. -/
def officeEventsCard : Claim7 := { stood := { row := officeEventsRow, standIns := [], harness := (true, "2e7ca3d960c6d70c559b68f957747c02ce4e42a5fdd2036da2fc78c0f6ce1adf"), looks := true }, kinds := [], alts := [], laidByText := true, laidKinds := [.data, .data, .data, .data, .sentinel, .sentinel, .pinned], laidTests := true, laidLooks := .later }
def OfficeEventsCardSaid : Prop := Claim7.holds Tryz.pinned (.plain (OpenSpec.ofChange officeEventsSpec)) officeEventsCard

/-- THE TIED CARD OF 'baulklaw10.OfficeSessions'. -/
def officeSessionsCard : Claim7 := { stood := { row := officeSessionsRow, standIns := [], harness := (true, "2e7ca3d960c6d70c559b68f957747c02ce4e42a5fdd2036da2fc78c0f6ce1adf"), looks := true }, kinds := [], alts := [], laidByText := true, laidKinds := [.data, .data, .data, .data, .sentinel, .sentinel, .pinned], laidTests := true, laidLooks := .later }
def OfficeSessionsCardSaid : Prop := Claim7.holds Tryz.pinned (.plain (OpenSpec.ofChange officeSessionsSpec)) officeSessionsCard

/-- THE TIED CARD OF 'baulklaw10.OfficeHistories'. -/
def officeHistoriesCard : Claim7 := { stood := { row := officeHistoriesRow, standIns := [], harness := (true, "2e7ca3d960c6d70c559b68f957747c02ce4e42a5fdd2036da2fc78c0f6ce1adf"), looks := true }, kinds := [], alts := [], laidByText := true, laidKinds := [.data, .data, .data, .data, .sentinel, .sentinel, .pinned], laidTests := true, laidLooks := .later }
def OfficeHistoriesCardSaid : Prop := Claim7.holds Tryz.pinned (.plain (OpenSpec.ofChange officeHistoriesSpec)) officeHistoriesCard

/-- THE TIED CARD OF 'baulklaw10.OfficeTorn'. -/
def officeTornCard : Claim7 := { stood := { row := officeTornRow, standIns := [], harness := (true, "2e7ca3d960c6d70c559b68f957747c02ce4e42a5fdd2036da2fc78c0f6ce1adf"), looks := true }, kinds := [], alts := [], laidByText := true, laidKinds := [.data, .data, .data, .data, .sentinel, .sentinel, .pinned], laidTests := true, laidLooks := .later }
def OfficeTornCardSaid : Prop := Claim7.holds Tryz.pinned (.plain (OpenSpec.ofChange officeTornSpec)) officeTornCard

/-- THE TIED CARD OF 'baulklaw10.OfficeScripts'. -/
def officeScriptsCard : Claim7 := { stood := { row := officeScriptsRow, standIns := [], harness := (true, "2e7ca3d960c6d70c559b68f957747c02ce4e42a5fdd2036da2fc78c0f6ce1adf"), looks := true }, kinds := [], alts := [], laidByText := true, laidKinds := [.data, .data, .data, .data, .sentinel, .sentinel, .pinned], laidTests := true, laidLooks := .later }
def OfficeScriptsCardSaid : Prop := Claim7.holds Tryz.pinned (.plain (OpenSpec.ofChange officeScriptsSpec)) officeScriptsCard

/-- THE TIED CARD OF 'baulklaw10.OfficeLeads'. -/
def officeLeadsCard : Claim7 := { stood := { row := officeLeadsRow, standIns := [], harness := (true, "2e7ca3d960c6d70c559b68f957747c02ce4e42a5fdd2036da2fc78c0f6ce1adf"), looks := true }, kinds := [], alts := [], laidByText := true, laidKinds := [.data, .data, .data, .data, .sentinel, .sentinel, .pinned], laidTests := true, laidLooks := .later }
def OfficeLeadsCardSaid : Prop := Claim7.holds Tryz.pinned (.plain (OpenSpec.ofChange officeLeadsSpec)) officeLeadsCard

/-- THE TIED CARD OF 'baulklaw10.OfficeGathers'. -/
def officeGathersCard : Claim7 := { stood := { row := officeGathersRow, standIns := [], harness := (true, "2e7ca3d960c6d70c559b68f957747c02ce4e42a5fdd2036da2fc78c0f6ce1adf"), looks := true }, kinds := [], alts := [], laidByText := true, laidKinds := [.data, .data, .data, .data, .sentinel, .sentinel, .pinned], laidTests := true, laidLooks := .later }
def OfficeGathersCardSaid : Prop := Claim7.holds Tryz.pinned (.plain (OpenSpec.ofChange officeGathersSpec)) officeGathersCard

/-- THE SECOND FORM's CARD OF 'baulklaw10.OfficeTexts'. -/
def officeTextsUptoCard : Claim7 := { stood := { row := officeTextsUptoRow, standIns := [], harness := (true, "2e7ca3d960c6d70c559b68f957747c02ce4e42a5fdd2036da2fc78c0f6ce1adf"), looks := true }, kinds := [], alts := [], laidByText := true, laidKinds := [.data, .data, .data, .data, .sentinel, .sentinel, .pinned], laidTests := true, laidLooks := .later }
def OfficeTextsUptoCardSaid : Prop := Claim7.holds Tryz.pinned (.plain (OpenSpec.upto officeTextsSpec)) officeTextsUptoCard

/-- THE SECOND FORM's CARD OF 'baulklaw10.OfficeMerges'. -/
def officeMergesUptoCard : Claim7 := { stood := { row := officeMergesUptoRow, standIns := [], harness := (true, "2e7ca3d960c6d70c559b68f957747c02ce4e42a5fdd2036da2fc78c0f6ce1adf"), looks := true }, kinds := [], alts := [], laidByText := true, laidKinds := [.data, .data, .data, .data, .sentinel, .sentinel, .pinned], laidTests := true, laidLooks := .later }
def OfficeMergesUptoCardSaid : Prop := Claim7.holds Tryz.pinned (.plain (OpenSpec.upto officeMergesSpec)) officeMergesUptoCard

/-- THE SECOND FORM's CARD OF 'baulklaw10.OfficeMeets'. -/
def officeMeetsUptoCard : Claim7 := { stood := { row := officeMeetsUptoRow, standIns := [], harness := (true, "2e7ca3d960c6d70c559b68f957747c02ce4e42a5fdd2036da2fc78c0f6ce1adf"), looks := true }, kinds := [], alts := [], laidByText := true, laidKinds := [.data, .data, .data, .data, .sentinel, .sentinel, .pinned], laidTests := true, laidLooks := .later }
def OfficeMeetsUptoCardSaid : Prop := Claim7.holds Tryz.pinned (.plain (OpenSpec.upto officeMeetsSpec)) officeMeetsUptoCard

/-- THE SECOND FORM's CARD OF 'baulklaw10.OfficeLogs'. -/
def officeLogsUptoCard : Claim7 := { stood := { row := officeLogsUptoRow, standIns := [], harness := (true, "2e7ca3d960c6d70c559b68f957747c02ce4e42a5fdd2036da2fc78c0f6ce1adf"), looks := true }, kinds := [], alts := [], laidByText := true, laidKinds := [.data, .data, .data, .data, .sentinel, .sentinel, .pinned], laidTests := true, laidLooks := .later }
def OfficeLogsUptoCardSaid : Prop := Claim7.holds Tryz.pinned (.plain (OpenSpec.upto officeLogsSpec)) officeLogsUptoCard

/-- THE SECOND FORM's CARD OF 'baulklaw10.OfficeJoins'. -/
def officeJoinsUptoCard : Claim7 := { stood := { row := officeJoinsUptoRow, standIns := [], harness := (true, "2e7ca3d960c6d70c559b68f957747c02ce4e42a5fdd2036da2fc78c0f6ce1adf"), looks := true }, kinds := [], alts := [], laidByText := true, laidKinds := [.data, .data, .data, .data, .sentinel, .sentinel, .pinned], laidTests := true, laidLooks := .later }
def OfficeJoinsUptoCardSaid : Prop := Claim7.holds Tryz.pinned (.plain (OpenSpec.upto officeJoinsSpec)) officeJoinsUptoCard

/-- THE SECOND FORM's CARD OF 'baulklaw10.OfficeEvents'. -/
def officeEventsUptoCard : Claim7 := { stood := { row := officeEventsUptoRow, standIns := [], harness := (true, "2e7ca3d960c6d70c559b68f957747c02ce4e42a5fdd2036da2fc78c0f6ce1adf"), looks := true }, kinds := [], alts := [], laidByText := true, laidKinds := [.data, .data, .data, .data, .sentinel, .sentinel, .pinned], laidTests := true, laidLooks := .later }
def OfficeEventsUptoCardSaid : Prop := Claim7.holds Tryz.pinned (.plain (OpenSpec.upto officeEventsSpec)) officeEventsUptoCard

/-- THE SECOND FORM's CARD OF 'baulklaw10.OfficeSessions'. -/
def officeSessionsUptoCard : Claim7 := { stood := { row := officeSessionsUptoRow, standIns := [], harness := (true, "2e7ca3d960c6d70c559b68f957747c02ce4e42a5fdd2036da2fc78c0f6ce1adf"), looks := true }, kinds := [], alts := [], laidByText := true, laidKinds := [.data, .data, .data, .data, .sentinel, .sentinel, .pinned], laidTests := true, laidLooks := .later }
def OfficeSessionsUptoCardSaid : Prop := Claim7.holds Tryz.pinned (.plain (OpenSpec.upto officeSessionsSpec)) officeSessionsUptoCard

/-- THE SECOND FORM's CARD OF 'baulklaw10.OfficeHistories'. -/
def officeHistoriesUptoCard : Claim7 := { stood := { row := officeHistoriesUptoRow, standIns := [], harness := (true, "2e7ca3d960c6d70c559b68f957747c02ce4e42a5fdd2036da2fc78c0f6ce1adf"), looks := true }, kinds := [], alts := [], laidByText := true, laidKinds := [.data, .data, .data, .data, .sentinel, .sentinel, .pinned], laidTests := true, laidLooks := .later }
def OfficeHistoriesUptoCardSaid : Prop := Claim7.holds Tryz.pinned (.plain (OpenSpec.upto officeHistoriesSpec)) officeHistoriesUptoCard

/-- THE SECOND FORM's CARD OF 'baulklaw10.OfficeTorn'. -/
def officeTornUptoCard : Claim7 := { stood := { row := officeTornUptoRow, standIns := [], harness := (true, "2e7ca3d960c6d70c559b68f957747c02ce4e42a5fdd2036da2fc78c0f6ce1adf"), looks := true }, kinds := [], alts := [], laidByText := true, laidKinds := [.data, .data, .data, .data, .sentinel, .sentinel, .pinned], laidTests := true, laidLooks := .later }
def OfficeTornUptoCardSaid : Prop := Claim7.holds Tryz.pinned (.plain (OpenSpec.upto officeTornSpec)) officeTornUptoCard

/-- THE SECOND FORM's CARD OF 'baulklaw10.OfficeScripts'. -/
def officeScriptsUptoCard : Claim7 := { stood := { row := officeScriptsUptoRow, standIns := [], harness := (true, "2e7ca3d960c6d70c559b68f957747c02ce4e42a5fdd2036da2fc78c0f6ce1adf"), looks := true }, kinds := [], alts := [], laidByText := true, laidKinds := [.data, .data, .data, .data, .sentinel, .sentinel, .pinned], laidTests := true, laidLooks := .later }
def OfficeScriptsUptoCardSaid : Prop := Claim7.holds Tryz.pinned (.plain (OpenSpec.upto officeScriptsSpec)) officeScriptsUptoCard

/-- THE SECOND FORM's CARD OF 'baulklaw10.OfficeLeads'. -/
def officeLeadsUptoCard : Claim7 := { stood := { row := officeLeadsUptoRow, standIns := [], harness := (true, "2e7ca3d960c6d70c559b68f957747c02ce4e42a5fdd2036da2fc78c0f6ce1adf"), looks := true }, kinds := [], alts := [], laidByText := true, laidKinds := [.data, .data, .data, .data, .sentinel, .sentinel, .pinned], laidTests := true, laidLooks := .later }
def OfficeLeadsUptoCardSaid : Prop := Claim7.holds Tryz.pinned (.plain (OpenSpec.upto officeLeadsSpec)) officeLeadsUptoCard

/-- THE SECOND FORM's CARD OF 'baulklaw10.OfficeGathers'. -/
def officeGathersUptoCard : Claim7 := { stood := { row := officeGathersUptoRow, standIns := [], harness := (true, "2e7ca3d960c6d70c559b68f957747c02ce4e42a5fdd2036da2fc78c0f6ce1adf"), looks := true }, kinds := [], alts := [], laidByText := true, laidKinds := [.data, .data, .data, .data, .sentinel, .sentinel, .pinned], laidTests := true, laidLooks := .later }
def OfficeGathersUptoCardSaid : Prop := Claim7.holds Tryz.pinned (.plain (OpenSpec.upto officeGathersSpec)) officeGathersUptoCard
end Rows
end Go.Proofs.YthckccalfpnmaaaGreatDoor
