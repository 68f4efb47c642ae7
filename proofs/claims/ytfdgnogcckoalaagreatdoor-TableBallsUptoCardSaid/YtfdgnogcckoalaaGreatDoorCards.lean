/-
  DERIVED. GIVEN WITH THE SEED: THE CARDS: each row of YtfdgnogcckoalaaGreatDoorRows.lean that lists a variable, with what it lists TIED to the program's text (the seventh form; the later family's looks); each row that meets fmt, with fmt's text TOLD by the authors' own Lean function (tested against real Go, not proved from fmt's source: count such statements apart). THE CARD IS WHAT COUNTS. Prove the row's statement (the work); the ties are given (YtfdgnogcckoalaaGreatDoorTie.lean); close each card by the builder's one call (the guide's Derived/Test/ToyasCard.lean, 'card_holds'). Laid BY PROGRAM, IN A SANDBOX (cutbox-door.mjs). By AI agents, Wed Nov 11 2026. No macro, syntax, notation, axiom, sorry.
-/
import Derived.Test.YtfdgnogcckoalaaGreatDoorRows
import GoSem.ClaimSeven
namespace Go.Proofs.YtfdgnogcckoalaaGreatDoor
namespace Rows

/-- THE TIED CARD OF 'baulklaw02.TableTexts'. -/
def tableTextsCard : Claim7 := { stood := { row := tableTextsRow, standIns := [], harness := (true, "3469adb9db95877732f96285915a0084d4dc252e6efcc0414e47554f86fabab8"), looks := true }, kinds := [], alts := [], laidByText := true, laidKinds := [.data, .data, .data, .data, .sentinel, .sentinel, .pinned], laidTests := true, laidLooks := .later }
def TableTextsCardSaid : Prop := Claim7.holds Tryz.pinned (.plain (OpenSpec.ofChange tableTextsSpec)) tableTextsCard

/-- THE TIED CARD OF 'baulklaw02.TableBalls'. -/
def tableBallsCard : Claim7 := { stood := { row := tableBallsRow, standIns := [], harness := (true, "3469adb9db95877732f96285915a0084d4dc252e6efcc0414e47554f86fabab8"), looks := true }, kinds := [], alts := [], laidByText := true, laidKinds := [.data, .data, .data, .data, .sentinel, .sentinel, .pinned], laidTests := true, laidLooks := .later }
def TableBallsCardSaid : Prop := Claim7.holds Tryz.pinned (.plain (OpenSpec.ofChange tableBallsSpec)) tableBallsCard

/-- THE TIED CARD OF 'baulklaw02.TableReads'. -/
def tableReadsCard : Claim7 := { stood := { row := tableReadsRow, standIns := [], harness := (true, "3469adb9db95877732f96285915a0084d4dc252e6efcc0414e47554f86fabab8"), looks := true }, kinds := [], alts := [], laidByText := true, laidKinds := [.data, .data, .data, .data, .sentinel, .sentinel, .pinned], laidTests := true, laidLooks := .later }
def TableReadsCardSaid : Prop := Claim7.holds Tryz.pinned (.plain (OpenSpec.ofChange tableReadsSpec)) tableReadsCard

/-- THE TIED CARD OF 'baulklaw02.TableKeeps'. -/
def tableKeepsCard : Claim7 := { stood := { row := tableKeepsRow, standIns := [], harness := (true, "3469adb9db95877732f96285915a0084d4dc252e6efcc0414e47554f86fabab8"), looks := true }, kinds := [], alts := [], laidByText := true, laidKinds := [.data, .data, .data, .data, .sentinel, .sentinel, .pinned], laidTests := true, laidLooks := .later }
def TableKeepsCardSaid : Prop := Claim7.holds Tryz.pinned (.plain (OpenSpec.ofChange tableKeepsSpec)) tableKeepsCard

/-- THE SECOND FORM's CARD OF 'baulklaw02.TableTexts'. -/
def tableTextsUptoCard : Claim7 := { stood := { row := tableTextsUptoRow, standIns := [], harness := (true, "3469adb9db95877732f96285915a0084d4dc252e6efcc0414e47554f86fabab8"), looks := true }, kinds := [], alts := [], laidByText := true, laidKinds := [.data, .data, .data, .data, .sentinel, .sentinel, .pinned], laidTests := true, laidLooks := .later }
def TableTextsUptoCardSaid : Prop := Claim7.holds Tryz.pinned (.plain (OpenSpec.upto tableTextsSpec)) tableTextsUptoCard

/-- THE SECOND FORM's CARD OF 'baulklaw02.TableBalls'. -/
def tableBallsUptoCard : Claim7 := { stood := { row := tableBallsUptoRow, standIns := [], harness := (true, "3469adb9db95877732f96285915a0084d4dc252e6efcc0414e47554f86fabab8"), looks := true }, kinds := [], alts := [], laidByText := true, laidKinds := [.data, .data, .data, .data, .sentinel, .sentinel, .pinned], laidTests := true, laidLooks := .later }
def TableBallsUptoCardSaid : Prop := Claim7.holds Tryz.pinned (.plain (OpenSpec.upto tableBallsSpec)) tableBallsUptoCard

/-- THE SECOND FORM's CARD OF 'baulklaw02.TableReads'. -/
def tableReadsUptoCard : Claim7 := { stood := { row := tableReadsUptoRow, standIns := [], harness := (true, "3469adb9db95877732f96285915a0084d4dc252e6efcc0414e47554f86fabab8"), looks := true }, kinds := [], alts := [], laidByText := true, laidKinds := [.data, .data, .data, .data, .sentinel, .sentinel, .pinned], laidTests := true, laidLooks := .later }
def TableReadsUptoCardSaid : Prop := Claim7.holds Tryz.pinned (.plain (OpenSpec.upto tableReadsSpec)) tableReadsUptoCard

/-- THE SECOND FORM's CARD OF 'baulklaw02.TableKeeps'. -/
def tableKeepsUptoCard : Claim7 := { stood := { row := tableKeepsUptoRow, standIns := [], harness := (true, "3469adb9db95877732f96285915a0084d4dc252e6efcc0414e47554f86fabab8"), looks := true }, kinds := [], alts := [], laidByText := true, laidKinds := [.data, .data, .data, .data, .sentinel, .sentinel, .pinned], laidTests := true, laidLooks := .later }
def TableKeepsUptoCardSaid : Prop := Claim7.holds Tryz.pinned (.plain (OpenSpec.upto tableKeepsSpec)) tableKeepsUptoCard
end Rows
end Go.Proofs.YtfdgnogcckoalaaGreatDoor
