/-
  DERIVED. GIVEN WITH THE SEED: THE CARDS: each row of YthmbdoegcpicbaaDoorRows.lean that lists a variable, with what it lists TIED to the program's text (the seventh form; the later family's looks); each row that meets fmt, with fmt's text TOLD by the authors' own Lean function (tested against real Go, not proved from fmt's source: count such statements apart). THE CARD IS WHAT COUNTS. Prove the row's statement (the work); the ties are given (YthmbdoegcpicbaaDoorTie.lean); close each card by the builder's one call (the guide's Derived/Test/ToyasCard.lean, 'card_holds'). Laid BY PROGRAM, IN A SANDBOX (cutbox-door.mjs). By AI agents, Wed Nov 11 2026. No macro, syntax, notation, axiom, sorry.
-/
import Derived.Test.YthmbdoegcpicbaaDoorRows
import GoSem.ClaimSeven
namespace Go.Proofs.YthmbdoegcpicbaaDoor
namespace Rows

/-- THE TIED CARD OF 'laws.FnFiguresAsSets'. -/
def fnFiguresAsSetsCard : Claim7 := { stood := { row := fnFiguresAsSetsRow, standIns := [], harness := (true, "f0124d75b65e48d2c55908e3d46b5ac1b248de25d8037c172ac8bdfb0a713483"), looks := false }, kinds := [], alts := [], laidByText := true, laidKinds := [.data], laidTests := true, laidLooks := .later }
def FnFiguresAsSetsCardSaid : Prop := Claim7.holds Tryd.pinned (.plain (OpenSpec.ofChange fnFiguresAsSetsSpec)) fnFiguresAsSetsCard

/-- THE TIED CARD OF 'laws.FnFiguresTurned'. -/
def fnFiguresTurnedCard : Claim7 := { stood := { row := fnFiguresTurnedRow, standIns := [], harness := (true, "f0124d75b65e48d2c55908e3d46b5ac1b248de25d8037c172ac8bdfb0a713483"), looks := false }, kinds := [], alts := [], laidByText := true, laidKinds := [.data], laidTests := true, laidLooks := .later }
def FnFiguresTurnedCardSaid : Prop := Claim7.holds Tryd.pinned (.plain (OpenSpec.ofChange fnFiguresTurnedSpec)) fnFiguresTurnedCard

/-- THE TIED CARD OF 'laws.FnExactTakePuzzle'. -/
def fnExactTakePuzzleCard : Claim7 := { stood := { row := fnExactTakePuzzleRow, standIns := [], harness := (true, "f0124d75b65e48d2c55908e3d46b5ac1b248de25d8037c172ac8bdfb0a713483"), looks := false }, kinds := [], alts := [], laidByText := true, laidKinds := [.data], laidTests := true, laidLooks := .later }
def FnExactTakePuzzleCardSaid : Prop := Claim7.holds Tryd.pinned (.plain (OpenSpec.ofChange fnExactTakePuzzleSpec)) fnExactTakePuzzleCard

/-- THE SECOND FORM's CARD OF 'laws.FnFiguresAsSets'. -/
def fnFiguresAsSetsUptoCard : Claim7 := { stood := { row := fnFiguresAsSetsUptoRow, standIns := [], harness := (true, "f0124d75b65e48d2c55908e3d46b5ac1b248de25d8037c172ac8bdfb0a713483"), looks := false }, kinds := [], alts := [], laidByText := true, laidKinds := [.data], laidTests := true, laidLooks := .later }
def FnFiguresAsSetsUptoCardSaid : Prop := Claim7.holds Tryd.pinned (.plain (OpenSpec.upto fnFiguresAsSetsSpec)) fnFiguresAsSetsUptoCard

/-- THE SECOND FORM's CARD OF 'laws.FnFiguresTurned'. -/
def fnFiguresTurnedUptoCard : Claim7 := { stood := { row := fnFiguresTurnedUptoRow, standIns := [], harness := (true, "f0124d75b65e48d2c55908e3d46b5ac1b248de25d8037c172ac8bdfb0a713483"), looks := false }, kinds := [], alts := [], laidByText := true, laidKinds := [.data], laidTests := true, laidLooks := .later }
def FnFiguresTurnedUptoCardSaid : Prop := Claim7.holds Tryd.pinned (.plain (OpenSpec.upto fnFiguresTurnedSpec)) fnFiguresTurnedUptoCard

/-- THE SECOND FORM's CARD OF 'laws.FnExactTakePuzzle'. -/
def fnExactTakePuzzleUptoCard : Claim7 := { stood := { row := fnExactTakePuzzleUptoRow, standIns := [], harness := (true, "f0124d75b65e48d2c55908e3d46b5ac1b248de25d8037c172ac8bdfb0a713483"), looks := false }, kinds := [], alts := [], laidByText := true, laidKinds := [.data], laidTests := true, laidLooks := .later }
def FnExactTakePuzzleUptoCardSaid : Prop := Claim7.holds Tryd.pinned (.plain (OpenSpec.upto fnExactTakePuzzleSpec)) fnExactTakePuzzleUptoCard
end Rows
end Go.Proofs.YthmbdoegcpicbaaDoor
