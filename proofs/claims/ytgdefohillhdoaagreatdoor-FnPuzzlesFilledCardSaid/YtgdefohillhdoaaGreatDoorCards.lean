/-
  DERIVED. GIVEN WITH THE SEED: THE CARDS: each row of YtgdefohillhdoaaGreatDoorRows.lean that lists a variable, with what it lists TIED to the program's text (the seventh form; the later family's looks); each row that meets fmt, with fmt's text TOLD by the authors' own Lean function (tested against real Go, not proved from fmt's source: count such statements apart). THE CARD IS WHAT COUNTS. Prove the row's statement (the work); the ties are given (YtgdefohillhdoaaGreatDoorTie.lean); close each card by the builder's one call (the guide's Derived/Test/ToyasCard.lean, 'card_holds'). Laid BY PROGRAM, IN A SANDBOX (cutbox-door.mjs). By AI agents, Wed Nov 11 2026. No macro, syntax, notation, axiom, sorry.
-/
import Derived.Test.YtgdefohillhdoaaGreatDoorRows
import GoSem.ClaimSeven
namespace Go.Proofs.YtgdefohillhdoaaGreatDoor
namespace Rows

/-- THE TIED CARD OF 'laws.FnPuzzlesFilled'. -/
def fnPuzzlesFilledCard : Claim7 := { stood := { row := fnPuzzlesFilledRow, standIns := [], harness := (true, "ad86ace75275c48d7f29151c9abe512fd91d72b19a0b38222eebb3de0e4ce7ff"), looks := false }, kinds := [], alts := [], laidByText := true, laidKinds := [.data, .pinned], laidTests := true, laidLooks := .later }
def FnPuzzlesFilledCardSaid : Prop := Claim7.holds Tryz.pinned (.plain (OpenSpec.ofChange fnPuzzlesFilledSpec)) fnPuzzlesFilledCard

/-- THE SECOND FORM's CARD OF 'laws.FnPuzzlesFilled'. -/
def fnPuzzlesFilledUptoCard : Claim7 := { stood := { row := fnPuzzlesFilledUptoRow, standIns := [], harness := (true, "ad86ace75275c48d7f29151c9abe512fd91d72b19a0b38222eebb3de0e4ce7ff"), looks := false }, kinds := [], alts := [], laidByText := true, laidKinds := [.data, .pinned], laidTests := true, laidLooks := .later }
def FnPuzzlesFilledUptoCardSaid : Prop := Claim7.holds Tryz.pinned (.plain (OpenSpec.upto fnPuzzlesFilledSpec)) fnPuzzlesFilledUptoCard
end Rows
end Go.Proofs.YtgdefohillhdoaaGreatDoor
