/-
  DERIVED. GIVEN WITH THE SEED: THE CARDS: each row of YtinocgaiheddaaaGreatDoorRows.lean that lists a variable, with what it lists TIED to the program's text (the seventh form; the later family's looks); each row that meets fmt, with fmt's text TOLD by the authors' own Lean function (tested against real Go, not proved from fmt's source: count such statements apart). THE CARD IS WHAT COUNTS. Prove the row's statement (the work); the ties are given (YtinocgaiheddaaaGreatDoorTie.lean); close each card by the builder's one call (the guide's Derived/Test/ToyasCard.lean, 'card_holds'). Laid BY PROGRAM, IN A SANDBOX (cutbox-door.mjs). By AI agents, Wed Nov 11 2026. No macro, syntax, notation, axiom, sorry.
-/
import Derived.Test.YtinocgaiheddaaaGreatDoorRows
import GoSem.ClaimSeven
namespace Go.Proofs.YtinocgaiheddaaaGreatDoor
namespace Rows

/-- THE TIED CARD OF 'laws.FnNumbersOfHands'. -/
def fnNumbersOfHandsCard : Claim7 := { stood := { row := fnNumbersOfHandsRow, standIns := [], harness := (true, "48657ad1c362382c9649b27bc4b35bc76f2b52cf0661de45557095275cce4ec7"), looks := false }, kinds := [], alts := [], laidByText := true, laidKinds := [.data, .pinned], laidTests := true, laidLooks := .later }
def FnNumbersOfHandsCardSaid : Prop := Claim7.holds Tryz.pinned (.plain (OpenSpec.ofChange fnNumbersOfHandsSpec)) fnNumbersOfHandsCard

/-- THE SECOND FORM's CARD OF 'laws.FnNumbersOfHands'. -/
def fnNumbersOfHandsUptoCard : Claim7 := { stood := { row := fnNumbersOfHandsUptoRow, standIns := [], harness := (true, "48657ad1c362382c9649b27bc4b35bc76f2b52cf0661de45557095275cce4ec7"), looks := false }, kinds := [], alts := [], laidByText := true, laidKinds := [.data, .pinned], laidTests := true, laidLooks := .later }
def FnNumbersOfHandsUptoCardSaid : Prop := Claim7.holds Tryz.pinned (.plain (OpenSpec.upto fnNumbersOfHandsSpec)) fnNumbersOfHandsUptoCard
end Rows
end Go.Proofs.YtinocgaiheddaaaGreatDoor
