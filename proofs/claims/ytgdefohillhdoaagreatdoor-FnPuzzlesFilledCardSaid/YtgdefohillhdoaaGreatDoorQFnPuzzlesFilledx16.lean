-- WRITTEN BY A PROGRAM OF THIS CLAIM'S AUTHOR (wprint.py)
import Derived.Test.YtgdefohillhdoaaGreatDoorQFnPuzzlesFilledx0
import Derived.Test.YtgdefohillhdoaaGreatDoorQFnPuzzlesFilledx10
import Derived.Test.YtgdefohillhdoaaGreatDoorQFnPuzzlesFilledx15
namespace Go.Proofs.YtgdefohillhdoaaGreatDoor.QFnPuzzlesFilled
open Go.RowKit Go.Proofs.YtgdefohillhdoaaGreatDoorW.PrintWords Go.Proofs.YtgdefohillhdoaaGreatDoorW.PrintLast Go.Proofs.YtgdefohillhdoaaGreatDoorW.PrintMore
attribute [local go_sem] max2_int min2_int max_two min_two max_three min_three max_four min_four   -- for this text's walks alone
set_option linter.unusedVariables false
set_option linter.unusedSimpArgs false

/-! ### spec_pzText: function 43 -/
def spec_pzText.l0 : Nat → ByteArray → List Int → Int → Int → Option (ByteArray)
 | 0, _, _, _, _ => none
 | k + 1, x3, x11, x12, x13 => if x13 < x12 then (if 0 ≤ x13 then (if x13 < (x11.length : Int) then (if (rd x11 x13) < 0 then (if x3.size + 1 ≤ 9223372036854775807 then (spec_pzText.l0 k (x3 ++ (⟨#[46]⟩ : ByteArray)) x11 x12 (wrap64 (x13 + 1))) else (none)) else ((spec_l1Num.f k (rd x11 x13)).bind fun t515 => (if x3.size + t515.size ≤ 9223372036854775807 then (spec_pzText.l0 k (x3 ++ t515) x11 x12 (wrap64 (x13 + 1))) else (none)))) else (none)) else (none)) else (some x3)
def spec_pzText.f (k : Nat) (l0_0 : List (S64)) (l0_1 : List Int) : Option (ByteArray) := (spec_tiText.f k l0_0).bind fun t513 => (if t513.size + 1 ≤ 9223372036854775807 then (spec_pzText.l0 k (t513 ++ (⟨#[58]⟩ : ByteArray)) l0_1 (l0_1.length : Int) 0) else (none))
/-! ### spec_PuzzleText: function 19 -/
def spec_PuzzleText.f (k : Nat) (l0_0 : List (S64)) (l0_1 : List Int) : Option (ByteArray × Bool) := (spec_pzGood.f k l0_0 l0_1).bind fun t517 => (if t517 = true then ((spec_pzText.f k l0_0 l0_1).bind fun t518 => (some (t518, true))) else (some ((⟨#[]⟩ : ByteArray), false)))
/-! ### laws_iSame: function 21 -/
def laws_iSame.l0 : Nat → List Int → List Int → Int → Int → Option (Bool)
 | 0, _, _, _, _ => none
 | k + 1, x0, x1, x12, x13 => if x13 < x12 then (if 0 ≤ x13 then (if x13 < (x0.length : Int) then (if x13 < (x1.length : Int) then (if (rd x0 x13) = (rd x1 x13) then (laws_iSame.l0 k x0 x1 x12 (wrap64 (x13 + 1))) else (some false)) else (none)) else (none)) else (none)) else (some true)
def laws_iSame.f (k : Nat) (l0 : List Int) (l1 : List Int) : Option (Bool) := if (l0.length : Int) = (l1.length : Int) then (laws_iSame.l0 k l0 l1 (l0.length : Int) 0) else (some false)
/-! ### laws_iRows: function 20 -/
def laws_iRows.l0 : Nat → List (List Int) → List (List Int) → Int → Int → Option (Bool)
 | 0, _, _, _, _ => none
 | k + 1, x0, x1, x12, x13 => if x13 < x12 then (if 0 ≤ x13 then (if x13 < (x0.length : Int) then (if x13 < (x1.length : Int) then ((laws_iSame.f k (rd_L4 x0 x13) (rd_L4 x1 x13)).bind fun t523 => (if t523 = true then (laws_iRows.l0 k x0 x1 x12 (wrap64 (x13 + 1))) else (some false))) else (none)) else (none)) else (none)) else (some true)
def laws_iRows.f (k : Nat) (l0 : List (List Int)) (l1 : List (List Int)) : Option (Bool) := if (l0.length : Int) = (l1.length : Int) then (laws_iRows.l0 k l0 l1 (l0.length : Int) 0) else (some false)
/-! ### spec_IsPuzzle: function 23 -/
def spec_IsPuzzle.f (k : Nat) (l0_0 : List (S64)) (l0_1 : List Int) : Option (Bool) := (spec_pzGood.f k l0_0 l0_1).bind fun t525 => (some t525)
end Go.Proofs.YtgdefohillhdoaaGreatDoor.QFnPuzzlesFilled
