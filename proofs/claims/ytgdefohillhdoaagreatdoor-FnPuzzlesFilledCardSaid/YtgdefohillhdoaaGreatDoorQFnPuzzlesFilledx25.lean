-- WRITTEN BY A PROGRAM OF THIS CLAIM'S AUTHOR (wprint.py)
import Derived.Test.YtgdefohillhdoaaGreatDoorQFnPuzzlesFilledx0
import Derived.Test.YtgdefohillhdoaaGreatDoorQFnPuzzlesFilledx10
import Derived.Test.YtgdefohillhdoaaGreatDoorQFnPuzzlesFilledx16
import Derived.Test.YtgdefohillhdoaaGreatDoorQFnPuzzlesFilledx24
namespace Go.Proofs.YtgdefohillhdoaaGreatDoor.QFnPuzzlesFilled
open Go.RowKit Go.Proofs.YtgdefohillhdoaaGreatDoorW.PrintWords Go.Proofs.YtgdefohillhdoaaGreatDoorW.PrintLast Go.Proofs.YtgdefohillhdoaaGreatDoorW.PrintMore
attribute [local go_sem] max2_int min2_int max_two min_two max_three min_three max_four min_four   -- for this text's walks alone
set_option linter.unusedVariables false
set_option linter.unusedSimpArgs false

/-! ### spec_pzParse: function 74 -/
mutual
def spec_pzParse.l0 : Nat → ByteArray → Int → Int → Option ((List (S64)) × List Int × Bool)
 | 0, _, _, _ => none
 | k + 1, x0, x4, x5 => if x5 < (x0.size : Int) then (if x5 ≤ 36 then (spec_pzParse.j1 k x0 x4 x5 (decide (x4 < 0))) else (spec_pzParse.j1 k x0 x4 x5 false)) else (spec_pzParse.j1 k x0 x4 x5 false)
def spec_pzParse.j1 : Nat → ByteArray → Int → Int → Bool → Option ((List (S64)) × List Int × Bool)
 | 0, _, _, _, _ => none
 | k + 1, x0, x4, x5, x21 => if x21 = true then (if 0 ≤ x5 then (if x5 < (x0.size : Int) then (if (bt x0 x5) = 58 then (spec_pzParse.l0 k x0 x5 (wrap64 (x5 + 1))) else (spec_pzParse.l0 k x0 x4 (wrap64 (x5 + 1)))) else (none)) else (none)) else (if x4 < 0 then (spec_pzParse.j2 k x0 x4 true) else (spec_pzParse.j2 k x0 x4 (decide ((wrap64 ((wrap64 ((x0.size : Int) - x4)) - 1)) > 10))))
def spec_pzParse.j2 : Nat → ByteArray → Int → Bool → Option ((List (S64)) × List Int × Bool)
 | 0, _, _, _ => none
 | k + 1, x0, x4, x38 => if x38 = true then (some (([] : List (S64)), ([] : List Int), false)) else (if 0 ≤ x4 then (if x4 ≤ (x0.size : Int) then ((spec_tiParse.f k (x0.extract 0 (x4 : Int).toNat)).bind fun bt732 => (if bt732.2 = true then (spec_pzParse.l1 k x0 (wrap64 (x4 + 1)) bt732.1 ([] : List Int)) else (some (([] : List (S64)), ([] : List Int), false)))) else (none)) else (none))
def spec_pzParse.l1 : Nat → ByteArray → Int → List (S64) → List Int → Option ((List (S64)) × List Int × Bool)
 | 0, _, _, _, _ => none
 | k + 1, x0, x9, x737000, x737001 => if x9 < (x0.size : Int) then (if 0 ≤ x9 then (if (bt x0 x9) = 46 then (if x737001.length < 17592186044416 then (spec_pzParse.l1 k x0 (wrap64 (x9 + 1)) x737000 (x737001 ++ [(-1)])) else (none)) else (if (bt x0 x9) ≥ 48 then (if (bt x0 x9) ≤ 57 then (if x737001.length < 17592186044416 then (spec_pzParse.l1 k x0 (wrap64 (x9 + 1)) x737000 (x737001 ++ [((bt x0 x9) - 48) % 256])) else (none)) else (some (([] : List (S64)), ([] : List Int), false))) else (some (([] : List (S64)), ([] : List Int), false)))) else (none)) else ((spec_pzGood.f k x737000 x737001).bind fun t743 => (if t743 = true then ((spec_pzText.f k x737000 x737001).bind fun t744 => (if t744.toList = x0.toList then (some (x737000, x737001, true)) else (some (([] : List (S64)), ([] : List Int), false)))) else (some (([] : List (S64)), ([] : List Int), false))))
end
def spec_pzParse.f (k : Nat) (a0 : ByteArray) : Option ((List (S64)) × List Int × Bool) := spec_pzParse.l0 k a0 (-1) 0
/-! ### spec_ParsePuzzle: function 33 -/
def spec_ParsePuzzle.f (k : Nat) (a0 : ByteArray) : Option ((List (S64)) × List Int × Bool) := (spec_pzParse.f k a0).bind fun bt746 => (some (bt746.1, bt746.2.1, bt746.2.2))
end Go.Proofs.YtgdefohillhdoaaGreatDoor.QFnPuzzlesFilled
