-- WRITTEN BY A PROGRAM OF THIS CLAIM'S AUTHOR (wprint.py)
import Derived.Test.YtgdefohillhdoaaGreatDoorQFnPuzzlesFilledx0
import Derived.Test.YtgdefohillhdoaaGreatDoorQFnPuzzlesFilledx7
import Derived.Test.YtgdefohillhdoaaGreatDoorQFnPuzzlesFilledx8
namespace Go.Proofs.YtgdefohillhdoaaGreatDoor.QFnPuzzlesFilled
open Go.RowKit Go.Proofs.YtgdefohillhdoaaGreatDoorW.PrintWords Go.Proofs.YtgdefohillhdoaaGreatDoorW.PrintLast Go.Proofs.YtgdefohillhdoaaGreatDoorW.PrintMore
attribute [local go_sem] max2_int min2_int max_two min_two max_three min_three max_four min_four   -- for this text's walks alone
set_option linter.unusedVariables false
set_option linter.unusedSimpArgs false

/-! ### laws_iLess: function 25 -/
mutual
def laws_iLess.l0 : Nat → List Int → List Int → Int → Option (Bool)
 | 0, _, _, _ => none
 | k + 1, x0, x1, x5 => if x5 < (x0.length : Int) then (laws_iLess.j1 k x0 x1 x5 (decide (x5 < (x1.length : Int)))) else (laws_iLess.j1 k x0 x1 x5 false)
def laws_iLess.j1 : Nat → List Int → List Int → Int → Bool → Option (Bool)
 | 0, _, _, _, _ => none
 | k + 1, x0, x1, x5, x15 => if x15 = true then (if 0 ≤ x5 then (if x5 < (x0.length : Int) then (if x5 < (x1.length : Int) then (if (rd x0 x5) = (rd x1 x5) then (laws_iLess.l0 k x0 x1 (wrap64 (x5 + 1))) else (some (decide ((rd x0 x5) < (rd x1 x5))))) else (none)) else (none)) else (none)) else (some (decide ((x0.length : Int) < (x1.length : Int))))
end
def laws_iLess.f (k : Nat) (l0 : List Int) (l1 : List Int) : Option (Bool) := laws_iLess.l0 k l0 l1 0
/-! ### slices_Reverse_int_int: function 95 -/
def slices_Reverse_int_int.l0 : Nat → List Int → Int → Int → Option (List Int)
 | 0, _, _, _ => none
 | k + 1, x0, x2, x3 => if x2 < x3 then (if 0 ≤ x3 then (if x3 < (x0.length : Int) then (if 0 ≤ x2 then (if x2 < (x0.length : Int) then (slices_Reverse_int_int.l0 k ((x0.set (x2 : Int).toNat (rd x0 x3)).set (x3 : Int).toNat (rd x0 x2)) (wrap64 (x2 + 1)) (wrap64 (x3 - 1))) else (none)) else (none)) else (none)) else (none)) else (some x0)
def slices_Reverse_int_int.f (k : Nat) (l0 : List Int) : Option (List Int) := slices_Reverse_int_int.l0 k l0 0 (wrap64 ((l0.length : Int) - 1))
/-! ### impl_turned: function 55 -/
def impl_turned.f (k : Nat) (l0 : List Int) : Option (List Int) := (slices_Clone_int_int.f l0).bind fun t563 => ((slices_Reverse_int_int.f k t563).bind fun t566 => (some t566))
/-! ### impl_TurnPuzzle: function 26 -/
def impl_TurnPuzzle.f (k : Nat) (l0_0 : List (S64)) (l0_1 : List Int) : Option ((List (S64)) × List Int × Bool) := (impl_IsPuzzle.f k l0_0 l0_1).bind fun t569 => (if t569 = true then ((slices_Clone_impl_Tile_impl_Tile.f l0_0).bind fun t570 => ((impl_turned.f k l0_1).bind fun t573 => (some (t570, t573, true)))) else (some (([] : List (S64)), ([] : List Int), false)))
/-! ### impl_isPlace: function 56 -/
def impl_isPlace.f (k : Nat) (l0_0 : List (S64)) (l0_1 : List Int) (a1 : Int) : Option (Bool) := (impl_IsPuzzle.f k l0_0 l0_1).bind fun t577 => (if t577 = true then ((impl_within.f a1 0 (wrap64 ((l0_1.length : Int) - 1))).bind fun t578 => (some t578)) else (some false))
/-! ### impl_isNumber: function 57 -/
def impl_isNumber.f (a0 : Int) : Option (Bool) := (impl_within.f a0 0 9).bind fun t579 => (some t579)
end Go.Proofs.YtgdefohillhdoaaGreatDoor.QFnPuzzlesFilled
