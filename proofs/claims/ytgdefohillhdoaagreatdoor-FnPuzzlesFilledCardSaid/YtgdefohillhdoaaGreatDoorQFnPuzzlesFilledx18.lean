-- WRITTEN BY A PROGRAM OF THIS CLAIM'S AUTHOR (wprint.py)
import Derived.Test.YtgdefohillhdoaaGreatDoorQFnPuzzlesFilledx0
import Derived.Test.YtgdefohillhdoaaGreatDoorQFnPuzzlesFilledx8
import Derived.Test.YtgdefohillhdoaaGreatDoorQFnPuzzlesFilledx17
namespace Go.Proofs.YtgdefohillhdoaaGreatDoor.QFnPuzzlesFilled
open Go.RowKit Go.Proofs.YtgdefohillhdoaaGreatDoorW.PrintWords Go.Proofs.YtgdefohillhdoaaGreatDoorW.PrintLast Go.Proofs.YtgdefohillhdoaaGreatDoorW.PrintMore
attribute [local go_sem] max2_int min2_int max_two min_two max_three min_three max_four min_four   -- for this text's walks alone
set_option linter.unusedVariables false
set_option linter.unusedSimpArgs false

/-! ### impl_IsSolution: function 24 -/
mutual
def impl_IsSolution.j0 : Nat → List Int → Bool → List (S64) → List Int → Option (Bool × Bool)
 | 0, _, _, _, _ => none
 | k + 1, x1, x15, x544000, x544001 => if x15 = true then (some (false, false)) else (if (x1.length : Int) = (x544001.length : Int) then ((impl_tilesOf.f k x1).bind fun t546 => ((impl_sorted.f t546).bind fun t549 => ((slices_Equal_impl_Tile_impl_Tile.f k t549 x544000).bind fun t552 => (impl_IsSolution.j1 k x1 (!t552) x544000 x544001)))) else (impl_IsSolution.j1 k x1 true x544000 x544001))
def impl_IsSolution.j1 : Nat → List Int → Bool → List (S64) → List Int → Option (Bool × Bool)
 | 0, _, _, _, _ => none
 | k + 1, x1, x30, x544000, x544001 => if x30 = true then (some (false, true)) else (impl_IsSolution.l0 k x1 (x1.length : Int) 0 x544000 x544001)
def impl_IsSolution.l0 : Nat → List Int → Int → Int → List (S64) → List Int → Option (Bool × Bool)
 | 0, _, _, _, _, _ => none
 | k + 1, x31, x32, x33, x544000, x544001 => if x33 < x32 then (if 0 ≤ x33 then (if x33 < (x31.length : Int) then ((impl_Puzzle_fits.f x544000 x544001 x33 (rd x31 x33)).bind fun t554 => (if t554 = true then (impl_IsSolution.l0 k x31 x32 (wrap64 (x33 + 1)) x544000 x544001) else (some (false, true)))) else (none)) else (none)) else (some (true, true))
end
def impl_IsSolution.f (k : Nat) (l0_0 : List (S64)) (l0_1 : List Int) (l1 : List Int) : Option (Bool × Bool) := (impl_IsPuzzle.f k l0_0 l0_1).bind fun t544 => (if t544 = true then ((impl_IsChain.f k l1).bind fun t545 => (impl_IsSolution.j0 k l1 (!t545) l0_0 l0_1)) else (impl_IsSolution.j0 k l1 true l0_0 l0_1))
end Go.Proofs.YtgdefohillhdoaaGreatDoor.QFnPuzzlesFilled
