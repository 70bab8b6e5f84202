-- WRITTEN BY A PROGRAM OF THIS CLAIM'S AUTHOR (wprint.py)
import Derived.Test.YtfkonhamjnembaaGreatQFnPuzzlesMadex0
import Derived.Test.YtfkonhamjnembaaGreatQFnPuzzlesMadex6
import Derived.Test.YtfkonhamjnembaaGreatQFnPuzzlesMadex8
import Derived.Test.YtfkonhamjnembaaGreatQFnPuzzlesMadex23
namespace Go.Proofs.YtfkonhamjnembaaGreat.QFnPuzzlesMade
open Go.RowKit Go.Proofs.YtfkonhamjnembaaGreatW.PrintWords Go.Proofs.YtfkonhamjnembaaGreatW.PrintLast Go.Proofs.YtfkonhamjnembaaGreatW.PrintMore
attribute [local go_sem] max2_int min2_int max_two min_two max_three min_three max_four min_four   -- for this text's walks alone
set_option linter.unusedVariables false
set_option linter.unusedSimpArgs false

/-! ### impl_RenamePuzzle: function 28 -/
mutual
def impl_RenamePuzzle.j0 : Nat → List Int → Bool → List (S67) → List Int → Option ((List (S67)) × List Int × Bool)
 | 0, _, _, _, _ => none
 | k + 1, x1, x16, x801000, x801001 => if x16 = true then (some (([] : List (S67)), ([] : List Int), false)) else ((impl_renamedHand.f k x801000 x1).bind fun t804 => ((slices_Clone_int_int.f x801001).bind fun t807 => (impl_RenamePuzzle.l0 k x1 t807 (t807.length : Int) 0 t804 t807)))
def impl_RenamePuzzle.l0 : Nat → List Int → List Int → Int → Int → List (S67) → List Int → Option ((List (S67)) × List Int × Bool)
 | 0, _, _, _, _, _, _ => none
 | k + 1, x1, x27, x28, x29, x811000, x811001 => if x29 < x28 then (if 0 ≤ x29 then (if x29 < (x27.length : Int) then (if (rd x27 x29) = (-1) then (impl_RenamePuzzle.l0 k x1 x27 x28 (wrap64 (x29 + 1)) x811000 x811001) else (if 0 ≤ (rd x27 x29) then (if (rd x27 x29) < (x1.length : Int) then (if x29 < (x811001.length : Int) then (impl_RenamePuzzle.l0 k x1 (x811001.set (x29 : Int).toNat (rd x1 (rd x27 x29))) x28 (wrap64 (x29 + 1)) x811000 (x811001.set (x29 : Int).toNat (rd x1 (rd x27 x29)))) else (none)) else (none)) else (none))) else (none)) else (none)) else (some (x811000, x811001, true))
end
def impl_RenamePuzzle.f (k : Nat) (l0_0 : List (S67)) (l0_1 : List Int) (l1 : List Int) : Option ((List (S67)) × List Int × Bool) := (impl_IsPuzzle.f k l0_0 l0_1).bind fun t802 => (if t802 = true then ((impl_areNames.f k l1).bind fun t803 => (impl_RenamePuzzle.j0 k l1 (!t803) l0_0 l0_1)) else (impl_RenamePuzzle.j0 k l1 true l0_0 l0_1))
end Go.Proofs.YtfkonhamjnembaaGreat.QFnPuzzlesMade
