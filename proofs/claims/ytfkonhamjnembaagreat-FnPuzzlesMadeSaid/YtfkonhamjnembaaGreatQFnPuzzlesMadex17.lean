-- WRITTEN BY A PROGRAM OF THIS CLAIM'S AUTHOR (wprint.py)
import Derived.Test.YtfkonhamjnembaaGreatQFnPuzzlesMadex0
import Derived.Test.YtfkonhamjnembaaGreatQFnPuzzlesMadex5
import Derived.Test.YtfkonhamjnembaaGreatQFnPuzzlesMadex6
import Derived.Test.YtfkonhamjnembaaGreatQFnPuzzlesMadex8
import Derived.Test.YtfkonhamjnembaaGreatQFnPuzzlesMadex12
import Derived.Test.YtfkonhamjnembaaGreatQFnPuzzlesMadex14
import Derived.Test.YtfkonhamjnembaaGreatQFnPuzzlesMadex15
import Derived.Test.YtfkonhamjnembaaGreatQFnPuzzlesMadex16
namespace Go.Proofs.YtfkonhamjnembaaGreat.QFnPuzzlesMade
open Go.RowKit Go.Proofs.YtfkonhamjnembaaGreatW.PrintWords Go.Proofs.YtfkonhamjnembaaGreatW.PrintLast Go.Proofs.YtfkonhamjnembaaGreatW.PrintMore
attribute [local go_sem] max2_int min2_int max_two min_two max_three min_three max_four min_four   -- for this text's walks alone
set_option linter.unusedVariables false
set_option linter.unusedSimpArgs false

/-! ### impl_HarderPuzzle: function 12 -/
mutual
def impl_HarderPuzzle.j0 : Nat → Bool → List (S67) → List Int → Option ((List (S67)) × List Int × Bool)
 | 0, _, _, _ => none
 | k + 1, x14, x503000, x503001 => if x14 = true then (some (([] : List (S67)), ([] : List Int), false)) else ((slices_Clone_impl_Tile_impl_Tile.f x503000).bind fun t506 => ((slices_Clone_int_int.f x503001).bind fun t509 => (impl_HarderPuzzle.l0 k (t509.length : Int) 0 t506 t509)))
def impl_HarderPuzzle.l0 : Nat → Int → Int → List (S67) → List Int → Option ((List (S67)) × List Int × Bool)
 | 0, _, _, _, _ => none
 | k + 1, x25, x26, x513000, x513001 => if x26 < x25 then ((impl_Puzzle_with.f x513000 x513001 x26 (-1)).bind fun bt513 => ((impl_Puzzle_isSingle.f k bt513.1 bt513.2).bind fun t520 => (if t520 = true then (impl_HarderPuzzle.l0 k x25 (wrap64 (x26 + 1)) bt513.1 bt513.2) else (impl_HarderPuzzle.l0 k x25 (wrap64 (x26 + 1)) x513000 x513001)))) else (some (x513000, x513001, true))
end
def impl_HarderPuzzle.f (k : Nat) (l0_0 : List (S67)) (l0_1 : List Int) : Option ((List (S67)) × List Int × Bool) := (impl_IsPuzzle.f k l0_0 l0_1).bind fun t504 => (if t504 = true then ((impl_Puzzle_isSingle.f k l0_0 l0_1).bind fun t505 => (impl_HarderPuzzle.j0 k (!t505) l0_0 l0_1)) else (impl_HarderPuzzle.j0 k true l0_0 l0_1))
/-! ### spec_pzAsked: function 56 -/
def spec_pzAsked.f (k : Nat) (l0_0 : List (S67)) (l0_1 : List Int) : Option ((List (List Int)) × Bool) := (spec_pzGood.f k l0_0 l0_1).bind fun t522 => (if t522 = true then ((spec_pzAll.f k l0_0 l0_1).bind fun bt523 => (some (bt523.1, bt523.2))) else (some (([] : List (List Int)), false)))
end Go.Proofs.YtfkonhamjnembaaGreat.QFnPuzzlesMade
