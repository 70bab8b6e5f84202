-- WRITTEN BY A PROGRAM OF THIS CLAIM'S AUTHOR (wprint.py)
import Derived.Test.YtfkonhamjnembaaGreatQFnPuzzlesMadex0
import Derived.Test.YtfkonhamjnembaaGreatQFnPuzzlesMadex5
import Derived.Test.YtfkonhamjnembaaGreatQFnPuzzlesMadex6
namespace Go.Proofs.YtfkonhamjnembaaGreat.QFnPuzzlesMade
open Go.RowKit Go.Proofs.YtfkonhamjnembaaGreatW.PrintWords Go.Proofs.YtfkonhamjnembaaGreatW.PrintLast Go.Proofs.YtfkonhamjnembaaGreatW.PrintMore
attribute [local go_sem] max2_int min2_int max_two min_two max_three min_three max_four min_four   -- for this text's walks alone
set_option linter.unusedVariables false
set_option linter.unusedSimpArgs false

/-! ### impl_Puzzle_with: function 55 -/
def impl_Puzzle_with.f (l0_0 : List (S67)) (l0_1 : List Int) (a1 : Int) (a2 : Int) : Option ((List (S67)) × List Int) := (slices_Clone_impl_Tile_impl_Tile.f l0_0).bind fun t494 => ((slices_Clone_int_int.f l0_1).bind fun t497 => (if 0 ≤ a1 then (if a1 < (t497.length : Int) then (some (t494, (t497.set (a1 : Int).toNat a2))) else (none)) else (none)))
end Go.Proofs.YtfkonhamjnembaaGreat.QFnPuzzlesMade
