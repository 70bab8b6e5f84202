-- WRITTEN BY A PROGRAM OF THIS CLAIM'S AUTHOR (wprint.py)
import Derived.Test.YtfkonhamjnembaaGreatQFnPuzzlesMadex0
import Derived.Test.YtfkonhamjnembaaGreatQFnPuzzlesMadex2
import Derived.Test.YtfkonhamjnembaaGreatQFnPuzzlesMadex4
import Derived.Test.YtfkonhamjnembaaGreatQFnPuzzlesMadex5
import Derived.Test.YtfkonhamjnembaaGreatQFnPuzzlesMadex6
import Derived.Test.YtfkonhamjnembaaGreatQFnPuzzlesMadex8
namespace Go.Proofs.YtfkonhamjnembaaGreat.QFnPuzzlesMade
open Go.RowKit Go.Proofs.YtfkonhamjnembaaGreatW.PrintWords Go.Proofs.YtfkonhamjnembaaGreatW.PrintLast Go.Proofs.YtfkonhamjnembaaGreatW.PrintMore
attribute [local go_sem] max2_int min2_int max_two min_two max_three min_three max_four min_four   -- for this text's walks alone
set_option linter.unusedVariables false
set_option linter.unusedSimpArgs false

/-! ### impl_IsSolution: function 9 -/
mutual
def impl_IsSolution.j0 : Nat → List Int → Bool → List (S67) → List Int → Option (Bool × Bool)
 | 0, _, _, _, _ => none
 | k + 1, x1, x15, x299000, x299001 => if x15 = true then (some (false, false)) else (if (x1.length : Int) = (x299001.length : Int) then ((impl_tilesOf.f k x1).bind fun t301 => ((impl_sorted.f t301).bind fun t304 => ((slices_Equal_impl_Tile_impl_Tile.f k t304 x299000).bind fun t307 => (impl_IsSolution.j1 k x1 (!t307) x299000 x299001)))) else (impl_IsSolution.j1 k x1 true x299000 x299001))
def impl_IsSolution.j1 : Nat → List Int → Bool → List (S67) → List Int → Option (Bool × Bool)
 | 0, _, _, _, _ => none
 | k + 1, x1, x30, x299000, x299001 => if x30 = true then (some (false, true)) else (impl_IsSolution.l0 k x1 (x1.length : Int) 0 x299000 x299001)
def impl_IsSolution.l0 : Nat → List Int → Int → Int → List (S67) → List Int → Option (Bool × Bool)
 | 0, _, _, _, _, _ => none
 | k + 1, x31, x32, x33, x299000, x299001 => if x33 < x32 then (if 0 ≤ x33 then (if x33 < (x31.length : Int) then ((impl_Puzzle_fits.f x299000 x299001 x33 (rd x31 x33)).bind fun t309 => (if t309 = true then (impl_IsSolution.l0 k x31 x32 (wrap64 (x33 + 1)) x299000 x299001) else (some (false, true)))) else (none)) else (none)) else (some (true, true))
end
def impl_IsSolution.f (k : Nat) (l0_0 : List (S67)) (l0_1 : List Int) (l1 : List Int) : Option (Bool × Bool) := (impl_IsPuzzle.f k l0_0 l0_1).bind fun t299 => (if t299 = true then ((impl_IsChain.f k l1).bind fun t300 => (impl_IsSolution.j0 k l1 (!t300) l0_0 l0_1)) else (impl_IsSolution.j0 k l1 true l0_0 l0_1))
/-! ### spec_l1Cur_one: function 52 -/
def spec_l1Cur_one.f (s0_0 : List Int) (s0_1 : Int) (s0_2 : Int) (a1 : Int) : Option (Bool × Int × Int) := (spec_l1Cur_pick.f s0_0 s0_1 s0_2 a1).bind fun bt310 => (some ((bt310.1 == 0), bt310.2.1, bt310.2.2))
end Go.Proofs.YtfkonhamjnembaaGreat.QFnPuzzlesMade
