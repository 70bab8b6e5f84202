-- WRITTEN BY A PROGRAM OF THIS CLAIM'S AUTHOR (wprint.py)
import Derived.Test.YtfkonhamjnembaaGreatQFnPuzzlesMadex0
import Derived.Test.YtfkonhamjnembaaGreatQFnPuzzlesMadex2
import Derived.Test.YtfkonhamjnembaaGreatQFnPuzzlesMadex5
import Derived.Test.YtfkonhamjnembaaGreatQFnPuzzlesMadex6
import Derived.Test.YtfkonhamjnembaaGreatQFnPuzzlesMadex8
import Derived.Test.YtfkonhamjnembaaGreatQFnPuzzlesMadex11
import Derived.Test.YtfkonhamjnembaaGreatQFnPuzzlesMadex18
import Derived.Test.YtfkonhamjnembaaGreatQFnPuzzlesMadex20
namespace Go.Proofs.YtfkonhamjnembaaGreat.QFnPuzzlesMade
open Go.RowKit Go.Proofs.YtfkonhamjnembaaGreatW.PrintWords Go.Proofs.YtfkonhamjnembaaGreatW.PrintLast Go.Proofs.YtfkonhamjnembaaGreatW.PrintMore
attribute [local go_sem] max2_int min2_int max_two min_two max_three min_three max_four min_four   -- for this text's walks alone
set_option linter.unusedVariables false
set_option linter.unusedSimpArgs false

/-! ### spec_FillGap: function 21 -/
def spec_FillGap.f (k : Nat) (l0_0 : List (S67)) (l0_1 : List Int) (a1 : Int) (a2 : Int) : Option ((List (S67)) × List Int × Bool) := (spec_pzPlace.f k l0_0 l0_1 a1).bind fun t638 => (if t638 = true then ((spec_tiNumber.f a2).bind fun t639 => (if t639 = true then (if 0 ≤ a1 then (if a1 < (l0_1.length : Int) then (if (rd l0_1 a1) ≥ 0 then (some (([] : List (S67)), ([] : List Int), false)) else ((spec_pzWith.f l0_0 l0_1 a1 a2).bind fun bt641 => (some (bt641.1, bt641.2, true)))) else (none)) else (none)) else (some (([] : List (S67)), ([] : List Int), false)))) else (some (([] : List (S67)), ([] : List Int), false)))
/-! ### spec_DrawOpenGap: function 22 -/
def spec_DrawOpenGap.f (k : Nat) (l0 : List Int) : Option ((List (S67)) × List Int × Int) := (spec_l1Cur_puzzle.f k l0 0 0).bind fun bt649 => ((spec_l1Cur_pick.f l0 bt649.2.2.1 bt649.2.2.2 8).bind fun bt657 => ((spec_l1Cur_pick.f l0 bt657.2.1 bt657.2.2 9).bind fun bt660 => (some (bt649.1, bt649.2.1, wrap64 (bt657.1 - (wrap64 (Int.tdiv bt660.1 8)))))))
/-! ### spec_OpenGap: function 23 -/
def spec_OpenGap.f (k : Nat) (l0_0 : List (S67)) (l0_1 : List Int) (a1 : Int) : Option ((List (S67)) × List Int × Bool) := (spec_pzPlace.f k l0_0 l0_1 a1).bind fun t665 => (if t665 = true then (if 0 ≤ a1 then (if a1 < (l0_1.length : Int) then (if (rd l0_1 a1) < 0 then (some (([] : List (S67)), ([] : List Int), false)) else ((spec_pzWith.f l0_0 l0_1 a1 (-1)).bind fun bt667 => (some (bt667.1, bt667.2, true)))) else (none)) else (none)) else (some (([] : List (S67)), ([] : List Int), false)))
/-! ### spec_DrawIsPuzzle: function 65 -/
def spec_DrawIsPuzzle.f (k : Nat) (l0 : List Int) : Option ((List (S67)) × List Int) := (spec_l1Cur_puzzle.f k l0 0 0).bind fun bt675 => (some (bt675.1, bt675.2.1))
/-! ### spec_DrawTurnPuzzle: function 24 -/
def spec_DrawTurnPuzzle.f (k : Nat) (l0 : List Int) : Option ((List (S67)) × List Int) := (spec_DrawIsPuzzle.f k l0).bind fun bt684 => (some (bt684.1, bt684.2))
/-! ### slices_Reverse_int_int: function 93 -/
def slices_Reverse_int_int.l0 : Nat → List Int → Int → Int → Option (List Int)
 | 0, _, _, _ => none
 | k + 1, x0, x2, x3 => if x2 < x3 then (if 0 ≤ x3 then (if x3 < (x0.length : Int) then (if 0 ≤ x2 then (if x2 < (x0.length : Int) then (slices_Reverse_int_int.l0 k ((x0.set (x2 : Int).toNat (rd x0 x3)).set (x3 : Int).toNat (rd x0 x2)) (wrap64 (x2 + 1)) (wrap64 (x3 - 1))) else (none)) else (none)) else (none)) else (none)) else (some x0)
def slices_Reverse_int_int.f (k : Nat) (l0 : List Int) : Option (List Int) := slices_Reverse_int_int.l0 k l0 0 (wrap64 ((l0.length : Int) - 1))
/-! ### impl_turned: function 66 -/
def impl_turned.f (k : Nat) (l0 : List Int) : Option (List Int) := (slices_Clone_int_int.f l0).bind fun t694 => ((slices_Reverse_int_int.f k t694).bind fun t697 => (some t697))
/-! ### impl_TurnPuzzle: function 25 -/
def impl_TurnPuzzle.f (k : Nat) (l0_0 : List (S67)) (l0_1 : List Int) : Option ((List (S67)) × List Int × Bool) := (impl_IsPuzzle.f k l0_0 l0_1).bind fun t700 => (if t700 = true then ((slices_Clone_impl_Tile_impl_Tile.f l0_0).bind fun t701 => ((impl_turned.f k l0_1).bind fun t704 => (some (t701, t704, true)))) else (some (([] : List (S67)), ([] : List Int), false)))
end Go.Proofs.YtfkonhamjnembaaGreat.QFnPuzzlesMade
