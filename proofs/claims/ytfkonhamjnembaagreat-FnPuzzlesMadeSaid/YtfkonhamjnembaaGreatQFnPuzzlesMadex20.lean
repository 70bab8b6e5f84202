-- WRITTEN BY A PROGRAM OF THIS CLAIM'S AUTHOR (wprint.py)
import Derived.Test.YtfkonhamjnembaaGreatQFnPuzzlesMadex0
import Derived.Test.YtfkonhamjnembaaGreatQFnPuzzlesMadex2
import Derived.Test.YtfkonhamjnembaaGreatQFnPuzzlesMadex4
import Derived.Test.YtfkonhamjnembaaGreatQFnPuzzlesMadex7
import Derived.Test.YtfkonhamjnembaaGreatQFnPuzzlesMadex8
import Derived.Test.YtfkonhamjnembaaGreatQFnPuzzlesMadex11
import Derived.Test.YtfkonhamjnembaaGreatQFnPuzzlesMadex12
import Derived.Test.YtfkonhamjnembaaGreatQFnPuzzlesMadex15
import Derived.Test.YtfkonhamjnembaaGreatQFnPuzzlesMadex16
namespace Go.Proofs.YtfkonhamjnembaaGreat.QFnPuzzlesMade
open Go.RowKit Go.Proofs.YtfkonhamjnembaaGreatW.PrintWords Go.Proofs.YtfkonhamjnembaaGreatW.PrintLast Go.Proofs.YtfkonhamjnembaaGreatW.PrintMore
attribute [local go_sem] max2_int min2_int max_two min_two max_three min_three max_four min_four   -- for this text's walks alone
set_option linter.unusedVariables false
set_option linter.unusedSimpArgs false

/-! ### impl_Solutions: function 14 -/
def impl_Solutions.f (k : Nat) (l0_0 : List (S67)) (l0_1 : List Int) : Option ((List (List Int)) × Bool) := (impl_IsPuzzle.f k l0_0 l0_1).bind fun t568 => (if t568 = true then ((impl_Puzzle_solutions.f k l0_0 l0_1).bind fun bt569 => (some (bt569.1, bt569.2))) else (some (([] : List (List Int)), false)))
/-! ### impl_bit: function 60 -/
def impl_bit.f (a0 : Bool) : Option (Int) := if a0 = true then (some 1) else (some 0)
/-! ### impl_CountGaps: function 15 -/
def impl_CountGaps.l0 : Nat → Int → List Int → Int → Int → Option (Int × Bool)
 | 0, _, _, _, _ => none
 | k + 1, x4, x11, x12, x13 => if x13 < x12 then (if 0 ≤ x13 then (if x13 < (x11.length : Int) then ((impl_bit.f ((rd x11 x13) == (-1))).bind fun t576 => (impl_CountGaps.l0 k (wrap64 (x4 + t576)) x11 x12 (wrap64 (x13 + 1)))) else (none)) else (none)) else (some (x4, true))
def impl_CountGaps.f (k : Nat) (l0_0 : List (S67)) (l0_1 : List Int) : Option (Int × Bool) := (impl_IsPuzzle.f k l0_0 l0_1).bind fun t574 => (if t574 = true then (impl_CountGaps.l0 k 0 l0_1 (l0_1.length : Int) 0) else (some (0, false)))
/-! ### laws_iRows: function 16 -/
def laws_iRows.l0 : Nat → List (List Int) → List (List Int) → Int → Int → Option (Bool)
 | 0, _, _, _, _ => none
 | k + 1, x0, x1, x12, x13 => if x13 < x12 then (if 0 ≤ x13 then (if x13 < (x0.length : Int) then (if x13 < (x1.length : Int) then ((laws_iSame.f k (rd_L3 x0 x13) (rd_L3 x1 x13)).bind fun t579 => (if t579 = true then (laws_iRows.l0 k x0 x1 x12 (wrap64 (x13 + 1))) else (some false))) else (none)) else (none)) else (none)) else (some true)
def laws_iRows.f (k : Nat) (l0 : List (List Int)) (l1 : List (List Int)) : Option (Bool) := if (l0.length : Int) = (l1.length : Int) then (laws_iRows.l0 k l0 l1 (l0.length : Int) 0) else (some false)
/-! ### impl_isPlace: function 61 -/
def impl_isPlace.f (k : Nat) (l0_0 : List (S67)) (l0_1 : List Int) (a1 : Int) : Option (Bool) := (impl_IsPuzzle.f k l0_0 l0_1).bind fun t581 => (if t581 = true then ((impl_within.f a1 0 (wrap64 ((l0_1.length : Int) - 1))).bind fun t582 => (some t582)) else (some false))
/-! ### impl_OpenGap: function 17 -/
def impl_OpenGap.f (k : Nat) (l0_0 : List (S67)) (l0_1 : List Int) (a1 : Int) : Option ((List (S67)) × List Int × Bool) := (impl_isPlace.f k l0_0 l0_1 a1).bind fun t585 => (if t585 = true then (if 0 ≤ a1 then (if a1 < (l0_1.length : Int) then (if (rd l0_1 a1) = (-1) then (some (([] : List (S67)), ([] : List Int), false)) else ((impl_Puzzle_with.f l0_0 l0_1 a1 (-1)).bind fun bt587 => (some (bt587.1, bt587.2, true)))) else (none)) else (none)) else (some (([] : List (S67)), ([] : List Int), false)))
/-! ### impl_CountSolutions: function 18 -/
def impl_CountSolutions.f (k : Nat) (l0_0 : List (S67)) (l0_1 : List Int) : Option (Int × Bool) := (impl_Solutions.f k l0_0 l0_1).bind fun bt594 => (some ((bt594.1.length : Int), bt594.2))
/-! ### spec_DrawFillGap: function 19 -/
def spec_DrawFillGap.f (k : Nat) (l0 : List Int) : Option ((List (S67)) × List Int × Int × Int) := (spec_l1Cur_puzzle.f k l0 0 0).bind fun bt600 => ((spec_l1Cur_pick.f l0 bt600.2.2.1 bt600.2.2.2 8).bind fun bt608 => ((spec_l1Cur_pick.f l0 bt608.2.1 bt608.2.2 9).bind fun bt611 => ((spec_l1Cur_pick.f l0 bt611.2.1 bt611.2.2 6).bind fun bt614 => ((spec_l1Cur_pick.f l0 bt614.2.1 bt614.2.2 9).bind fun bt617 => (some (bt600.1, bt600.2.1, wrap64 (bt608.1 - (wrap64 (Int.tdiv bt611.1 8))), wrap64 (bt614.1 - (wrap64 (Int.tdiv bt617.1 8)))))))))
/-! ### impl_isNumber: function 62 -/
def impl_isNumber.f (a0 : Int) : Option (Bool) := (impl_within.f a0 0 9).bind fun t620 => (some t620)
/-! ### impl_FillGap: function 20 -/
def impl_FillGap.f (k : Nat) (l0_0 : List (S67)) (l0_1 : List Int) (a1 : Int) (a2 : Int) : Option ((List (S67)) × List Int × Bool) := (impl_isPlace.f k l0_0 l0_1 a1).bind fun t623 => (if t623 = true then ((impl_isNumber.f a2).bind fun t624 => (if t624 = true then (if 0 ≤ a1 then (if a1 < (l0_1.length : Int) then (if (rd l0_1 a1) = (-1) then ((impl_Puzzle_with.f l0_0 l0_1 a1 a2).bind fun bt626 => (some (bt626.1, bt626.2, true))) else (some (([] : List (S67)), ([] : List Int), false))) else (none)) else (none)) else (some (([] : List (S67)), ([] : List Int), false)))) else (some (([] : List (S67)), ([] : List Int), false)))
/-! ### spec_pzPlace: function 63 -/
def spec_pzPlace.f (k : Nat) (l0_0 : List (S67)) (l0_1 : List Int) (a1 : Int) : Option (Bool) := (spec_pzGood.f k l0_0 l0_1).bind fun t633 => (if t633 = true then ((spec_l1In.f a1 0 (wrap64 ((l0_1.length : Int) - 1))).bind fun t634 => (some t634)) else (some false))
/-! ### spec_tiNumber: function 64 -/
def spec_tiNumber.f (a0 : Int) : Option (Bool) := (spec_l1In.f a0 0 9).bind fun t635 => (some t635)
end Go.Proofs.YtfkonhamjnembaaGreat.QFnPuzzlesMade
