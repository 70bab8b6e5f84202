-- WRITTEN BY A PROGRAM OF THIS CLAIM'S AUTHOR (wprint.py)
import Derived.Test.YtfkonhamjnembaaGreatQFnPuzzlesMadex0
import Derived.Test.YtfkonhamjnembaaGreatQFnPuzzlesMadex2
import Derived.Test.YtfkonhamjnembaaGreatQFnPuzzlesMadex3
import Derived.Test.YtfkonhamjnembaaGreatQFnPuzzlesMadex4
import Derived.Test.YtfkonhamjnembaaGreatQFnPuzzlesMadex11
import Derived.Test.YtfkonhamjnembaaGreatQFnPuzzlesMadex12
namespace Go.Proofs.YtfkonhamjnembaaGreat.QFnPuzzlesMade
open Go.RowKit Go.Proofs.YtfkonhamjnembaaGreatW.PrintWords Go.Proofs.YtfkonhamjnembaaGreatW.PrintLast Go.Proofs.YtfkonhamjnembaaGreatW.PrintMore
attribute [local go_sem] max2_int min2_int max_two min_two max_three min_three max_four min_four   -- for this text's walks alone
set_option linter.unusedVariables false
set_option linter.unusedSimpArgs false

/-! ### spec_haTurn: function 67 -/
def spec_haTurn.l0 : Nat → List Int → List Int → Int → Option (List Int)
 | 0, _, _, _ => none
 | k + 1, x0, x3, x4 => if x4 ≥ 0 then (if 0 ≤ x4 then (if x4 < (x0.length : Int) then (if x3.length < 17592186044416 then (spec_haTurn.l0 k x0 (x3 ++ [rd x0 x4]) (wrap64 (x4 - 1))) else (none)) else (none)) else (none)) else (some x3)
def spec_haTurn.f (k : Nat) (l0 : List Int) : Option (List Int) := spec_haTurn.l0 k l0 ([] : List Int) (wrap64 ((l0.length : Int) - 1))
/-! ### spec_TurnPuzzle: function 26 -/
def spec_TurnPuzzle.f (k : Nat) (l0_0 : List (S67)) (l0_1 : List Int) : Option ((List (S67)) × List Int × Bool) := (spec_pzGood.f k l0_0 l0_1).bind fun t713 => (if t713 = true then ((some (([] : List (S67)) : List (S67))).bind fun y714 => (if y714.length + l0_0.length < 8796093022208 then ((spec_haTurn.f k l0_1).bind fun t720 => (some ((y714 ++ l0_0), t720, true))) else (none))) else (some (([] : List (S67)), ([] : List Int), false)))
/-! ### spec_l1Cur_named: function 68 -/
def spec_l1Cur_named.l0 : Nat → List Int → Int → List Int → Int → Int → Option (List Int × Int × Int)
 | 0, _, _, _, _, _ => none
 | k + 1, x3, x4, x1000, x1001, x1002 => if x4 ≤ 9 then ((spec_l1Cur_pick.f x1000 x1001 x1002 (wrap64 ((x3.length : Int) + 1))).bind fun bt723 => (if 0 ≤ bt723.1 then (if bt723.1 ≤ (x3.length : Int) then ((spec_l1Own.f (x3.take (bt723.1 : Int).toNat)).bind fun t730 => (if t730.length < 17592186044416 then ((some (t730 ++ [x4] : List Int)).bind fun y733 => ((some (x3.drop (bt723.1 : Int).toNat : List Int)).bind fun y736 => (if y733.length + y736.length < 17592186044416 then (spec_l1Cur_named.l0 k (y733 ++ y736) (wrap64 (x4 + 1)) x1000 bt723.2.1 bt723.2.2) else (none)))) else (none))) else (none)) else (none))) else ((spec_l1Cur_pick.f x1000 x1001 x1002 14).bind fun bt743 => (if bt743.1 = 0 then ((spec_l1Cur_pick.f x1000 bt743.2.1 bt743.2.2 (x3.length : Int)).bind fun bt746 => ((spec_l1Cur_among.f x1000 bt746.2.1 bt746.2.2 (([(-1), 0, 9, 10] : List Int))).bind fun bt752 => (if 0 ≤ bt746.1 then (if bt746.1 < (x3.length : Int) then (some ((x3.set (bt746.1 : Int).toNat bt752.1), bt752.2.1, bt752.2.2)) else (none)) else (none)))) else (if bt743.1 = 1 then (if 1 ≤ (x3.length : Int) then (some ((x3.drop (1 : Int).toNat), bt743.2.1, bt743.2.2)) else (none)) else (some (x3, bt743.2.1, bt743.2.2)))))
def spec_l1Cur_named.f (k : Nat) (s0_0 : List Int) (s0_1 : Int) (s0_2 : Int) : Option (List Int × Int × Int) := spec_l1Cur_named.l0 k ([] : List Int) 0 s0_0 s0_1 s0_2
/-! ### spec_DrawRenamePuzzle: function 27 -/
def spec_DrawRenamePuzzle.f (k : Nat) (l0 : List Int) : Option ((List (S67)) × List Int × List Int) := (spec_l1Cur_puzzle.f k l0 0 0).bind fun bt761 => ((spec_l1Cur_named.f k l0 bt761.2.2.1 bt761.2.2.2).bind fun bt769 => (some (bt761.1, bt761.2.1, bt769.1)))
/-! ### slices_Index_int_int: function 121 -/
def slices_Index_int_int.l0 : Nat → List Int → Int → Int → Int → Option (Int)
 | 0, _, _, _, _ => none
 | k + 1, x0, x1, x7, x8 => if x8 < x7 then (if 0 ≤ x8 then (if x8 < (x0.length : Int) then (if x1 = (rd x0 x8) then (some x8) else (slices_Index_int_int.l0 k x0 x1 x7 (wrap64 (x8 + 1)))) else (none)) else (none)) else (some (-1))
def slices_Index_int_int.f (k : Nat) (l0 : List Int) (a1 : Int) : Option (Int) := slices_Index_int_int.l0 k l0 a1 (l0.length : Int) 0
/-! ### slices_Contains_int_int: function 110 -/
def slices_Contains_int_int.f (k : Nat) (l0 : List Int) (a1 : Int) : Option (Bool) := (slices_Index_int_int.f k l0 a1).bind fun t775 => (some (decide (t775 ≥ 0)))
end Go.Proofs.YtfkonhamjnembaaGreat.QFnPuzzlesMade
