-- WRITTEN BY A PROGRAM OF THIS CLAIM'S AUTHOR (wprint.py)
import Derived.Test.YtgdefohillhdoaaGreatDoorQFnPuzzlesFilledx0
import Derived.Test.YtgdefohillhdoaaGreatDoorQFnPuzzlesFilledx2
import Derived.Test.YtgdefohillhdoaaGreatDoorQFnPuzzlesFilledx4
import Derived.Test.YtgdefohillhdoaaGreatDoorQFnPuzzlesFilledx5
namespace Go.Proofs.YtgdefohillhdoaaGreatDoor.QFnPuzzlesFilled
open Go.RowKit Go.Proofs.YtgdefohillhdoaaGreatDoorW.PrintWords Go.Proofs.YtgdefohillhdoaaGreatDoorW.PrintLast Go.Proofs.YtgdefohillhdoaaGreatDoorW.PrintMore
attribute [local go_sem] max2_int min2_int max_two min_two max_three min_three max_four min_four   -- for this text's walks alone
set_option linter.unusedVariables false
set_option linter.unusedSimpArgs false

/-! ### spec_l1Cur_puzzle: function 63 -/
def spec_l1Cur_puzzle.f (k : Nat) (s0_0 : List Int) (s0_1 : Int) (s0_2 : Int) : Option ((List (S64)) × List Int × Int × Int) := (spec_l1Cur_surePuzzle.f k s0_0 s0_1 s0_2 7 4).bind fun bt284 => ((spec_l1Cur_pick.f s0_0 bt284.2.2.1 bt284.2.2.2 14).bind fun bt293 => (if bt293.1 = 0 then ((spec_l1Cur_pick.f s0_0 bt293.2.1 bt293.2.2 (bt284.2.1.length : Int)).bind fun bt296 => ((spec_l1Cur_among.f s0_0 bt296.2.1 bt296.2.2 (([(-2), 10, 0, 9] : List Int))).bind fun bt302 => (if 0 ≤ bt296.1 then (if bt296.1 < (bt284.2.1.length : Int) then (some (bt284.1, (bt284.2.1.set (bt296.1 : Int).toNat bt302.1), bt302.2.1, bt302.2.2)) else (none)) else (none)))) else (if bt293.1 = 1 then (if 1 ≤ (bt284.2.1.length : Int) then (some (bt284.1, (bt284.2.1.drop (1 : Int).toNat), bt293.2.1, bt293.2.2)) else (none)) else (if bt293.1 = 2 then (if (bt284.1.length : Int) > 1 then (if 0 < (bt284.1.length : Int) then (if 1 < (bt284.1.length : Int) then (some (((bt284.1.set (0 : Int).toNat (⟨(rd_T64 bt284.1 1).f0, (rd_T64 bt284.1 1).f1⟩ : S64)).set (1 : Int).toNat (⟨(rd_T64 bt284.1 0).f0, (rd_T64 bt284.1 0).f1⟩ : S64)), bt284.2.1, bt293.2.1, bt293.2.2)) else (none)) else (none)) else (some (bt284.1, bt284.2.1, bt293.2.1, bt293.2.2))) else (if bt293.1 = 3 then ((spec_l1Cur_hand.f k s0_0 bt293.2.1 bt293.2.2 10 5).bind fun bt314 => (some (bt314.1, bt284.2.1, bt314.2.1, bt314.2.2))) else (some (bt284.1, bt284.2.1, bt293.2.1, bt293.2.2)))))))
/-! ### spec_DrawIsPuzzle: function 34 -/
def spec_DrawIsPuzzle.f (k : Nat) (l0 : List Int) : Option ((List (S64)) × List Int) := (spec_l1Cur_puzzle.f k l0 0 0).bind fun bt321 => (some (bt321.1, bt321.2.1))
end Go.Proofs.YtgdefohillhdoaaGreatDoor.QFnPuzzlesFilled
