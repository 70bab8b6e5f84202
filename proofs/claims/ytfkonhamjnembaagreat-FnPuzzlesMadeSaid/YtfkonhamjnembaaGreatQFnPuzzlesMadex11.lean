-- WRITTEN BY A PROGRAM OF THIS CLAIM'S AUTHOR (wprint.py)
import Derived.Test.YtfkonhamjnembaaGreatQFnPuzzlesMadex0
import Derived.Test.YtfkonhamjnembaaGreatQFnPuzzlesMadex2
import Derived.Test.YtfkonhamjnembaaGreatQFnPuzzlesMadex4
import Derived.Test.YtfkonhamjnembaaGreatQFnPuzzlesMadex10
namespace Go.Proofs.YtfkonhamjnembaaGreat.QFnPuzzlesMade
open Go.RowKit Go.Proofs.YtfkonhamjnembaaGreatW.PrintWords Go.Proofs.YtfkonhamjnembaaGreatW.PrintLast Go.Proofs.YtfkonhamjnembaaGreatW.PrintMore
attribute [local go_sem] max2_int min2_int max_two min_two max_three min_three max_four min_four   -- for this text's walks alone
set_option linter.unusedVariables false
set_option linter.unusedSimpArgs false

/-! ### spec_l1Cur_puzzle: function 49 -/
def spec_l1Cur_puzzle.f (k : Nat) (s0_0 : List Int) (s0_1 : Int) (s0_2 : Int) : Option ((List (S67)) × List Int × Int × Int) := (spec_l1Cur_surePuzzle.f k s0_0 s0_1 s0_2 7 4).bind fun bt411 => ((spec_l1Cur_pick.f s0_0 bt411.2.2.1 bt411.2.2.2 14).bind fun bt420 => (if bt420.1 = 0 then ((spec_l1Cur_pick.f s0_0 bt420.2.1 bt420.2.2 (bt411.2.1.length : Int)).bind fun bt423 => ((spec_l1Cur_among.f s0_0 bt423.2.1 bt423.2.2 (([(-2), 10, 0, 9] : List Int))).bind fun bt429 => (if 0 ≤ bt423.1 then (if bt423.1 < (bt411.2.1.length : Int) then (some (bt411.1, (bt411.2.1.set (bt423.1 : Int).toNat bt429.1), bt429.2.1, bt429.2.2)) else (none)) else (none)))) else (if bt420.1 = 1 then (if 1 ≤ (bt411.2.1.length : Int) then (some (bt411.1, (bt411.2.1.drop (1 : Int).toNat), bt420.2.1, bt420.2.2)) else (none)) else (if bt420.1 = 2 then (if (bt411.1.length : Int) > 1 then (if 0 < (bt411.1.length : Int) then (if 1 < (bt411.1.length : Int) then (some (((bt411.1.set (0 : Int).toNat (⟨(rd_T67 bt411.1 1).f0, (rd_T67 bt411.1 1).f1⟩ : S67)).set (1 : Int).toNat (⟨(rd_T67 bt411.1 0).f0, (rd_T67 bt411.1 0).f1⟩ : S67)), bt411.2.1, bt420.2.1, bt420.2.2)) else (none)) else (none)) else (some (bt411.1, bt411.2.1, bt420.2.1, bt420.2.2))) else (if bt420.1 = 3 then ((spec_l1Cur_hand.f k s0_0 bt420.2.1 bt420.2.2 10 5).bind fun bt441 => (some (bt441.1, bt411.2.1, bt441.2.1, bt441.2.2))) else (some (bt411.1, bt411.2.1, bt420.2.1, bt420.2.2)))))))
end Go.Proofs.YtfkonhamjnembaaGreat.QFnPuzzlesMade
