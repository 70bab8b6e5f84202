-- WRITTEN BY A PROGRAM OF THIS CLAIM'S AUTHOR (wprint.py)
import Derived.Test.YtfkonhamjnembaaGreatQFnPuzzlesMadex0
import Derived.Test.YtfkonhamjnembaaGreatQFnPuzzlesMadex3
namespace Go.Proofs.YtfkonhamjnembaaGreat.QFnPuzzlesMade
open Go.RowKit Go.Proofs.YtfkonhamjnembaaGreatW.PrintWords Go.Proofs.YtfkonhamjnembaaGreatW.PrintLast Go.Proofs.YtfkonhamjnembaaGreatW.PrintMore
attribute [local go_sem] max2_int min2_int max_two min_two max_three min_three max_four min_four   -- for this text's walks alone
set_option linter.unusedVariables false
set_option linter.unusedSimpArgs false

/-! ### spec_pzWith: function 58 -/
def spec_pzWith.f (l0_0 : List (S67)) (l0_1 : List Int) (a1 : Int) (a2 : Int) : Option ((List (S67)) × List Int) := (some (([] : List (S67)) : List (S67))).bind fun y529 => (if y529.length + l0_0.length < 8796093022208 then ((spec_l1Own.f l0_1).bind fun t535 => (if 0 ≤ a1 then (if a1 < (t535.length : Int) then (some ((y529 ++ l0_0), (t535.set (a1 : Int).toNat a2))) else (none)) else (none))) else (none))
end Go.Proofs.YtfkonhamjnembaaGreat.QFnPuzzlesMade
