-- WRITTEN BY A PROGRAM OF THIS CLAIM'S AUTHOR (wprint.py)
import Derived.Test.YtfkonhamjnembaaGreatQFnPuzzlesMadex0
import Derived.Test.YtfkonhamjnembaaGreatQFnPuzzlesMadex3
import Derived.Test.YtfkonhamjnembaaGreatQFnPuzzlesMadex14
import Derived.Test.YtfkonhamjnembaaGreatQFnPuzzlesMadex17
import Derived.Test.YtfkonhamjnembaaGreatQFnPuzzlesMadex18
namespace Go.Proofs.YtfkonhamjnembaaGreat.QFnPuzzlesMade
open Go.RowKit Go.Proofs.YtfkonhamjnembaaGreatW.PrintWords Go.Proofs.YtfkonhamjnembaaGreatW.PrintLast Go.Proofs.YtfkonhamjnembaaGreatW.PrintMore
attribute [local go_sem] max2_int min2_int max_two min_two max_three min_three max_four min_four   -- for this text's walks alone
set_option linter.unusedVariables false
set_option linter.unusedSimpArgs false

/-! ### spec_HarderPuzzle: function 13 -/
mutual
def spec_HarderPuzzle.j0 : Nat → Bool → List (S67) → List Int → Option ((List (S67)) × List Int × Bool)
 | 0, _, _, _ => none
 | k + 1, x22, x541000, x541001 => if x22 = true then (some (([] : List (S67)), ([] : List Int), false)) else ((some (([] : List (S67)) : List (S67))).bind fun y546 => (if y546.length + x541000.length < 8796093022208 then ((spec_l1Own.f x541001).bind fun t552 => (spec_HarderPuzzle.l0 k (t552.length : Int) 0 (y546 ++ x541000) t552)) else (none)))
def spec_HarderPuzzle.l0 : Nat → Int → Int → List (S67) → List Int → Option ((List (S67)) × List Int × Bool)
 | 0, _, _, _, _ => none
 | k + 1, x34, x35, x556000, x556001 => if x35 < x34 then ((spec_pzWith.f x556000 x556001 x35 (-1)).bind fun bt556 => ((spec_pzAll.f k bt556.1 bt556.2).bind fun bt563 => (if bt563.2 = true then (if (bt563.1.length : Int) = 1 then (spec_HarderPuzzle.l0 k x34 (wrap64 (x35 + 1)) bt556.1 bt556.2) else (spec_HarderPuzzle.l0 k x34 (wrap64 (x35 + 1)) x556000 x556001)) else (spec_HarderPuzzle.l0 k x34 (wrap64 (x35 + 1)) x556000 x556001)))) else (some (x556000, x556001, true))
end
def spec_HarderPuzzle.f (k : Nat) (l0_0 : List (S67)) (l0_1 : List Int) : Option ((List (S67)) × List Int × Bool) := (spec_pzAsked.f k l0_0 l0_1).bind fun bt542 => (if bt542.2 = true then (spec_HarderPuzzle.j0 k ((bt542.1.length : Int) != 1) l0_0 l0_1) else (spec_HarderPuzzle.j0 k true l0_0 l0_1))
end Go.Proofs.YtfkonhamjnembaaGreat.QFnPuzzlesMade
