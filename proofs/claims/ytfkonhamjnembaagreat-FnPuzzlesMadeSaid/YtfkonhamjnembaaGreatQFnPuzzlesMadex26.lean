-- WRITTEN BY A PROGRAM OF THIS CLAIM'S AUTHOR (wprint.py)
import Derived.Test.YtfkonhamjnembaaGreatQFnPuzzlesMadex0
import Derived.Test.YtfkonhamjnembaaGreatQFnPuzzlesMadex2
import Derived.Test.YtfkonhamjnembaaGreatQFnPuzzlesMadex7
import Derived.Test.YtfkonhamjnembaaGreatQFnPuzzlesMadex12
import Derived.Test.YtfkonhamjnembaaGreatQFnPuzzlesMadex25
namespace Go.Proofs.YtfkonhamjnembaaGreat.QFnPuzzlesMade
open Go.RowKit Go.Proofs.YtfkonhamjnembaaGreatW.PrintWords Go.Proofs.YtfkonhamjnembaaGreatW.PrintLast Go.Proofs.YtfkonhamjnembaaGreatW.PrintMore
attribute [local go_sem] max2_int min2_int max_two min_two max_three min_three max_four min_four   -- for this text's walks alone
set_option linter.unusedVariables false
set_option linter.unusedSimpArgs false

/-! ### spec_RenamePuzzle: function 29 -/
mutual
def spec_RenamePuzzle.j0 : Nat → List Int → Bool → List (S67) → List Int → Option ((List (S67)) × List Int × Bool)
 | 0, _, _, _, _ => none
 | k + 1, x1, x26, x816000, x816001 => if x26 = true then (some (([] : List (S67)), ([] : List Int), false)) else (spec_RenamePuzzle.l0 k x1 x1 (x1.length : Int) 0 x816000 x816001)
def spec_RenamePuzzle.l0 : Nat → List Int → List Int → Int → Int → List (S67) → List Int → Option ((List (S67)) × List Int × Bool)
 | 0, _, _, _, _, _, _ => none
 | k + 1, x1, x28, x29, x30, x816000, x816001 => if x30 < x29 then (if 0 ≤ x30 then (if x30 < (x28.length : Int) then (if x30 ≤ (x1.length : Int) then ((spec_l1Has.f k (x1.take (x30 : Int).toNat) (rd x28 x30)).bind fun t821 => (if t821 = true then (some (([] : List (S67)), ([] : List Int), false)) else (spec_RenamePuzzle.l0 k x1 x28 x29 (wrap64 (x30 + 1)) x816000 x816001))) else (none)) else (none)) else (none)) else (spec_RenamePuzzle.l1 k x1 ([] : List (S67)) x816000 (x816000.length : Int) 0 x816000 x816001)
def spec_RenamePuzzle.l1 : Nat → List Int → List (S67) → List (S67) → Int → Int → List (S67) → List Int → Option ((List (S67)) × List Int × Bool)
 | 0, _, _, _, _, _, _, _ => none
 | k + 1, x1, x8, x43, x44, x45, x816000, x816001 => if x45 < x44 then (if 0 ≤ x45 then (if x45 < (x43.length : Int) then (if 0 ≤ ((rd_T67 x43 x45).f0) then (if ((rd_T67 x43 x45).f0) < (x1.length : Int) then (if 0 ≤ ((rd_T67 x43 x45).f1) then (if ((rd_T67 x43 x45).f1) < (x1.length : Int) then ((spec_tiOf.f (rd x1 ((rd_T67 x43 x45).f0)) (rd x1 ((rd_T67 x43 x45).f1))).bind fun bt826 => (if x8.length < 8796093022208 then (spec_RenamePuzzle.l1 k x1 (x8 ++ [(⟨bt826.1, bt826.2⟩ : S67)]) x43 x44 (wrap64 (x45 + 1)) x816000 x816001) else (none))) else (none)) else (none)) else (none)) else (none)) else (none)) else (none)) else ((spec_tiSort.f k x8).bind fun t831 => (spec_RenamePuzzle.l2 k x1 x816001 (x816001.length : Int) 0 t831 ([] : List Int)))
def spec_RenamePuzzle.l2 : Nat → List Int → List Int → Int → Int → List (S67) → List Int → Option ((List (S67)) × List Int × Bool)
 | 0, _, _, _, _, _, _ => none
 | k + 1, x1, x68, x69, x70, x835000, x835001 => if x70 < x69 then (if 0 ≤ x70 then (if x70 < (x68.length : Int) then (if (rd x68 x70) ≥ 0 then (if 0 ≤ (rd x68 x70) then (if (rd x68 x70) < (x1.length : Int) then (if x835001.length < 17592186044416 then (spec_RenamePuzzle.l2 k x1 x68 x69 (wrap64 (x70 + 1)) x835000 (x835001 ++ [rd x1 (rd x68 x70)])) else (none)) else (none)) else (none)) else (if x835001.length < 17592186044416 then (spec_RenamePuzzle.l2 k x1 x68 x69 (wrap64 (x70 + 1)) x835000 (x835001 ++ [rd x68 x70])) else (none))) else (none)) else (none)) else (some (x835000, x835001, true))
end
def spec_RenamePuzzle.f (k : Nat) (l0_0 : List (S67)) (l0_1 : List Int) (l1 : List Int) : Option ((List (S67)) × List Int × Bool) := (spec_pzGood.f k l0_0 l0_1).bind fun t817 => (if t817 = true then (if (l1.length : Int) = 10 then ((spec_l1All.f k l1 0 9).bind fun t818 => (spec_RenamePuzzle.j0 k l1 (!t818) l0_0 l0_1)) else (spec_RenamePuzzle.j0 k l1 true l0_0 l0_1)) else (spec_RenamePuzzle.j0 k l1 true l0_0 l0_1))
end Go.Proofs.YtfkonhamjnembaaGreat.QFnPuzzlesMade
