-- WRITTEN BY A PROGRAM OF THIS CLAIM'S AUTHOR (wprint.py)
import Derived.Test.YtfkonhamjnembaaGreatQFnPuzzlesMadex0
import Derived.Test.YtfkonhamjnembaaGreatQFnPuzzlesMadex2
import Derived.Test.YtfkonhamjnembaaGreatQFnPuzzlesMadex3
import Derived.Test.YtfkonhamjnembaaGreatQFnPuzzlesMadex4
import Derived.Test.YtfkonhamjnembaaGreatQFnPuzzlesMadex6
import Derived.Test.YtfkonhamjnembaaGreatQFnPuzzlesMadex7
import Derived.Test.YtfkonhamjnembaaGreatQFnPuzzlesMadex9
namespace Go.Proofs.YtfkonhamjnembaaGreat.QFnPuzzlesMade
open Go.RowKit Go.Proofs.YtfkonhamjnembaaGreatW.PrintWords Go.Proofs.YtfkonhamjnembaaGreatW.PrintLast Go.Proofs.YtfkonhamjnembaaGreatW.PrintMore
attribute [local go_sem] max2_int min2_int max_two min_two max_three min_three max_four min_four   -- for this text's walks alone
set_option linter.unusedVariables false
set_option linter.unusedSimpArgs false

/-! ### spec_l1Cur_surePuzzle: function 87 -/
mutual
def spec_l1Cur_surePuzzle.j0 : Nat → List Int → List Int → Int → Int → Option ((List (S67)) × List Int × Int × Int)
 | 0, _, _, _, _ => none
 | k + 1, x7, x1000, x1001, x1002 => (spec_haTiles.f k x7).bind fun t322 => ((spec_tiSort.f k t322).bind fun t325 => (spec_l1Cur_surePuzzle.l0 k x7 (x7.length : Int) 0 x1000 x1001 x1002 t325 ([] : List Int)))
def spec_l1Cur_surePuzzle.l0 : Nat → List Int → Int → Int → List Int → Int → Int → List (S67) → List Int → Option ((List (S67)) × List Int × Int × Int)
 | 0, _, _, _, _, _, _, _, _ => none
 | k + 1, x23, x24, x25, x1000, x1001, x1002, x329000, x329001 => if x25 < x24 then (if 0 ≤ x25 then (if x25 < (x23.length : Int) then ((spec_l1Cur_one.f x1000 x1001 x1002 2).bind fun bt330 => (if bt330.1 = true then (if x329001.length < 17592186044416 then (spec_l1Cur_surePuzzle.l0 k x23 x24 (wrap64 (x25 + 1)) x1000 bt330.2.1 bt330.2.2 x329000 (x329001 ++ [(-1)])) else (none)) else (if x329001.length < 17592186044416 then (spec_l1Cur_surePuzzle.l0 k x23 x24 (wrap64 (x25 + 1)) x1000 bt330.2.1 bt330.2.2 x329000 (x329001 ++ [rd x23 x25])) else (none)))) else (none)) else (none)) else (some (x329000, x329001, x1001, x1002))
end
def spec_l1Cur_surePuzzle.f (k : Nat) (s0_0 : List Int) (s0_1 : Int) (s0_2 : Int) (a1 : Int) (a2 : Int) : Option ((List (S67)) × List Int × Int × Int) := (spec_l1Cur_sureChain.f k s0_0 s0_1 s0_2 a1 a2).bind fun bt314 => (if (bt314.1.length : Int) < 2 then (spec_l1Cur_surePuzzle.j0 k (([0, 1] : List Int)) s0_0 bt314.2.1 bt314.2.2) else (spec_l1Cur_surePuzzle.j0 k bt314.1 s0_0 bt314.2.1 bt314.2.2))
/-! ### spec_l1Cur_sureHand: function 106 -/
def spec_l1Cur_sureHand.l0 : Nat → Int → List (S67) → Int → List Int → Int → Int → Option ((List (S67)) × Int × Int)
 | 0, _, _, _, _, _, _ => none
 | k + 1, x2, x7, x8, x1000, x1001, x1002 => if x8 > 0 then ((spec_l1Cur_pick.f x1000 x1001 x1002 (wrap64 (x2 + 1))).bind fun bt342 => ((spec_l1Cur_pick.f x1000 bt342.2.1 bt342.2.2 (wrap64 (x2 + 1))).bind fun bt345 => ((spec_tiOf.f bt342.1 bt345.1).bind fun bt348 => ((spec_tiPlace.f k x7 bt348.1 bt348.2).bind fun t351 => (if t351 < 0 then (if x7.length < 8796093022208 then (spec_l1Cur_sureHand.l0 k x2 (x7 ++ [(⟨bt348.1, bt348.2⟩ : S67)]) (wrap64 (x8 - 1)) x1000 bt345.2.1 bt345.2.2) else (none)) else (spec_l1Cur_sureHand.l0 k x2 x7 (wrap64 (x8 - 1)) x1000 bt345.2.1 bt345.2.2)))))) else (some (x7, x1001, x1002))
def spec_l1Cur_sureHand.f (k : Nat) (s0_0 : List Int) (s0_1 : Int) (s0_2 : Int) (a1 : Int) (a2 : Int) : Option ((List (S67)) × Int × Int) := (spec_l1Cur_pick.f s0_0 s0_1 s0_2 (wrap64 (a1 + 1))).bind fun bt339 => (spec_l1Cur_sureHand.l0 k a2 ([] : List (S67)) bt339.1 s0_0 bt339.2.1 bt339.2.2)
/-! ### spec_l1Cur_tile: function 107 -/
def spec_l1Cur_tile.f (s0_0 : List Int) (s0_1 : Int) (s0_2 : Int) : Option (Int × Int × Int × Int) := (spec_l1Cur_one.f s0_0 s0_1 s0_2 10).bind fun bt356 => (if bt356.1 = true then ((spec_l1Cur_among.f s0_0 bt356.2.1 bt356.2.2 (([(-1), 3, 9, 10] : List Int))).bind fun bt362 => ((spec_l1Cur_among.f s0_0 bt362.2.1 bt362.2.2 (([2, 9, 10, 4611686018427387904] : List Int))).bind fun bt368 => (some (bt362.1, bt368.1, bt368.2.1, bt368.2.2)))) else ((spec_l1Cur_pick.f s0_0 bt356.2.1 bt356.2.2 10).bind fun bt371 => ((spec_l1Cur_pick.f s0_0 bt371.2.1 bt371.2.2 10).bind fun bt374 => ((spec_tiOf.f bt371.1 bt374.1).bind fun bt377 => (some (bt377.1, bt377.2, bt374.2.1, bt374.2.2))))))
/-! ### spec_l1Cur_hand: function 88 -/
def spec_l1Cur_hand.f (k : Nat) (s0_0 : List Int) (s0_1 : Int) (s0_2 : Int) (a1 : Int) (a2 : Int) : Option ((List (S67)) × Int × Int) := (spec_l1Cur_sureHand.f k s0_0 s0_1 s0_2 a1 a2).bind fun bt379 => ((spec_l1Cur_pick.f s0_0 bt379.2.1 bt379.2.2 18).bind fun bt384 => (if bt384.1 = 0 then ((spec_l1Cur_tile.f s0_0 bt384.2.1 bt384.2.2).bind fun bt387 => (if bt379.1.length < 8796093022208 then (some ((bt379.1 ++ [(⟨bt387.1, bt387.2.1⟩ : S67)]), bt387.2.2.1, bt387.2.2.2)) else (none))) else (if bt384.1 = 1 then (if (bt379.1.length : Int) > 0 then (if 0 < (bt379.1.length : Int) then (if bt379.1.length < 8796093022208 then (some ((bt379.1 ++ [(⟨(rd_T67 bt379.1 0).f0, (rd_T67 bt379.1 0).f1⟩ : S67)]), bt384.2.1, bt384.2.2)) else (none)) else (none)) else (some (bt379.1, bt384.2.1, bt384.2.2))) else (if bt384.1 = 2 then ((spec_l1Cur_pick.f s0_0 bt384.2.1 bt384.2.2 10).bind fun bt398 => ((spec_tiSet.f k bt398.1).bind fun t401 => (some (t401, bt398.2.1, bt398.2.2)))) else (if bt384.1 = 3 then ((spec_tiSet.f k 9).bind fun t404 => (if t404.length < 8796093022208 then (some ((t404 ++ [(⟨0, 0⟩ : S67)]), bt384.2.1, bt384.2.2)) else (none))) else (some (bt379.1, bt384.2.1, bt384.2.2)))))))
end Go.Proofs.YtfkonhamjnembaaGreat.QFnPuzzlesMade
