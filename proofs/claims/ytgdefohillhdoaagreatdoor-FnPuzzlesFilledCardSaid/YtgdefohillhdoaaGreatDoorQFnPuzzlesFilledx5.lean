-- WRITTEN BY A PROGRAM OF THIS CLAIM'S AUTHOR (wprint.py)
import Derived.Test.YtgdefohillhdoaaGreatDoorQFnPuzzlesFilledx0
import Derived.Test.YtgdefohillhdoaaGreatDoorQFnPuzzlesFilledx2
import Derived.Test.YtgdefohillhdoaaGreatDoorQFnPuzzlesFilledx4
namespace Go.Proofs.YtgdefohillhdoaaGreatDoor.QFnPuzzlesFilled
open Go.RowKit Go.Proofs.YtgdefohillhdoaaGreatDoorW.PrintWords Go.Proofs.YtgdefohillhdoaaGreatDoorW.PrintLast Go.Proofs.YtgdefohillhdoaaGreatDoorW.PrintMore
attribute [local go_sem] max2_int min2_int max_two min_two max_three min_three max_four min_four   -- for this text's walks alone
set_option linter.unusedVariables false
set_option linter.unusedSimpArgs false

/-! ### spec_l1Cur_sureHand: function 127 -/
def spec_l1Cur_sureHand.l0 : Nat → Int → List (S64) → Int → List Int → Int → Int → Option ((List (S64)) × Int × Int)
 | 0, _, _, _, _, _, _ => none
 | k + 1, x2, x7, x8, x1000, x1001, x1002 => if x8 > 0 then ((spec_l1Cur_pick.f x1000 x1001 x1002 (wrap64 (x2 + 1))).bind fun bt215 => ((spec_l1Cur_pick.f x1000 bt215.2.1 bt215.2.2 (wrap64 (x2 + 1))).bind fun bt218 => ((spec_tiOf.f bt215.1 bt218.1).bind fun bt221 => ((spec_tiPlace.f k x7 bt221.1 bt221.2).bind fun t224 => (if t224 < 0 then (if x7.length < 8796093022208 then (spec_l1Cur_sureHand.l0 k x2 (x7 ++ [(⟨bt221.1, bt221.2⟩ : S64)]) (wrap64 (x8 - 1)) x1000 bt218.2.1 bt218.2.2) else (none)) else (spec_l1Cur_sureHand.l0 k x2 x7 (wrap64 (x8 - 1)) x1000 bt218.2.1 bt218.2.2)))))) else (some (x7, x1001, x1002))
def spec_l1Cur_sureHand.f (k : Nat) (s0_0 : List Int) (s0_1 : Int) (s0_2 : Int) (a1 : Int) (a2 : Int) : Option ((List (S64)) × Int × Int) := (spec_l1Cur_pick.f s0_0 s0_1 s0_2 (wrap64 (a1 + 1))).bind fun bt212 => (spec_l1Cur_sureHand.l0 k a2 ([] : List (S64)) bt212.1 s0_0 bt212.2.1 bt212.2.2)
/-! ### spec_l1Cur_tile: function 128 -/
def spec_l1Cur_tile.f (s0_0 : List Int) (s0_1 : Int) (s0_2 : Int) : Option (Int × Int × Int × Int) := (spec_l1Cur_one.f s0_0 s0_1 s0_2 10).bind fun bt229 => (if bt229.1 = true then ((spec_l1Cur_among.f s0_0 bt229.2.1 bt229.2.2 (([(-1), 3, 9, 10] : List Int))).bind fun bt235 => ((spec_l1Cur_among.f s0_0 bt235.2.1 bt235.2.2 (([2, 9, 10, 4611686018427387904] : List Int))).bind fun bt241 => (some (bt235.1, bt241.1, bt241.2.1, bt241.2.2)))) else ((spec_l1Cur_pick.f s0_0 bt229.2.1 bt229.2.2 10).bind fun bt244 => ((spec_l1Cur_pick.f s0_0 bt244.2.1 bt244.2.2 10).bind fun bt247 => ((spec_tiOf.f bt244.1 bt247.1).bind fun bt250 => (some (bt250.1, bt250.2, bt247.2.1, bt247.2.2))))))
/-! ### spec_l1Cur_hand: function 106 -/
def spec_l1Cur_hand.f (k : Nat) (s0_0 : List Int) (s0_1 : Int) (s0_2 : Int) (a1 : Int) (a2 : Int) : Option ((List (S64)) × Int × Int) := (spec_l1Cur_sureHand.f k s0_0 s0_1 s0_2 a1 a2).bind fun bt252 => ((spec_l1Cur_pick.f s0_0 bt252.2.1 bt252.2.2 18).bind fun bt257 => (if bt257.1 = 0 then ((spec_l1Cur_tile.f s0_0 bt257.2.1 bt257.2.2).bind fun bt260 => (if bt252.1.length < 8796093022208 then (some ((bt252.1 ++ [(⟨bt260.1, bt260.2.1⟩ : S64)]), bt260.2.2.1, bt260.2.2.2)) else (none))) else (if bt257.1 = 1 then (if (bt252.1.length : Int) > 0 then (if 0 < (bt252.1.length : Int) then (if bt252.1.length < 8796093022208 then (some ((bt252.1 ++ [(⟨(rd_T64 bt252.1 0).f0, (rd_T64 bt252.1 0).f1⟩ : S64)]), bt257.2.1, bt257.2.2)) else (none)) else (none)) else (some (bt252.1, bt257.2.1, bt257.2.2))) else (if bt257.1 = 2 then ((spec_l1Cur_pick.f s0_0 bt257.2.1 bt257.2.2 10).bind fun bt271 => ((spec_tiSet.f k bt271.1).bind fun t274 => (some (t274, bt271.2.1, bt271.2.2)))) else (if bt257.1 = 3 then ((spec_tiSet.f k 9).bind fun t277 => (if t277.length < 8796093022208 then (some ((t277 ++ [(⟨0, 0⟩ : S64)]), bt257.2.1, bt257.2.2)) else (none))) else (some (bt252.1, bt257.2.1, bt257.2.2)))))))
end Go.Proofs.YtgdefohillhdoaaGreatDoor.QFnPuzzlesFilled
