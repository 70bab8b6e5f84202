-- WRITTEN BY A PROGRAM OF THIS CLAIM'S AUTHOR (wprint.py)
import Derived.Test.YtgdefohillhdoaaGreatDoorQFnPuzzlesFilledx0
import Derived.Test.YtgdefohillhdoaaGreatDoorQFnPuzzlesFilledx1
import Derived.Test.YtgdefohillhdoaaGreatDoorQFnPuzzlesFilledx2
import Derived.Test.YtgdefohillhdoaaGreatDoorQFnPuzzlesFilledx3
import Derived.Test.YtgdefohillhdoaaGreatDoorQFnPuzzlesFilledx4
namespace Go.Proofs.YtgdefohillhdoaaGreatDoor.QFnPuzzlesFilled
open Go.RowKit Go.Proofs.YtgdefohillhdoaaGreatDoorW.PrintWords Go.Proofs.YtgdefohillhdoaaGreatDoorW.PrintLast Go.Proofs.YtgdefohillhdoaaGreatDoorW.PrintMore
attribute [local go_sem] max2_int min2_int max_two min_two max_three min_three max_four min_four   -- for this text's walks alone
set_option linter.unusedVariables false
set_option linter.unusedSimpArgs false

attribute [local go_sem high] eqA64
/-! ### spec_pzGood: function 40 -/
mutual
def spec_pzGood.j0 : Nat → Bool → List (S64) → List Int → Option (Bool)
 | 0, _, _, _ => none
 | k + 1, x31, x364000, x364001 => if x31 = true then (some false) else ((spec_tiSort.f k x364000).bind fun t367 => (spec_pzGood.l0 k t367 (t367.length : Int) 0 x364000 x364001))
def spec_pzGood.l0 : Nat → List (S64) → Int → Int → List (S64) → List Int → Option (Bool)
 | 0, _, _, _, _, _ => none
 | k + 1, x34, x35, x36, x364000, x364001 => if x36 < x35 then (if 0 ≤ x36 then (if x36 < (x34.length : Int) then (if x36 < (x364000.length : Int) then (if (!(((rd_T64 x34 x36).f0) == ((rd_T64 x364000 x36).f0)) || (!(((rd_T64 x34 x36).f1) == ((rd_T64 x364000 x36).f1)))) = true then (some false) else (spec_pzGood.l0 k x34 x35 (wrap64 (x36 + 1)) x364000 x364001)) else (none)) else (none)) else (none)) else (some true)
end
def spec_pzGood.f (k : Nat) (l0_0 : List (S64)) (l0_1 : List Int) : Option (Bool) := (spec_l1In.f (l0_0.length : Int) 1 9).bind fun t364 => (if t364 = true then ((spec_tiHand.f k l0_0).bind fun t365 => (if t365 = true then (if (l0_1.length : Int) = (wrap64 ((l0_0.length : Int) + 1)) then ((spec_l1All.f k l0_1 (-1) 9).bind fun t366 => (spec_pzGood.j0 k (!t366) l0_0 l0_1)) else (spec_pzGood.j0 k true l0_0 l0_1)) else (spec_pzGood.j0 k true l0_0 l0_1))) else (spec_pzGood.j0 k true l0_0 l0_1))
/-! ### spec_tiTimes: function 130 -/
def spec_tiTimes.l0 : Nat → Int → Int → List (S64) → Int → Int → Option (Int)
 | 0, _, _, _, _, _ => none
 | k + 1, x1, x5, x8, x9, x10 => if x10 < x9 then (if 0 ≤ x10 then (if x10 < (x8.length : Int) then (if ((rd_T64 x8 x10).f0) = x1 then (if ((rd_T64 x8 x10).f1) = x1 then (spec_tiTimes.l0 k x1 (wrap64 ((wrap64 (x5 + 1)) + 1)) x8 x9 (wrap64 (x10 + 1))) else (spec_tiTimes.l0 k x1 (wrap64 (x5 + 1)) x8 x9 (wrap64 (x10 + 1)))) else (if ((rd_T64 x8 x10).f1) = x1 then (spec_tiTimes.l0 k x1 (wrap64 (x5 + 1)) x8 x9 (wrap64 (x10 + 1))) else (spec_tiTimes.l0 k x1 x5 x8 x9 (wrap64 (x10 + 1))))) else (none)) else (none)) else (some x5)
def spec_tiTimes.f (k : Nat) (l0 : List (S64)) (a1 : Int) : Option (Int) := spec_tiTimes.l0 k a1 0 l0 (l0.length : Int) 0
/-! ### spec_tiThose: function 131 -/
def spec_tiThose.l0 : Nat → List (S64) → Bool → List (S64) → List (S64) → Int → Int → Option ((List (S64)))
 | 0, _, _, _, _, _, _ => none
 | k + 1, x1, x2, x7, x11, x12, x13 => if x13 < x12 then (if 0 ≤ x13 then (if x13 < (x11.length : Int) then ((spec_tiPlace.f k x1 ((rd_T64 x11 x13).f0) ((rd_T64 x11 x13).f1)).bind fun t380 => (if ((decide (t380 ≥ 0)) == x2) = true then (if x7.length < 8796093022208 then (spec_tiThose.l0 k x1 x2 (x7 ++ [(⟨(rd_T64 x11 x13).f0, (rd_T64 x11 x13).f1⟩ : S64)]) x11 x12 (wrap64 (x13 + 1))) else (none)) else (spec_tiThose.l0 k x1 x2 x7 x11 x12 (wrap64 (x13 + 1))))) else (none)) else (none)) else (some x7)
def spec_tiThose.f (k : Nat) (l0 : List (S64)) (l1 : List (S64)) (a2 : Bool) : Option ((List (S64))) := (spec_tiSort.f k l0).bind fun t375 => (spec_tiThose.l0 k l1 a2 ([] : List (S64)) t375 (t375.length : Int) 0)
end Go.Proofs.YtgdefohillhdoaaGreatDoor.QFnPuzzlesFilled
