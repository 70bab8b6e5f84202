-- WRITTEN BY A PROGRAM OF THIS CLAIM'S AUTHOR (wprint.py)
import Derived.Test.YtgdefohillhdoaaGreatDoorQFnPuzzlesFilledx0
import Derived.Test.YtgdefohillhdoaaGreatDoorQFnPuzzlesFilledx2
import Derived.Test.YtgdefohillhdoaaGreatDoorQFnPuzzlesFilledx3
import Derived.Test.YtgdefohillhdoaaGreatDoorQFnPuzzlesFilledx10
import Derived.Test.YtgdefohillhdoaaGreatDoorQFnPuzzlesFilledx16
import Derived.Test.YtgdefohillhdoaaGreatDoorQFnPuzzlesFilledx21
namespace Go.Proofs.YtgdefohillhdoaaGreatDoor.QFnPuzzlesFilled
open Go.RowKit Go.Proofs.YtgdefohillhdoaaGreatDoorW.PrintWords Go.Proofs.YtgdefohillhdoaaGreatDoorW.PrintLast Go.Proofs.YtgdefohillhdoaaGreatDoorW.PrintMore
attribute [local go_sem] max2_int min2_int max_two min_two max_three min_three max_four min_four   -- for this text's walks alone
set_option linter.unusedVariables false
set_option linter.unusedSimpArgs false

/-! ### laws_iPuzzle: function 29 -/
def laws_iPuzzle.f (k : Nat) (l0_0 : List (S64)) (l0_1 : List Int) (l1_0 : List (S64)) (l1_1 : List Int) : Option (Bool) := (laws_iTiles.f k l0_0 l1_0).bind fun t637 => (if t637 = true then ((laws_iSame.f k l0_1 l1_1).bind fun t638 => (some t638)) else (some false))
/-! ### spec_pzFits: function 69 -/
def spec_pzFits.l0 : Nat → List Int → Int → Int → List (S64) → List Int → Option (Bool)
 | 0, _, _, _, _, _ => none
 | k + 1, x7, x8, x9, x673000, x673001 => if x9 < x8 then (if 0 ≤ x9 then (if x9 < (x7.length : Int) then (if x9 < (x673001.length : Int) then (if (rd x673001 x9) ≥ 0 then (if (rd x673001 x9) = (rd x7 x9) then (spec_pzFits.l0 k x7 x8 (wrap64 (x9 + 1)) x673000 x673001) else (some false)) else (spec_pzFits.l0 k x7 x8 (wrap64 (x9 + 1)) x673000 x673001)) else (none)) else (none)) else (none)) else (some true)
def spec_pzFits.f (k : Nat) (l0_0 : List (S64)) (l0_1 : List Int) (l1 : List Int) : Option (Bool) := spec_pzFits.l0 k l1 (l1.length : Int) 0 l0_0 l0_1
/-! ### spec_IsSolution: function 31 -/
mutual
def spec_IsSolution.j0 : Nat → List Int → Bool → List (S64) → List Int → Option (Bool × Bool)
 | 0, _, _, _, _ => none
 | k + 1, x1, x15, x677000, x677001 => if x15 = true then (some (false, false)) else (if (x1.length : Int) = (x677001.length : Int) then ((spec_pzFits.f k x677000 x677001 x1).bind fun t679 => (spec_IsSolution.j1 k x1 (!t679) x677000 x677001)) else (spec_IsSolution.j1 k x1 true x677000 x677001))
def spec_IsSolution.j1 : Nat → List Int → Bool → List (S64) → List Int → Option (Bool × Bool)
 | 0, _, _, _, _ => none
 | k + 1, x1, x27, x677000, x677001 => if x27 = true then (some (false, true)) else ((spec_haTiles.f k x1).bind fun t680 => (spec_IsSolution.l0 k t680 (t680.length : Int) 0 x677000 x677001))
def spec_IsSolution.l0 : Nat → List (S64) → Int → Int → List (S64) → List Int → Option (Bool × Bool)
 | 0, _, _, _, _, _ => none
 | k + 1, x29, x30, x31, x677000, x677001 => if x31 < x30 then (if 0 ≤ x31 then (if x31 < (x29.length : Int) then ((spec_tiPlace.f k x677000 ((rd_T64 x29 x31).f0) ((rd_T64 x29 x31).f1)).bind fun t685 => (if t685 < 0 then (some (false, true)) else (spec_IsSolution.l0 k x29 x30 (wrap64 (x31 + 1)) x677000 x677001))) else (none)) else (none)) else (some (true, true))
end
def spec_IsSolution.f (k : Nat) (l0_0 : List (S64)) (l0_1 : List Int) (l1 : List Int) : Option (Bool × Bool) := (spec_pzGood.f k l0_0 l0_1).bind fun t677 => (if t677 = true then ((spec_haGood.f k l1).bind fun t678 => (spec_IsSolution.j0 k l1 (!t678) l0_0 l0_1)) else (spec_IsSolution.j0 k l1 true l0_0 l0_1))
end Go.Proofs.YtgdefohillhdoaaGreatDoor.QFnPuzzlesFilled
