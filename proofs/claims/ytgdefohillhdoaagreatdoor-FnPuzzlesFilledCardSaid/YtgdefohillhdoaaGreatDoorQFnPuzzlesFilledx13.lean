-- WRITTEN BY A PROGRAM OF THIS CLAIM'S AUTHOR (wprint.py)
import Derived.Test.YtgdefohillhdoaaGreatDoorQFnPuzzlesFilledx0
import Derived.Test.YtgdefohillhdoaaGreatDoorQFnPuzzlesFilledx3
import Derived.Test.YtgdefohillhdoaaGreatDoorQFnPuzzlesFilledx12
namespace Go.Proofs.YtgdefohillhdoaaGreatDoor.QFnPuzzlesFilled
open Go.RowKit Go.Proofs.YtgdefohillhdoaaGreatDoorW.PrintWords Go.Proofs.YtgdefohillhdoaaGreatDoorW.PrintLast Go.Proofs.YtgdefohillhdoaaGreatDoorW.PrintMore
attribute [local go_sem] max2_int min2_int max_two min_two max_three min_three max_four min_four   -- for this text's walks alone
set_option linter.unusedVariables false
set_option linter.unusedSimpArgs false

/-! ### spec_pzSure: function 38 -/
mutual
def spec_pzSure.l0 : Nat → List Int → List (List Int) → Int → Int → Option (List Int)
 | 0, _, _, _, _ => none
 | k + 1, x3, x12, x13, x14 => if x14 < x13 then (if 0 ≤ x14 then (if x14 < (x12.length : Int) then (spec_pzSure.l1 k x3 x12 x13 x14 (rd_L4 x12 x14) ((rd_L4 x12 x14).length : Int) 0) else (none)) else (none)) else (some x3)
def spec_pzSure.l1 : Nat → List Int → List (List Int) → Int → Int → List Int → Int → Int → Option (List Int)
 | 0, _, _, _, _, _, _, _ => none
 | k + 1, x3, x12, x13, x14, x18, x19, x20 => if x20 < x19 then (if 0 ≤ x20 then (if x20 < (x18.length : Int) then (if x20 < (x3.length : Int) then (if (rd x3 x20) = (rd x18 x20) then (spec_pzSure.l1 k x3 x12 x13 x14 x18 x19 (wrap64 (x20 + 1))) else (spec_pzSure.l1 k (x3.set (x20 : Int).toNat (-1)) x12 x13 x14 x18 x19 (wrap64 (x20 + 1)))) else (none)) else (none)) else (none)) else (spec_pzSure.l0 k x3 x12 x13 (wrap64 (x14 + 1)))
end
def spec_pzSure.f (k : Nat) (l0 : List (List Int)) : Option (List Int) := if 0 < (l0.length : Int) then ((spec_l1Own.f (rd_L4 l0 0)).bind fun t432 => (spec_pzSure.l0 k t432 l0 (l0.length : Int) 0)) else (none)
/-! ### spec_SureNumbers: function 13 -/
def spec_SureNumbers.f (k : Nat) (l0_0 : List (S64)) (l0_1 : List Int) : Option (List Int × Bool) := (spec_pzAsked.f k l0_0 l0_1).bind fun bt440 => (if bt440.2 = true then (if (bt440.1.length : Int) = 0 then (some (([] : List Int), false)) else ((spec_pzSure.f k bt440.1).bind fun t444 => (some (t444, true)))) else (some (([] : List Int), false)))
/-! ### impl_HintOf: function 14 -/
def impl_HintOf.l0 : Nat → List Int → Int → Int → List (S64) → List Int → Option (Int × Int × Bool)
 | 0, _, _, _, _, _ => none
 | k + 1, x14, x15, x16, x448000, x448001 => if x16 < x15 then (if 0 ≤ x16 then (if x16 < (x14.length : Int) then (if (rd x14 x16) = (-1) then (impl_HintOf.l0 k x14 x15 (wrap64 (x16 + 1)) x448000 x448001) else (if x16 < (x448001.length : Int) then (if (rd x448001 x16) = (-1) then (some (x16, rd x14 x16, true)) else (impl_HintOf.l0 k x14 x15 (wrap64 (x16 + 1)) x448000 x448001)) else (none))) else (none)) else (none)) else (some (0, 0, false))
def impl_HintOf.f (k : Nat) (l0_0 : List (S64)) (l0_1 : List Int) : Option (Int × Int × Bool) := (impl_SureNumbers.f k l0_0 l0_1).bind fun bt448 => (impl_HintOf.l0 k bt448.1 (bt448.1.length : Int) 0 l0_0 l0_1)
/-! ### spec_HintOf: function 15 -/
mutual
def spec_HintOf.j0 : Nat → List (List Int) → Bool → List (S64) → List Int → Option (Int × Int × Bool)
 | 0, _, _, _, _ => none
 | k + 1, x5, x20, x455000, x455001 => if x20 = true then (some (0, 0, false)) else ((spec_pzSure.f k x5).bind fun t459 => (spec_HintOf.l0 k t459 (t459.length : Int) 0 x455000 x455001))
def spec_HintOf.l0 : Nat → List Int → Int → Int → List (S64) → List Int → Option (Int × Int × Bool)
 | 0, _, _, _, _, _ => none
 | k + 1, x22, x23, x24, x455000, x455001 => if x24 < x23 then (if 0 ≤ x24 then (if x24 < (x22.length : Int) then (if x24 < (x455001.length : Int) then (if (rd x455001 x24) < 0 then (if (rd x22 x24) ≥ 0 then (some (x24, rd x22 x24, true)) else (spec_HintOf.l0 k x22 x23 (wrap64 (x24 + 1)) x455000 x455001)) else (spec_HintOf.l0 k x22 x23 (wrap64 (x24 + 1)) x455000 x455001)) else (none)) else (none)) else (none)) else (some (0, 0, false))
end
def spec_HintOf.f (k : Nat) (l0_0 : List (S64)) (l0_1 : List Int) : Option (Int × Int × Bool) := (spec_pzAsked.f k l0_0 l0_1).bind fun bt455 => (if bt455.2 = true then (spec_HintOf.j0 k bt455.1 ((bt455.1.length : Int) == 0) l0_0 l0_1) else (spec_HintOf.j0 k bt455.1 true l0_0 l0_1))
/-! ### impl_bit: function 39 -/
def impl_bit.f (a0 : Bool) : Option (Int) := if a0 = true then (some 1) else (some 0)
end Go.Proofs.YtgdefohillhdoaaGreatDoor.QFnPuzzlesFilled
