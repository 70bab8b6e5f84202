-- WRITTEN BY A PROGRAM OF THIS CLAIM'S AUTHOR (wprint.py)
import Derived.Test.YtkaafmnfcbgafaaQFnHandsAsSetsx0
import Derived.Test.YtkaafmnfcbgafaaQFnHandsAsSetsx2
import Derived.Test.YtkaafmnfcbgafaaQFnHandsAsSetsx3
import Derived.Test.YtkaafmnfcbgafaaQFnHandsAsSetsx5
import Derived.Test.YtkaafmnfcbgafaaQFnHandsAsSetsx6
import Derived.Test.YtkaafmnfcbgafaaQFnHandsAsSetsx7
namespace Go.Proofs.Ytkaafmnfcbgafaa.QFnHandsAsSets
open Go.RowKit Go.Proofs.YtkaafmnfcbgafaaW.PrintWords Go.Proofs.YtkaafmnfcbgafaaW.PrintLast Go.Proofs.YtkaafmnfcbgafaaW.PrintMore
attribute [local go_sem] max2_int min2_int max_two min_two max_three min_three max_four min_four   -- for this text's walks alone
set_option linter.unusedVariables false
set_option linter.unusedSimpArgs false

/-! ### spec_MissingFrom: function 20 -/
def spec_MissingFrom.f (k : Nat) (l0 : List (S35)) (a1 : Int) : Option ((List (S35)) × Bool) := (spec_tiHand.f k l0).bind fun t375 => (if t375 = true then ((spec_tiNumber.f a1).bind fun t376 => (if t376 = true then ((spec_tiWithin.f k l0 a1).bind fun t377 => (if t377 = true then ((spec_tiPick.f k a1 l0 false).bind fun t378 => (some (t378, true))) else (some (([] : List (S35)), false)))) else (some (([] : List (S35)), false)))) else (some (([] : List (S35)), false)))
/-! ### impl_SetOf: function 21 -/
def impl_SetOf.f (k : Nat) (a0 : Int) : Option ((List (S35)) × Bool) := (impl_isNumber.f a0).bind fun t381 => (if t381 = true then ((impl_setOf.f k a0).bind fun t382 => (some (t382, true))) else (some (([] : List (S35)), false)))
/-! ### impl_CountSet: function 22 -/
def impl_CountSet.f (k : Nat) (a0 : Int) : Option (Int × Bool) := (impl_SetOf.f k a0).bind fun bt385 => (some ((bt385.1.length : Int), bt385.2))
/-! ### spec_DrawIsHand: function 51 -/
def spec_DrawIsHand.f (k : Nat) (l0 : List Int) : Option ((List (S35))) := (spec_l1Cur_hand.f k l0 0 0 10 6).bind fun bt390 => (some bt390.1)
/-! ### spec_DrawSortHand: function 23 -/
def spec_DrawSortHand.f (k : Nat) (l0 : List Int) : Option ((List (S35))) := (spec_DrawIsHand.f k l0).bind fun t395 => (some t395)
/-! ### spec_SortHand: function 24 -/
def spec_SortHand.f (k : Nat) (l0 : List (S35)) : Option ((List (S35)) × Bool) := (spec_tiHand.f k l0).bind fun t398 => (if t398 = true then ((spec_tiSort.f k l0).bind fun t399 => (some (t399, true))) else (some (([] : List (S35)), false)))
/-! ### spec_tiPips: function 52 -/
def spec_tiPips.l0 : Nat → Int → List (S35) → Int → Int → Option (Int)
 | 0, _, _, _, _ => none
 | k + 1, x3, x6, x7, x8 => if x8 < x7 then (if 0 ≤ x8 then (if x8 < (x6.length : Int) then (spec_tiPips.l0 k (wrap64 (x3 + (wrap64 (((rd_T35 x6 x8).f0) + ((rd_T35 x6 x8).f1))))) x6 x7 (wrap64 (x8 + 1))) else (none)) else (none)) else (some x3)
def spec_tiPips.f (k : Nat) (l0 : List (S35)) : Option (Int) := spec_tiPips.l0 k 0 l0 (l0.length : Int) 0
/-! ### spec_PipsOf: function 25 -/
def spec_PipsOf.f (k : Nat) (l0 : List (S35)) : Option (Int × Bool) := (spec_tiHand.f k l0).bind fun t404 => (if t404 = true then ((spec_tiPips.f k l0).bind fun t405 => (some (t405, true))) else (some (0, false)))
/-! ### spec_IsHand: function 26 -/
def spec_IsHand.f (k : Nat) (l0 : List (S35)) : Option (Bool) := (spec_tiHand.f k l0).bind fun t406 => (some t406)
end Go.Proofs.Ytkaafmnfcbgafaa.QFnHandsAsSets
