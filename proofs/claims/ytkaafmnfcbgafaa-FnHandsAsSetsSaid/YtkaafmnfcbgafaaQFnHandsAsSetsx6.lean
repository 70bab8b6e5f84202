-- WRITTEN BY A PROGRAM OF THIS CLAIM'S AUTHOR (wprint.py)
import Derived.Test.YtkaafmnfcbgafaaQFnHandsAsSetsx0
import Derived.Test.YtkaafmnfcbgafaaQFnHandsAsSetsx1
import Derived.Test.YtkaafmnfcbgafaaQFnHandsAsSetsx2
import Derived.Test.YtkaafmnfcbgafaaQFnHandsAsSetsx5
namespace Go.Proofs.Ytkaafmnfcbgafaa.QFnHandsAsSets
open Go.RowKit Go.Proofs.YtkaafmnfcbgafaaW.PrintWords Go.Proofs.YtkaafmnfcbgafaaW.PrintLast Go.Proofs.YtkaafmnfcbgafaaW.PrintMore
attribute [local go_sem] max2_int min2_int max_two min_two max_three min_three max_four min_four   -- for this text's walks alone
set_option linter.unusedVariables false
set_option linter.unusedSimpArgs false

attribute [local go_sem high] eqA35
/-! ### spec_tiPick: function 50 -/
def spec_tiPick.l0 : Nat → List (S35) → Bool → List (S35) → List (S35) → Int → Int → Option ((List (S35)))
 | 0, _, _, _, _, _, _ => none
 | k + 1, x1, x2, x7, x11, x12, x13 => if x13 < x12 then (if 0 ≤ x13 then (if x13 < (x11.length : Int) then ((spec_tiPlace.f k x1 ((rd_T35 x11 x13).f0) ((rd_T35 x11 x13).f1)).bind fun t271 => (if ((decide (t271 ≥ 0)) == x2) = true then (if x7.length < 8796093022208 then (spec_tiPick.l0 k x1 x2 (x7 ++ [(⟨(rd_T35 x11 x13).f0, (rd_T35 x11 x13).f1⟩ : S35)]) x11 x12 (wrap64 (x13 + 1))) else (none)) else (spec_tiPick.l0 k x1 x2 x7 x11 x12 (wrap64 (x13 + 1))))) else (none)) else (none)) else (some x7)
def spec_tiPick.f (k : Nat) (a0 : Int) (l1 : List (S35)) (a2 : Bool) : Option ((List (S35))) := (spec_tiSet.f k a0).bind fun t266 => (spec_tiPick.l0 k l1 a2 ([] : List (S35)) t266 (t266.length : Int) 0)
/-! ### spec_tiSort: function 32 -/
def spec_tiSort.f (k : Nat) (l0 : List (S35)) : Option ((List (S35))) := (spec_tiPick.f k 9 l0 true).bind fun t275 => (some t275)
/-! ### spec_JoinHands: function 7 -/
def spec_JoinHands.f (k : Nat) (l0 : List (S35)) (l1 : List (S35)) : Option ((List (S35)) × Bool) := (spec_tiHand.f k l0).bind fun t278 => (if t278 = true then ((spec_tiHand.f k l1).bind fun t279 => (if t279 = true then ((some (([] : List (S35)) : List (S35))).bind fun y280 => (if y280.length + l0.length < 8796093022208 then ((some (y280 ++ l0 : List (S35))).bind fun y283 => (if y283.length + l1.length < 8796093022208 then ((spec_tiSort.f k (y283 ++ l1)).bind fun t289 => (some (t289, true))) else (none))) else (none))) else (some (([] : List (S35)), false)))) else (some (([] : List (S35)), false)))
/-! ### spec_tiThose: function 36 -/
def spec_tiThose.l0 : Nat → List (S35) → Bool → List (S35) → List (S35) → Int → Int → Option ((List (S35)))
 | 0, _, _, _, _, _, _ => none
 | k + 1, x1, x2, x7, x11, x12, x13 => if x13 < x12 then (if 0 ≤ x13 then (if x13 < (x11.length : Int) then ((spec_tiPlace.f k x1 ((rd_T35 x11 x13).f0) ((rd_T35 x11 x13).f1)).bind fun t297 => (if ((decide (t297 ≥ 0)) == x2) = true then (if x7.length < 8796093022208 then (spec_tiThose.l0 k x1 x2 (x7 ++ [(⟨(rd_T35 x11 x13).f0, (rd_T35 x11 x13).f1⟩ : S35)]) x11 x12 (wrap64 (x13 + 1))) else (none)) else (spec_tiThose.l0 k x1 x2 x7 x11 x12 (wrap64 (x13 + 1))))) else (none)) else (none)) else (some x7)
def spec_tiThose.f (k : Nat) (l0 : List (S35)) (l1 : List (S35)) (a2 : Bool) : Option ((List (S35))) := (spec_tiSort.f k l0).bind fun t292 => (spec_tiThose.l0 k l1 a2 ([] : List (S35)) t292 (t292.length : Int) 0)
/-! ### spec_BothHands: function 9 -/
def spec_BothHands.f (k : Nat) (l0 : List (S35)) (l1 : List (S35)) : Option ((List (S35)) × Bool) := (spec_tiHand.f k l0).bind fun t301 => (if t301 = true then ((spec_tiHand.f k l1).bind fun t302 => (if t302 = true then ((spec_tiThose.f k l0 l1 true).bind fun t303 => (some (t303, true))) else (some (([] : List (S35)), false)))) else (some (([] : List (S35)), false)))
/-! ### spec_LessHand: function 11 -/
def spec_LessHand.f (k : Nat) (l0 : List (S35)) (l1 : List (S35)) : Option ((List (S35)) × Bool) := (spec_tiHand.f k l0).bind fun t308 => (if t308 = true then ((spec_tiHand.f k l1).bind fun t309 => (if t309 = true then ((spec_tiThose.f k l0 l1 false).bind fun t310 => (some (t310, true))) else (some (([] : List (S35)), false)))) else (some (([] : List (S35)), false)))
/-! ### laws_mTiles: function 12 -/
def laws_mTiles.l0 : Nat → List (S35) → List (S35) → Int → Int → Option (Bool)
 | 0, _, _, _, _ => none
 | k + 1, x0, x1, x12, x13 => if x13 < x12 then (if 0 ≤ x13 then (if x13 < (x0.length : Int) then (if x13 < (x1.length : Int) then (if (!(((rd_T35 x0 x13).f0) == ((rd_T35 x1 x13).f0)) || (!(((rd_T35 x0 x13).f1) == ((rd_T35 x1 x13).f1)))) = true then (some false) else (laws_mTiles.l0 k x0 x1 x12 (wrap64 (x13 + 1)))) else (none)) else (none)) else (none)) else (some true)
def laws_mTiles.f (k : Nat) (l0 : List (S35)) (l1 : List (S35)) : Option (Bool) := if (l0.length : Int) = (l1.length : Int) then (laws_mTiles.l0 k l0 l1 (l0.length : Int) 0) else (some false)
/-! ### impl_pips: function 42 -/
def impl_pips.l0 : Nat → Int → List (S35) → Int → Int → Option (Int)
 | 0, _, _, _, _ => none
 | k + 1, x3, x6, x7, x8 => if x8 < x7 then (if 0 ≤ x8 then (if x8 < (x6.length : Int) then (impl_pips.l0 k (wrap64 (x3 + (wrap64 (((rd_T35 x6 x8).f0) + ((rd_T35 x6 x8).f1))))) x6 x7 (wrap64 (x8 + 1))) else (none)) else (none)) else (some x3)
def impl_pips.f (k : Nat) (l0 : List (S35)) : Option (Int) := impl_pips.l0 k 0 l0 (l0.length : Int) 0
end Go.Proofs.Ytkaafmnfcbgafaa.QFnHandsAsSets
