-- WRITTEN BY A PROGRAM OF THIS CLAIM'S AUTHOR (wprint.py)
import Derived.Test.YtkofmaeffgbelaaQFnChainsListedx0
import Derived.Test.YtkofmaeffgbelaaQFnChainsListedx2
import Derived.Test.YtkofmaeffgbelaaQFnChainsListedx3
namespace Go.Proofs.Ytkofmaeffgbelaa.QFnChainsListed
open Go.RowKit Go.Proofs.YtkofmaeffgbelaaW.PrintWords Go.Proofs.YtkofmaeffgbelaaW.PrintLast Go.Proofs.YtkofmaeffgbelaaW.PrintMore
attribute [local go_sem] max2_int min2_int max_two min_two max_three min_three max_four min_four   -- for this text's walks alone
set_option linter.unusedVariables false
set_option linter.unusedSimpArgs false

/-! ### spec_tiHand: function 50 -/
def spec_tiHand.l0 : Nat → List (S39) → List (S39) → Int → Int → Option (Bool)
 | 0, _, _, _, _ => none
 | k + 1, x0, x8, x9, x10 => if x10 < x9 then (if 0 ≤ x10 then (if x10 < (x8.length : Int) then ((spec_tiGood.f ((rd_T39 x8 x10).f0) ((rd_T39 x8 x10).f1)).bind fun t212 => (if t212 = true then (if x10 ≤ (x0.length : Int) then ((spec_tiPlace.f k (x0.take (x10 : Int).toNat) ((rd_T39 x8 x10).f0) ((rd_T39 x8 x10).f1)).bind fun t217 => (if t217 ≥ 0 then (some false) else (spec_tiHand.l0 k x0 x8 x9 (wrap64 (x10 + 1))))) else (none)) else (some false))) else (none)) else (none)) else (some true)
def spec_tiHand.f (k : Nat) (l0 : List (S39)) : Option (Bool) := if (l0.length : Int) > 55 then (some false) else (spec_tiHand.l0 k l0 l0 (l0.length : Int) 0)
/-! ### spec_l1All: function 71 -/
def spec_l1All.l0 : Nat → Int → Int → List Int → Int → Int → Option (Bool)
 | 0, _, _, _, _, _ => none
 | k + 1, x1, x2, x9, x10, x11 => if x11 < x10 then (if 0 ≤ x11 then (if x11 < (x9.length : Int) then ((spec_l1In.f (rd x9 x11) x1 x2).bind fun t219 => (if t219 = true then (spec_l1All.l0 k x1 x2 x9 x10 (wrap64 (x11 + 1))) else (some false))) else (none)) else (none)) else (some true)
def spec_l1All.f (k : Nat) (l0 : List Int) (a1 : Int) (a2 : Int) : Option (Bool) := spec_l1All.l0 k a1 a2 l0 (l0.length : Int) 0
/-! ### spec_haGood: function 64 -/
def spec_haGood.f (k : Nat) (l0 : List Int) : Option (Bool) := (spec_l1In.f (l0.length : Int) 1 56).bind fun t220 => (if t220 = true then ((spec_l1All.f k l0 0 9).bind fun t221 => (if t221 = true then ((spec_haTiles.f k l0).bind fun t222 => ((spec_tiHand.f k t222).bind fun t225 => (some t225))) else (some false))) else (some false))
end Go.Proofs.Ytkofmaeffgbelaa.QFnChainsListed
