-- WRITTEN BY A PROGRAM OF THIS CLAIM'S AUTHOR (wprint.py)
import Derived.Test.YtkofmaeffgbelaaQFnChainsListedx0
import Derived.Test.YtkofmaeffgbelaaQFnChainsListedx2
namespace Go.Proofs.Ytkofmaeffgbelaa.QFnChainsListed
open Go.RowKit Go.Proofs.YtkofmaeffgbelaaW.PrintWords Go.Proofs.YtkofmaeffgbelaaW.PrintLast Go.Proofs.YtkofmaeffgbelaaW.PrintMore
attribute [local go_sem] max2_int min2_int max_two min_two max_three min_three max_four min_four   -- for this text's walks alone
set_option linter.unusedVariables false
set_option linter.unusedSimpArgs false

/-! ### spec_l1Cur_hand: function 21 -/
def spec_l1Cur_hand.f (k : Nat) (s0_0 : List Int) (s0_1 : Int) (s0_2 : Int) (a1 : Int) (a2 : Int) : Option ((List (S39)) × Int × Int) := (spec_l1Cur_sureHand.f k s0_0 s0_1 s0_2 a1 a2).bind fun bt164 => ((spec_l1Cur_pick.f s0_0 bt164.2.1 bt164.2.2 18).bind fun bt169 => (if bt169.1 = 0 then ((spec_l1Cur_tile.f s0_0 bt169.2.1 bt169.2.2).bind fun bt172 => (if bt164.1.length < 8796093022208 then (some ((bt164.1 ++ [(⟨bt172.1, bt172.2.1⟩ : S39)]), bt172.2.2.1, bt172.2.2.2)) else (none))) else (if bt169.1 = 1 then (if (bt164.1.length : Int) > 0 then (if 0 < (bt164.1.length : Int) then (if bt164.1.length < 8796093022208 then (some ((bt164.1 ++ [(⟨(rd_T39 bt164.1 0).f0, (rd_T39 bt164.1 0).f1⟩ : S39)]), bt169.2.1, bt169.2.2)) else (none)) else (none)) else (some (bt164.1, bt169.2.1, bt169.2.2))) else (if bt169.1 = 2 then ((spec_l1Cur_pick.f s0_0 bt169.2.1 bt169.2.2 10).bind fun bt183 => ((spec_tiSet.f k bt183.1).bind fun t186 => (some (t186, bt183.2.1, bt183.2.2)))) else (if bt169.1 = 3 then ((spec_tiSet.f k 9).bind fun t189 => (if t189.length < 8796093022208 then (some ((t189 ++ [(⟨0, 0⟩ : S39)]), bt169.2.1, bt169.2.2)) else (none))) else (some (bt164.1, bt169.2.1, bt169.2.2)))))))
/-! ### spec_haTiles: function 41 -/
def spec_haTiles.l0 : Nat → List Int → List (S39) → Int → Option ((List (S39)))
 | 0, _, _, _ => none
 | k + 1, x0, x3, x4 => if x4 < (x0.length : Int) then (if 0 ≤ (wrap64 (x4 - 1)) then (if (wrap64 (x4 - 1)) < (x0.length : Int) then (if 0 ≤ x4 then ((spec_tiOf.f (rd x0 (wrap64 (x4 - 1))) (rd x0 x4)).bind fun bt197 => (if x3.length < 8796093022208 then (spec_haTiles.l0 k x0 (x3 ++ [(⟨bt197.1, bt197.2⟩ : S39)]) (wrap64 (x4 + 1))) else (none))) else (none)) else (none)) else (none)) else (some x3)
def spec_haTiles.f (k : Nat) (l0 : List Int) : Option ((List (S39))) := spec_haTiles.l0 k l0 ([] : List (S39)) 1
/-! ### spec_l1Own: function 63 -/
def spec_l1Own.f (l0 : List Int) : Option (List Int) := (some (([] : List Int) : List Int)).bind fun y202 => (if y202.length + l0.length < 17592186044416 then (some (y202 ++ l0)) else (none))
/-! ### spec_l1In: function 70 -/
def spec_l1In.f (a0 : Int) (a1 : Int) (a2 : Int) : Option (Bool) := if a0 ≥ a1 then (some (decide (a0 ≤ a2))) else (some false)
/-! ### spec_tiGood: function 66 -/
def spec_tiGood.f (a0_0 : Int) (a0_1 : Int) : Option (Bool) := (spec_l1In.f a0_0 0 a0_1).bind fun t209 => (if t209 = true then (some (decide (a0_1 ≤ 9))) else (some false))
end Go.Proofs.Ytkofmaeffgbelaa.QFnChainsListed
