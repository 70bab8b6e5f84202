-- WRITTEN BY A PROGRAM OF THIS CLAIM'S AUTHOR (wprint.py)
import Derived.Test.YtinocgaiheddaaaGreatDoorQFnNumbersOfHandsx0
import Derived.Test.YtinocgaiheddaaaGreatDoorQFnNumbersOfHandsx2
import Derived.Test.YtinocgaiheddaaaGreatDoorQFnNumbersOfHandsx4
import Derived.Test.YtinocgaiheddaaaGreatDoorQFnNumbersOfHandsx6
namespace Go.Proofs.YtinocgaiheddaaaGreatDoor.QFnNumbersOfHands
open Go.RowKit Go.Proofs.YtinocgaiheddaaaGreatDoorW.PrintWords Go.Proofs.YtinocgaiheddaaaGreatDoorW.PrintLast Go.Proofs.YtinocgaiheddaaaGreatDoorW.PrintMore
attribute [local go_sem] max2_int min2_int max_two min_two max_three min_three max_four min_four   -- for this text's walks alone
set_option linter.unusedVariables false
set_option linter.unusedSimpArgs false

/-! ### spec_RenameHand: function 7 -/
mutual
def spec_RenameHand.j0 : Nat → List (S43) → List Int → Bool → Option ((List (S43)) × Bool)
 | 0, _, _, _ => none
 | k + 1, x0, x1, x17 => if x17 = true then (some (([] : List (S43)), false)) else (spec_RenameHand.l0 k x0 x1 (x1.length : Int) 0)
def spec_RenameHand.l0 : Nat → List (S43) → List Int → Int → Int → Option ((List (S43)) × Bool)
 | 0, _, _, _, _ => none
 | k + 1, x0, x1, x19, x20 => if x20 < x19 then ((spec_l1Has.f k x1 x20).bind fun t314 => (if t314 = true then (spec_RenameHand.l0 k x0 x1 x19 (wrap64 (x20 + 1))) else (some (([] : List (S43)), false)))) else (spec_RenameHand.l1 k x1 ([] : List (S43)) x0 (x0.length : Int) 0)
def spec_RenameHand.l1 : Nat → List Int → List (S43) → List (S43) → Int → Int → Option ((List (S43)) × Bool)
 | 0, _, _, _, _, _ => none
 | k + 1, x1, x7, x28, x29, x30 => if x30 < x29 then (if 0 ≤ x30 then (if x30 < (x28.length : Int) then (if 0 ≤ ((rd_T43 x28 x30).f0) then (if ((rd_T43 x28 x30).f0) < (x1.length : Int) then (if 0 ≤ ((rd_T43 x28 x30).f1) then (if ((rd_T43 x28 x30).f1) < (x1.length : Int) then ((spec_tiOf.f (rd x1 ((rd_T43 x28 x30).f0)) (rd x1 ((rd_T43 x28 x30).f1))).bind fun bt319 => (if x7.length < 8796093022208 then (spec_RenameHand.l1 k x1 (x7 ++ [(⟨bt319.1, bt319.2⟩ : S43)]) x28 x29 (wrap64 (x30 + 1))) else (none))) else (none)) else (none)) else (none)) else (none)) else (none)) else (none)) else ((spec_tiSort.f k x7).bind fun t324 => (some (t324, true)))
end
def spec_RenameHand.f (k : Nat) (l0 : List (S43)) (l1 : List Int) : Option ((List (S43)) × Bool) := (spec_tiHand.f k l0).bind fun t313 => (if t313 = true then (spec_RenameHand.j0 k l0 l1 ((l1.length : Int) != 10)) else (spec_RenameHand.j0 k l0 l1 true))
/-! ### impl_bit: function 76 -/
def impl_bit.f (a0 : Bool) : Option (Int) := if a0 = true then (some 1) else (some 0)
/-! ### impl_times: function 46 -/
def impl_times.l0 : Nat → Int → Int → List (S43) → Int → Int → Option (Int)
 | 0, _, _, _, _, _ => none
 | k + 1, x1, x5, x8, x9, x10 => if x10 < x9 then (if 0 ≤ x10 then (if x10 < (x8.length : Int) then ((impl_bit.f (((rd_T43 x8 x10).f0) == x1)).bind fun t329 => ((impl_bit.f (((rd_T43 x8 x10).f1) == x1)).bind fun t330 => (impl_times.l0 k x1 (wrap64 (x5 + (wrap64 (t329 + t330)))) x8 x9 (wrap64 (x10 + 1))))) else (none)) else (none)) else (some x5)
def impl_times.f (k : Nat) (l0 : List (S43)) (a1 : Int) : Option (Int) := impl_times.l0 k a1 0 l0 (l0.length : Int) 0
/-! ### impl_numbers: function 36 -/
def impl_numbers.l0 : Nat → List (S43) → List Int → Int → Option (List Int)
 | 0, _, _, _ => none
 | k + 1, x0, x3, x6 => if x6 < 10 then ((impl_times.f k x0 x6).bind fun t334 => (if t334 > 0 then (if x3.length < 17592186044416 then (impl_numbers.l0 k x0 (x3 ++ [x6]) (wrap64 (x6 + 1))) else (none)) else (impl_numbers.l0 k x0 x3 (wrap64 (x6 + 1))))) else (some x3)
def impl_numbers.f (k : Nat) (l0 : List (S43)) : Option (List Int) := impl_numbers.l0 k l0 (([] : List Int)) 0
/-! ### impl_NumbersOf: function 8 -/
def impl_NumbersOf.f (k : Nat) (l0 : List (S43)) : Option (List Int × Bool) := (impl_IsHand.f k l0).bind fun t338 => (if t338 = true then ((impl_numbers.f k l0).bind fun t339 => (some (t339, true))) else (some (([] : List Int), false)))
end Go.Proofs.YtinocgaiheddaaaGreatDoor.QFnNumbersOfHands
