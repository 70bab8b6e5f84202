-- WRITTEN BY A PROGRAM OF THIS CLAIM'S AUTHOR (wprint.py)
import Derived.Test.YtgdefohillhdoaaGreatDoorQFnPuzzlesFilledx0
import Derived.Test.YtgdefohillhdoaaGreatDoorQFnPuzzlesFilledx8
import Derived.Test.YtgdefohillhdoaaGreatDoorQFnPuzzlesFilledx9
import Derived.Test.YtgdefohillhdoaaGreatDoorQFnPuzzlesFilledx10
import Derived.Test.YtgdefohillhdoaaGreatDoorQFnPuzzlesFilledx11
namespace Go.Proofs.YtgdefohillhdoaaGreatDoor.QFnPuzzlesFilled
open Go.RowKit Go.Proofs.YtgdefohillhdoaaGreatDoorW.PrintWords Go.Proofs.YtgdefohillhdoaaGreatDoorW.PrintLast Go.Proofs.YtgdefohillhdoaaGreatDoorW.PrintMore
attribute [local go_sem] max2_int min2_int max_two min_two max_three min_three max_four min_four   -- for this text's walks alone
set_option linter.unusedVariables false
set_option linter.unusedSimpArgs false

/-! ### spec_pzAll: function 65, by hand -/

mutual
def g107_spec_pzLook.l0 : Nat → List Int → List (S64) → List (List Int) → List (S64) → List Int → Int → Option (List (List Int))
 | 0, _, _, _, _, _, _ => none
 | k + 1, x1, x2, y0, y1, y2, x8 => if x8 ≤ 9 then (if 0 ≤ (x1.length : Int) then (if (x1.length : Int) < (y2.length : Int) then (if (rd y2 (x1.length : Int)) ≥ 0 then (if (rd y2 (x1.length : Int)) = x8 then (if (x1.length : Int) = 0 then ((spec_tiTimes.f k x2 x8).bind fun b2 => (if b2 > 0 then ((g107_spec_pzLook.f k y1 y2 ([x8]) x2 y0).bind fun b3 => (g107_spec_pzLook.j0 k x1 x2 b3 y1 y2 x8)) else (g107_spec_pzLook.j0 k x1 x2 y0 y1 y2 x8))) else (if 0 ≤ (wrap64 ((x1.length : Int) - 1)) then (if (wrap64 ((x1.length : Int) - 1)) < (x1.length : Int) then ((spec_tiOf.f (rd x1 (wrap64 ((x1.length : Int) - 1))) x8).bind fun b4 => ((spec_tiPlace.f k x2 b4.1 b4.2).bind fun b5 => (if b5 ≥ 0 then ((spec_l1Own.f x1).bind fun b6 => (if b6.length < 17592186044416 then ((spec_tiThose.f k x2 ([(⟨b4.1, b4.2⟩ : S64)]) false).bind fun b7 => ((g107_spec_pzLook.f k y1 y2 (b6 ++ ([x8])) b7 y0).bind fun b8 => (g107_spec_pzLook.j0 k x1 x2 b8 y1 y2 x8))) else (none))) else (g107_spec_pzLook.j0 k x1 x2 y0 y1 y2 x8)))) else (none)) else (none))) else (g107_spec_pzLook.j0 k x1 x2 y0 y1 y2 x8)) else (if (x1.length : Int) = 0 then ((spec_tiTimes.f k x2 x8).bind fun b9 => (if b9 > 0 then ((g107_spec_pzLook.f k y1 y2 ([x8]) x2 y0).bind fun b10 => (g107_spec_pzLook.j0 k x1 x2 b10 y1 y2 x8)) else (g107_spec_pzLook.j0 k x1 x2 y0 y1 y2 x8))) else (if 0 ≤ (wrap64 ((x1.length : Int) - 1)) then (if (wrap64 ((x1.length : Int) - 1)) < (x1.length : Int) then ((spec_tiOf.f (rd x1 (wrap64 ((x1.length : Int) - 1))) x8).bind fun b11 => ((spec_tiPlace.f k x2 b11.1 b11.2).bind fun b12 => (if b12 ≥ 0 then ((spec_l1Own.f x1).bind fun b13 => (if b13.length < 17592186044416 then ((spec_tiThose.f k x2 ([(⟨b11.1, b11.2⟩ : S64)]) false).bind fun b14 => ((g107_spec_pzLook.f k y1 y2 (b13 ++ ([x8])) b14 y0).bind fun b15 => (g107_spec_pzLook.j0 k x1 x2 b15 y1 y2 x8))) else (none))) else (g107_spec_pzLook.j0 k x1 x2 y0 y1 y2 x8)))) else (none)) else (none)))) else (none)) else (none)) else (some (y0))
def g107_spec_pzLook.j0 : Nat → List Int → List (S64) → List (List Int) → List (S64) → List Int → Int → Option (List (List Int))
 | 0, _, _, _, _, _, _ => none
 | k + 1, x1, x2, y0, y1, y2, x8 => g107_spec_pzLook.l0 k x1 x2 y0 y1 y2 (wrap64 (x8 + 1))
def g107_spec_pzLook.f : Nat → List (S64) → List Int → List Int → List (S64) → List (List Int) → Option (List (List Int))
 | 0, _, _, _, _, _ => none
 | k + 1, l0, l1, l2, l3, l4 => if (l4.length : Int) > 200 then (some (l4)) else (if (l2.length : Int) = (l1.length : Int) then ((spec_l1Own.f l2).bind fun b1 => (if l4.length < 5864062014805 then (some ((l4 ++ ([b1])))) else (none))) else (g107_spec_pzLook.l0 k l2 l3 l4 l0 l1 0))
end
def spec_pzAll.f (k : Nat) (l0 : List (S64)) (l1 : List Int) : Option (List (List Int) × Bool) := (g107_spec_pzLook.f k l0 l1 ([]) l0 ([])).bind fun b1 => (some (b1, (decide ((b1.length : Int) ≤ 200))))


/-! ### spec_pzAsked: function 36 -/
def spec_pzAsked.f (k : Nat) (l0_0 : List (S64)) (l0_1 : List Int) : Option ((List (List Int)) × Bool) := (spec_pzGood.f k l0_0 l0_1).bind fun t385 => (if t385 = true then ((spec_pzAll.f k l0_0 l0_1).bind fun bt386 => (some (bt386.1, bt386.2))) else (some (([] : List (List Int)), false)))
/-! ### spec_Solutions: function 7 -/
def spec_Solutions.f (k : Nat) (l0_0 : List (S64)) (l0_1 : List Int) : Option ((List (List Int)) × Bool) := (spec_pzAsked.f k l0_0 l0_1).bind fun bt391 => (if bt391.2 = true then (some (bt391.1, true)) else (some (([] : List (List Int)), false)))
/-! ### impl_CountSolutions: function 8 -/
def impl_CountSolutions.f (k : Nat) (l0_0 : List (S64)) (l0_1 : List Int) : Option (Int × Bool) := (impl_Solutions.f k l0_0 l0_1).bind fun bt396 => (some ((bt396.1.length : Int), bt396.2))
/-! ### spec_CountSolutions: function 9 -/
def spec_CountSolutions.f (k : Nat) (l0_0 : List (S64)) (l0_1 : List Int) : Option (Int × Bool) := (spec_pzAsked.f k l0_0 l0_1).bind fun bt401 => (if bt401.2 = true then (some ((bt401.1.length : Int), true)) else (some (0, false)))
/-! ### impl_FirstSolution: function 10 -/
def impl_FirstSolution.f (k : Nat) (l0_0 : List (S64)) (l0_1 : List Int) : Option (List Int × Bool) := (impl_Solutions.f k l0_0 l0_1).bind fun bt406 => (if (bt406.1.length : Int) = 0 then (some (([] : List Int), false)) else (if 0 < (bt406.1.length : Int) then (some (rd_L4 bt406.1 0, true)) else (none)))
/-! ### spec_FirstSolution: function 11 -/
def spec_FirstSolution.f (k : Nat) (l0_0 : List (S64)) (l0_1 : List Int) : Option (List Int × Bool) := (spec_pzAsked.f k l0_0 l0_1).bind fun bt412 => (if bt412.2 = true then (if (bt412.1.length : Int) = 0 then (some (([] : List Int), false)) else (if 0 < (bt412.1.length : Int) then (some (rd_L4 bt412.1 0, true)) else (none))) else (some (([] : List Int), false)))
/-! ### impl_SureNumbers: function 12 -/
mutual
def impl_SureNumbers.l0 : Nat → List (List Int) → List Int → List (List Int) → Int → Int → Option (List Int × Bool)
 | 0, _, _, _, _, _ => none
 | k + 1, x4, x6, x23, x24, x25 => if x25 < x24 then (if 0 ≤ x25 then (if x25 < (x23.length : Int) then (impl_SureNumbers.l1 k x4 x6 x23 x24 x25 (rd_L4 x23 x25) ((rd_L4 x23 x25).length : Int) 0) else (none)) else (none)) else (some (x6, true))
def impl_SureNumbers.l1 : Nat → List (List Int) → List Int → List (List Int) → Int → Int → List Int → Int → Int → Option (List Int × Bool)
 | 0, _, _, _, _, _, _, _, _ => none
 | k + 1, x4, x6, x23, x24, x25, x29, x30, x31 => if x31 < x30 then (if 0 ≤ x31 then (if x31 < (x29.length : Int) then (if 0 < (x4.length : Int) then (if x31 < ((rd_L4 x4 0).length : Int) then (if (rd x29 x31) = (rd (rd_L4 x4 0) x31) then (impl_SureNumbers.l1 k x4 x6 x23 x24 x25 x29 x30 (wrap64 (x31 + 1))) else (if x31 < (x6.length : Int) then (impl_SureNumbers.l1 k x4 (x6.set (x31 : Int).toNat (-1)) x23 x24 x25 x29 x30 (wrap64 (x31 + 1))) else (none))) else (none)) else (none)) else (none)) else (none)) else (impl_SureNumbers.l0 k x4 x6 x23 x24 (wrap64 (x25 + 1)))
end
def impl_SureNumbers.f (k : Nat) (l0_0 : List (S64)) (l0_1 : List Int) : Option (List Int × Bool) := (impl_Solutions.f k l0_0 l0_1).bind fun bt418 => (if (bt418.1.length : Int) = 0 then (some (([] : List Int), false)) else (if 0 < (bt418.1.length : Int) then ((slices_Clone_int_int.f (rd_L4 bt418.1 0)).bind fun t423 => (impl_SureNumbers.l0 k bt418.1 t423 bt418.1 (bt418.1.length : Int) 0)) else (none)))
end Go.Proofs.YtgdefohillhdoaaGreatDoor.QFnPuzzlesFilled
