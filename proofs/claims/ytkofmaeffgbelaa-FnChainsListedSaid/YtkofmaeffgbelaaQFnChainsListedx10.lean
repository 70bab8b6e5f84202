-- WRITTEN BY A PROGRAM OF THIS CLAIM'S AUTHOR (wprint.py)
import Derived.Test.YtkofmaeffgbelaaQFnChainsListedx0
import Derived.Test.YtkofmaeffgbelaaQFnChainsListedx1
import Derived.Test.YtkofmaeffgbelaaQFnChainsListedx6
import Derived.Test.YtkofmaeffgbelaaQFnChainsListedx9
namespace Go.Proofs.Ytkofmaeffgbelaa.QFnChainsListed
open Go.RowKit Go.Proofs.YtkofmaeffgbelaaW.PrintWords Go.Proofs.YtkofmaeffgbelaaW.PrintLast Go.Proofs.YtkofmaeffgbelaaW.PrintMore
attribute [local go_sem] max2_int min2_int max_two min_two max_three min_three max_four min_four   -- for this text's walks alone
set_option linter.unusedVariables false
set_option linter.unusedSimpArgs false

attribute [local go_sem high] eqA39
/-! ### impl_IsChain: function 15 -/
def impl_IsChain.f (k : Nat) (l0 : List Int) : Option (Bool) := if (l0.length : Int) > 0 then ((impl_areWithin.f l0 0 9).bind fun t340 => (if t340 = true then ((impl_tilesOf.f k l0).bind fun t341 => ((impl_areDifferent_impl_Tile.f k t341).bind fun t344 => (some t344))) else (some false))) else (some false)
/-! ### impl_TilesOfChain: function 16 -/
def impl_TilesOfChain.f (k : Nat) (l0 : List Int) : Option ((List (S39)) × Bool) := (impl_IsChain.f k l0).bind fun t345 => (if t345 = true then ((impl_tilesOf.f k l0).bind fun t346 => (some (t346, true))) else (some (([] : List (S39)), false)))
/-! ### laws_iIn: function 17 -/
def laws_iIn.l0 : Nat → List (S39) → Int → Int → Int → Int → Option (Bool)
 | 0, _, _, _, _, _ => none
 | k + 1, x7, x8, x9, x350000, x350001 => if x9 < x8 then (if 0 ≤ x9 then (if x9 < (x7.length : Int) then (if (((rd_T39 x7 x9).f0) == x350000 && (((rd_T39 x7 x9).f1) == x350001)) = true then (some true) else (laws_iIn.l0 k x7 x8 (wrap64 (x9 + 1)) x350000 x350001)) else (none)) else (none)) else (some false)
def laws_iIn.f (k : Nat) (l0 : List (S39)) (a1_0 : Int) (a1_1 : Int) : Option (Bool) := laws_iIn.l0 k l0 (l0.length : Int) 0 a1_0 a1_1
/-! ### laws_iLess: function 18 -/
mutual
def laws_iLess.l0 : Nat → List Int → List Int → Int → Option (Bool)
 | 0, _, _, _ => none
 | k + 1, x0, x1, x5 => if x5 < (x0.length : Int) then (laws_iLess.j1 k x0 x1 x5 (decide (x5 < (x1.length : Int)))) else (laws_iLess.j1 k x0 x1 x5 false)
def laws_iLess.j1 : Nat → List Int → List Int → Int → Bool → Option (Bool)
 | 0, _, _, _, _ => none
 | k + 1, x0, x1, x5, x15 => if x15 = true then (if 0 ≤ x5 then (if x5 < (x0.length : Int) then (if x5 < (x1.length : Int) then (if (rd x0 x5) = (rd x1 x5) then (laws_iLess.l0 k x0 x1 (wrap64 (x5 + 1))) else (some (decide ((rd x0 x5) < (rd x1 x5))))) else (none)) else (none)) else (none)) else (some (decide ((x0.length : Int) < (x1.length : Int))))
end
def laws_iLess.f (k : Nat) (l0 : List Int) (l1 : List Int) : Option (Bool) := laws_iLess.l0 k l0 l1 0
/-! ### slices_Reverse_int_int: function 58 -/
def slices_Reverse_int_int.l0 : Nat → List Int → Int → Int → Option (List Int)
 | 0, _, _, _ => none
 | k + 1, x0, x2, x3 => if x2 < x3 then (if 0 ≤ x3 then (if x3 < (x0.length : Int) then (if 0 ≤ x2 then (if x2 < (x0.length : Int) then (slices_Reverse_int_int.l0 k ((x0.set (x2 : Int).toNat (rd x0 x3)).set (x3 : Int).toNat (rd x0 x2)) (wrap64 (x2 + 1)) (wrap64 (x3 - 1))) else (none)) else (none)) else (none)) else (none)) else (some x0)
def slices_Reverse_int_int.f (k : Nat) (l0 : List Int) : Option (List Int) := slices_Reverse_int_int.l0 k l0 0 (wrap64 ((l0.length : Int) - 1))
/-! ### impl_turned: function 36 -/
def impl_turned.f (k : Nat) (l0 : List Int) : Option (List Int) := (slices_Clone_int_int.f l0).bind fun t360 => ((slices_Reverse_int_int.f k t360).bind fun t363 => (some t363))
/-! ### impl_TurnChain: function 19 -/
def impl_TurnChain.f (k : Nat) (l0 : List Int) : Option (List Int × Bool) := (impl_IsChain.f k l0).bind fun t364 => (if t364 = true then ((impl_turned.f k l0).bind fun t365 => (some (t365, true))) else (some (([] : List Int), false)))
end Go.Proofs.Ytkofmaeffgbelaa.QFnChainsListed
