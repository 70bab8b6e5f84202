-- WRITTEN BY A PROGRAM OF THIS CLAIM'S AUTHOR (wprint.py)
import Derived.Test.YtfkonhamjnembaaGreatQFnPuzzlesMadex0
import Derived.Test.YtfkonhamjnembaaGreatQFnPuzzlesMadex4
import Derived.Test.YtfkonhamjnembaaGreatQFnPuzzlesMadex6
import Derived.Test.YtfkonhamjnembaaGreatQFnPuzzlesMadex22
namespace Go.Proofs.YtfkonhamjnembaaGreat.QFnPuzzlesMade
open Go.RowKit Go.Proofs.YtfkonhamjnembaaGreatW.PrintWords Go.Proofs.YtfkonhamjnembaaGreatW.PrintLast Go.Proofs.YtfkonhamjnembaaGreatW.PrintMore
attribute [local go_sem] max2_int min2_int max_two min_two max_three min_three max_four min_four   -- for this text's walks alone
set_option linter.unusedVariables false
set_option linter.unusedSimpArgs false

/-! ### impl_areDifferent_int: function 94 -/
def impl_areDifferent_int.l0 : Nat → List Int → List Int → Int → Int → Option (Bool)
 | 0, _, _, _, _ => none
 | k + 1, x0, x5, x6, x7 => if x7 < x6 then (if 0 ≤ x7 then (if x7 < (x5.length : Int) then (if x7 ≤ (x0.length : Int) then ((slices_Contains_int_int.f k (x0.take (x7 : Int).toNat) (rd x5 x7)).bind fun t778 => (if t778 = true then (some false) else (impl_areDifferent_int.l0 k x0 x5 x6 (wrap64 (x7 + 1))))) else (none)) else (none)) else (none)) else (some true)
def impl_areDifferent_int.f (k : Nat) (l0 : List Int) : Option (Bool) := impl_areDifferent_int.l0 k l0 l0 (l0.length : Int) 0
/-! ### impl_areNames: function 69 -/
def impl_areNames.f (k : Nat) (l0 : List Int) : Option (Bool) := if (l0.length : Int) = 10 then ((impl_areWithin.f l0 0 9).bind fun t779 => (if t779 = true then ((impl_areDifferent_int.f k l0).bind fun t780 => (some t780)) else (some false))) else (some false)
/-! ### impl_Tile_renamed: function 95 -/
def impl_Tile_renamed.f (a0_0 : Int) (a0_1 : Int) (l1 : List Int) : Option (Int × Int) := if 0 ≤ a0_0 then (if a0_0 < (l1.length : Int) then (if 0 ≤ a0_1 then (if a0_1 < (l1.length : Int) then ((impl_tile.f (rd l1 a0_0) (rd l1 a0_1)).bind fun bt785 => (some (bt785.1, bt785.2))) else (none)) else (none)) else (none)) else (none)
/-! ### impl_renamedHand: function 70 -/
def impl_renamedHand.l0 : Nat → List Int → List (S67) → List (S67) → Int → Int → Option ((List (S67)))
 | 0, _, _, _, _, _ => none
 | k + 1, x1, x5, x9, x10, x11 => if x11 < x10 then (if 0 ≤ x11 then (if x11 < (x9.length : Int) then ((impl_Tile_renamed.f ((rd_T67 x9 x11).f0) ((rd_T67 x9 x11).f1) x1).bind fun bt792 => (if x5.length < 8796093022208 then (impl_renamedHand.l0 k x1 (x5 ++ [(⟨bt792.1, bt792.2⟩ : S67)]) x9 x10 (wrap64 (x11 + 1))) else (none))) else (none)) else (none)) else ((impl_sorted.f x5).bind fun t797 => (some t797))
def impl_renamedHand.f (k : Nat) (l0 : List (S67)) (l1 : List Int) : Option ((List (S67))) := impl_renamedHand.l0 k l1 (([] : List (S67))) l0 (l0.length : Int) 0
end Go.Proofs.YtfkonhamjnembaaGreat.QFnPuzzlesMade
