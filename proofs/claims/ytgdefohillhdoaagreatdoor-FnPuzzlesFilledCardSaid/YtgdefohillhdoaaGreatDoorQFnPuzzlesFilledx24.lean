-- WRITTEN BY A PROGRAM OF THIS CLAIM'S AUTHOR (wprint.py)
import Derived.Test.YtgdefohillhdoaaGreatDoorQFnPuzzlesFilledx0
import Derived.Test.YtgdefohillhdoaaGreatDoorQFnPuzzlesFilledx3
import Derived.Test.YtgdefohillhdoaaGreatDoorQFnPuzzlesFilledx23
namespace Go.Proofs.YtgdefohillhdoaaGreatDoor.QFnPuzzlesFilled
open Go.RowKit Go.Proofs.YtgdefohillhdoaaGreatDoorW.PrintWords Go.Proofs.YtgdefohillhdoaaGreatDoorW.PrintLast Go.Proofs.YtgdefohillhdoaaGreatDoorW.PrintMore
attribute [local go_sem] max2_int min2_int max_two min_two max_three min_three max_four min_four   -- for this text's walks alone
set_option linter.unusedVariables false
set_option linter.unusedSimpArgs false

/-! ### spec_tiParse: function 110 -/
def spec_tiParse.l0 : Nat → List (S64) → List ByteArray → Int → Int → Option ((List (S64)) × Bool)
 | 0, _, _, _, _ => none
 | k + 1, x4, x13, x14, x15 => if x15 < x14 then (if 0 ≤ x15 then (if x15 < (x13.length : Int) then (if ((rdOf ByteArray.empty x13 x15).size : Int) = 2 then (if 0 < ((rdOf ByteArray.empty x13 x15).size : Int) then (if (bt (rdOf ByteArray.empty x13 x15) 0) < 48 then (some (([] : List (S64)), false)) else (if (bt (rdOf ByteArray.empty x13 x15) 0) > 57 then (some (([] : List (S64)), false)) else (if 1 < ((rdOf ByteArray.empty x13 x15).size : Int) then (if (bt (rdOf ByteArray.empty x13 x15) 1) < 48 then (some (([] : List (S64)), false)) else (if (bt (rdOf ByteArray.empty x13 x15) 1) > 57 then (some (([] : List (S64)), false)) else (if x4.length < 8796093022208 then (spec_tiParse.l0 k (x4 ++ [(⟨((bt (rdOf ByteArray.empty x13 x15) 0) - 48) % 256, ((bt (rdOf ByteArray.empty x13 x15) 1) - 48) % 256⟩ : S64)]) x13 x14 (wrap64 (x15 + 1))) else (none)))) else (none)))) else (none)) else (some (([] : List (S64)), false))) else (none)) else (none)) else ((spec_tiHand.f k x4).bind fun t730 => (if t730 = true then (some (x4, true)) else (some (([] : List (S64)), false))))
def spec_tiParse.f (k : Nat) (a0 : ByteArray) : Option ((List (S64)) × Bool) := if a0.toList = ([45] : List UInt8) then (some (([] : List (S64)), true)) else (if (a0.size : Int) > 165 then (some (([] : List (S64)), false)) else ((spec_l1Split.f k a0 44).bind fun t723 => (spec_tiParse.l0 k ([] : List (S64)) t723 (t723.length : Int) 0)))
end Go.Proofs.YtgdefohillhdoaaGreatDoor.QFnPuzzlesFilled
