-- WRITTEN BY A PROGRAM OF THIS CLAIM'S AUTHOR (wprint.py)
import Derived.Test.YtgdefohillhdoaaGreatDoorQFnPuzzlesFilledx0
namespace Go.Proofs.YtgdefohillhdoaaGreatDoor.QFnPuzzlesFilled
open Go.RowKit Go.Proofs.YtgdefohillhdoaaGreatDoorW.PrintWords Go.Proofs.YtgdefohillhdoaaGreatDoorW.PrintLast Go.Proofs.YtgdefohillhdoaaGreatDoorW.PrintMore
attribute [local go_sem] max2_int min2_int max_two min_two max_three min_three max_four min_four   -- for this text's walks alone
set_option linter.unusedVariables false
set_option linter.unusedSimpArgs false

/-! ### spec_l1Num: function 87 -/
mutual
def spec_l1Num.f : Nat → Int → Option (ByteArray)
 | 0, _ => none
 | k + 1, a0 => if a0 < 10 then (some ((strOfNums ([(((wrap64 (48 + a0))) % 256)])))) else ((spec_l1Num.f k (wrap64 (Int.tdiv a0 10))).bind fun b1 => (if b1.size + (strOfNums ([(((wrap64 (48 + (Int.tmod a0 10)))) % 256)])).size ≤ 9223372036854775807 then (some ((b1 ++ (strOfNums ([(((wrap64 (48 + (Int.tmod a0 10)))) % 256)]))))) else (none)))
end

/-! ### spec_tiText: function 86 -/
def spec_tiText.l0 : Nat → ByteArray → List (S64) → Int → Int → Option (ByteArray)
 | 0, _, _, _, _ => none
 | k + 1, x3, x9, x10, x11 => if x11 < x10 then (if 0 ≤ x11 then (if x11 < (x9.length : Int) then (if x11 > 0 then (if x3.size + 1 ≤ 9223372036854775807 then ((spec_l1Num.f k ((rd_T64 x9 x11).f0)).bind fun t508 => ((spec_l1Num.f k ((rd_T64 x9 x11).f1)).bind fun t509 => (if t508.size + t509.size ≤ 9223372036854775807 then (if (x3 ++ (⟨#[44]⟩ : ByteArray)).size + (t508 ++ t509).size ≤ 9223372036854775807 then (spec_tiText.l0 k ((x3 ++ (⟨#[44]⟩ : ByteArray)) ++ (t508 ++ t509)) x9 x10 (wrap64 (x11 + 1))) else (none)) else (none)))) else (none)) else ((spec_l1Num.f k ((rd_T64 x9 x11).f0)).bind fun t510 => ((spec_l1Num.f k ((rd_T64 x9 x11).f1)).bind fun t511 => (if t510.size + t511.size ≤ 9223372036854775807 then (if x3.size + (t510 ++ t511).size ≤ 9223372036854775807 then (spec_tiText.l0 k (x3 ++ (t510 ++ t511)) x9 x10 (wrap64 (x11 + 1))) else (none)) else (none))))) else (none)) else (none)) else (some x3)
def spec_tiText.f (k : Nat) (l0 : List (S64)) : Option (ByteArray) := if (l0.length : Int) = 0 then (some (⟨#[45]⟩ : ByteArray)) else (spec_tiText.l0 k (⟨#[]⟩ : ByteArray) l0 (l0.length : Int) 0)
end Go.Proofs.YtgdefohillhdoaaGreatDoor.QFnPuzzlesFilled
