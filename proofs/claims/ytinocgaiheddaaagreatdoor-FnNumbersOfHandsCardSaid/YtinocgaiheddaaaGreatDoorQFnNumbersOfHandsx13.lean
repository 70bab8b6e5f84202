-- WRITTEN BY A PROGRAM OF THIS CLAIM'S AUTHOR (wprint.py)
import Derived.Test.YtinocgaiheddaaaGreatDoorQFnNumbersOfHandsx0
import Derived.Test.YtinocgaiheddaaaGreatDoorQFnNumbersOfHandsx6
namespace Go.Proofs.YtinocgaiheddaaaGreatDoor.QFnNumbersOfHands
open Go.RowKit Go.Proofs.YtinocgaiheddaaaGreatDoorW.PrintWords Go.Proofs.YtinocgaiheddaaaGreatDoorW.PrintLast Go.Proofs.YtinocgaiheddaaaGreatDoorW.PrintMore
attribute [local go_sem] max2_int min2_int max_two min_two max_three min_three max_four min_four   -- for this text's walks alone
set_option linter.unusedVariables false
set_option linter.unusedSimpArgs false

/-! ### spec_l1Split: function 82 -/
def spec_l1Split.l0 : Nat → ByteArray → Int → List ByteArray → Int → Int → Option (List ByteArray)
 | 0, _, _, _, _, _ => none
 | k + 1, x0, x1, x5, x6, x7 => if x7 < (x0.size : Int) then (if 0 ≤ x7 then (if (bt x0 x7) = x1 then (if 0 ≤ x6 then (if x6 ≤ x7 then (if x7 ≤ (x0.size : Int) then (if x5.length < 8796093022208 then (spec_l1Split.l0 k x0 x1 (x5 ++ [x0.extract (x6 : Int).toNat (x7 : Int).toNat]) (wrap64 (x7 + 1)) (wrap64 (x7 + 1))) else (none)) else (none)) else (none)) else (none)) else (spec_l1Split.l0 k x0 x1 x5 x6 (wrap64 (x7 + 1)))) else (none)) else (if 0 ≤ x6 then (if x6 ≤ (x0.size : Int) then (if x5.length < 8796093022208 then (some (x5 ++ [x0.extract (x6 : Int).toNat x0.size])) else (none)) else (none)) else (none))
def spec_l1Split.f (k : Nat) (a0 : ByteArray) (a1 : Int) : Option (List ByteArray) := spec_l1Split.l0 k a0 a1 ([] : List ByteArray) 0 0
/-! ### spec_tiParse: function 56 -/
def spec_tiParse.l0 : Nat → List (S43) → List ByteArray → Int → Int → Option ((List (S43)) × Bool)
 | 0, _, _, _, _ => none
 | k + 1, x4, x13, x14, x15 => if x15 < x14 then (if 0 ≤ x15 then (if x15 < (x13.length : Int) then (if ((rdOf ByteArray.empty x13 x15).size : Int) = 2 then (if 0 < ((rdOf ByteArray.empty x13 x15).size : Int) then (if (bt (rdOf ByteArray.empty x13 x15) 0) < 48 then (some (([] : List (S43)), false)) else (if (bt (rdOf ByteArray.empty x13 x15) 0) > 57 then (some (([] : List (S43)), false)) else (if 1 < ((rdOf ByteArray.empty x13 x15).size : Int) then (if (bt (rdOf ByteArray.empty x13 x15) 1) < 48 then (some (([] : List (S43)), false)) else (if (bt (rdOf ByteArray.empty x13 x15) 1) > 57 then (some (([] : List (S43)), false)) else (if x4.length < 8796093022208 then (spec_tiParse.l0 k (x4 ++ [(⟨((bt (rdOf ByteArray.empty x13 x15) 0) - 48) % 256, ((bt (rdOf ByteArray.empty x13 x15) 1) - 48) % 256⟩ : S43)]) x13 x14 (wrap64 (x15 + 1))) else (none)))) else (none)))) else (none)) else (some (([] : List (S43)), false))) else (none)) else (none)) else ((spec_tiHand.f k x4).bind fun t513 => (if t513 = true then (some (x4, true)) else (some (([] : List (S43)), false))))
def spec_tiParse.f (k : Nat) (a0 : ByteArray) : Option ((List (S43)) × Bool) := if a0.toList = ([45] : List UInt8) then (some (([] : List (S43)), true)) else (if (a0.size : Int) > 165 then (some (([] : List (S43)), false)) else ((spec_l1Split.f k a0 44).bind fun t506 => (spec_tiParse.l0 k ([] : List (S43)) t506 (t506.length : Int) 0)))
/-! ### spec_ParseHand: function 26 -/
def spec_ParseHand.f (k : Nat) (a0 : ByteArray) : Option ((List (S43)) × Bool) := (spec_tiParse.f k a0).bind fun bt514 => (some (bt514.1, bt514.2))
end Go.Proofs.YtinocgaiheddaaaGreatDoor.QFnNumbersOfHands
