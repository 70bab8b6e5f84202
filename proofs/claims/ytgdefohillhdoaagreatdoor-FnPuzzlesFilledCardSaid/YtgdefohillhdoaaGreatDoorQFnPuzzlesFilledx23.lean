-- WRITTEN BY A PROGRAM OF THIS CLAIM'S AUTHOR (wprint.py)
import Derived.Test.YtgdefohillhdoaaGreatDoorQFnPuzzlesFilledx0
import Derived.Test.YtgdefohillhdoaaGreatDoorQFnPuzzlesFilledx2
import Derived.Test.YtgdefohillhdoaaGreatDoorQFnPuzzlesFilledx4
import Derived.Test.YtgdefohillhdoaaGreatDoorQFnPuzzlesFilledx16
namespace Go.Proofs.YtgdefohillhdoaaGreatDoor.QFnPuzzlesFilled
open Go.RowKit Go.Proofs.YtgdefohillhdoaaGreatDoorW.PrintWords Go.Proofs.YtgdefohillhdoaaGreatDoorW.PrintLast Go.Proofs.YtgdefohillhdoaaGreatDoorW.PrintMore
attribute [local go_sem] max2_int min2_int max_two min_two max_three min_three max_four min_four   -- for this text's walks alone
set_option linter.unusedVariables false
set_option linter.unusedSimpArgs false

/-! ### spec_l1Cur_spoilt: function 73 -/
mutual
def spec_l1Cur_spoilt.l0 : Nat → ByteArray → ByteArray → Int → List Int → Int → Int → Option (ByteArray × Int × Int)
 | 0, _, _, _, _, _, _ => none
 | k + 1, x1, x2, x7, x1000, x1001, x1002 => if x7 > 0 then (spec_l1Cur_spoilt.j1 k x1 x2 x7 (decide ((x1.size : Int) > 0)) x1000 x1001 x1002) else (spec_l1Cur_spoilt.j1 k x1 x2 x7 false x1000 x1001 x1002)
def spec_l1Cur_spoilt.j1 : Nat → ByteArray → ByteArray → Int → Bool → List Int → Int → Int → Option (ByteArray × Int × Int)
 | 0, _, _, _, _, _, _, _ => none
 | k + 1, x1, x2, x7, x19, x1000, x1001, x1002 => if x19 = true then ((spec_l1Cur_pick.f x1000 x1001 x1002 (x1.size : Int)).bind fun bt689 => ((spec_l1Cur_pick.f x1000 bt689.2.1 bt689.2.2 (x2.size : Int)).bind fun bt692 => (if 0 ≤ bt692.1 then (if bt692.1 < (x2.size : Int) then ((some (([bt x2 bt692.1] : List Int) : List Int)).bind fun y695 => ((spec_l1Cur_pick.f x1000 bt692.2.1 bt692.2.2 3).bind fun bt698 => (if bt698.1 = 0 then (if 0 ≤ bt689.1 then (if bt689.1 ≤ (x1.size : Int) then (if (x1.extract 0 (bt689.1 : Int).toNat).size + (strOfNums y695).size ≤ 9223372036854775807 then (if ((x1.extract 0 (bt689.1 : Int).toNat) ++ (strOfNums y695)).size + (x1.extract (bt689.1 : Int).toNat x1.size).size ≤ 9223372036854775807 then (spec_l1Cur_spoilt.l0 k (((x1.extract 0 (bt689.1 : Int).toNat) ++ (strOfNums y695)) ++ (x1.extract (bt689.1 : Int).toNat x1.size)) x2 (wrap64 (x7 - 1)) x1000 bt698.2.1 bt698.2.2) else (none)) else (none)) else (none)) else (none)) else (if bt698.1 = 1 then (if 0 ≤ bt689.1 then (if bt689.1 ≤ (x1.size : Int) then (if (x1.extract 0 (bt689.1 : Int).toNat).size + (strOfNums y695).size ≤ 9223372036854775807 then (if 0 ≤ (wrap64 (bt689.1 + 1)) then (if (wrap64 (bt689.1 + 1)) ≤ (x1.size : Int) then (if ((x1.extract 0 (bt689.1 : Int).toNat) ++ (strOfNums y695)).size + (x1.extract ((wrap64 (bt689.1 + 1)) : Int).toNat x1.size).size ≤ 9223372036854775807 then (spec_l1Cur_spoilt.l0 k (((x1.extract 0 (bt689.1 : Int).toNat) ++ (strOfNums y695)) ++ (x1.extract ((wrap64 (bt689.1 + 1)) : Int).toNat x1.size)) x2 (wrap64 (x7 - 1)) x1000 bt698.2.1 bt698.2.2) else (none)) else (none)) else (none)) else (none)) else (none)) else (none)) else (if 0 ≤ bt689.1 then (if bt689.1 ≤ (x1.size : Int) then (if 0 ≤ (wrap64 (bt689.1 + 1)) then (if (wrap64 (bt689.1 + 1)) ≤ (x1.size : Int) then (if (x1.extract 0 (bt689.1 : Int).toNat).size + (x1.extract ((wrap64 (bt689.1 + 1)) : Int).toNat x1.size).size ≤ 9223372036854775807 then (spec_l1Cur_spoilt.l0 k ((x1.extract 0 (bt689.1 : Int).toNat) ++ (x1.extract ((wrap64 (bt689.1 + 1)) : Int).toNat x1.size)) x2 (wrap64 (x7 - 1)) x1000 bt698.2.1 bt698.2.2) else (none)) else (none)) else (none)) else (none)) else (none)))))) else (none)) else (none)))) else (some (x1, x1001, x1002))
end
def spec_l1Cur_spoilt.f (k : Nat) (s0_0 : List Int) (s0_1 : Int) (s0_2 : Int) (a1 : ByteArray) (a2 : ByteArray) : Option (ByteArray × Int × Int) := (spec_l1Cur_pick.f s0_0 s0_1 s0_2 2).bind fun bt686 => (spec_l1Cur_spoilt.l0 k a1 a2 (wrap64 (1 + bt686.1)) s0_0 bt686.2.1 bt686.2.2)
/-! ### spec_DrawParsePuzzle: function 32 -/
def spec_DrawParsePuzzle.f (k : Nat) (l0 : List Int) : Option (ByteArray) := (spec_l1Cur_surePuzzle.f k l0 0 0 6 5).bind fun bt702 => ((spec_pzText.f k bt702.1 bt702.2.1).bind fun t710 => ((spec_l1Cur_one.f l0 bt702.2.2.1 bt702.2.2.2 3).bind fun bt711 => (if bt711.1 = true then ((spec_l1Cur_spoilt.f k l0 bt711.2.1 bt711.2.2 t710 (⟨#[48, 49, 50, 51, 52, 53, 44, 58, 46, 45]⟩ : ByteArray)).bind fun bt714 => (some bt714.1)) else (some t710))))
/-! ### spec_l1Split: function 134 -/
def spec_l1Split.l0 : Nat → ByteArray → Int → List ByteArray → Int → Int → Option (List ByteArray)
 | 0, _, _, _, _, _ => none
 | k + 1, x0, x1, x5, x6, x7 => if x7 < (x0.size : Int) then (if 0 ≤ x7 then (if (bt x0 x7) = x1 then (if 0 ≤ x6 then (if x6 ≤ x7 then (if x7 ≤ (x0.size : Int) then (if x5.length < 8796093022208 then (spec_l1Split.l0 k x0 x1 (x5 ++ [x0.extract (x6 : Int).toNat (x7 : Int).toNat]) (wrap64 (x7 + 1)) (wrap64 (x7 + 1))) else (none)) else (none)) else (none)) else (none)) else (spec_l1Split.l0 k x0 x1 x5 x6 (wrap64 (x7 + 1)))) else (none)) else (if 0 ≤ x6 then (if x6 ≤ (x0.size : Int) then (if x5.length < 8796093022208 then (some (x5 ++ [x0.extract (x6 : Int).toNat x0.size])) else (none)) else (none)) else (none))
def spec_l1Split.f (k : Nat) (a0 : ByteArray) (a1 : Int) : Option (List ByteArray) := spec_l1Split.l0 k a0 a1 ([] : List ByteArray) 0 0
end Go.Proofs.YtgdefohillhdoaaGreatDoor.QFnPuzzlesFilled
