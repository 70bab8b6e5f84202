-- WRITTEN BY A PROGRAM OF THIS CLAIM'S AUTHOR (wprint.py)
import Derived.Test.YtinocgaiheddaaaGreatDoorQFnNumbersOfHandsx0
import Derived.Test.YtinocgaiheddaaaGreatDoorQFnNumbersOfHandsx1
import Derived.Test.YtinocgaiheddaaaGreatDoorQFnNumbersOfHandsx2
import Derived.Test.YtinocgaiheddaaaGreatDoorQFnNumbersOfHandsx3
import Derived.Test.YtinocgaiheddaaaGreatDoorQFnNumbersOfHandsx4
import Derived.Test.YtinocgaiheddaaaGreatDoorQFnNumbersOfHandsx5
import Derived.Test.YtinocgaiheddaaaGreatDoorQFnNumbersOfHandsx7
import Derived.Test.YtinocgaiheddaaaGreatDoorQFnNumbersOfHandsx10
namespace Go.Proofs.YtinocgaiheddaaaGreatDoor.QFnNumbersOfHands
open Go.RowKit Go.Proofs.YtinocgaiheddaaaGreatDoorW.PrintWords Go.Proofs.YtinocgaiheddaaaGreatDoorW.PrintLast Go.Proofs.YtinocgaiheddaaaGreatDoorW.PrintMore
attribute [local go_sem] max2_int min2_int max_two min_two max_three min_three max_four min_four   -- for this text's walks alone
set_option linter.unusedVariables false
set_option linter.unusedSimpArgs false

attribute [local go_sem high] eqA43
/-! ### impl_TimesOf: function 17 -/
def impl_TimesOf.f (k : Nat) (l0 : List (S43)) (a1 : Int) : Option (Int × Bool) := (impl_IsHand.f k l0).bind fun t411 => (if t411 = true then ((impl_isNumber.f a1).bind fun t412 => (if t412 = true then ((impl_times.f k l0 a1).bind fun t413 => (some (t413, true))) else (some (0, false)))) else (some (0, false)))
/-! ### impl_Tile_has: function 49 -/
def impl_Tile_has.f (a0_0 : Int) (a0_1 : Int) (a1 : Int) : Option (Bool) := if a0_0 = a1 then (some true) else (some (a0_1 == a1))
/-! ### laws_mIn: function 19 -/
def laws_mIn.l0 : Nat → Int → List Int → Int → Int → Option (Bool)
 | 0, _, _, _, _ => none
 | k + 1, x1, x7, x8, x9 => if x9 < x8 then (if 0 ≤ x9 then (if x9 < (x7.length : Int) then (if (rd x7 x9) = x1 then (some true) else (laws_mIn.l0 k x1 x7 x8 (wrap64 (x9 + 1)))) else (none)) else (none)) else (some false)
def laws_mIn.f (k : Nat) (l0 : List Int) (a1 : Int) : Option (Bool) := laws_mIn.l0 k a1 l0 (l0.length : Int) 0
/-! ### laws_mHas: function 20 -/
def laws_mHas.l0 : Nat → List (S43) → Int → Int → Int → Int → Option (Bool)
 | 0, _, _, _, _, _ => none
 | k + 1, x7, x8, x9, x417000, x417001 => if x9 < x8 then (if 0 ≤ x9 then (if x9 < (x7.length : Int) then (if (((rd_T43 x7 x9).f0) == x417000 && (((rd_T43 x7 x9).f1) == x417001)) = true then (some true) else (laws_mHas.l0 k x7 x8 (wrap64 (x9 + 1)) x417000 x417001)) else (none)) else (none)) else (some false)
def laws_mHas.f (k : Nat) (l0 : List (S43)) (a1_0 : Int) (a1_1 : Int) : Option (Bool) := laws_mHas.l0 k l0 (l0.length : Int) 0 a1_0 a1_1
/-! ### strings_Split: function 50, by hand -/
/-- The global that the strings package leans on holds a number. -/
def MaxLen (w : World) : Prop := ∃ m : Int, w.cell? ⟨0, 0, none⟩ = some (.int .i64 m)
theorem maxlen_below {B : Nat} {w W : World} (h : MaxLen w) (hb : Below B w W) (hB : w.heap.size ≤ B) : MaxLen W := by
 obtain ⟨m, hm⟩ := h
 exact ⟨m, ((hb.mono hB).cell (World.block_lt_of_cell? w _ hm)).trans hm⟩

def strings_Split.f (l0 l1 : ByteArray) : Option (List ByteArray) := if l0.size < 4294967281 ∧ 1 ≤ l1.size then some (Lib.splitB l1 0 (Lib.countB l0 l1) l0) else none
set_option maxRecDepth 100000 in
theorem strings_Split.calls (l0 l1 : ByteArray) (r : List ByteArray) (w : World) (h : strings_Split.f l0 l1 = some r) (hm : MaxLen w := by first | exact HM_.out | exact maxlen_below HM_.out HB.out (Nat.le_refl _) | exact maxlen_below HM_.out (by repeat (first | (with_reducible first | exact HB.out | apply below_alloc | apply pw_below_drewN | apply below_drew1) | exact HB.out)) (Nat.le_refl _)) :
  Calls Tryz.prog 50 #[.string l0, .string l1] w fun e w' => ∃ v0_ : Value, e = .returned (v0_) ∧ Kd.R Kd.string 9 w' w.heap.size (fun _ => True) v0_ r ∧ Below w.heap.size w w' := by
 unfold strings_Split.f at h
 by_cases hs : l0.size < 4294967281 ∧ 1 ≤ l1.size
 ·rw [if_pos hs] at h
  obtain rfl := Option.some.inj h
  obtain ⟨m, hm⟩ := hm
  have hle := Lib.countB_le l1 hs.2 l0.size l0 (Nat.le_refl _)
  have hlen := Lib.splitB_all l1 hs.2 0 _ l0 rfl
  refine (Tryz.strings_Split l0 l1 m w hs.1 hm hs.2).mono ?_
  rintro e w' ⟨rfl, rfl⟩
  refine ⟨_, rfl, ?_, below_alloc (Below.refl _ _) _⟩
  refine Kd.R_of_own (enc := Value.string) (h1 := fun _ => rfl) ⟨by simp [encs], .inr ⟨w.heap.size, Lib.countB l0 l1 + 1, ((Lib.splitB l1 0 (Lib.countB l0 l1) l0).map Value.string).toArray, ?_, Nat.le_refl _, blk_new w _, ?_, ?_, ?_, ?_⟩⟩ (fun _ _ => trivial)
  ·rw [hlen]
  ·rw [hlen]; exact Nat.le_refl _
  ·have : l0.size < 4294967281 := hs.1
   unfold maxLen
   omega
  ·simp [hlen]
  ·simp only [encs, Nat.mul_one]
   exact List.take_of_length_le (by simp)
 ·rw [if_neg hs] at h
  cases h

/-! ### impl_ParseHand: function 21 -/
def impl_ParseHand.l0 : Nat → List (S43) → List ByteArray → Int → Int → Option ((List (S43)) × Bool)
 | 0, _, _, _, _ => none
 | k + 1, x4, x12, x13, x14 => if x14 < x13 then (if 0 ≤ x14 then (if x14 < (x12.length : Int) then (if ((rdOf ByteArray.empty x12 x14).size : Int) = 2 then (if 0 < ((rdOf ByteArray.empty x12 x14).size : Int) then (if 1 < ((rdOf ByteArray.empty x12 x14).size : Int) then (if x4.length < 8796093022208 then (impl_ParseHand.l0 k (x4 ++ [(⟨wrap64 ((wrap64 (bt (rdOf ByteArray.empty x12 x14) 0)) - 48), wrap64 ((wrap64 (bt (rdOf ByteArray.empty x12 x14) 1)) - 48)⟩ : S43)]) x12 x13 (wrap64 (x14 + 1))) else (none)) else (none)) else (none)) else (some (([] : List (S43)), false))) else (none)) else (none)) else ((impl_IsHand.f k x4).bind fun t429 => (if t429 = true then (some (x4, true)) else (some (([] : List (S43)), false))))
def impl_ParseHand.f (k : Nat) (a0 : ByteArray) : Option ((List (S43)) × Bool) := (some (([] : List (S43)) : List (S43))).bind fun y419 => (if a0.toList = ([45] : List UInt8) then (some (y419, true)) else ((strings_Split.f a0 (⟨#[44]⟩ : ByteArray)).bind fun t422 => (impl_ParseHand.l0 k y419 t422 (t422.length : Int) 0)))
/-! ### spec_l1Cur_number: function 80 -/
def spec_l1Cur_number.f (s0_0 : List Int) (s0_1 : Int) (s0_2 : Int) : Option (Int × Int × Int) := (spec_l1Cur_one.f s0_0 s0_1 s0_2 12).bind fun bt430 => (if bt430.1 = true then ((spec_l1Cur_among.f s0_0 bt430.2.1 bt430.2.2 (([(-1), 9, 10, 4611686018427387904] : List Int))).bind fun bt436 => (some (bt436.1, bt436.2.1, bt436.2.2))) else ((spec_l1Cur_pick.f s0_0 bt430.2.1 bt430.2.2 8).bind fun bt439 => (some (bt439.1, bt439.2.1, bt439.2.2))))
/-! ### spec_DrawTimesOf: function 51 -/
def spec_DrawTimesOf.f (k : Nat) (l0 : List Int) : Option ((List (S43)) × Int) := (spec_l1Cur_hand.f k l0 0 0 10 6).bind fun bt443 => ((spec_l1Cur_number.f l0 bt443.2.1 bt443.2.2).bind fun bt448 => (some (bt443.1, bt448.1)))
/-! ### spec_DrawWithNumber: function 22 -/
def spec_DrawWithNumber.f (k : Nat) (l0 : List Int) : Option ((List (S43)) × Int) := (spec_DrawTimesOf.f k l0).bind fun bt451 => (some (bt451.1, bt451.2))
/-! ### spec_tiNumber: function 52 -/
def spec_tiNumber.f (a0 : Int) : Option (Bool) := (spec_l1In.f a0 0 9).bind fun t455 => (some t455)
end Go.Proofs.YtinocgaiheddaaaGreatDoor.QFnNumbersOfHands
