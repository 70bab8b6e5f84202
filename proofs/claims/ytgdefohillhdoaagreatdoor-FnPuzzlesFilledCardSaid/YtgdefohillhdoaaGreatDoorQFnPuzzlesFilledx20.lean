-- WRITTEN BY A PROGRAM OF THIS CLAIM'S AUTHOR (wprint.py)
import Derived.Test.YtgdefohillhdoaaGreatDoorQFnPuzzlesFilledx0
import Derived.Test.YtgdefohillhdoaaGreatDoorQFnPuzzlesFilledx8
import Derived.Test.YtgdefohillhdoaaGreatDoorQFnPuzzlesFilledx19
namespace Go.Proofs.YtgdefohillhdoaaGreatDoor.QFnPuzzlesFilled
open Go.RowKit Go.Proofs.YtgdefohillhdoaaGreatDoorW.PrintWords Go.Proofs.YtgdefohillhdoaaGreatDoorW.PrintLast Go.Proofs.YtgdefohillhdoaaGreatDoorW.PrintMore
attribute [local go_sem] max2_int min2_int max_two min_two max_three min_three max_four min_four   -- for this text's walks alone
set_option linter.unusedVariables false
set_option linter.unusedSimpArgs false

/-! ### impl_Puzzle_with: function 58 -/
def impl_Puzzle_with.f (l0_0 : List (S64)) (l0_1 : List Int) (a1 : Int) (a2 : Int) : Option ((List (S64)) × List Int) := (slices_Clone_impl_Tile_impl_Tile.f l0_0).bind fun t582 => ((slices_Clone_int_int.f l0_1).bind fun t585 => (if 0 ≤ a1 then (if a1 < (t585.length : Int) then (some (t582, (t585.set (a1 : Int).toNat a2))) else (none)) else (none)))
/-! ### impl_FillGap: function 27 -/
def impl_FillGap.f (k : Nat) (l0_0 : List (S64)) (l0_1 : List Int) (a1 : Int) (a2 : Int) : Option ((List (S64)) × List Int × Bool) := (impl_isPlace.f k l0_0 l0_1 a1).bind fun t592 => (if t592 = true then ((impl_isNumber.f a2).bind fun t593 => (if t593 = true then (if 0 ≤ a1 then (if a1 < (l0_1.length : Int) then (if (rd l0_1 a1) = (-1) then ((impl_Puzzle_with.f l0_0 l0_1 a1 a2).bind fun bt595 => (some (bt595.1, bt595.2, true))) else (some (([] : List (S64)), ([] : List Int), false))) else (none)) else (none)) else (some (([] : List (S64)), ([] : List Int), false)))) else (some (([] : List (S64)), ([] : List Int), false)))
/-! ### strings_Cut: function 59, by hand -/
/-- The global that the strings package leans on holds a number. -/
def MaxLen (w : World) : Prop := ∃ m : Int, w.cell? ⟨0, 0, none⟩ = some (.int .i64 m)
theorem maxlen_below {B : Nat} {w W : World} (h : MaxLen w) (hb : Below B w W) (hB : w.heap.size ≤ B) : MaxLen W := by
 obtain ⟨m, hm⟩ := h
 exact ⟨m, ((hb.mono hB).cell (World.block_lt_of_cell? w _ hm)).trans hm⟩
def strings_Cut.f (l0 l1 : ByteArray) : Option (ByteArray × ByteArray × Bool) := if l0.size < 4294967281 then some (⟨(Lib.cut l0.data.toList l1.data.toList).1.toArray⟩, ⟨(Lib.cut l0.data.toList l1.data.toList).2.1.toArray⟩, (Lib.cut l0.data.toList l1.data.toList).2.2) else none
theorem strings_Cut.calls (l0 l1 r1 r2 : ByteArray) (r3 : Bool) (w : World) (h : strings_Cut.f l0 l1 = some (r1, r2, r3)) (hm : MaxLen w := by first | exact HM_.out | exact maxlen_below HM_.out HB.out (Nat.le_refl _)) :
  Calls Tryz.prog 59 #[.string l0, .string l1] w fun e w' => e = .returned (.tuple #[.string r1, .string r2, .bool r3]) ∧ Drawn0 w w' := by
 unfold strings_Cut.f at h
 by_cases hs : l0.size < 4294967281
 ·rw [if_pos hs] at h
  simp only [Option.some.injEq, Prod.mk.injEq] at h
  obtain ⟨rfl, rfl, rfl⟩ := h
  obtain ⟨m, hm⟩ := hm
  refine (Tryz.strings_Cut l0 l1 m w hs hm).mono ?_
  rintro e w' ⟨rfl, n, rfl⟩
  exact ⟨rfl, n, rfl⟩
 ·rw [if_neg hs] at h
  cases h

/-! ### strings_Split: function 97, by hand -/

def strings_Split.f (l0 l1 : ByteArray) : Option (List ByteArray) := if l0.size < 4294967281 ∧ 1 ≤ l1.size then some (Lib.splitB l1 0 (Lib.countB l0 l1) l0) else none
set_option maxRecDepth 100000 in
theorem strings_Split.calls (l0 l1 : ByteArray) (r : List ByteArray) (w : World) (h : strings_Split.f l0 l1 = some r) (hm : MaxLen w := by first | exact HM_.out | exact maxlen_below HM_.out HB.out (Nat.le_refl _) | exact maxlen_below HM_.out (by repeat (first | (with_reducible first | exact HB.out | apply below_alloc | apply pw_below_drewN | apply below_drew1) | exact HB.out)) (Nat.le_refl _)) :
  Calls Tryz.prog 97 #[.string l0, .string l1] w fun e w' => ∃ v0_ : Value, e = .returned (v0_) ∧ Kd.R Kd.string 9 w' w.heap.size (fun _ => True) v0_ r ∧ Below w.heap.size w w' := by
 unfold strings_Split.f at h
 by_cases hs : l0.size < 4294967281 ∧ 1 ≤ l1.size
 ·rw [if_pos hs] at h
  obtain rfl := Option.some.inj h
  obtain ⟨m, hm⟩ := hm
  have hle := Lib.countB_le l1 hs.2 l0.size l0 (Nat.le_refl _)
  have hlen := Lib.splitB_all l1 hs.2 0 _ l0 rfl
  refine (Tryz.strings_Split l0 l1 m w hs.1 hm hs.2).mono ?_
  rintro e w' ⟨rfl, rfl⟩
  refine ⟨_, rfl, ?_, below_alloc (Below.refl _ _) _⟩
  refine Kd.R_of_own (enc := Value.string) (h1 := fun _ => rfl) ⟨by simp [encs], .inr ⟨w.heap.size, Lib.countB l0 l1 + 1, ((Lib.splitB l1 0 (Lib.countB l0 l1) l0).map Value.string).toArray, ?_, Nat.le_refl _, blk_new w _, ?_, ?_, ?_, ?_⟩⟩ (fun _ _ => trivial)
  ·rw [hlen]
  ·rw [hlen]; exact Nat.le_refl _
  ·have : l0.size < 4294967281 := hs.1
   unfold maxLen
   omega
  ·simp [hlen]
  ·simp only [encs, Nat.mul_one]
   exact List.take_of_length_le (by simp)
 ·rw [if_neg hs] at h
  cases h

end Go.Proofs.YtgdefohillhdoaaGreatDoor.QFnPuzzlesFilled
