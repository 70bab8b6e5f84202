-- WRITTEN BY A PROGRAM OF THIS CLAIM'S AUTHOR (wprint.py)
import Derived.Test.YtgdefohillhdoaaGreatDoorQFnPuzzlesFilledx0
import Derived.Test.YtgdefohillhdoaaGreatDoorQFnPuzzlesFilledx8
import Derived.Test.YtgdefohillhdoaaGreatDoorQFnPuzzlesFilledx10
import Derived.Test.YtgdefohillhdoaaGreatDoorQFnPuzzlesFilledx13
namespace Go.Proofs.YtgdefohillhdoaaGreatDoor.QFnPuzzlesFilled
open Go.RowKit Go.Proofs.YtgdefohillhdoaaGreatDoorW.PrintWords Go.Proofs.YtgdefohillhdoaaGreatDoorW.PrintLast Go.Proofs.YtgdefohillhdoaaGreatDoorW.PrintMore
attribute [local go_sem] max2_int min2_int max_two min_two max_three min_three max_four min_four   -- for this text's walks alone
set_option linter.unusedVariables false
set_option linter.unusedSimpArgs false

/-! ### impl_CountGaps: function 16 -/
def impl_CountGaps.l0 : Nat → Int → List Int → Int → Int → Option (Int × Bool)
 | 0, _, _, _, _ => none
 | k + 1, x4, x11, x12, x13 => if x13 < x12 then (if 0 ≤ x13 then (if x13 < (x11.length : Int) then ((impl_bit.f ((rd x11 x13) == (-1))).bind fun t467 => (impl_CountGaps.l0 k (wrap64 (x4 + t467)) x11 x12 (wrap64 (x13 + 1)))) else (none)) else (none)) else (some (x4, true))
def impl_CountGaps.f (k : Nat) (l0_0 : List (S64)) (l0_1 : List Int) : Option (Int × Bool) := (impl_IsPuzzle.f k l0_0 l0_1).bind fun t465 => (if t465 = true then (impl_CountGaps.l0 k 0 l0_1 (l0_1.length : Int) 0) else (some (0, false)))
/-! ### spec_CountGaps: function 17 -/
def spec_CountGaps.l0 : Nat → Int → List Int → Int → Int → Option (Int × Bool)
 | 0, _, _, _, _ => none
 | k + 1, x4, x11, x12, x13 => if x13 < x12 then (if 0 ≤ x13 then (if x13 < (x11.length : Int) then (if (rd x11 x13) < 0 then (spec_CountGaps.l0 k (wrap64 (x4 + 1)) x11 x12 (wrap64 (x13 + 1))) else (spec_CountGaps.l0 k x4 x11 x12 (wrap64 (x13 + 1)))) else (none)) else (none)) else (some (x4, true))
def spec_CountGaps.f (k : Nat) (l0_0 : List (S64)) (l0_1 : List Int) : Option (Int × Bool) := (spec_pzGood.f k l0_0 l0_1).bind fun t469 => (if t469 = true then (spec_CountGaps.l0 k 0 l0_1 (l0_1.length : Int) 0) else (some (0, false)))
/-! ### impl_Tile_digits: function 84 -/
def impl_Tile_digits.f (a0_0 : Int) (a0_1 : Int) : Option (ByteArray) := some (strOfNums (([(wrap64 (48 + a0_0)) % 256, (wrap64 (48 + a0_1)) % 256] : List Int)))
/-! ### strings_Join: function 85, by hand -/
/-- strings.Join, where its result is none too long. -/
def strings_Join.f (l0 : List ByteArray) (a1 : ByteArray) : Option ByteArray := if l0.length ≤ 140737488355328 ∧ (Lib.join (l0.map (·.data.toList)) a1.data.toList).length ≤ 140737488355328 then some ⟨(Lib.join (l0.map (·.data.toList)) a1.data.toList).toArray⟩ else none
theorem strings_Join.calls (A0 : Option Addr) (c0 : Nat) (l0 : List ByteArray) (a1 : ByteArray) (r : ByteArray) (w : World) (hr0 : Kd.C Kd.string w A0 l0.length l0) (hc0 : l0.length ≤ c0) (h : strings_Join.f l0 a1 = some r) :
  Calls Tryz.prog 85 #[.slice A0 l0.length c0, .string a1] w fun e w' => e = .returned (.string r) ∧ Below w.heap.size w w' := by
 unfold strings_Join.f at h
 by_cases hl : l0.length ≤ 140737488355328 ∧ (Lib.join (l0.map (·.data.toList)) a1.data.toList).length ≤ 140737488355328
 ·rw [if_pos hl] at h
  obtain rfl := Option.some.inj h
  by_cases hz : l0 = []
  ·subst hz
   refine (Tryz.strings_Join_none A0 c0 a1 w).mono ?_
   rintro e w' ⟨he, rfl⟩
   exact ⟨he, Below.refl _ _⟩
  ·have hlen : 0 < l0.length := List.length_pos_iff.2 hz
   obtain ⟨ad, e0, hx⟩ := hr0.2.2 hlen
   have hcell : ∀ (j : Nat) x, l0[j]? = some x → w.cell? (ad.add j) = some (.string x) := by
    intro j x hj
    obtain ⟨c, _, hk, hcc⟩ := hx j x hj
    have hk' : c = [.string x] := hk
    have h1 := hcc 0 (.string x) (by rw [hk']; rfl)
    have h2 : j * Kd.string.sz + 0 = j := Nat.mul_one j
    rw [h2] at h1
    exact h1
   have h0 := hcell 0 _ (List.getElem?_eq_getElem hlen)
   obtain ⟨bk, o, sp⟩ := ad
   cases sp with
   | some m =>
    exfalso
    have h1 : w.cell? ⟨bk, o, some m⟩ = some (.string l0[0]) := h0
    unfold World.cell? at h1
    split at h1
    ·simp at h1
    ·simp at h1
   | none =>
    subst e0
    refine Tryz.strings_Join bk o c0 l0 a1 w (fun j x hj => ?_) (World.block_lt_of_cell? _ _ h0) hl.1 hc0 hl.2
    have h1 := hcell j x hj
    unfold Addr.add at h1
    by_cases hj0 : j = 0
    ·subst hj0
     exact h1
    ·rw [if_neg hj0] at h1
     exact h1
 ·rw [if_neg hl] at h
  exact absurd h (by simp)

/-! ### impl_handText: function 41 -/
def impl_handText.l0 : Nat → List ByteArray → List (S64) → Int → Int → Option (ByteArray)
 | 0, _, _, _, _ => none
 | k + 1, x3, x10, x11, x12 => if x12 < x11 then (if 0 ≤ x12 then (if x12 < (x10.length : Int) then ((impl_Tile_digits.f ((rd_T64 x10 x12).f0) ((rd_T64 x10 x12).f1)).bind fun t480 => (if x3.length < 8796093022208 then (impl_handText.l0 k (x3 ++ [t480]) x10 x11 (wrap64 (x12 + 1))) else (none))) else (none)) else (none)) else ((strings_Join.f x3 (⟨#[44]⟩ : ByteArray)).bind fun t484 => (some t484))
def impl_handText.f (k : Nat) (l0 : List (S64)) : Option (ByteArray) := if (l0.length : Int) = 0 then (some (⟨#[45]⟩ : ByteArray)) else (impl_handText.l0 k (([] : List ByteArray)) l0 (l0.length : Int) 0)
/-! ### impl_chainText: function 42 -/
def impl_chainText.l0 : Nat → List Int → List Int → Int → Int → Option (ByteArray)
 | 0, _, _, _, _ => none
 | k + 1, x3, x7, x8, x9 => if x9 < x8 then (if 0 ≤ x9 then (if x9 < (x7.length : Int) then (if (rd x7 x9) < 0 then (if x3.length < 140737488355328 then (impl_chainText.l0 k (x3 ++ [46]) x7 x8 (wrap64 (x9 + 1))) else (none)) else (if x3.length < 140737488355328 then (impl_chainText.l0 k (x3 ++ [(wrap64 (48 + (rd x7 x9))) % 256]) x7 x8 (wrap64 (x9 + 1))) else (none))) else (none)) else (none)) else (some (strOfNums x3))
def impl_chainText.f (k : Nat) (l0 : List Int) : Option (ByteArray) := impl_chainText.l0 k (([] : List Int)) l0 (l0.length : Int) 0
/-! ### impl_PuzzleText: function 18 -/
def impl_PuzzleText.f (k : Nat) (l0_0 : List (S64)) (l0_1 : List Int) : Option (ByteArray × Bool) := (impl_IsPuzzle.f k l0_0 l0_1).bind fun t496 => (if t496 = true then ((impl_handText.f k l0_0).bind fun t497 => (if t497.size + 1 ≤ 9223372036854775807 then ((impl_chainText.f k l0_1).bind fun t498 => (if (t497 ++ (⟨#[58]⟩ : ByteArray)).size + t498.size ≤ 9223372036854775807 then (some ((t497 ++ (⟨#[58]⟩ : ByteArray)) ++ t498, true)) else (none))) else (none))) else (some ((⟨#[]⟩ : ByteArray), false)))
end Go.Proofs.YtgdefohillhdoaaGreatDoor.QFnPuzzlesFilled
