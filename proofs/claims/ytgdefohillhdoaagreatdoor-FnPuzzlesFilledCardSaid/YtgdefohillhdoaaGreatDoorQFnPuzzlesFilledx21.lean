-- WRITTEN BY A PROGRAM OF THIS CLAIM'S AUTHOR (wprint.py)
import Derived.Test.YtgdefohillhdoaaGreatDoorQFnPuzzlesFilledx0
import Derived.Test.YtgdefohillhdoaaGreatDoorQFnPuzzlesFilledx1
import Derived.Test.YtgdefohillhdoaaGreatDoorQFnPuzzlesFilledx7
import Derived.Test.YtgdefohillhdoaaGreatDoorQFnPuzzlesFilledx8
import Derived.Test.YtgdefohillhdoaaGreatDoorQFnPuzzlesFilledx20
namespace Go.Proofs.YtgdefohillhdoaaGreatDoor.QFnPuzzlesFilled
open Go.RowKit Go.Proofs.YtgdefohillhdoaaGreatDoorW.PrintWords Go.Proofs.YtgdefohillhdoaaGreatDoorW.PrintLast Go.Proofs.YtgdefohillhdoaaGreatDoorW.PrintMore
attribute [local go_sem] max2_int min2_int max_two min_two max_three min_three max_four min_four   -- for this text's walks alone
set_option linter.unusedVariables false
set_option linter.unusedSimpArgs false

attribute [local go_sem high] eqA64
/-! ### impl_ParseHand: function 60 -/
def impl_ParseHand.l0 : Nat → List (S64) → List ByteArray → Int → Int → Option ((List (S64)) × Bool)
 | 0, _, _, _, _ => none
 | k + 1, x4, x12, x13, x14 => if x14 < x13 then (if 0 ≤ x14 then (if x14 < (x12.length : Int) then (if ((rdOf ByteArray.empty x12 x14).size : Int) = 2 then (if 0 < ((rdOf ByteArray.empty x12 x14).size : Int) then (if 1 < ((rdOf ByteArray.empty x12 x14).size : Int) then (if x4.length < 8796093022208 then (impl_ParseHand.l0 k (x4 ++ [(⟨wrap64 ((wrap64 (bt (rdOf ByteArray.empty x12 x14) 0)) - 48), wrap64 ((wrap64 (bt (rdOf ByteArray.empty x12 x14) 1)) - 48)⟩ : S64)]) x12 x13 (wrap64 (x14 + 1))) else (none)) else (none)) else (none)) else (some (([] : List (S64)), false))) else (none)) else (none)) else ((impl_IsHand.f k x4).bind fun t611 => (if t611 = true then (some (x4, true)) else (some (([] : List (S64)), false))))
def impl_ParseHand.f (k : Nat) (a0 : ByteArray) : Option ((List (S64)) × Bool) := (some (([] : List (S64)) : List (S64))).bind fun y601 => (if a0.toList = ([45] : List UInt8) then (some (y601, true)) else ((strings_Split.f a0 (⟨#[44]⟩ : ByteArray)).bind fun t604 => (impl_ParseHand.l0 k y601 t604 (t604.length : Int) 0)))
/-! ### strings_Trim: function 61, by hand -/

def strings_Trim.f (l0 l1 : ByteArray) : Option ByteArray := if (2 ≤ l1.size ∧ l1.size < 4294967281 ∧ l0.size ≤ 9223372036854775807) ∧ l1.data.toList.all (fun b => decide (b.toNat < 128)) = true then some (if l0.size = 0 then l0 else ⟨(Lib.trimS l0.data.toList l1.data.toList).toArray⟩) else none
theorem strings_Trim.calls (l0 l1 r : ByteArray) (w : World) (h : strings_Trim.f l0 l1 = some r) :
  Calls Tryz.prog 61 #[.string l0, .string l1] w fun e w' => e = .returned (.string r) ∧ Below w.heap.size w w' := by
 unfold strings_Trim.f at h
 by_cases hs : (2 ≤ l1.size ∧ l1.size < 4294967281 ∧ l0.size ≤ 9223372036854775807) ∧ l1.data.toList.all (fun b => decide (b.toNat < 128)) = true
 ·rw [if_pos hs] at h
  obtain rfl := Option.some.inj h
  by_cases h0 : l0.size = 0
  ·rw [if_pos h0]
   refine (Tryz.strings_Trim_empty l0 l1 w (.inl h0)).mono ?_
   rintro e w' ⟨rfl, rfl⟩
   exact ⟨rfl, Below.refl _ _⟩
  ·rw [if_neg h0]
   refine (Tryz.strings_Trim_set l0 l1 w hs.1.1 (by omega) hs.1.2.2 hs.1.2.1 (fun j b hb => by
    have := List.all_eq_true.1 hs.2 b (List.mem_of_getElem? hb)
    simpa using this)).mono ?_
   rintro e w' ⟨rfl, q, rfl⟩
   exact ⟨rfl, pw_below_drewN (below_alloc (below_alloc (Below.refl _ _) _) _) _⟩
 ·rw [if_neg hs] at h
  cases h

/-! ### impl_ParsePuzzle: function 28 -/
def conv_bytes.f (s : ByteArray) : Option (List Int) := if s.size ≤ 9223372036854775807 then some (bytesOf s) else none
mutual
def impl_ParsePuzzle.j0 : Nat → ByteArray → List (S64) → Bool → Option ((List (S64)) × List Int × Bool)
 | 0, _, _, _ => none
 | k + 1, x5, x7, x34 => if x34 = true then (some (([] : List (S64)), ([] : List Int), false)) else ((conv_bytes.f x5).bind fun t622 => (impl_ParsePuzzle.l0 k t622 (t622.length : Int) 0 x7 ([] : List Int)))
def impl_ParsePuzzle.l0 : Nat → List Int → Int → Int → List (S64) → List Int → Option ((List (S64)) × List Int × Bool)
 | 0, _, _, _, _, _ => none
 | k + 1, x39, x40, x41, x622000, x622001 => if x41 < x40 then (if 0 ≤ x41 then (if x41 < (x39.length : Int) then (if (rd x39 x41) = 46 then (if x622001.length < 17592186044416 then (impl_ParsePuzzle.l0 k x39 x40 (wrap64 (x41 + 1)) x622000 (x622001 ++ [(-1)])) else (none)) else (if x622001.length < 17592186044416 then (impl_ParsePuzzle.l0 k x39 x40 (wrap64 (x41 + 1)) x622000 (x622001 ++ [((rd x39 x41) - 48) % 256])) else (none))) else (none)) else (none)) else ((impl_IsPuzzle.f k x622000 x622001).bind fun t632 => (if t632 = true then (some (x622000, x622001, true)) else (some (([] : List (S64)), ([] : List Int), false))))
end
def impl_ParsePuzzle.f (k : Nat) (a0 : ByteArray) : Option ((List (S64)) × List Int × Bool) := (strings_Cut.f a0 (⟨#[58]⟩ : ByteArray)).bind fun bt613 => ((impl_ParseHand.f k bt613.1).bind fun bt616 => (if bt613.2.2 = true then (if bt616.2 = true then ((strings_Trim.f bt613.2.1 (⟨#[48, 49, 50, 51, 52, 53, 54, 55, 56, 57, 46]⟩ : ByteArray)).bind fun t620 => (impl_ParsePuzzle.j0 k bt613.2.1 bt616.1 (t620.toList != ([] : List UInt8)))) else (impl_ParsePuzzle.j0 k bt613.2.1 bt616.1 true)) else (impl_ParsePuzzle.j0 k bt613.2.1 bt616.1 true)))
/-! ### laws_iTiles: function 62 -/
def laws_iTiles.l0 : Nat → List (S64) → List (S64) → Int → Int → Option (Bool)
 | 0, _, _, _, _ => none
 | k + 1, x0, x1, x12, x13 => if x13 < x12 then (if 0 ≤ x13 then (if x13 < (x0.length : Int) then (if x13 < (x1.length : Int) then (if (!(((rd_T64 x0 x13).f0) == ((rd_T64 x1 x13).f0)) || (!(((rd_T64 x0 x13).f1) == ((rd_T64 x1 x13).f1)))) = true then (some false) else (laws_iTiles.l0 k x0 x1 x12 (wrap64 (x13 + 1)))) else (none)) else (none)) else (none)) else (some true)
def laws_iTiles.f (k : Nat) (l0 : List (S64)) (l1 : List (S64)) : Option (Bool) := if (l0.length : Int) = (l1.length : Int) then (laws_iTiles.l0 k l0 l1 (l0.length : Int) 0) else (some false)
end Go.Proofs.YtgdefohillhdoaaGreatDoor.QFnPuzzlesFilled
