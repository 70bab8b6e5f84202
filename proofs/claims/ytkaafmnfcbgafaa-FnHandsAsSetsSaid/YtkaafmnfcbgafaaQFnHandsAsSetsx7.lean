-- WRITTEN BY A PROGRAM OF THIS CLAIM'S AUTHOR (wprint.py)
import Derived.Test.YtkaafmnfcbgafaaQFnHandsAsSetsx0
import Derived.Test.YtkaafmnfcbgafaaQFnHandsAsSetsx1
import Derived.Test.YtkaafmnfcbgafaaQFnHandsAsSetsx2
import Derived.Test.YtkaafmnfcbgafaaQFnHandsAsSetsx3
import Derived.Test.YtkaafmnfcbgafaaQFnHandsAsSetsx4
import Derived.Test.YtkaafmnfcbgafaaQFnHandsAsSetsx5
import Derived.Test.YtkaafmnfcbgafaaQFnHandsAsSetsx6
namespace Go.Proofs.Ytkaafmnfcbgafaa.QFnHandsAsSets
open Go.RowKit Go.Proofs.YtkaafmnfcbgafaaW.PrintWords Go.Proofs.YtkaafmnfcbgafaaW.PrintLast Go.Proofs.YtkaafmnfcbgafaaW.PrintMore
attribute [local go_sem] max2_int min2_int max_two min_two max_three min_three max_four min_four   -- for this text's walks alone
set_option linter.unusedVariables false
set_option linter.unusedSimpArgs false

attribute [local go_sem high] eqA35
/-! ### impl_PipsOf: function 14 -/
def impl_PipsOf.f (k : Nat) (l0 : List (S35)) : Option (Int × Bool) := (impl_IsHand.f k l0).bind fun t317 => (if t317 = true then ((impl_pips.f k l0).bind fun t318 => (some (t318, true))) else (some (0, false)))
/-! ### impl_SortHand: function 15 -/
def impl_SortHand.f (k : Nat) (l0 : List (S35)) : Option ((List (S35)) × Bool) := (impl_IsHand.f k l0).bind fun t319 => (if t319 = true then ((impl_sorted.f l0).bind fun t320 => (some (t320, true))) else (some (([] : List (S35)), false)))
/-! ### laws_mHas: function 16 -/
def laws_mHas.l0 : Nat → List (S35) → Int → Int → Int → Int → Option (Bool)
 | 0, _, _, _, _, _ => none
 | k + 1, x7, x8, x9, x324000, x324001 => if x9 < x8 then (if 0 ≤ x9 then (if x9 < (x7.length : Int) then (if (((rd_T35 x7 x9).f0) == x324000 && (((rd_T35 x7 x9).f1) == x324001)) = true then (some true) else (laws_mHas.l0 k x7 x8 (wrap64 (x9 + 1)) x324000 x324001)) else (none)) else (none)) else (some false)
def laws_mHas.f (k : Nat) (l0 : List (S35)) (a1_0 : Int) (a1_1 : Int) : Option (Bool) := laws_mHas.l0 k l0 (l0.length : Int) 0 a1_0 a1_1
/-! ### impl_setOf: function 47 -/
mutual
def impl_setOf.l0 : Nat → Int → List (S35) → Int → Int → Option ((List (S35)))
 | 0, _, _, _, _ => none
 | k + 1, x0, x3, x8, x9 => if x9 < x8 then (impl_setOf.l1 k x0 x3 x9 x9 x8 x9) else (some x3)
def impl_setOf.l1 : Nat → Int → List (S35) → Int → Int → Int → Int → Option ((List (S35)))
 | 0, _, _, _, _, _, _ => none
 | k + 1, x0, x3, x4, x5, x8, x9 => if x5 ≤ x0 then (if x3.length < 8796093022208 then (impl_setOf.l1 k x0 (x3 ++ [(⟨x4, x5⟩ : S35)]) x4 (wrap64 (x5 + 1)) x8 x9) else (none)) else (impl_setOf.l0 k x0 x3 x8 (wrap64 (x9 + 1)))
end
def impl_setOf.f (k : Nat) (a0 : Int) : Option ((List (S35))) := impl_setOf.l0 k a0 (([] : List (S35))) (wrap64 (a0 + 1)) 0
theorem impl_setOf.mono_l : ∀ k, (∀ y0 y1 y2 y3, LeO (impl_setOf.l0 k y0 y1 y2 y3) (impl_setOf.l0 (k + 1) y0 y1 y2 y3)) ∧ (∀ y0 y1 y2 y3 y4 y5, LeO (impl_setOf.l1 k y0 y1 y2 y3 y4 y5) (impl_setOf.l1 (k + 1) y0 y1 y2 y3 y4 y5))
 | 0 => ⟨fun _ _ _ _ r h => by simp [impl_setOf.l0] at h, fun _ _ _ _ _ _ r h => by simp [impl_setOf.l1] at h⟩
 | k + 1 => by
  obtain ⟨ih0, ih1⟩ := impl_setOf.mono_l k
  refine ⟨?_, ?_⟩
  ·intro y0 y1 y2 y3
   unfold impl_setOf.l0
   repeat' first
   | (with_reducible exact ih0 _ _ _ _)
   | (with_reducible exact ih1 _ _ _ _ _ _)
   | (with_reducible exact LeO.refl _)
   | (with_reducible exact LeO.none _)
   | (with_reducible refine LeO.ite ?_ ?_)
   | (with_reducible refine LeO.bind ?_ (fun _ => ?_))
   | exact ih0 _ _ _ _
   | exact ih1 _ _ _ _ _ _
   | exact LeO.none _
   | refine LeO.ite ?_ ?_
   | refine LeO.bind ?_ (fun _ => ?_)
  ·intro y0 y1 y2 y3 y4 y5
   unfold impl_setOf.l1
   repeat' first
   | (with_reducible exact ih0 _ _ _ _)
   | (with_reducible exact ih1 _ _ _ _ _ _)
   | (with_reducible exact LeO.refl _)
   | (with_reducible exact LeO.none _)
   | (with_reducible refine LeO.ite ?_ ?_)
   | (with_reducible refine LeO.bind ?_ (fun _ => ?_))
   | exact ih0 _ _ _ _
   | exact ih1 _ _ _ _ _ _
   | exact LeO.none _
   | refine LeO.ite ?_ ?_
   | refine LeO.bind ?_ (fun _ => ?_)
theorem impl_setOf.mono : ∀ a0 k, LeO (impl_setOf.f k a0) (impl_setOf.f (k + 1) a0) := by
 intro a0 k
 obtain ⟨ih0, ih1⟩ := impl_setOf.mono_l k
 unfold impl_setOf.f
 repeat' first
   | (with_reducible exact ih0 _ _ _ _)
   | (with_reducible exact ih1 _ _ _ _ _ _)
   | (with_reducible exact LeO.refl _)
   | (with_reducible exact LeO.none _)
   | (with_reducible refine LeO.ite ?_ ?_)
   | (with_reducible refine LeO.bind ?_ (fun _ => ?_))
   | exact ih0 _ _ _ _
   | exact ih1 _ _ _ _ _ _
   | exact LeO.none _
   | refine LeO.ite ?_ ?_
   | refine LeO.bind ?_ (fun _ => ?_)
/-! ### impl_rank: function 43 -/
def impl_rank.f (k : Nat) (a0_0 : Int) (a0_1 : Int) : Option (Int) := (impl_setOf.f k 9).bind fun t333 => ((slices_Index_impl_Tile_impl_Tile.f k t333 a0_0 a0_1).bind fun t336 => (some t336))
/-! ### impl_RankOf: function 17 -/
def impl_RankOf.f (k : Nat) (a0_0 : Int) (a0_1 : Int) : Option (Int × Bool) := (impl_IsTile.f a0_0 a0_1).bind fun t338 => (if t338 = true then ((impl_rank.f k a0_0 a0_1).bind fun t339 => (some (t339, true))) else (some (0, false)))
/-! ### spec_l1Cur_number: function 69 -/
def spec_l1Cur_number.f (s0_0 : List Int) (s0_1 : Int) (s0_2 : Int) : Option (Int × Int × Int) := (spec_l1Cur_one.f s0_0 s0_1 s0_2 12).bind fun bt340 => (if bt340.1 = true then ((spec_l1Cur_among.f s0_0 bt340.2.1 bt340.2.2 (([(-1), 9, 10, 4611686018427387904] : List Int))).bind fun bt346 => (some (bt346.1, bt346.2.1, bt346.2.2))) else ((spec_l1Cur_pick.f s0_0 bt340.2.1 bt340.2.2 8).bind fun bt349 => (some (bt349.1, bt349.2.1, bt349.2.2))))
/-! ### spec_DrawTimesOf: function 44 -/
def spec_DrawTimesOf.f (k : Nat) (l0 : List Int) : Option ((List (S35)) × Int) := (spec_l1Cur_hand.f k l0 0 0 10 6).bind fun bt353 => ((spec_l1Cur_number.f l0 bt353.2.1 bt353.2.2).bind fun bt358 => (some (bt353.1, bt358.1)))
/-! ### spec_DrawMissingFrom: function 18 -/
def spec_DrawMissingFrom.f (k : Nat) (l0 : List Int) : Option ((List (S35)) × Int) := (spec_DrawTimesOf.f k l0).bind fun bt361 => (some (bt361.1, bt361.2))
/-! ### impl_isNumber: function 45 -/
def impl_isNumber.f (a0 : Int) : Option (Bool) := (impl_within.f a0 0 9).bind fun t365 => (some t365)
/-! ### impl_isUpTo: function 46, by hand -/
theorem isUpTo_1 (x : S35) (n : Int) (g1 : Nat) (w : World) (h1 : w.cell? ⟨g1, 0, none⟩ = some (.int .i64 n)) :
  Calls Try.prog 70 #[.agg #[.int .i64 x.f0, .int .i64 x.f1], .pointer (some ⟨g1, 0, none⟩)] w fun e w' => e = .returned (.bool (decide (n < x.f1))) ∧ Below w.heap.size w w' := by
 have hlt : g1 < w.heap.size := World.block_lt_of_cell? w _ h1
 have hne : g1 ≠ w.heap.size := by omega
 by_cases hd : n < x.f1
 ·have hd1 : decide (n < x.f1) = true := decide_eq_true hd
  go_enter Try.func70, Try.ntmps70
  go_wp2
  go_ret
  exact ⟨by simp_all, (Below.refl _ _).alloc (Nat.le_refl _) _⟩
 ·have hd1 : decide (n < x.f1) = false := decide_eq_false hd
  go_enter Try.func70, Try.ntmps70
  go_wp2
  go_ret
  exact ⟨by simp_all, (Below.refl _ _).alloc (Nat.le_refl _) _⟩

/-- isUpTo: no number is greater. -/
def impl_isUpTo.f (l0 : List S35) (a1 : Int) : Option Bool := some (!(l0.any fun x => decide (a1 < x.f1)))
set_option maxHeartbeats 1000000 in
theorem impl_isUpTo.calls (A0 : Option Addr) (c0 : Nat) (l0 : List (S35)) (a1 : Int) (r : Bool) (w : World) (hr0 : Kd.C k35 w A0 l0.length l0) (_hc0 : l0.length ≤ c0) (h : impl_isUpTo.f l0 a1 = some r) :
  Calls Try.prog 46 #[.slice A0 l0.length c0, .int .i64 a1] w fun e w' => e = .returned (.bool r) ∧ Below w.heap.size w w' := by
 have hmf : ∀ (fn : Fn) (first cap : Array Value) (w : World), (Instr.makeFunc fn first cap).run Try.prog w = .ok (.func fn first cap) w := fun _ _ _ _ => rfl
 obtain rfl := Option.some.inj h
 have hb0 : Below w.heap.size w (w.alloc (.cells #[.int .i64 a1] 3)) := (Below.refl _ _).alloc (Nat.le_refl _) _
 have hcon := conT 70 #[.pointer (some ⟨w.heap.size, 0, none⟩)] (fun x => decide (a1 < x.f1)) A0 c0 l0 (w.alloc (.cells #[.int .i64 a1] 3)) (Kd.C_below hr0 hb0)
  (enters_of' Try.func70 (by kernel_rfl) rfl) (fun x W hW => isUpTo_1 x a1 _ W
   ((hW.cell (p := ⟨w.heap.size, 0, none⟩) (by simp)).trans (by rw [World.cell?_alloc_at _ _ _ _ rfl]; rfl)))
 generalize (l0.any fun x => decide (a1 < x.f1)) = b at hcon ⊢
 clear h hr0
 go_enter Try.func46, Try.ntmps46
 go_wp2_with (go_at_call 38; refine hcon.mono ?_; rintro e w' ⟨rfl, hb⟩)
 go_ret
 exact ⟨rfl, hb0.trans (hb.mono (by simp))⟩

-- NOT PRINTED: function 19 (impl_MissingFrom)

/-! ### spec_tiNumber: function 48 -/
def spec_tiNumber.f (a0 : Int) : Option (Bool) := (spec_l1In.f a0 0 9).bind fun t372 => (some t372)
/-! ### spec_tiWithin: function 49 -/
def spec_tiWithin.l0 : Nat → Int → List (S35) → Int → Int → Option (Bool)
 | 0, _, _, _, _ => none
 | k + 1, x1, x7, x8, x9 => if x9 < x8 then (if 0 ≤ x9 then (if x9 < (x7.length : Int) then (if ((rd_T35 x7 x9).f1) > x1 then (some false) else (spec_tiWithin.l0 k x1 x7 x8 (wrap64 (x9 + 1)))) else (none)) else (none)) else (some true)
def spec_tiWithin.f (k : Nat) (l0 : List (S35)) (a1 : Int) : Option (Bool) := spec_tiWithin.l0 k a1 l0 (l0.length : Int) 0
end Go.Proofs.Ytkaafmnfcbgafaa.QFnHandsAsSets
