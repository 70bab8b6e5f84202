-- WRITTEN BY A PROGRAM OF THIS CLAIM'S AUTHOR (wprint.py)
import Derived.Test.YtafcjfilhdpgdaaQFnChancesComparedx0
import Derived.Test.YtafcjfilhdpgdaaQFnChancesComparedx9
namespace Go.Proofs.Ytafcjfilhdpgdaa.QFnChancesCompared
open Go.RowKit Go.Proofs.YtafcjfilhdpgdaaW.PrintWords Go.Proofs.YtafcjfilhdpgdaaW.PrintLast Go.Proofs.YtafcjfilhdpgdaaW.PrintMore
attribute [local go_sem] max2_int min2_int max_two min_two max_three min_three max_four min_four   -- for this text's walks alone
set_option linter.unusedVariables false
set_option linter.unusedSimpArgs false

/-! ### spec_dcPips: function 54 -/
mutual
def spec_dcPips.l0 : Nat → Int → Int → Int → List (S53) → Int → Int → Option (List Int)
 | 0, _, _, _, _, _, _ => none
 | k + 1, x0, x1, x5, x16, x17, x18 => if x18 < x17 then (if 0 ≤ x18 then (if x18 < (x16.length : Int) then (spec_dcPips.l0 k x0 x1 (wrap64 (x5 + (wrap64 (((rd_T53 x16 x18).f0) + ((rd_T53 x16 x18).f1))))) x16 x17 (wrap64 (x18 + 1))) else (none)) else (none)) else (if 0 ≤ (wrap64 (x1 + 1)) then (if (wrap64 (x1 + 1) : Int).toNat ≤ 11728124029610 then ((some (List.replicate (wrap64 (x1 + 1) : Int).toNat [] : List (List Int))).bind fun y345 => (spec_dcPips.l1 k x0 x1 x5 y345 (y345.length : Int) 0)) else (none)) else (none))
def spec_dcPips.l1 : Nat → Int → Int → Int → List (List Int) → Int → Int → Option (List Int)
 | 0, _, _, _, _, _, _ => none
 | k + 1, x0, x1, x5, x8, x34, x35 => if x35 < x34 then (if 0 ≤ (wrap64 (x5 + 1)) then (if (wrap64 (x5 + 1) : Int).toNat ≤ 35184372088832 then (if 0 ≤ x35 then (if x35 < (x8.length : Int) then (spec_dcPips.l1 k x0 x1 x5 (x8.set (x35 : Int).toNat (List.replicate (wrap64 (x5 + 1) : Int).toNat 0)) x34 (wrap64 (x35 + 1))) else (none)) else (none)) else (none)) else (none)) else (if 0 < (x8.length : Int) then (if 0 < ((rd_L3 x8 0).length : Int) then ((spec_tiSet.f k x0).bind fun t356 => (spec_dcPips.l2 k x1 x5 (x8.set (0 : Int).toNat ((rd_L3 x8 0).set (0 : Int).toNat 1)) t356 (t356.length : Int) 0)) else (none)) else (none))
def spec_dcPips.l2 : Nat → Int → Int → List (List Int) → List (S53) → Int → Int → Option (List Int)
 | 0, _, _, _, _, _, _ => none
 | k + 1, x1, x5, x8, x50, x51, x52 => if x52 < x51 then (if 0 ≤ x52 then (if x52 < (x50.length : Int) then (spec_dcPips.l3 k x1 x5 x8 (wrap64 (((rd_T53 x50 x52).f0) + ((rd_T53 x50 x52).f1))) x1 x50 x51 x52) else (none)) else (none)) else (if 0 ≤ x1 then (if x1 < (x8.length : Int) then (some (rd_L3 x8 x1)) else (none)) else (none))
def spec_dcPips.l3 : Nat → Int → Int → List (List Int) → Int → Int → List (S53) → Int → Int → Option (List Int)
 | 0, _, _, _, _, _, _, _, _ => none
 | k + 1, x1, x5, x8, x12, x13, x50, x51, x52 => if x13 > 0 then (spec_dcPips.l4 k x1 x5 x8 x12 x13 x5 x50 x51 x52) else (spec_dcPips.l2 k x1 x5 x8 x50 x51 (wrap64 (x52 + 1)))
def spec_dcPips.l4 : Nat → Int → Int → List (List Int) → Int → Int → Int → List (S53) → Int → Int → Option (List Int)
 | 0, _, _, _, _, _, _, _, _, _ => none
 | k + 1, x1, x5, x8, x12, x13, x14, x50, x51, x52 => if x14 ≥ x12 then (if 0 ≤ x13 then (if x13 < (x8.length : Int) then (if 0 ≤ x14 then (if x14 < ((rd_L3 x8 x13).length : Int) then (if 0 ≤ (wrap64 (x13 - 1)) then (if (wrap64 (x13 - 1)) < (x8.length : Int) then (if 0 ≤ (wrap64 (x14 - x12)) then (if (wrap64 (x14 - x12)) < ((rd_L3 x8 (wrap64 (x13 - 1))).length : Int) then (spec_dcPips.l4 k x1 x5 (x8.set (x13 : Int).toNat ((rd_L3 x8 x13).set (x14 : Int).toNat (wrap64 ((rd (rd_L3 x8 x13) x14) + (rd (rd_L3 x8 (wrap64 (x13 - 1))) (wrap64 (x14 - x12))))))) x12 x13 (wrap64 (x14 - 1)) x50 x51 x52) else (none)) else (none)) else (none)) else (none)) else (none)) else (none)) else (none)) else (none)) else (spec_dcPips.l3 k x1 x5 x8 x12 (wrap64 (x13 - 1)) x50 x51 x52)
end
def spec_dcPips.f (k : Nat) (a0 : Int) (a1 : Int) : Option (List Int) := (spec_tiSet.f k a0).bind fun t340 => (spec_dcPips.l0 k a0 a1 0 t340 (t340.length : Int) 0)
theorem spec_dcPips.mono_l : ∀ k, (∀ y0 y1 y2 y3 y4 y5, LeO (spec_dcPips.l0 k y0 y1 y2 y3 y4 y5) (spec_dcPips.l0 (k + 1) y0 y1 y2 y3 y4 y5)) ∧ (∀ y0 y1 y2 y3 y4 y5, LeO (spec_dcPips.l1 k y0 y1 y2 y3 y4 y5) (spec_dcPips.l1 (k + 1) y0 y1 y2 y3 y4 y5)) ∧ (∀ y0 y1 y2 y3 y4 y5, LeO (spec_dcPips.l2 k y0 y1 y2 y3 y4 y5) (spec_dcPips.l2 (k + 1) y0 y1 y2 y3 y4 y5)) ∧ (∀ y0 y1 y2 y3 y4 y5 y6 y7, LeO (spec_dcPips.l3 k y0 y1 y2 y3 y4 y5 y6 y7) (spec_dcPips.l3 (k + 1) y0 y1 y2 y3 y4 y5 y6 y7)) ∧ (∀ y0 y1 y2 y3 y4 y5 y6 y7 y8, LeO (spec_dcPips.l4 k y0 y1 y2 y3 y4 y5 y6 y7 y8) (spec_dcPips.l4 (k + 1) y0 y1 y2 y3 y4 y5 y6 y7 y8))
 | 0 => ⟨fun _ _ _ _ _ _ r h => by simp [spec_dcPips.l0] at h, fun _ _ _ _ _ _ r h => by simp [spec_dcPips.l1] at h, fun _ _ _ _ _ _ r h => by simp [spec_dcPips.l2] at h, fun _ _ _ _ _ _ _ _ r h => by simp [spec_dcPips.l3] at h, fun _ _ _ _ _ _ _ _ _ r h => by simp [spec_dcPips.l4] at h⟩
 | k + 1 => by
  obtain ⟨ih0, ih1, ih2, ih3, ih4⟩ := spec_dcPips.mono_l k
  refine ⟨?_, ?_, ?_, ?_, ?_⟩
  ·intro y0 y1 y2 y3 y4 y5
   unfold spec_dcPips.l0
   repeat' first
   | (with_reducible exact ih0 _ _ _ _ _ _)
   | (with_reducible exact ih1 _ _ _ _ _ _)
   | (with_reducible exact ih2 _ _ _ _ _ _)
   | (with_reducible exact ih3 _ _ _ _ _ _ _ _)
   | (with_reducible exact ih4 _ _ _ _ _ _ _ _ _)
   | (with_reducible exact spec_tiSet.mono _ _)
   | (with_reducible exact LeO.refl _)
   | (with_reducible exact LeO.none _)
   | (with_reducible refine LeO.ite ?_ ?_)
   | (with_reducible refine LeO.bind ?_ (fun _ => ?_))
   | exact ih0 _ _ _ _ _ _
   | exact ih1 _ _ _ _ _ _
   | exact ih2 _ _ _ _ _ _
   | exact ih3 _ _ _ _ _ _ _ _
   | exact ih4 _ _ _ _ _ _ _ _ _
   | exact spec_tiSet.mono _ _
   | exact LeO.none _
   | refine LeO.ite ?_ ?_
   | refine LeO.bind ?_ (fun _ => ?_)
  ·intro y0 y1 y2 y3 y4 y5
   unfold spec_dcPips.l1
   repeat' first
   | (with_reducible exact ih0 _ _ _ _ _ _)
   | (with_reducible exact ih1 _ _ _ _ _ _)
   | (with_reducible exact ih2 _ _ _ _ _ _)
   | (with_reducible exact ih3 _ _ _ _ _ _ _ _)
   | (with_reducible exact ih4 _ _ _ _ _ _ _ _ _)
   | (with_reducible exact spec_tiSet.mono _ _)
   | (with_reducible exact LeO.refl _)
   | (with_reducible exact LeO.none _)
   | (with_reducible refine LeO.ite ?_ ?_)
   | (with_reducible refine LeO.bind ?_ (fun _ => ?_))
   | exact ih0 _ _ _ _ _ _
   | exact ih1 _ _ _ _ _ _
   | exact ih2 _ _ _ _ _ _
   | exact ih3 _ _ _ _ _ _ _ _
   | exact ih4 _ _ _ _ _ _ _ _ _
   | exact spec_tiSet.mono _ _
   | exact LeO.none _
   | refine LeO.ite ?_ ?_
   | refine LeO.bind ?_ (fun _ => ?_)
  ·intro y0 y1 y2 y3 y4 y5
   unfold spec_dcPips.l2
   repeat' first
   | (with_reducible exact ih0 _ _ _ _ _ _)
   | (with_reducible exact ih1 _ _ _ _ _ _)
   | (with_reducible exact ih2 _ _ _ _ _ _)
   | (with_reducible exact ih3 _ _ _ _ _ _ _ _)
   | (with_reducible exact ih4 _ _ _ _ _ _ _ _ _)
   | (with_reducible exact spec_tiSet.mono _ _)
   | (with_reducible exact LeO.refl _)
   | (with_reducible exact LeO.none _)
   | (with_reducible refine LeO.ite ?_ ?_)
   | (with_reducible refine LeO.bind ?_ (fun _ => ?_))
   | exact ih0 _ _ _ _ _ _
   | exact ih1 _ _ _ _ _ _
   | exact ih2 _ _ _ _ _ _
   | exact ih3 _ _ _ _ _ _ _ _
   | exact ih4 _ _ _ _ _ _ _ _ _
   | exact spec_tiSet.mono _ _
   | exact LeO.none _
   | refine LeO.ite ?_ ?_
   | refine LeO.bind ?_ (fun _ => ?_)
  ·intro y0 y1 y2 y3 y4 y5 y6 y7
   unfold spec_dcPips.l3
   repeat' first
   | (with_reducible exact ih0 _ _ _ _ _ _)
   | (with_reducible exact ih1 _ _ _ _ _ _)
   | (with_reducible exact ih2 _ _ _ _ _ _)
   | (with_reducible exact ih3 _ _ _ _ _ _ _ _)
   | (with_reducible exact ih4 _ _ _ _ _ _ _ _ _)
   | (with_reducible exact spec_tiSet.mono _ _)
   | (with_reducible exact LeO.refl _)
   | (with_reducible exact LeO.none _)
   | (with_reducible refine LeO.ite ?_ ?_)
   | (with_reducible refine LeO.bind ?_ (fun _ => ?_))
   | exact ih0 _ _ _ _ _ _
   | exact ih1 _ _ _ _ _ _
   | exact ih2 _ _ _ _ _ _
   | exact ih3 _ _ _ _ _ _ _ _
   | exact ih4 _ _ _ _ _ _ _ _ _
   | exact spec_tiSet.mono _ _
   | exact LeO.none _
   | refine LeO.ite ?_ ?_
   | refine LeO.bind ?_ (fun _ => ?_)
  ·intro y0 y1 y2 y3 y4 y5 y6 y7 y8
   unfold spec_dcPips.l4
   repeat' first
   | (with_reducible exact ih0 _ _ _ _ _ _)
   | (with_reducible exact ih1 _ _ _ _ _ _)
   | (with_reducible exact ih2 _ _ _ _ _ _)
   | (with_reducible exact ih3 _ _ _ _ _ _ _ _)
   | (with_reducible exact ih4 _ _ _ _ _ _ _ _ _)
   | (with_reducible exact spec_tiSet.mono _ _)
   | (with_reducible exact LeO.refl _)
   | (with_reducible exact LeO.none _)
   | (with_reducible refine LeO.ite ?_ ?_)
   | (with_reducible refine LeO.bind ?_ (fun _ => ?_))
   | exact ih0 _ _ _ _ _ _
   | exact ih1 _ _ _ _ _ _
   | exact ih2 _ _ _ _ _ _
   | exact ih3 _ _ _ _ _ _ _ _
   | exact ih4 _ _ _ _ _ _ _ _ _
   | exact spec_tiSet.mono _ _
   | exact LeO.none _
   | refine LeO.ite ?_ ?_
   | refine LeO.bind ?_ (fun _ => ?_)
theorem spec_dcPips.mono : ∀ a0 a1 k, LeO (spec_dcPips.f k a0 a1) (spec_dcPips.f (k + 1) a0 a1) := by
 intro a0 a1 k
 obtain ⟨ih0, ih1, ih2, ih3, ih4⟩ := spec_dcPips.mono_l k
 unfold spec_dcPips.f
 repeat' first
   | (with_reducible exact ih0 _ _ _ _ _ _)
   | (with_reducible exact ih1 _ _ _ _ _ _)
   | (with_reducible exact ih2 _ _ _ _ _ _)
   | (with_reducible exact ih3 _ _ _ _ _ _ _ _)
   | (with_reducible exact ih4 _ _ _ _ _ _ _ _ _)
   | (with_reducible exact spec_tiSet.mono _ _)
   | (with_reducible exact LeO.refl _)
   | (with_reducible exact LeO.none _)
   | (with_reducible refine LeO.ite ?_ ?_)
   | (with_reducible refine LeO.bind ?_ (fun _ => ?_))
   | exact ih0 _ _ _ _ _ _
   | exact ih1 _ _ _ _ _ _
   | exact ih2 _ _ _ _ _ _
   | exact ih3 _ _ _ _ _ _ _ _
   | exact ih4 _ _ _ _ _ _ _ _ _
   | exact spec_tiSet.mono _ _
   | exact LeO.none _
   | refine LeO.ite ?_ ?_
   | refine LeO.bind ?_ (fun _ => ?_)
def spec_dcPips.T24 : Bool × List (List Nat × List Nat) := (true, [([], []), ([], []), ([0, 1], [0, 1]), ([2], [2]), ([], []), ([3, 4], [3, 4]), ([5], [5]), ([], []), ([], []), ([8], [8]), ([7, 9], [7, 9]), ([10], [10]), ([], []), ([], []), ([12, 13], [12, 13]), ([11, 14], [11, 14]), ([15], [15]), ([6, 16], [6, 16]), ([3, 4, 0, 1, 2, 3, 4, 5, 6, 7, 8, 9, 10, 11, 12, 13, 14, 15, 16, 17], [3, 4]), ([18, 17, 0, 1, 2, 3, 4, 5, 6, 7, 8, 9, 10, 11, 12, 13, 14, 15, 16, 17], [17, 18])])
def spec_dcPips.B24 : List Nat := [0, 0, 3, 7, 0, 31, 63, 0, 0, 256, 896, 1920, 0, 0, 12288, 32640, 65408, 131071, 262143, 524287]
theorem spec_dcPips.tab24 : rtab .any (opsOf Try.f54 24) = spec_dcPips.T24 := by kernel_rfl
theorem spec_dcPips.bits24 : waitsOk spec_dcPips.T24.2 spec_dcPips.B24 = true := by kernel_rfl
set_option maxHeartbeats 8000000 in
set_option maxRecDepth 100000 in
theorem spec_dcPips.calls (k : Nat) (a0 : Int) (a1 : Int) (r : List Int) (w : World) (h : spec_dcPips.f k a0 a1 = some r) :
  Calls Try.prog 54 #[.int .i64 a0, .int .i64 a1] w fun e w' => ∃ v0_ : Value, e = .returned (v0_) ∧ Kd.R (Kd.int .i64) 3 w' w.heap.size (fun _ => True) v0_ r ∧ Below w.heap.size w w' := by
 have hu53 := Try.underlying53
 have HB := Aside0.mk (Below.refl w.heap.size w)
 have H : ((spec_tiSet.f k a0).bind fun t340 => (spec_dcPips.l0 k a0 a1 0 t340 (t340.length : Int) 0)) = some r := h
 clear h
 replace H := Option.bind_eq_some_iff.mp H
 obtain ⟨t340, A30, H⟩ := H
 replace H : (spec_dcPips.l0 k a0 a1 0 t340 (t340.length : Int) 0) = some r := H
 have A3 := Aside0.mk A30
 clear A30
 have H' := Aside0.mk H
 clear H
 go_enter Try.func54, Try.ntmps54
 go_wp2_with (first | ((with_reducible refine gate_callee (f := 43) rfl ?_); refine goesL_ (some 16) rfl rfl Try.func43 (by kernel_rfl) rfl #[.int .i64 a0] rfl (by simp only [List.map_toArray, List.map_cons, List.map_nil] <;> rfl) ?_; (with_reducible refine (spec_tiSet.calls k a0 t340 _ A3.out).mono ?_); rintro e w4 ⟨v341, rfl, ho0, hb⟩; refine ⟨_, rfl, ?_⟩; have HO342 := Aside0.mk (Kd.R_lower ho0 (below_size HB.out)); replace HB := Aside0.mk (below_step HB.out hb); (try clear ho0); obtain ⟨Ao5, co5, eo5⟩ := Kd.R_slice HO342.out; subst eo5))
 go_loopg [5, 18] k (fun kq v5 v18 w' => ∃ (x5_1 : Int) (x18_1 : Int), v5 = .int .i64 x5_1 ∧ v18 = .int .i64 x18_1 ∧ Aside0 (spec_dcPips.l0 kq a0 a1 x5_1 t340 (t340.length : Int) x18_1 = some r) ∧ Aside0 (kq ≤ k) ∧ Aside0 (Kd.R k53 53 w' w.heap.size (fun _ => True) (.slice Ao5 t340.length co5) t340) ∧ Aside0 (Below w.heap.size w w'))
 case atStart => exact ⟨(0), (0), rfl, rfl, H', ⟨Nat.le_refl _⟩, ⟨HO342.out⟩, ⟨HB.out⟩⟩
 case round =>
  clear H'
  try clear p2
  try clear c4
  try clear c5
  obtain ⟨x5_1, x18_1, rfl, rfl, HA, HK1, HO_16, HB⟩ := hrel
  cases gk with
  | zero => exact absurd HA.out (by simp [spec_dcPips.l0])
  | succ k1 =>
   have H := HA.out
   clear HA
   simp only [spec_dcPips.l0] at H
   by_cases c6 : x18_1 < (t340.length : Int)
   ·rw [if_pos c6] at H
    have c6b0 : decide (x18_1 < (t340.length : Int)) = true := decide_eq_true c6
    clear c6
    by_cases c7 : 0 ≤ x18_1
    ·rw [if_pos c7] at H
     have c7b0 : decide (0 ≤ x18_1) = true := decide_eq_true c7
     clear c7
     by_cases c8 : x18_1 < (t340.length : Int)
     ·rw [if_pos c8] at H
      have c8b0 : decide (x18_1 < (t340.length : Int)) = true := decide_eq_true c8
      clear c8
      have H' := Aside0.mk H
      clear H
      have p343 : 0 ≤ (x18_1 : Int) := of_decide_eq_true (by assumption)
      have q343 : x18_1 < (t340.length : Int) := of_decide_eq_true (by assumption)
      obtain ⟨ad343, e343, hx343_0, hx343_1⟩ := at_T53 (Kd.R_reads' HO_16.out).2.2 x18_1 p343 q343
      cases e343
      replace p343 := eq_true p343
      replace q343 := eq_true q343
      go_wp2_with (first | ((with_reducible refine gate_dst (N := 7) rfl ?_); refine box_event ?hg (N := 7) ?hd (cs := #[.int .i64 0, .int .i64 0]) (t := 53) ?hr ?_; (case hd => rfl); (case hg => rfl); (case hr => first | (go_simp; done) | (go_simp; rfl)); intro gb344 hg w9 hbox hb; replace HO_16 := Aside0.mk (Kd.R_below (Kd.R_elderB (HO_16.out) gb344 (Nat.le_of_eq hg.symm)) hb); have BK344 := Aside0.mk (hbox); have GW344 := Aside0.mk ((by rw [hg]; exact (below_size HB.out) : w.heap.size ≤ gb344)); have GE344 := Aside0.mk ((by rw [hg]; exact (below_size HB.out) : w.heap.size ≤ gb344)); replace HB := Aside0.mk (below_step HB.out hb); clear hb hbox hg; have hcz10_0 : w9.cell? ⟨gb344, 0, none⟩ = some (.int .i64 0) := (blk_cell BK344.out 0).trans rfl; have hcz10_1 : w9.cell? ⟨gb344, 1, none⟩ = some (.int .i64 0) := (blk_cell BK344.out 1).trans rfl; have hfz10_0 := blk_frozen BK344.out 0; have hfz10_1 := blk_frozen BK344.out 1))
      go_roundg k1
      case measure => have := HK1.out; omega
      case rel => exact ⟨(wrap64 (x5_1 + (wrap64 (((rd_T53 t340 x18_1).f0) + ((rd_T53 t340 x18_1).f1))))), (wrap64 (x18_1 + 1)), rfl, rfl, H', ⟨by have := HK1.out; omega⟩, ⟨by (with_reducible repeat (first | apply Kd.R_alloc | apply Kd.R_drewN | apply Kd.R_drew)); exact Kd.R_mono (Kd.R_far (p := ⟨gb344, 1, none⟩) (Kd.R_far (p := ⟨gb344, 0, none⟩) (Kd.R_mono HO_16.out (fun k_ hk => (⟨hk, hk.2⟩ : _ ∧ k_ ≠ gb344))) (fun _ hk => hk.2) (.int .i64 ((rd_T53 t340 x18_1).f0))) (fun _ hk => hk.2) (.int .i64 ((rd_T53 t340 x18_1).f1))) (fun _ hk => trivial)⟩, ⟨by repeat (first | (with_reducible first | exact HB.out | apply below_alloc | apply pw_below_drewN | apply below_drew1 | refine below_set ?_ GE344.out) | exact HB.out)⟩⟩
     ·rw [if_neg c8] at H
      exact absurd H (by simp)
    ·rw [if_neg c7] at H
     exact absurd H (by simp)
   ·rw [if_neg c6] at H
    have c6b0 : decide (x18_1 < (t340.length : Int)) = false := decide_eq_false c6
    clear c6
    obtain ⟨ji11, hji11⟩ : ∃ j_ : Int, (wrap64 (a1 + 1)) = j_ := ⟨_, rfl⟩
    replace H : (if 0 ≤ (ji11) then (if (ji11 : Int).toNat ≤ 11728124029610 then ((some (List.replicate (ji11 : Int).toNat [] : List (List Int))).bind fun y345 => (spec_dcPips.l1 k1 a0 a1 x5_1 y345 (y345.length : Int) 0)) else (none)) else (none)) = some r := by first | (rw [hji11] at H; exact H) | (simp only [hji11] at H ⊢; exact H)
    have hji11w : (IntKind.i64.wrap (a1 + 1)) = ji11 := (i64_w _).trans hji11
    by_cases c12 : 0 ≤ (ji11)
    ·rw [if_pos c12] at H
     have c12b0 := eq_true c12
     have c12b1 : decide (0 ≤ (ji11)) = true := decide_eq_true c12
     clear c12
     by_cases c13 : (ji11 : Int).toNat ≤ 11728124029610
     ·rw [if_pos c13] at H
      have c13b0 := eq_true c13
      have c13b1 : decide ((ji11 : Int).toNat ≤ 11728124029610) = true := decide_eq_true c13
      clear c13
      obtain ⟨y345, hy345⟩ : ∃ y_ : List (List Int), y_ = (List.replicate (ji11 : Int).toNat []) := ⟨_, rfl⟩
      replace H : (spec_dcPips.l1 k1 a0 a1 x5_1 y345 (y345.length : Int) 0) = some r := by first | (rw [hy345]; with_reducible exact H) | (have H2_ := (Option.bind_some _ _).symm.trans H; rw [hy345]; with_reducible exact H2_) | (have H2_ := (Option.bind_some _ _).symm.trans H; with_reducible exact H2_) | with_reducible exact H | (rw [hy345]; exact H) | exact H
      have Ny345 := Aside0.mk hy345
      clear hy345
      have H' := Aside0.mk H
      clear H
      go_wp2_with (first | ((with_reducible refine gate_dst (N := 32) rfl ?_); refine Kd.S_make (Kd.slice 3 (Kd.int .i64)) _ 62 rfl (N := 32) rfl 67 _ _ rfl ji11 rfl rfl Try.underlying67 (.slice none 0 0) 24 info62 rfl (by decide) (by omega) [] (ok := fun _ => True) (okp := fun _ => True) ⟨_, rfl, Kd.R_nil _ _ _ _ _⟩ (fun _ hk => hk) trivial (of_decide_eq_true (by assumption)) (Nat.le_trans (Nat.mul_le_mul_right _ (of_decide_eq_true (by assumption) : ji11.toNat ≤ 11728124029610)) (by omega)) (Below.refl _ _) (Nat.le_refl _) ?_; intro v346 w14 ho15 hb hg_ hnew_; clear hg_ hnew_; (first | rw [← Ny345.out] at ho15 | (simp only [Int.reduceToNat] at ho15; rw [← Ny345.out] at ho15)); replace HO_16 := Aside0.mk (Kd.R_below (HO_16.out) hb); have HO347 := Aside0.mk (Kd.S_lower ho15 (below_size HB.out)); replace HB := Aside0.mk (below_step HB.out hb); clear hb ho15; obtain ⟨Ao16, co16, eo16⟩ := Kd.S_slice HO347.out; subst eo16))
      go_loopg [35] k1 (fun kq v35 w' => ∃ (x8_2 : List (List Int)) (x35_2 : Int), v35 = .int .i64 x35_2 ∧ Aside0 (spec_dcPips.l1 kq a0 a1 x5_1 x8_2 (y345.length : Int) x35_2 = some r) ∧ Aside0 (kq ≤ k1) ∧ Aside0 (Kd.S (Kd.slice 3 (Kd.int .i64)) 62 w' w.heap.size (fun _ => True) (.slice Ao16 y345.length co16) x8_2) ∧ Aside0 (Below w.heap.size w w'))
      case atStart => exact ⟨(y345), (0), rfl, H', ⟨Nat.le_refl _⟩, ⟨HO347.out⟩, ⟨HB.out⟩⟩
      case round =>
       clear H'
       try clear c1
       try clear p2
       try clear p3
       try clear q3
       try clear hx3
       try clear c4
       try clear c5
       try clear c6
       try clear c6b0
       try clear p6
       try clear c7
       try clear c7b0
       try clear c8
       try clear c8b0
       try clear c12
       try clear c12b0
       try clear c12b1
       try clear c13
       try clear c13b0
       try clear c13b1
       try clear hcz10_0
       try clear hcz10_1
       try clear hfz10_0
       try clear hfz10_1
       try clear hx343_0
       try clear hx343_1
       try clear p2
       try clear p343
       try clear q343
       obtain ⟨x8_2, x35_2, rfl, HA, HK2, HO_8, HB⟩ := hrel
       have hl8_2 := (Kd.S_reads' HO_8.out).1
       rw [hl8_2] at HO_8
       (try simp only [hl8_2])
       cases gk with
       | zero => exact absurd HA.out (by simp [spec_dcPips.l1])
       | succ k2 =>
        have H := HA.out
        clear HA
        simp only [spec_dcPips.l1] at H
        by_cases c17 : x35_2 < (y345.length : Int)
        ·rw [if_pos c17] at H
         have c17b0 : decide (x35_2 < (y345.length : Int)) = true := decide_eq_true c17
         clear c17
         obtain ⟨ji18, hji18⟩ : ∃ j_ : Int, (wrap64 (x5_1 + 1)) = j_ := ⟨_, rfl⟩
         replace H : (if 0 ≤ (ji18) then (if (ji18 : Int).toNat ≤ 35184372088832 then (if 0 ≤ x35_2 then (if x35_2 < (x8_2.length : Int) then (spec_dcPips.l1 k2 a0 a1 x5_1 (x8_2.set (x35_2 : Int).toNat (List.replicate (ji18 : Int).toNat 0)) (y345.length : Int) (wrap64 (x35_2 + 1))) else (none)) else (none)) else (none)) else (none)) = some r := by first | (rw [hji18] at H; exact H) | (simp only [hji18] at H ⊢; exact H)
         have hji18w : (IntKind.i64.wrap (x5_1 + 1)) = ji18 := (i64_w _).trans hji18
         by_cases c19 : 0 ≤ (ji18)
         ·rw [if_pos c19] at H
          have c19b0 := eq_true c19
          have c19b1 : decide (0 ≤ (ji18)) = true := decide_eq_true c19
          clear c19
          by_cases c20 : (ji18 : Int).toNat ≤ 35184372088832
          ·rw [if_pos c20] at H
           have c20b0 := eq_true c20
           have c20b1 : decide ((ji18 : Int).toNat ≤ 35184372088832) = true := decide_eq_true c20
           clear c20
           obtain ⟨y348, hy348⟩ : ∃ y_ : List Int, y_ = (List.replicate (ji18 : Int).toNat 0) := ⟨_, rfl⟩
           replace H : (if 0 ≤ x35_2 then (if x35_2 < (x8_2.length : Int) then (spec_dcPips.l1 k2 a0 a1 x5_1 (x8_2.set (x35_2 : Int).toNat y348) (y345.length : Int) (wrap64 (x35_2 + 1))) else (none)) else (none)) = some r := by first | (rw [hy348]; with_reducible exact H) | (have H2_ := (Option.bind_some _ _).symm.trans H; rw [hy348]; with_reducible exact H2_) | (have H2_ := (Option.bind_some _ _).symm.trans H; with_reducible exact H2_) | with_reducible exact H | (rw [hy348]; exact H) | exact H
           have Ny348 := Aside0.mk hy348
           clear hy348
           by_cases c21 : 0 ≤ x35_2
           ·rw [if_pos c21] at H
            have c21b0 : decide (0 ≤ x35_2) = true := decide_eq_true c21
            clear c21
            by_cases c22 : x35_2 < (x8_2.length : Int)
            ·rw [if_pos c22] at H
             have c22b0 : decide (x35_2 < (x8_2.length : Int)) = true := decide_eq_true c22
             clear c22
             obtain ⟨y351, hy351⟩ : ∃ y_ : List (List Int), y_ = (x8_2.set (x35_2 : Int).toNat y348) := ⟨_, rfl⟩
             replace H : (spec_dcPips.l1 k2 a0 a1 x5_1 y351 (y345.length : Int) (wrap64 (x35_2 + 1))) = some r := by first | (rw [hy351]; with_reducible exact H) | (have H2_ := (Option.bind_some _ _).symm.trans H; rw [hy351]; with_reducible exact H2_) | (have H2_ := (Option.bind_some _ _).symm.trans H; with_reducible exact H2_) | with_reducible exact H | (rw [hy351]; exact H) | exact H
             have Ny351 := Aside0.mk hy351
             clear hy351
             have H' := Aside0.mk H
             clear H
             go_wp2_with (first | ((with_reducible refine gate_dst (N := 42) rfl ?_); refine Kd.R_make (Kd.int .i64) _ 3 rfl (N := 42) rfl 62 _ _ rfl ji18 rfl rfl Try.underlying62 (.int .i64 0) 8 info3 rfl (by decide) (by omega) 0 (ok := fun _ => True) (okp := fun _ => True) rfl (fun _ hk => hk) trivial (of_decide_eq_true (by assumption)) (Nat.le_trans (Nat.mul_le_mul_right _ (of_decide_eq_true (by assumption) : ji18.toNat ≤ 35184372088832)) (by omega)) (Below.refl _ _) (Nat.le_refl _) ?_; intro v349 w24 ho25 hb hg_ hnew_; clear hg_ hnew_; (first | rw [← Ny348.out] at ho25 | (simp only [Int.reduceToNat] at ho25; rw [← Ny348.out] at ho25)); replace HO_8 := Aside0.mk (Kd.S_elder' (HO_8.out) (Kd.R_base ho25) hb); have HO350 := Aside0.mk (Kd.R_lower ho25 (below_size HB.out)); replace HB := Aside0.mk (below_step HB.out hb); clear hb ho25; have p23 : 0 ≤ (x35_2 : Int) := of_decide_eq_true (by assumption); have q23 : (x35_2 : Int) < ((x8_2.length : Int) : Int) := of_decide_eq_true (by assumption); obtain ⟨go23, co23, eo23, gb23, gl23, cl23, HG23⟩ := Kd.S_form HO_8.out (by omega); (first | cases eo23 | (injection eo23 with ea_ en_ ec_; (first | subst ea_ | (injection ea_ with ea_; subst ea_)); subst ec_; clear en_)); have GB23 := Aside0.mk gb23; have GG23 := Aside0.mk HG23; clear gb23 gl23 HG23; obtain ⟨_, ce23, hcl23, hM23, hcc23, hfr23, _, _⟩ := Kd.S_elem HO_8.out [] (x35_2 : Int) p23 q23; obtain ⟨ve23_0, rfl, ge23_0⟩ := hM23; have hx23_0 := hcc23 0 _ rfl; have hf23_0 := hfr23 0; (try simp only [show ((Kd.slice 3 (Kd.int .i64))).sz = 1 from rfl, Nat.mul_one, Nat.add_zero] at hx23_0); (try simp only [show ((Kd.slice 3 (Kd.int .i64))).sz = 1 from rfl, Nat.mul_one, Nat.add_zero] at hf23_0); (try clear hM23); clear hcl23 hcc23 hfr23; replace p23 := eq_true p23; replace q23 := eq_true q23; have n_ := Aside0.mk (Kd.S_mono (ok' := (fun k_ => some k_ ≠ (v349 : Value).ownBlock)) HO_8.out (fun k_ hk => hk.2)); clear HO_8; have HO_8 := n_; clear n_; have HX26 := Aside0.mk (show Kd.S (Kd.slice 3 (Kd.int .i64)) 62 w24 w.heap.size (fun k_ => ((fun _ => True)) k_ ∧ ¬ ((fun k_ => some k_ = (v349 : Value).ownBlock)) k_) (.slice (some ⟨go23, 0, none⟩) x8_2.length co16) x8_2 from (Kd.S_mono HO_8.out (fun k_ hk => ⟨trivial, fun e_ => hk e_⟩))); obtain ⟨oki26, ce26, hcl26, hM26, hcc26, hfr26, hoki26, hH26⟩ := Kd.S_elem HX26.out [] (x35_2 : Int) (of_decide_eq_true (by assumption)) (by have h_ : (x35_2 : Int) < ((x8_2.length : Int) : Int) := of_decide_eq_true (by assumption); first | exact h_ | (have e_ := (Kd.S_reads' HO_8.out).1; omega) | simpa using h_); obtain ⟨ve26_0, rfl, ge26_0⟩ := hM26; have HP26 := Kd.S_seg hH26 (of_decide_eq_true (by assumption)) (by have h_ : (x35_2 : Int) < ((x8_2.length : Int) : Int) := of_decide_eq_true (by assumption); first | exact h_ | (have e_ := (Kd.S_reads' HO_8.out).1; omega) | simpa using h_) (seg := [v349]) (j := 0) (show 1 ≤ 1 from by decide) (x' := y348) (Kd.M_row (Kd.R_mono (Kd.R_tight rfl (Kd.R_mono (ok' := fun k_ => ((fun _ => True)) k_ ∧ k_ ≠ go23) (Kd.R_apart' (HO350.out) (Kd.S_typed HO_8.out) (by decide)) (fun k_ hk => ⟨trivial, fun e_ => (hk.2) (by rw [e_]; rfl)⟩))) (fun _ h_ => Or.inr (h_)))) (fun _ hk => hk) (fun k_ hk_ => ((Kd.R_mono (ok' := fun k_ => ((fun _ => True)) k_ ∧ k_ ≠ go23) (Kd.R_apart' (HO350.out) (Kd.S_typed HO_8.out) (by decide)) (fun k_ hk => ⟨trivial, fun e_ => (hk.2) (by rw [e_]; rfl)⟩))).1 k_ hk_.symm); have hx26_0 := hcc26 0 _ rfl; (try simp only [show ((Kd.slice 3 (Kd.int .i64))).sz = 1 from rfl, Nat.mul_one, Nat.add_zero] at hx26_0); have hf26_0 := hfr26 0; (try simp only [show ((Kd.slice 3 (Kd.int .i64))).sz = 1 from rfl, Nat.mul_one, Nat.add_zero] at hf26_0); (try clear hM26); clear hcl26 hcc26 hfr26 hoki26 hH26; (try simp only [show ((Kd.slice 3 (Kd.int .i64))).sz = 1 from rfl, Nat.mul_one, Nat.add_zero] at HP26)) | ((with_reducible refine gate_store (t := 62) (p := 43) rfl ?_); refine store_event (t := 62) (p := 43) (v := ?vo_w27) (w1 := (w24.setCell ⟨go23, (x35_2 : Int).toNat, none⟩ (v349))) ?hg ?ho ?hn ?hr ?_; (case ho => rfl); (case hg => rfl); (case hn => rfl); (case hr => first | (go_simp; done) | (go_simp; rfl) | (obtain ⟨_, _, hv_⟩ := Kd.R_slice (‹Aside0 (Kd.R _ _ _ _ _ v349 _)›).out; subst hv_; go_simp; first | done | rfl)); intro w27 hw; have hg : w24.grownBy w27 (some go23) := (by rw [hw]; exact HP26.2); have hp_ : Kd.S (Kd.slice 3 (Kd.int .i64)) 62 w27 w.heap.size (fun _ => True) (.slice (some ⟨go23, 0, none⟩) x8_2.length co16) y351 := (by rw [hw, Ny351.out]; exact HP26.1); clear HP26; replace HO_8 := Aside0.mk (hp_); replace HB := Aside0.mk ((by rw [hw]; exact below_set (HB.out) GB23.out : Below w.heap.size w w27)); clear HO350; clear hg hw hp_))
             (try simp only [← hl8_2])
             go_roundg k2
             case measure => have := HK1.out; have := HK2.out; omega
             case rel => exact ⟨(y351), (wrap64 (x35_2 + 1)), rfl, H', ⟨by have := HK1.out; have := HK2.out; omega⟩, ⟨by (try simp only [hl8_2]); exact HO_8.out⟩, ⟨HB.out⟩⟩
            ·rw [if_neg c22] at H
             exact absurd H (by simp)
           ·rw [if_neg c21] at H
            exact absurd H (by simp)
          ·rw [if_neg c20] at H
           exact absurd H (by simp)
         ·rw [if_neg c19] at H
          exact absurd H (by simp)
        ·rw [if_neg c17] at H
         have c17b0 : decide (x35_2 < (y345.length : Int)) = false := decide_eq_false c17
         (try (have c17b8 := c17b0; rw [hl8_2] at c17b8))
         clear c17
         by_cases c28 : 0 < (x8_2.length : Int)
         ·rw [if_pos c28] at H
          have c28b0 : decide (0 < (x8_2.length : Int)) = true := decide_eq_true c28
          have c28b1 : decide (0 < x8_2.length) = true := decide_eq_true (by omega)
          clear c28
          by_cases c29 : 0 < ((rd_L3 x8_2 0).length : Int)
          ·rw [if_pos c29] at H
           have c29b0 : decide (0 < ((rd_L3 x8_2 0).length : Int)) = true := decide_eq_true c29
           have c29b1 : decide (0 < (rd_L3 x8_2 0).length) = true := decide_eq_true (by omega)
           clear c29
           obtain ⟨y353, hy353⟩ : ∃ y_ : List Int, y_ = ((rd_L3 x8_2 0).set (0 : Int).toNat 1) := ⟨_, rfl⟩
           replace H : ((spec_tiSet.f k2 a0).bind fun t356 => (spec_dcPips.l2 k2 a1 x5_1 (x8_2.set (0 : Int).toNat y353) t356 (t356.length : Int) 0)) = some r := by first | (rw [hy353]; with_reducible exact H) | (have H2_ := (Option.bind_some _ _).symm.trans H; rw [hy353]; with_reducible exact H2_) | (have H2_ := (Option.bind_some _ _).symm.trans H; with_reducible exact H2_) | with_reducible exact H | (rw [hy353]; exact H) | exact H
           have Ny353 := Aside0.mk hy353
           clear hy353
           obtain ⟨y355, hy355⟩ : ∃ y_ : List (List Int), y_ = (x8_2.set (0 : Int).toNat y353) := ⟨_, rfl⟩
           replace H : ((spec_tiSet.f k2 a0).bind fun t356 => (spec_dcPips.l2 k2 a1 x5_1 y355 t356 (t356.length : Int) 0)) = some r := by first | (rw [hy355]; with_reducible exact H) | (have H2_ := (Option.bind_some _ _).symm.trans H; rw [hy355]; with_reducible exact H2_) | (have H2_ := (Option.bind_some _ _).symm.trans H; with_reducible exact H2_) | with_reducible exact H | (rw [hy355]; exact H) | exact H
           have Ny355 := Aside0.mk hy355
           clear hy355
           replace H := Option.bind_eq_some_iff.mp H
           obtain ⟨t356, A310, H⟩ := H
           replace H : (spec_dcPips.l2 k2 a1 x5_1 y355 t356 (t356.length : Int) 0) = some r := H
           have A31 := Aside0.mk A310
           clear A310
           have H' := Aside0.mk H
           clear H
           have p352 : 0 ≤ (0 : Int) := (by omega)
           have q352 : 0 < (x8_2.length : Int) := of_decide_eq_true (by assumption)
           obtain ⟨ad352, A352_0, c352_0, e352, hx352_0, hl352_0, hi352_0⟩ := at_L3 (Kd.S_reads' HO_8.out).2.2 0 p352 q352
           cases e352
           obtain ⟨ce352, hce352, hMe352, hcc352⟩ := Kd.S_get HO_8.out [] 0 p352 (by first | exact q352 | exact of_decide_eq_true (by assumption) | (have e_ := (Kd.S_reads' HO_8.out).1; omega))
           obtain ⟨ve352_0, rfl, ge352_0⟩ := hMe352
           have hv352_0 := hcc352 0 _ rfl
           rw [Nat.add_zero, show ((Kd.slice 3 (Kd.int .i64))).sz = 1 from rfl, Nat.mul_one] at hv352_0
           replace hv352_0 := Option.some.inj (hv352_0.symm.trans hx352_0)
           rw [hv352_0] at ge352_0
           have HL352_0 := Aside0.mk (show Kd.R (Kd.int .i64) 3 _ _ _ _ (rd_L3 x8_2 0) from ge352_0)
           clear hv352_0 ge352_0
           have HX352_0 := Aside0.mk hx352_0
           clear hcc352 hce352
           have qi352 : (0 < x8_2.length) = True := eq_true (by omega)
           (try rw [show ((0 : Int)).toNat = 0 from rfl] at hx352_0)
           (try rw [Addr.add_zero'] at hx352_0)
           have HR352_0 := Aside0.mk hi352_0
           have HC352_0 := Aside0.mk hl352_0
           clear hi352_0 hl352_0
           replace p352 := eq_true p352
           replace q352 := eq_true q352
           have p30 : 0 ≤ (0 : Int) := (by omega)
           have q30 : (0 : Int) < (((rd_L3 x8_2 0).length : Int) : Int) := of_decide_eq_true (by assumption)
           have qi30 : (0 < (rd_L3 x8_2 0).length) = True := eq_true (by omega)
           obtain ⟨go30, co30, eo30, gb30, gl30, cl30, HG30⟩ := Kd.R_form HL352_0.out (by omega)
           (first | cases eo30 | (injection eo30 with ea_ en_ ec_; (first | subst ea_ | (injection ea_ with ea_; subst ea_)); subst ec_; clear en_))
           have GB30 := Aside0.mk gb30
           have GG30 := Aside0.mk HG30
           clear gb30 gl30 HG30
           obtain ⟨hx30_0, hf30_0⟩ := Kd.R_celln 0 HL352_0.out (0 : Int) p30 q30
           (try rw [show ((0 : Int)).toNat = 0 from rfl] at hx30_0)
           (try simp only [Nat.reduceMul, Nat.zero_mul, Nat.zero_add, Nat.reduceAdd] at hx30_0)
           (try rw [show ((0 : Int)).toNat = 0 from rfl] at hf30_0)
           (try simp only [Nat.reduceMul, Nat.zero_mul, Nat.zero_add, Nat.reduceAdd] at hf30_0)
           replace p30 := eq_true p30
           replace q30 := eq_true q30
           have hq32 : (0 : Int) < (x8_2.length : Int) := (by have h_ : (0 : Int) < ((x8_2.length : Int) : Int) := of_decide_eq_true (by assumption); first | exact h_ | (have e_ := (Kd.S_reads' HO_8.out).1; omega) | simpa only [List.length_set, List.length_set] using h_)
           obtain ⟨oki32, ce32, hcl32, hM32, hcc32, hok32, hbk32⟩ := Kd.S_borrow HO_8.out [] (0 : Int) (by omega) hq32
           obtain ⟨ve32_0, rfl, ge32_0⟩ := hM32
           have hv32 := hcc32 0 _ rfl
           rw [Nat.add_zero, show ((Kd.slice 3 (Kd.int .i64))).sz = 1 from rfl, Nat.mul_one] at hv32
           replace hv32 := Option.some.inj (hv32.symm.trans HX352_0.out)
           subst hv32
           clear hcc32 hcl32
           replace ge32_0 := (show Kd.R (Kd.int .i64) 3 _ _ _ _ (rd_L3 x8_2 0) from ge32_0)
           have HP32 := Kd.R_putg ge32_0 (0 : Int) 1
           go_wp2_with (first | ((with_reducible refine gate_store (t := 3) (p := 48) rfl ?_); refine store_event (t := 3) (p := 48) (v := ?vo_w33) (w1 := (wr.setCell ⟨go30, 0, none⟩ (.int .i64 1))) ?hg ?ho ?hn ?hr ?_; (case ho => rfl); (case hg => rfl); (case hn => rfl); (case hr => first | (go_simp; done) | (go_simp; rfl)); intro w33 hw; have hg : wr.grownBy w33 (some go30) := (by rw [hw]; exact HP32.2); have hz_ : Kd.R (Kd.int .i64) 3 w33 w.heap.size oki32 (.slice (some ⟨go30, 0, none⟩) (rd_L3 x8_2 0).length c352_0) y353 := (by rw [hw, Ny353.out]; exact HP32.1); have hp_ : Kd.S (Kd.slice 3 (Kd.int .i64)) 62 w33 w.heap.size (fun _ => True) (.slice (some ad352) x8_2.length co16) y355 := (by rw [Ny355.out]; exact hbk32 hg (fun k_ e_ => by injection e_ with e_; subst e_; exact ge32_0.1 _ rfl) (Kd.M_row hz_)); have hm_ := Kd.R_mono hz_ hok32; clear HP32 hbk32; replace HO_8 := Aside0.mk (hp_); replace HB := Aside0.mk ((by rw [hw]; exact below_set (HB.out) GB30.out : Below w.heap.size w w33)); have HL369 := Aside0.mk (hm_); have HC354 := Aside0.mk ((Kd.R_reads' hm_).2.1); clear HL352_0; clear hg hw hp_ hz_ hm_ hok32) | ((with_reducible refine gate_callee (f := 43) rfl ?_); refine goesL_ (some 50) rfl rfl Try.func43 (by kernel_rfl) rfl #[.int .i64 a0] rfl (by simp only [List.map_toArray, List.map_cons, List.map_nil] <;> rfl) ?_; (with_reducible refine (spec_tiSet.calls k2 a0 t356 _ A31.out).mono ?_); rintro e w34 ⟨v357, rfl, ho0, hb⟩; refine ⟨_, rfl, ?_⟩; replace HO_8 := Aside0.mk (Kd.S_below (HO_8.out) hb); replace HL369 := Aside0.mk (Kd.R_below (HL369.out) hb); have HO358 := Aside0.mk (Kd.R_lower ho0 (below_size HB.out)); replace HB := Aside0.mk (below_step HB.out hb); (try clear ho0); obtain ⟨Ao35, co35, eo35⟩ := Kd.R_slice HO358.out; subst eo35))
           go_loopg [52] k2 (fun kq v52 w' => ∃ (x8_3 : List (List Int)) (x52_3 : Int), v52 = .int .i64 x52_3 ∧ Aside0 (spec_dcPips.l2 kq a1 x5_1 x8_3 t356 (t356.length : Int) x52_3 = some r) ∧ Aside0 (kq ≤ k2) ∧ Aside0 (Kd.S (Kd.slice 3 (Kd.int .i64)) 62 w' w.heap.size (fun _ => True) (.slice (some ad352) x8_2.length co16) x8_3) ∧ Aside0 (Kd.R k53 53 w' w.heap.size (fun _ => True) (.slice Ao35 t356.length co35) t356) ∧ Aside0 (Below w.heap.size w w'))
           case atStart => exact ⟨(y355), (0), rfl, H', ⟨Nat.le_refl _⟩, ⟨by (try simp only [hl8_2]); exact HO_8.out⟩, ⟨by (try simp only [hl8_2]); exact HO358.out⟩, ⟨HB.out⟩⟩
           case round =>
            clear H'
            try clear c1
            try clear c2
            try clear p2
            try clear q2
            try clear hx2
            try clear hf2
            try clear c3
            try clear p3
            try clear q3
            try clear hx3
            try clear qi3
            try clear hf3
            try clear c4
            try clear c5
            try clear c6
            try clear c6b0
            try clear p6
            try clear c7
            try clear c7b0
            try clear c8
            try clear c8b0
            try clear c12
            try clear c12b0
            try clear c12b1
            try clear c13
            try clear c13b0
            try clear c13b1
            try clear c17
            try clear c17b0
            try clear c19
            try clear c19b0
            try clear c19b1
            try clear c20
            try clear c20b0
            try clear c20b1
            try clear c21
            try clear c21b0
            try clear c22
            try clear c22b0
            try clear c23
            try clear p23
            try clear q23
            try clear hx23
            try clear hf23
            try clear c26
            try clear hx26
            try clear hf26
            try clear c28
            try clear c28b0
            try clear c28b1
            try clear c29
            try clear c29b0
            try clear c29b1
            try clear p30
            try clear q30
            try clear hx30
            try clear qi30
            try clear hf30
            try clear c32
            try clear q32
            try clear p34
            try clear q34
            try clear hx34
            try clear c35
            try clear p35
            try clear q35
            try clear hx35
            try clear qi35
            try clear hcz10_0
            try clear hcz10_1
            try clear hfz10_0
            try clear hfz10_1
            try clear hx23_0
            try clear hx26_0
            try clear hx30_0
            try clear hx343_0
            try clear hx343_1
            try clear hx352_0
            try clear p2
            try clear p23
            try clear p3
            try clear p30
            try clear p343
            try clear p352
            try clear p6
            try clear q23
            try clear q3
            try clear q30
            try clear q343
            try clear q352
            obtain ⟨x8_3, x52_3, rfl, HA, HK3, HO_8, HO_50, HB⟩ := hrel
            have hl8_3 := (Kd.S_reads' HO_8.out).1
            rw [hl8_3] at HO_8
            (try simp only [hl8_3])
            (try simp only [hl8_3] at HO_50)
            cases gk with
            | zero => exact absurd HA.out (by simp [spec_dcPips.l2])
            | succ k3 =>
             have H := HA.out
             clear HA
             simp only [spec_dcPips.l2] at H
             by_cases c36 : x52_3 < (t356.length : Int)
             ·rw [if_pos c36] at H
              have c36b0 : decide (x52_3 < (t356.length : Int)) = true := decide_eq_true c36
              clear c36
              by_cases c37 : 0 ≤ x52_3
              ·rw [if_pos c37] at H
               have c37b0 : decide (0 ≤ x52_3) = true := decide_eq_true c37
               clear c37
               by_cases c38 : x52_3 < (t356.length : Int)
               ·rw [if_pos c38] at H
                have c38b0 : decide (x52_3 < (t356.length : Int)) = true := decide_eq_true c38
                clear c38
                have H' := Aside0.mk H
                clear H
                have p360 : 0 ≤ (x52_3 : Int) := of_decide_eq_true (by assumption)
                have q360 : x52_3 < (t356.length : Int) := of_decide_eq_true (by assumption)
                obtain ⟨ad360, e360, hx360_0, hx360_1⟩ := at_T53 (Kd.R_reads' HO_50.out).2.2 x52_3 p360 q360
                cases e360
                replace p360 := eq_true p360
                replace q360 := eq_true q360
                go_wp2_with (first | ((with_reducible refine gate_dst (N := 11) rfl ?_); refine box_event ?hg (N := 11) ?hd (cs := #[.int .i64 0, .int .i64 0]) (t := 53) ?hr ?_; (case hd => rfl); (case hg => rfl); (case hr => first | (go_simp; done) | (go_simp; rfl)); intro gb361 hg w39 hbox hb; replace HO_8 := Aside0.mk (Kd.S_below (HO_8.out) hb); replace HO_50 := Aside0.mk (Kd.R_below (Kd.R_elderB (HO_50.out) gb361 (Nat.le_of_eq hg.symm)) hb); have BK361 := Aside0.mk (hbox); have GW361 := Aside0.mk ((by rw [hg]; exact (below_size HB.out) : w.heap.size ≤ gb361)); have GE361 := Aside0.mk ((by rw [hg]; exact (below_size HB.out) : w.heap.size ≤ gb361)); replace HB := Aside0.mk (below_step HB.out hb); clear hb hbox hg; have hcz40_0 : w39.cell? ⟨gb361, 0, none⟩ = some (.int .i64 0) := (blk_cell BK361.out 0).trans rfl; have hcz40_1 : w39.cell? ⟨gb361, 1, none⟩ = some (.int .i64 0) := (blk_cell BK361.out 1).trans rfl; have hfz40_0 := blk_frozen BK361.out 0; have hfz40_1 := blk_frozen BK361.out 1))
                go_loopg [13] k3 (fun kq v13 w' => ∃ (x8_4 : List (List Int)) (x13_4 : Int), v13 = .int .i64 x13_4 ∧ Aside0 (spec_dcPips.l3 kq a1 x5_1 x8_4 (wrap64 (((rd_T53 t356 x52_3).f0) + ((rd_T53 t356 x52_3).f1))) x13_4 t356 (t356.length : Int) x52_3 = some r) ∧ Aside0 (kq ≤ k3) ∧ Aside0 (Kd.S (Kd.slice 3 (Kd.int .i64)) 62 w' w.heap.size (fun _ => True) (.slice (some ad352) x8_3.length co16) x8_4) ∧ Aside0 (Kd.R k53 53 w' w.heap.size (fun k_ => k_ ≠ gb361) (.slice (some ad360) t356.length co35) t356) ∧ Aside0 (w'.heap[gb361]? = some (.cells #[.int .i64 ((rd_T53 t356 x52_3).f0), .int .i64 ((rd_T53 t356 x52_3).f1)] 53 (0, 0))) ∧ Aside0 (Below w.heap.size w w'))
                case atStart => exact ⟨(x8_3), (a1), rfl, H', ⟨Nat.le_refl _⟩, ⟨by (try simp only [hl8_2]); (try simp only [hl8_3]); (with_reducible repeat (first | apply Kd.S_alloc | apply Kd.S_drewN | apply Kd.S_drew)); exact Kd.S_mono (Kd.S_far (p := ⟨gb361, 1, none⟩) (Kd.S_far (p := ⟨gb361, 0, none⟩) (Kd.S_types HO_8.out BK361.out (by decide)) (fun _ hk => hk.2) (.int .i64 ((rd_T53 t356 x52_3).f0))) (fun _ hk => hk.2) (.int .i64 ((rd_T53 t356 x52_3).f1))) (fun _ hk => trivial)⟩, ⟨by (try simp only [hl8_2]); (try simp only [hl8_3]); (with_reducible repeat (first | apply Kd.R_alloc | apply Kd.R_drewN | apply Kd.R_drew)); exact Kd.R_mono (Kd.R_far (p := ⟨gb361, 1, none⟩) (Kd.R_far (p := ⟨gb361, 0, none⟩) (Kd.R_mono HO_50.out (fun k_ hk => (⟨hk, hk.2⟩ : _ ∧ k_ ≠ gb361))) (fun _ hk => hk.2) (.int .i64 ((rd_T53 t356 x52_3).f0))) (fun _ hk => hk.2) (.int .i64 ((rd_T53 t356 x52_3).f1))) (fun _ hk => hk.1.2)⟩, ⟨by (try simp only [hl8_2]); (try simp only [hl8_3]); (with_reducible repeat (first | refine blk_drewN ?_ _ | refine blk_drew ?_ | refine blk_alloc ?_ _)); refine blk_put (cs := #[.int .i64 ((rd_T53 t356 x52_3).f0), .int .i64 0]) ?_ 1 _ rfl; (with_reducible repeat (first | refine blk_drewN ?_ _ | refine blk_drew ?_ | refine blk_alloc ?_ _)); refine blk_put (cs := #[.int .i64 0, .int .i64 0]) ?_ 0 _ rfl; (with_reducible repeat (first | refine blk_drewN ?_ _ | refine blk_drew ?_ | refine blk_alloc ?_ _)); exact BK361.out⟩, ⟨by repeat (first | (with_reducible first | exact HB.out | apply below_alloc | apply pw_below_drewN | apply below_drew1 | refine below_set ?_ GE361.out) | exact HB.out)⟩⟩
                case round =>
                 clear H'
                 try clear c1
                 try clear c2
                 try clear p2
                 try clear q2
                 try clear hx2
                 try clear hf2
                 try clear c3
                 try clear p3
                 try clear q3
                 try clear hx3
                 try clear qi3
                 try clear hf3
                 try clear c4
                 try clear c5
                 try clear c6
                 try clear c6b0
                 try clear p6
                 try clear c7
                 try clear c7b0
                 try clear c8
                 try clear c8b0
                 try clear c12
                 try clear c12b0
                 try clear c12b1
                 try clear c13
                 try clear c13b0
                 try clear c13b1
                 try clear c17
                 try clear c17b0
                 try clear c19
                 try clear c19b0
                 try clear c19b1
                 try clear c20
                 try clear c20b0
                 try clear c20b1
                 try clear c21
                 try clear c21b0
                 try clear c22
                 try clear c22b0
                 try clear c23
                 try clear p23
                 try clear q23
                 try clear hx23
                 try clear hf23
                 try clear c26
                 try clear hx26
                 try clear hf26
                 try clear c28
                 try clear c28b0
                 try clear c28b1
                 try clear c29
                 try clear c29b0
                 try clear c29b1
                 try clear p30
                 try clear q30
                 try clear hx30
                 try clear qi30
                 try clear hf30
                 try clear c32
                 try clear q32
                 try clear p34
                 try clear q34
                 try clear hx34
                 try clear c35
                 try clear p35
                 try clear q35
                 try clear hx35
                 try clear qi35
                 try clear c36
                 try clear c36b0
                 try clear p36
                 try clear q36
                 try clear hx36
                 try clear c37
                 try clear c37b0
                 try clear c38
                 try clear c38b0
                 try clear hcz10_0
                 try clear hcz10_1
                 try clear hcz40_0
                 try clear hcz40_1
                 try clear hfz10_0
                 try clear hfz10_1
                 try clear hfz40_0
                 try clear hfz40_1
                 try clear hx23_0
                 try clear hx26_0
                 try clear hx30_0
                 try clear hx343_0
                 try clear hx343_1
                 try clear hx352_0
                 try clear hx360_0
                 try clear hx360_1
                 try clear p2
                 try clear p23
                 try clear p3
                 try clear p30
                 try clear p34
                 try clear p343
                 try clear p35
                 try clear p352
                 try clear p360
                 try clear p6
                 try clear q2
                 try clear q23
                 try clear q3
                 try clear q30
                 try clear q32
                 try clear q34
                 try clear q343
                 try clear q35
                 try clear q352
                 try clear q360
                 obtain ⟨x8_4, x13_4, rfl, HA, HK4, HO_8, HO_50, BK361, HB⟩ := hrel
                 have hl8_4 := (Kd.S_reads' HO_8.out).1
                 rw [hl8_4] at HO_8
                 (try simp only [hl8_4])
                 (try simp only [hl8_4] at BK361)
                 (try simp only [hl8_4] at HO_50)
                 cases gk with
                 | zero => exact absurd HA.out (by simp [spec_dcPips.l3])
                 | succ k4 =>
                  have H := HA.out
                  clear HA
                  simp only [spec_dcPips.l3] at H
                  by_cases c41 : x13_4 > 0
                  ·rw [if_pos c41] at H
                   have c41b0 : decide (0 < x13_4) = true := decide_eq_true c41
                   clear c41
                   have H' := Aside0.mk H
                   clear H
                   go_wp2
                   go_loopg [14] k4 (fun kq v14 w' => ∃ (x8_5 : List (List Int)) (x14_5 : Int), v14 = .int .i64 x14_5 ∧ Aside0 (spec_dcPips.l4 kq a1 x5_1 x8_5 (wrap64 (((rd_T53 t356 x52_3).f0) + ((rd_T53 t356 x52_3).f1))) x13_4 x14_5 t356 (t356.length : Int) x52_3 = some r) ∧ Aside0 (kq ≤ k4) ∧ Aside0 (Kd.S (Kd.slice 3 (Kd.int .i64)) 62 w' w.heap.size (fun _ => True) (.slice (some ad352) x8_4.length co16) x8_5) ∧ Aside0 (Kd.R k53 53 w' w.heap.size (fun k_ => k_ ≠ gb361) (.slice (some ad360) t356.length co35) t356) ∧ Aside0 (w'.heap[gb361]? = some (.cells #[.int .i64 ((rd_T53 t356 x52_3).f0), .int .i64 ((rd_T53 t356 x52_3).f1)] 53 (0, 0))) ∧ Aside0 (Below w.heap.size w w'))
                   case atStart => exact ⟨(x8_4), (x5_1), rfl, H', ⟨Nat.le_refl _⟩, ⟨by (try simp only [hl8_2]); (try simp only [hl8_3]); (try simp only [hl8_4]); exact HO_8.out⟩, ⟨by (try simp only [hl8_2]); (try simp only [hl8_3]); (try simp only [hl8_4]); exact HO_50.out⟩, ⟨by (try simp only [hl8_2]); (try simp only [hl8_3]); (try simp only [hl8_4]); exact BK361.out⟩, ⟨HB.out⟩⟩
                   case round =>
                    clear H'
                    try clear c1
                    try clear c2
                    try clear p2
                    try clear q2
                    try clear hx2
                    try clear hf2
                    try clear c3
                    try clear p3
                    try clear q3
                    try clear hx3
                    try clear qi3
                    try clear hf3
                    try clear c4
                    try clear c5
                    try clear c6
                    try clear c6b0
                    try clear p6
                    try clear c7
                    try clear c7b0
                    try clear c8
                    try clear c8b0
                    try clear c12
                    try clear c12b0
                    try clear c12b1
                    try clear c13
                    try clear c13b0
                    try clear c13b1
                    try clear c17
                    try clear c17b0
                    try clear c19
                    try clear c19b0
                    try clear c19b1
                    try clear c20
                    try clear c20b0
                    try clear c20b1
                    try clear c21
                    try clear c21b0
                    try clear c22
                    try clear c22b0
                    try clear c23
                    try clear p23
                    try clear q23
                    try clear hx23
                    try clear hf23
                    try clear c26
                    try clear hx26
                    try clear hf26
                    try clear c28
                    try clear c28b0
                    try clear c28b1
                    try clear c29
                    try clear c29b0
                    try clear c29b1
                    try clear p30
                    try clear q30
                    try clear hx30
                    try clear qi30
                    try clear hf30
                    try clear c32
                    try clear q32
                    try clear p34
                    try clear q34
                    try clear hx34
                    try clear c35
                    try clear p35
                    try clear q35
                    try clear hx35
                    try clear qi35
                    try clear c36
                    try clear c36b0
                    try clear p36
                    try clear q36
                    try clear hx36
                    try clear c37
                    try clear c37b0
                    try clear c38
                    try clear c38b0
                    try clear c41
                    try clear c41b0
                    try clear hcz10_0
                    try clear hcz10_1
                    try clear hcz40_0
                    try clear hcz40_1
                    try clear hfz10_0
                    try clear hfz10_1
                    try clear hfz40_0
                    try clear hfz40_1
                    try clear hx23_0
                    try clear hx26_0
                    try clear hx30_0
                    try clear hx343_0
                    try clear hx343_1
                    try clear hx352_0
                    try clear hx360_0
                    try clear hx360_1
                    try clear p2
                    try clear p23
                    try clear p3
                    try clear p30
                    try clear p34
                    try clear p343
                    try clear p35
                    try clear p352
                    try clear p36
                    try clear p360
                    try clear p6
                    try clear q2
                    try clear q23
                    try clear q3
                    try clear q30
                    try clear q32
                    try clear q34
                    try clear q343
                    try clear q35
                    try clear q352
                    try clear q36
                    try clear q360
                    obtain ⟨x8_5, x14_5, rfl, HA, HK5, HO_8, HO_50, BK361, HB⟩ := hrel
                    have hl8_5 := (Kd.S_reads' HO_8.out).1
                    rw [hl8_5] at HO_8
                    (try simp only [hl8_5])
                    (try simp only [hl8_5] at BK361)
                    (try simp only [hl8_5] at HO_50)
                    cases gk with
                    | zero => exact absurd HA.out (by simp [spec_dcPips.l4])
                    | succ k5 =>
                     have H := HA.out
                     clear HA
                     simp only [spec_dcPips.l4] at H
                     by_cases c42 : x14_5 ≥ (wrap64 (((rd_T53 t356 x52_3).f0) + ((rd_T53 t356 x52_3).f1)))
                     ·rw [if_pos c42] at H
                      have c42b0 : decide ((wrap64 (((rd_T53 t356 x52_3).f0) + ((rd_T53 t356 x52_3).f1))) ≤ x14_5) = true := decide_eq_true c42
                      clear c42
                      by_cases c43 : 0 ≤ x13_4
                      ·rw [if_pos c43] at H
                       have c43b0 : decide (0 ≤ x13_4) = true := decide_eq_true c43
                       clear c43
                       by_cases c44 : x13_4 < (x8_5.length : Int)
                       ·rw [if_pos c44] at H
                        have c44b0 : decide (x13_4 < (x8_5.length : Int)) = true := decide_eq_true c44
                        clear c44
                        by_cases c45 : 0 ≤ x14_5
                        ·rw [if_pos c45] at H
                         have c45b0 : decide (0 ≤ x14_5) = true := decide_eq_true c45
                         clear c45
                         by_cases c46 : x14_5 < ((rd_L3 x8_5 x13_4).length : Int)
                         ·rw [if_pos c46] at H
                          have c46b0 : decide (x14_5 < ((rd_L3 x8_5 x13_4).length : Int)) = true := decide_eq_true c46
                          clear c46
                          obtain ⟨ji47, hji47⟩ : ∃ j_ : Int, (wrap64 (x13_4 - 1)) = j_ := ⟨_, rfl⟩
                          replace H : (if 0 ≤ (ji47) then (if (ji47) < (x8_5.length : Int) then (if 0 ≤ (wrap64 (x14_5 - (wrap64 (((rd_T53 t356 x52_3).f0) + ((rd_T53 t356 x52_3).f1))))) then (if (wrap64 (x14_5 - (wrap64 (((rd_T53 t356 x52_3).f0) + ((rd_T53 t356 x52_3).f1))))) < ((rd_L3 x8_5 (ji47)).length : Int) then (spec_dcPips.l4 k5 a1 x5_1 (x8_5.set (x13_4 : Int).toNat ((rd_L3 x8_5 x13_4).set (x14_5 : Int).toNat (wrap64 ((rd (rd_L3 x8_5 x13_4) x14_5) + (rd (rd_L3 x8_5 (ji47)) (wrap64 (x14_5 - (wrap64 (((rd_T53 t356 x52_3).f0) + ((rd_T53 t356 x52_3).f1)))))))))) (wrap64 (((rd_T53 t356 x52_3).f0) + ((rd_T53 t356 x52_3).f1))) x13_4 (wrap64 (x14_5 - 1)) t356 (t356.length : Int) x52_3) else (none)) else (none)) else (none)) else (none)) = some r := by first | (rw [hji47] at H; exact H) | (simp only [hji47] at H ⊢; exact H)
                          have hji47w : (IntKind.i64.wrap (x13_4 - 1)) = ji47 := (i64_w _).trans hji47
                          by_cases c48 : 0 ≤ (ji47)
                          ·rw [if_pos c48] at H
                           have c48b0 : decide (0 ≤ (ji47)) = true := decide_eq_true c48
                           clear c48
                           by_cases c49 : (ji47) < (x8_5.length : Int)
                           ·rw [if_pos c49] at H
                            have c49b0 : decide ((ji47) < (x8_5.length : Int)) = true := decide_eq_true c49
                            clear c49
                            obtain ⟨ji50, hji50⟩ : ∃ j_ : Int, (wrap64 (x14_5 - (wrap64 (((rd_T53 t356 x52_3).f0) + ((rd_T53 t356 x52_3).f1))))) = j_ := ⟨_, rfl⟩
                            replace H : (if 0 ≤ (ji50) then (if (ji50) < ((rd_L3 x8_5 (ji47)).length : Int) then (spec_dcPips.l4 k5 a1 x5_1 (x8_5.set (x13_4 : Int).toNat ((rd_L3 x8_5 x13_4).set (x14_5 : Int).toNat (wrap64 ((rd (rd_L3 x8_5 x13_4) x14_5) + (rd (rd_L3 x8_5 (ji47)) (ji50)))))) (wrap64 (((rd_T53 t356 x52_3).f0) + ((rd_T53 t356 x52_3).f1))) x13_4 (wrap64 (x14_5 - 1)) t356 (t356.length : Int) x52_3) else (none)) else (none)) = some r := by first | (rw [hji50] at H; exact H) | (simp only [hji50] at H ⊢; exact H)
                            have hji50w : (IntKind.i64.wrap (x14_5 - (wrap64 (((rd_T53 t356 x52_3).f0) + ((rd_T53 t356 x52_3).f1))))) = ji50 := (i64_w _).trans hji50
                            by_cases c51 : 0 ≤ (ji50)
                            ·rw [if_pos c51] at H
                             have c51b0 : decide (0 ≤ (ji50)) = true := decide_eq_true c51
                             clear c51
                             by_cases c52 : (ji50) < ((rd_L3 x8_5 (ji47)).length : Int)
                             ·rw [if_pos c52] at H
                              have c52b0 : decide ((ji50) < ((rd_L3 x8_5 (ji47)).length : Int)) = true := decide_eq_true c52
                              clear c52
                              obtain ⟨y366, hy366⟩ : ∃ y_ : List Int, y_ = ((rd_L3 x8_5 x13_4).set (x14_5 : Int).toNat (wrap64 ((rd (rd_L3 x8_5 x13_4) x14_5) + (rd (rd_L3 x8_5 (ji47)) (ji50))))) := ⟨_, rfl⟩
                              replace H : (spec_dcPips.l4 k5 a1 x5_1 (x8_5.set (x13_4 : Int).toNat y366) (wrap64 (((rd_T53 t356 x52_3).f0) + ((rd_T53 t356 x52_3).f1))) x13_4 (wrap64 (x14_5 - 1)) t356 (t356.length : Int) x52_3) = some r := by first | (rw [hy366]; with_reducible exact H) | (have H2_ := (Option.bind_some _ _).symm.trans H; rw [hy366]; with_reducible exact H2_) | (have H2_ := (Option.bind_some _ _).symm.trans H; with_reducible exact H2_) | with_reducible exact H | (rw [hy366]; exact H) | exact H
                              have Ny366 := Aside0.mk hy366
                              clear hy366
                              obtain ⟨y368, hy368⟩ : ∃ y_ : List (List Int), y_ = (x8_5.set (x13_4 : Int).toNat y366) := ⟨_, rfl⟩
                              replace H : (spec_dcPips.l4 k5 a1 x5_1 y368 (wrap64 (((rd_T53 t356 x52_3).f0) + ((rd_T53 t356 x52_3).f1))) x13_4 (wrap64 (x14_5 - 1)) t356 (t356.length : Int) x52_3) = some r := by first | (rw [hy368]; with_reducible exact H) | (have H2_ := (Option.bind_some _ _).symm.trans H; rw [hy368]; with_reducible exact H2_) | (have H2_ := (Option.bind_some _ _).symm.trans H; with_reducible exact H2_) | with_reducible exact H | (rw [hy368]; exact H) | exact H
                              have Ny368 := Aside0.mk hy368
                              clear hy368
                              have H' := Aside0.mk H
                              clear H
                              try go_wp2
                              replace HO_8 := Aside0.mk (Kd.S_drew HO_8.out)
                              replace HO_50 := Aside0.mk (Kd.R_drew HO_50.out)
                              replace BK361 := Aside0.mk (blk_drew BK361.out)
                              replace HB := Aside0.mk (below_drew1 HB.out)
                              have p362 : 0 ≤ (x13_4 : Int) := of_decide_eq_true (by assumption)
                              have q362 : x13_4 < (x8_5.length : Int) := of_decide_eq_true (by assumption)
                              obtain ⟨ad362, A362_0, c362_0, e362, hx362_0, hl362_0, hi362_0⟩ := at_L3 (Kd.S_reads' HO_8.out).2.2 x13_4 p362 q362
                              obtain rfl : ad352 = ad362 := (by injection e362)
                              obtain ⟨ce362, hce362, hMe362, hcc362⟩ := Kd.S_get HO_8.out [] x13_4 p362 (by first | exact q362 | exact of_decide_eq_true (by assumption) | (have e_ := (Kd.S_reads' HO_8.out).1; omega))
                              obtain ⟨ve362_0, rfl, ge362_0⟩ := hMe362
                              have hv362_0 := hcc362 0 _ rfl
                              rw [Nat.add_zero, show ((Kd.slice 3 (Kd.int .i64))).sz = 1 from rfl, Nat.mul_one] at hv362_0
                              replace hv362_0 := Option.some.inj (hv362_0.symm.trans hx362_0)
                              rw [hv362_0] at ge362_0
                              have HL362_0 := Aside0.mk (show Kd.R (Kd.int .i64) 3 _ _ _ _ (rd_L3 x8_5 x13_4) from ge362_0)
                              clear hv362_0 ge362_0
                              have HX362_0 := Aside0.mk hx362_0
                              clear hcc362 hce362
                              have HR362_0 := Aside0.mk hi362_0
                              have HC362_0 := Aside0.mk hl362_0
                              clear hi362_0 hl362_0
                              replace p362 := eq_true p362
                              replace q362 := eq_true q362
                              have p363 : 0 ≤ (x14_5 : Int) := of_decide_eq_true (by assumption)
                              have q363 : x14_5 < ((rd_L3 x8_5 x13_4).length : Int) := of_decide_eq_true (by assumption)
                              obtain ⟨ad363, e363, hx363_0⟩ := Kd.at_int (by repeat (first | (with_reducible exact HR362_0.out) | (with_reducible refine Kd.C_alloc ?_ _) | (with_reducible refine Kd.C_drewN ?_ _) | (with_reducible refine Kd.C_drew ?_) | exact HR362_0.out)) x14_5 p363 q363
                              cases e363
                              replace p363 := eq_true p363
                              replace q363 := eq_true q363
                              have p364 : 0 ≤ ((ji47) : Int) := of_decide_eq_true (by assumption)
                              have q364 : (ji47) < (x8_5.length : Int) := of_decide_eq_true (by assumption)
                              obtain ⟨ad364, A364_0, c364_0, e364, hx364_0, hl364_0, hi364_0⟩ := at_L3 (Kd.S_reads' HO_8.out).2.2 (ji47) p364 q364
                              obtain rfl : ad352 = ad364 := (by injection e364)
                              obtain ⟨ce364, hce364, hMe364, hcc364⟩ := Kd.S_get HO_8.out [] (ji47) p364 (by first | exact q364 | exact of_decide_eq_true (by assumption) | (have e_ := (Kd.S_reads' HO_8.out).1; omega))
                              obtain ⟨ve364_0, rfl, ge364_0⟩ := hMe364
                              have hv364_0 := hcc364 0 _ rfl
                              rw [Nat.add_zero, show ((Kd.slice 3 (Kd.int .i64))).sz = 1 from rfl, Nat.mul_one] at hv364_0
                              replace hv364_0 := Option.some.inj (hv364_0.symm.trans hx364_0)
                              rw [hv364_0] at ge364_0
                              have HL364_0 := Aside0.mk (show Kd.R (Kd.int .i64) 3 _ _ _ _ (rd_L3 x8_5 (ji47)) from ge364_0)
                              clear hv364_0 ge364_0
                              have HX364_0 := Aside0.mk hx364_0
                              clear hcc364 hce364
                              have HR364_0 := Aside0.mk hi364_0
                              have HC364_0 := Aside0.mk hl364_0
                              clear hi364_0 hl364_0
                              replace p364 := eq_true p364
                              replace q364 := eq_true q364
                              have p365 : 0 ≤ ((ji50) : Int) := of_decide_eq_true (by assumption)
                              have q365 : (ji50) < ((rd_L3 x8_5 (ji47)).length : Int) := of_decide_eq_true (by assumption)
                              obtain ⟨ad365, e365, hx365_0⟩ := Kd.at_int (by repeat (first | (with_reducible exact HR364_0.out) | (with_reducible refine Kd.C_alloc ?_ _) | (with_reducible refine Kd.C_drewN ?_ _) | (with_reducible refine Kd.C_drew ?_) | exact HR364_0.out)) (ji50) p365 q365
                              cases e365
                              replace p365 := eq_true p365
                              replace q365 := eq_true q365
                              have p53 : 0 ≤ (x14_5 : Int) := of_decide_eq_true (by assumption)
                              have q53 : (x14_5 : Int) < (((rd_L3 x8_5 x13_4).length : Int) : Int) := of_decide_eq_true (by assumption)
                              obtain ⟨go53, co53, eo53, gb53, gl53, cl53, HG53⟩ := Kd.R_form HL362_0.out (by omega)
                              (first | cases eo53 | (injection eo53 with ea_ en_ ec_; (first | subst ea_ | (injection ea_ with ea_; subst ea_)); subst ec_; clear en_))
                              have GB53 := Aside0.mk gb53
                              have GG53 := Aside0.mk HG53
                              clear gb53 gl53 HG53
                              (first | simp only [add_plain] at hx363_0 | skip)
                              obtain ⟨hx53_0, hf53_0⟩ := Kd.R_celln 0 HL362_0.out (x14_5 : Int) p53 q53
                              replace p53 := eq_true p53
                              replace q53 := eq_true q53
                              have hq55 : (x13_4 : Int) < (x8_5.length : Int) := (by have h_ : (x13_4 : Int) < ((x8_5.length : Int) : Int) := of_decide_eq_true (by assumption); first | exact h_ | (have e_ := (Kd.S_reads' HO_8.out).1; omega) | simpa only [List.length_set, List.length_set] using h_)
                              obtain ⟨oki55, ce55, hcl55, hM55, hcc55, hok55, hbk55⟩ := Kd.S_borrow HO_8.out [] (x13_4 : Int) (of_decide_eq_true (by assumption)) hq55
                              obtain ⟨ve55_0, rfl, ge55_0⟩ := hM55
                              have hv55 := hcc55 0 _ rfl
                              rw [Nat.add_zero, show ((Kd.slice 3 (Kd.int .i64))).sz = 1 from rfl, Nat.mul_one] at hv55
                              replace hv55 := Option.some.inj (hv55.symm.trans HX362_0.out)
                              subst hv55
                              clear hcc55 hcl55
                              replace ge55_0 := (show Kd.R (Kd.int .i64) 3 _ _ _ _ (rd_L3 x8_5 x13_4) from ge55_0)
                              have HP55 := Kd.R_putg ge55_0 (x14_5 : Int) (wrap64 ((rd (rd_L3 x8_5 x13_4) x14_5) + (rd (rd_L3 x8_5 (ji47)) (ji50))))
                              rw [← Ny366.out] at HP55
                              have HS55 := hbk55 HP55.2 (fun k_ e_ => by injection e_ with e_; subst e_; exact ge55_0.1 _ rfl) (x' := y366) (Kd.M_row HP55.1)
                              rw [← Ny368.out] at HS55
                              have HQ55 := Aside0.mk HS55
                              clear HP55 HS55 hbk55 hok55
                              refine start_ (n := 20) (S := fun w' => w'.cell? (ad352.add (x13_4).toNat) = some (.slice (some ⟨go53, 0, none⟩) (rd_L3 x8_5 x13_4).length c362_0) ∧ w'.cell? ⟨go53, (x14_5).toNat, none⟩ = some (.int .i64 (rd (rd_L3 x8_5 x13_4) x14_5)) ∧ w'.cell? (ad352.add ((ji47)).toNat) = some (.slice (some ad365) (rd_L3 x8_5 (ji47)).length c364_0) ∧ w'.cell? (ad365.add ((ji50)).toNat) = some (.int .i64 (rd (rd_L3 x8_5 (ji47)) (ji50)))) (ds := [19]) #[false, false, false, false, false, false, false, false, false, false, false, false, false, false, false, false, false, false, false, false] (by kernel_rfl) rfl rfl ⟨hx362_0, hx363_0, hx364_0, hx365_0⟩ (fun hHeld => ?_); refine with_tabW spec_dcPips.tab24 spec_dcPips.bits24 (fun HT_ HW_ => ?_)
                              generalize wr.drew = w54 at HO_8 HO_50 BK361 HB GG53 HL362_0 HL364_0 HQ55 HR362_0 HR364_0 HX362_0 HX364_0 hf53_0 hx362_0 hx363_0 hx364_0 hx365_0 hx53_0 hHeld ⊢
                              refine pure_ (i := 0) (N := some 72) (v := ?_) (a' := ?_) #[true, false, false, false, false, false, false, false, false, false, false, false, false, false, false, false, false, false, false, false] rfl rfl (any_of HT_.out (by kernel_rfl)) (fun _ _ _ h => h) (Or.inl ⟨by rfl, ?_⟩) ?_ ?_
                              rotate_left
                              ·intro w'
                               go_simp
                               with_reducible rfl
                              rotate_left
                              ·simp only [Act.put, List.setIfInBounds_toArray, List.set_cons_zero, List.set_cons_succ, i64_w, i32_w]
                               rfl
                              refine pure_ (i := 1) (N := some 73) (v := ?_) (a' := ?_) #[true, true, false, false, false, false, false, false, false, false, false, false, false, false, false, false, false, false, false, false] rfl rfl (any_of HT_.out (by kernel_rfl)) (fun _ _ _ h => h) (Or.inl ⟨by rfl, ?_⟩) ?_ ?_
                              rotate_left
                              ·intro w'
                               go_simp
                               with_reducible rfl
                              rotate_left
                              ·simp only [Act.put, List.setIfInBounds_toArray, List.set_cons_zero, List.set_cons_succ, i64_w, i32_w]
                               rfl
                              refine pure_ (i := 2) (N := some 74) (v := ?_) (a' := ?_) #[true, true, true, false, false, false, false, false, false, false, false, false, false, false, false, false, false, false, false, false] rfl rfl (any_of HT_.out (by kernel_rfl)) (fun _ _ _ h => h) (Or.inl ⟨by rfl, ?_⟩) ?_ ?_
                              rotate_left
                              ·intro w'
                               go_simp
                               with_reducible rfl
                              rotate_left
                              ·simp only [Act.put, List.setIfInBounds_toArray, List.set_cons_zero, List.set_cons_succ, i64_w, i32_w]
                               rfl
                              refine pure_ (i := 4) (N := some 76) (v := ?_) (a' := ?_) #[true, true, true, false, true, false, false, false, false, false, false, false, false, false, false, false, false, false, false, false] rfl rfl (any_of HT_.out (by kernel_rfl)) (fun _ _ _ h => h) (Or.inl ⟨by rfl, ?_⟩) ?_ ?_
                              rotate_left
                              ·intro w'
                               go_simp
                               with_reducible rfl
                              rotate_left
                              ·simp only [Act.put, List.setIfInBounds_toArray, List.set_cons_zero, List.set_cons_succ, i64_w, i32_w]
                               rfl
                              refine pure_ (i := 7) (N := some 79) (v := ?_) (a' := ?_) #[true, true, true, false, true, false, false, true, false, false, false, false, false, false, false, false, false, false, false, false] rfl rfl (any_of HT_.out (by kernel_rfl)) (fun _ _ _ h => h) (Or.inl ⟨by rfl, ?_⟩) ?_ ?_
                              rotate_left
                              ·intro w'
                               go_simp
                               with_reducible rfl
                              rotate_left
                              ·simp only [Act.put, List.setIfInBounds_toArray, List.set_cons_zero, List.set_cons_succ, i64_w, i32_w]
                               rfl
                              refine pure_ (i := 8) (N := some 80) (v := ?_) (a' := ?_) #[true, true, true, false, true, false, false, true, true, false, false, false, false, false, false, false, false, false, false, false] rfl rfl (any_of HT_.out (by kernel_rfl)) (fun _ _ _ h => h) (Or.inl ⟨by rfl, ?_⟩) ?_ ?_
                              rotate_left
                              ·intro w'
                               go_simp
                               with_reducible rfl
                              rotate_left
                              ·simp only [Act.put, List.setIfInBounds_toArray, List.set_cons_zero, List.set_cons_succ, i64_w, i32_w]
                               rfl
                              refine pure_ (i := 9) (N := some 81) (v := ?_) (a' := ?_) #[true, true, true, false, true, false, false, true, true, true, false, false, false, false, false, false, false, false, false, false] rfl rfl (any_of HT_.out (by kernel_rfl)) (fun _ _ _ h => h) (Or.inl ⟨by rfl, ?_⟩) ?_ ?_
                              rotate_left
                              ·intro w'
                               go_simp
                               with_reducible rfl
                              rotate_left
                              ·simp only [Act.put, List.setIfInBounds_toArray, List.set_cons_zero, List.set_cons_succ, i64_w, i32_w]
                               rfl
                              refine pure_ (i := 10) (N := some 82) (v := ?_) (a' := ?_) #[true, true, true, false, true, false, false, true, true, true, true, false, false, false, false, false, false, false, false, false] rfl rfl (any_of HT_.out (by kernel_rfl)) (fun _ _ _ h => h) (Or.inl ⟨by rfl, ?_⟩) ?_ ?_
                              rotate_left
                              ·intro w'
                               go_simp
                               with_reducible rfl
                              rotate_left
                              ·simp only [Act.put, List.setIfInBounds_toArray, List.set_cons_zero, List.set_cons_succ, i64_w, i32_w]
                               rfl
                              refine pure_ (i := 12) (N := some 84) (v := ?_) (a' := ?_) #[true, true, true, false, true, false, false, true, true, true, true, false, true, false, false, false, false, false, false, false] rfl rfl (any_of HT_.out (by kernel_rfl)) (fun _ _ _ h => h) (Or.inl ⟨by rfl, ?_⟩) ?_ ?_
                              rotate_left
                              ·intro w'
                               go_simp
                               with_reducible rfl
                              rotate_left
                              ·simp only [Act.put, List.setIfInBounds_toArray, List.set_cons_zero, List.set_cons_succ, i64_w, i32_w]
                               rfl
                              refine pure_ (i := 13) (N := some 85) (v := ?_) (a' := ?_) #[true, true, true, false, true, false, false, true, true, true, true, false, true, true, false, false, false, false, false, false] rfl rfl (any_of HT_.out (by kernel_rfl)) (fun _ _ _ h => h) (Or.inl ⟨by rfl, ?_⟩) ?_ ?_
                              rotate_left
                              ·intro w'
                               go_simp
                               with_reducible rfl
                              rotate_left
                              ·simp only [Act.put, List.setIfInBounds_toArray, List.set_cons_zero, List.set_cons_succ, i64_w, i32_w]
                               rfl
                              refine pure_ (i := 14) (N := some 86) (v := ?_) (a' := ?_) #[true, true, true, false, true, false, false, true, true, true, true, false, true, true, true, false, false, false, false, false] rfl rfl (any_of HT_.out (by kernel_rfl)) (fun _ _ _ h => h) (Or.inl ⟨by rfl, ?_⟩) ?_ ?_
                              rotate_left
                              ·intro w'
                               go_simp
                               with_reducible rfl
                              rotate_left
                              ·simp only [Act.put, List.setIfInBounds_toArray, List.set_cons_zero, List.set_cons_succ, i64_w, i32_w]
                               rfl
                              refine take_ (i := 3) (N := some 75) (v := ?_) (a' := ?_) #[true, true, true, true, true, false, false, true, true, true, true, false, true, true, true, false, false, false, false, false] rfl rfl (take_ofW HT_.out HW_.out (by kernel_rfl)) (fun _ _ _ h => h) (Or.inl ⟨by rfl, ?_⟩) hHeld ?_ ?_
                              rotate_left
                              ·rintro w' ⟨s0, s1, s2, s3⟩
                               go_simp
                               with_reducible rfl
                              rotate_left
                              ·simp only [Act.put, List.setIfInBounds_toArray, List.set_cons_zero, List.set_cons_succ, i64_w, i32_w]
                               rfl
                              refine pure_ (i := 5) (N := some 77) (v := ?_) (a' := ?_) #[true, true, true, true, true, true, false, true, true, true, true, false, true, true, true, false, false, false, false, false] rfl rfl (any_of HT_.out (by kernel_rfl)) (fun _ _ _ h => h) (Or.inl ⟨by rfl, ?_⟩) ?_ ?_
                              rotate_left
                              ·intro w'
                               go_simp
                               with_reducible rfl
                              rotate_left
                              ·simp only [Act.put, List.setIfInBounds_toArray, List.set_cons_zero, List.set_cons_succ, i64_w, i32_w]
                               rfl
                              refine take_ (i := 6) (N := some 78) (v := ?_) (a' := ?_) #[true, true, true, true, true, true, true, true, true, true, true, false, true, true, true, false, false, false, false, false] rfl rfl (take_ofW HT_.out HW_.out (by kernel_rfl)) (fun _ _ _ h => h) (Or.inl ⟨by rfl, ?_⟩) hHeld ?_ ?_
                              rotate_left
                              ·rintro w' ⟨s0, s1, s2, s3⟩
                               go_simp
                               with_reducible rfl
                              rotate_left
                              ·simp only [Act.put, List.setIfInBounds_toArray, List.set_cons_zero, List.set_cons_succ, i64_w, i32_w]
                               rfl
                              refine take_ (i := 11) (N := some 83) (v := ?_) (a' := ?_) #[true, true, true, true, true, true, true, true, true, true, true, true, true, true, true, false, false, false, false, false] rfl rfl (take_ofW HT_.out HW_.out (by kernel_rfl)) (fun _ _ _ h => h) (Or.inl ⟨by rfl, ?_⟩) hHeld ?_ ?_
                              rotate_left
                              ·rintro w' ⟨s0, s1, s2, s3⟩
                               go_simp
                               with_reducible rfl
                              rotate_left
                              ·simp only [Act.put, List.setIfInBounds_toArray, List.set_cons_zero, List.set_cons_succ, i64_w, i32_w]
                               rfl
                              refine pure_ (i := 15) (N := some 87) (v := ?_) (a' := ?_) #[true, true, true, true, true, true, true, true, true, true, true, true, true, true, true, true, false, false, false, false] rfl rfl (any_of HT_.out (by kernel_rfl)) (fun _ _ _ h => h) (Or.inl ⟨by rfl, ?_⟩) ?_ ?_
                              rotate_left
                              ·intro w'
                               go_simp
                               with_reducible rfl
                              rotate_left
                              ·simp only [Act.put, List.setIfInBounds_toArray, List.set_cons_zero, List.set_cons_succ, i64_w, i32_w]
                               rfl
                              refine take_ (i := 16) (N := some 88) (v := ?_) (a' := ?_) #[true, true, true, true, true, true, true, true, true, true, true, true, true, true, true, true, true, false, false, false] rfl rfl (take_ofW HT_.out HW_.out (by kernel_rfl)) (fun _ _ _ h => h) (Or.inl ⟨by rfl, ?_⟩) hHeld ?_ ?_
                              rotate_left
                              ·rintro w' ⟨s0, s1, s2, s3⟩
                               go_simp
                               with_reducible rfl
                              rotate_left
                              ·simp only [Act.put, List.setIfInBounds_toArray, List.set_cons_zero, List.set_cons_succ, i64_w, i32_w]
                               rfl
                              refine pure_ (i := 17) (N := some 89) (v := ?_) (a' := ?_) #[true, true, true, true, true, true, true, true, true, true, true, true, true, true, true, true, true, true, false, false] rfl rfl (any_of HT_.out (by kernel_rfl)) (fun _ _ _ h => h) (Or.inl ⟨by rfl, ?_⟩) ?_ ?_
                              rotate_left
                              ·intro w'
                               go_simp
                               with_reducible rfl
                              rotate_left
                              ·simp only [Act.put, List.setIfInBounds_toArray, List.set_cons_zero, List.set_cons_succ, i64_w, i32_w]
                               rfl
                              refine pure_ (i := 18) (N := some 90) (v := ?_) (a' := ?_) #[true, true, true, true, true, true, true, true, true, true, true, true, true, true, true, true, true, true, true, false] rfl rfl (any_of HT_.out (by kernel_rfl)) (fun _ _ _ h => h) (Or.inl ⟨by rfl, ?_⟩) ?_ ?_
                              rotate_left
                              ·intro w'
                               go_simp
                               with_reducible rfl
                              rotate_left
                              ·simp only [Act.put, List.setIfInBounds_toArray, List.set_cons_zero, List.set_cons_succ, i64_w, i32_w]
                               rfl
                              refine last_ (i := 19) (N := none) #[true, true, true, true, true, true, true, true, true, true, true, true, true, true, true, true, true, true, true, true] rfl rfl (one_of HT_.out (by kernel_rfl)) (by decide) (fun K hK => ?_)
                              refine skip_ (w1 := ?_) (by rfl) rfl ?_ ?_
                              rotate_left
                              ·go_simp
                               rfl
                              refine hK.out _ _ ?_
                              clear hK K
                              refine done_ (done_of HT_.out (by kernel_rfl)) ?_
                              try go_wp2
                              (try simp only [← hl8_5])
                              go_roundg k5
                              case measure => have := HK1.out; have := HK2.out; have := HK3.out; have := HK4.out; have := HK5.out; omega
                              case rel => exact ⟨(y368), (wrap64 (x14_5 - 1)), rfl, H', ⟨by have := HK1.out; have := HK2.out; have := HK3.out; have := HK4.out; have := HK5.out; omega⟩, ⟨by (try simp only [hl8_2]); (try simp only [hl8_3]); (try simp only [hl8_4]); (try simp only [hl8_5]); (with_reducible repeat (first | apply Kd.S_alloc | apply Kd.S_drewN | apply Kd.S_drew)); exact HQ55.out⟩, ⟨by (try simp only [hl8_2]); (try simp only [hl8_3]); (try simp only [hl8_4]); (try simp only [hl8_5]); (with_reducible repeat (first | apply Kd.R_alloc | apply Kd.R_drewN | apply Kd.R_drew)); exact Kd.R_mono (Kd.R_far (p := ⟨go53, (x14_5 : Int).toNat, none⟩) (Kd.R_types HO_50.out GG53.out (by decide)) (fun _ hk => hk.2) (.int .i64 (wrap64 ((rd (rd_L3 x8_5 x13_4) x14_5) + (rd (rd_L3 x8_5 (ji47)) (ji50)))))) (fun _ hk => hk.1)⟩, ⟨by (try simp only [hl8_2]); (try simp only [hl8_3]); (try simp only [hl8_4]); (try simp only [hl8_5]); (with_reducible repeat (first | refine blk_drewN ?_ _ | refine blk_drew ?_ | refine blk_alloc ?_ _)); refine blk_far ?_ (by have h_ := Kd.R_ne HL362_0.out BK361.out (by decide); intro e_; exact h_ (by rw [e_]; rfl)) _; (with_reducible repeat (first | refine blk_drewN ?_ _ | refine blk_drew ?_ | refine blk_alloc ?_ _)); exact BK361.out⟩, ⟨by repeat (first | (with_reducible first | exact HB.out | apply below_alloc | apply pw_below_drewN | apply below_drew1 | refine below_set ?_ GB53.out | refine below_set ?_ GE361.out) | exact HB.out)⟩⟩
                             ·rw [if_neg c52] at H
                              exact absurd H (by simp)
                            ·rw [if_neg c51] at H
                             exact absurd H (by simp)
                           ·rw [if_neg c49] at H
                            exact absurd H (by simp)
                          ·rw [if_neg c48] at H
                           exact absurd H (by simp)
                         ·rw [if_neg c46] at H
                          exact absurd H (by simp)
                        ·rw [if_neg c45] at H
                         exact absurd H (by simp)
                       ·rw [if_neg c44] at H
                        exact absurd H (by simp)
                      ·rw [if_neg c43] at H
                       exact absurd H (by simp)
                     ·rw [if_neg c42] at H
                      have c42b0 : decide ((wrap64 (((rd_T53 t356 x52_3).f0) + ((rd_T53 t356 x52_3).f1))) ≤ x14_5) = false := decide_eq_false c42
                      clear c42
                      have H' := Aside0.mk H
                      clear H
                      go_wp2
                      (try simp only [← hl8_4, ← hl8_5])
                      go_roundg k5
                      case measure => have := HK1.out; have := HK2.out; have := HK3.out; have := HK4.out; have := HK5.out; omega
                      case rel => exact ⟨(x8_5), (wrap64 (x13_4 - 1)), rfl, H', ⟨by have := HK1.out; have := HK2.out; have := HK3.out; have := HK4.out; have := HK5.out; omega⟩, ⟨by (try simp only [hl8_2]); (try simp only [hl8_3]); (try simp only [hl8_4]); (try simp only [hl8_5]); exact HO_8.out⟩, ⟨by (try simp only [hl8_2]); (try simp only [hl8_3]); (try simp only [hl8_4]); (try simp only [hl8_5]); exact HO_50.out⟩, ⟨by (try simp only [hl8_2]); (try simp only [hl8_3]); (try simp only [hl8_4]); (try simp only [hl8_5]); exact BK361.out⟩, ⟨HB.out⟩⟩
                  ·rw [if_neg c41] at H
                   have c41b0 : decide (0 < x13_4) = false := decide_eq_false c41
                   clear c41
                   have H' := Aside0.mk H
                   clear H
                   go_wp2
                   (try simp only [← hl8_3, ← hl8_4])
                   go_roundg k4
                   case measure => have := HK1.out; have := HK2.out; have := HK3.out; have := HK4.out; omega
                   case rel => exact ⟨(x8_4), (wrap64 (x52_3 + 1)), rfl, H', ⟨by have := HK1.out; have := HK2.out; have := HK3.out; have := HK4.out; omega⟩, ⟨by (try simp only [hl8_2]); (try simp only [hl8_3]); (try simp only [hl8_4]); exact HO_8.out⟩, ⟨by (try simp only [hl8_2]); (try simp only [hl8_3]); (try simp only [hl8_4]); exact Kd.R_mono HO_50.out (fun _ hk => trivial)⟩, ⟨HB.out⟩⟩
               ·rw [if_neg c38] at H
                exact absurd H (by simp)
              ·rw [if_neg c37] at H
               exact absurd H (by simp)
             ·rw [if_neg c36] at H
              have c36b0 : decide (x52_3 < (t356.length : Int)) = false := decide_eq_false c36
              (try (have c36b8 := c36b0; rw [hl8_3] at c36b8))
              clear c36
              by_cases c57 : 0 ≤ a1
              ·rw [if_pos c57] at H
               have c57b0 : decide (0 ≤ a1) = true := decide_eq_true c57
               clear c57
               by_cases c58 : a1 < (x8_3.length : Int)
               ·rw [if_pos c58] at H
                have c58b0 : decide (a1 < (x8_3.length : Int)) = true := decide_eq_true c58
                clear c58
                obtain rfl := Option.some.inj H
                have p359 : 0 ≤ (a1 : Int) := of_decide_eq_true (by assumption)
                have q359 : a1 < (x8_3.length : Int) := of_decide_eq_true (by assumption)
                obtain ⟨ad359, A359_0, c359_0, e359, hx359_0, hl359_0, hi359_0⟩ := at_L3 (Kd.S_reads' HO_8.out).2.2 a1 p359 q359
                obtain rfl : ad352 = ad359 := (by injection e359)
                obtain ⟨ce359, hce359, hMe359, hcc359⟩ := Kd.S_get HO_8.out [] a1 p359 (by first | exact q359 | exact of_decide_eq_true (by assumption) | (have e_ := (Kd.S_reads' HO_8.out).1; omega))
                obtain ⟨ve359_0, rfl, ge359_0⟩ := hMe359
                have hv359_0 := hcc359 0 _ rfl
                rw [Nat.add_zero, show ((Kd.slice 3 (Kd.int .i64))).sz = 1 from rfl, Nat.mul_one] at hv359_0
                replace hv359_0 := Option.some.inj (hv359_0.symm.trans hx359_0)
                rw [hv359_0] at ge359_0
                have HL359_0 := Aside0.mk (show Kd.R (Kd.int .i64) 3 _ _ _ _ (rd_L3 x8_3 a1) from ge359_0)
                clear hv359_0 ge359_0
                have HX359_0 := Aside0.mk hx359_0
                clear hcc359 hce359
                have HR359_0 := Aside0.mk hi359_0
                have HC359_0 := Aside0.mk hl359_0
                clear hi359_0 hl359_0
                replace p359 := eq_true p359
                replace q359 := eq_true q359
                go_wp2
                go_ret
                exact ⟨_, by first | rfl | (simp [errW_none, errW_some] <;> rfl) | (simp only [← hji11]; first | rfl | (simp [errW_none, errW_some] <;> rfl)) | (simp [*, errW_none, errW_some] <;> rfl), by exact Kd.R_mono HL359_0.out (fun _ hk => trivial), HB.out⟩
               ·rw [if_neg c58] at H
                exact absurd H (by simp)
              ·rw [if_neg c57] at H
               exact absurd H (by simp)
          ·rw [if_neg c29] at H
           exact absurd H (by simp)
         ·rw [if_neg c28] at H
          exact absurd H (by simp)
     ·rw [if_neg c13] at H
      exact absurd H (by simp)
    ·rw [if_neg c12] at H
     exact absurd H (by simp)

end Go.Proofs.Ytafcjfilhdpgdaa.QFnChancesCompared
