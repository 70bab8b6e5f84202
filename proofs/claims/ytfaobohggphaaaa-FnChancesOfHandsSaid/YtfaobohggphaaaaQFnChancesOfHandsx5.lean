-- WRITTEN BY A PROGRAM OF THIS CLAIM'S AUTHOR (wprint.py)
import Derived.Test.YtfaobohggphaaaaQFnChancesOfHandsx0
import Derived.Test.YtfaobohggphaaaaQFnChancesOfHandsx4
namespace Go.Proofs.Ytfaobohggphaaaa.QFnChancesOfHands
open Go.RowKit Go.Proofs.YtfaobohggphaaaaW.PrintWords Go.Proofs.YtfaobohggphaaaaW.PrintLast Go.Proofs.YtfaobohggphaaaaW.PrintMore
attribute [local go_sem] max2_int min2_int max_two min_two max_three min_three max_four min_four   -- for this text's walks alone
set_option linter.unusedVariables false
set_option linter.unusedSimpArgs false

/-! ### impl_withPips: function 35 -/
mutual
def impl_withPips.l0 : Nat → Int → Int → List (List Int) → Int → Int → Option (List Int)
 | 0, _, _, _, _, _ => none
 | k + 1, x0, x1, x5, x15, x16 => if x16 < x15 then (if 1001 ≤ 35184372088832 then (if 0 ≤ x16 then (if x16 < (x5.length : Int) then (impl_withPips.l0 k x0 x1 (x5.set (x16 : Int).toNat (List.replicate 1001 0)) x15 (wrap64 (x16 + 1))) else (none)) else (none)) else (none)) else (if 0 < (x5.length : Int) then (if 0 < ((rd_L3 x5 0).length : Int) then ((impl_setOf.f k x0).bind fun t231 => (impl_withPips.l1 k x1 (x5.set (0 : Int).toNat ((rd_L3 x5 0).set (0 : Int).toNat 1)) t231 (t231.length : Int) 0)) else (none)) else (none))
def impl_withPips.l1 : Nat → Int → List (List Int) → List (S57) → Int → Int → Option (List Int)
 | 0, _, _, _, _, _ => none
 | k + 1, x1, x5, x29, x30, x31 => if x31 < x30 then (if 0 ≤ x31 then (if x31 < (x29.length : Int) then (impl_withPips.l2 k x1 x5 x1 x29 x30 x31 ((rd_T57 x29 x31).f0) ((rd_T57 x29 x31).f1)) else (none)) else (none)) else (if 0 ≤ x1 then (if x1 < (x5.length : Int) then (some (rd_L3 x5 x1)) else (none)) else (none))
def impl_withPips.l2 : Nat → Int → List (List Int) → Int → List (S57) → Int → Int → Int → Int → Option (List Int)
 | 0, _, _, _, _, _, _, _, _ => none
 | k + 1, x1, x5, x9, x29, x30, x31, x237000, x237001 => if x9 > 0 then (impl_withPips.l3 k x1 x5 x9 1000 x29 x30 x31 x237000 x237001) else (impl_withPips.l1 k x1 x5 x29 x30 (wrap64 (x31 + 1)))
def impl_withPips.l3 : Nat → Int → List (List Int) → Int → Int → List (S57) → Int → Int → Int → Int → Option (List Int)
 | 0, _, _, _, _, _, _, _, _, _ => none
 | k + 1, x1, x5, x9, x10, x29, x30, x31, x237000, x237001 => if x10 ≥ (wrap64 (x237000 + x237001)) then (if 0 ≤ x9 then (if x9 < (x5.length : Int) then (if 0 ≤ x10 then (if x10 < ((rd_L3 x5 x9).length : Int) then (if 0 ≤ (wrap64 (x9 - 1)) then (if (wrap64 (x9 - 1)) < (x5.length : Int) then (if 0 ≤ (wrap64 ((wrap64 (x10 - x237000)) - x237001)) then (if (wrap64 ((wrap64 (x10 - x237000)) - x237001)) < ((rd_L3 x5 (wrap64 (x9 - 1))).length : Int) then (impl_withPips.l3 k x1 (x5.set (x9 : Int).toNat ((rd_L3 x5 x9).set (x10 : Int).toNat (wrap64 ((rd (rd_L3 x5 x9) x10) + (rd (rd_L3 x5 (wrap64 (x9 - 1))) (wrap64 ((wrap64 (x10 - x237000)) - x237001))))))) x9 (wrap64 (x10 - 1)) x29 x30 x31 x237000 x237001) else (none)) else (none)) else (none)) else (none)) else (none)) else (none)) else (none)) else (none)) else (impl_withPips.l2 k x1 x5 (wrap64 (x9 - 1)) x29 x30 x31 x237000 x237001)
end
def impl_withPips.f (k : Nat) (a0 : Int) (a1 : Int) : Option (List Int) := if 0 ≤ (wrap64 (a1 + 1)) then (if (wrap64 (a1 + 1) : Int).toNat ≤ 11728124029610 then ((some (List.replicate (wrap64 (a1 + 1) : Int).toNat [] : List (List Int))).bind fun y220 => (impl_withPips.l0 k a0 a1 y220 (y220.length : Int) 0)) else (none)) else (none)
theorem impl_withPips.mono_l : ∀ k, (∀ y0 y1 y2 y3 y4, LeO (impl_withPips.l0 k y0 y1 y2 y3 y4) (impl_withPips.l0 (k + 1) y0 y1 y2 y3 y4)) ∧ (∀ y0 y1 y2 y3 y4, LeO (impl_withPips.l1 k y0 y1 y2 y3 y4) (impl_withPips.l1 (k + 1) y0 y1 y2 y3 y4)) ∧ (∀ y0 y1 y2 y3 y4 y5 y6 y7, LeO (impl_withPips.l2 k y0 y1 y2 y3 y4 y5 y6 y7) (impl_withPips.l2 (k + 1) y0 y1 y2 y3 y4 y5 y6 y7)) ∧ (∀ y0 y1 y2 y3 y4 y5 y6 y7 y8, LeO (impl_withPips.l3 k y0 y1 y2 y3 y4 y5 y6 y7 y8) (impl_withPips.l3 (k + 1) y0 y1 y2 y3 y4 y5 y6 y7 y8))
 | 0 => ⟨fun _ _ _ _ _ r h => by simp [impl_withPips.l0] at h, fun _ _ _ _ _ r h => by simp [impl_withPips.l1] at h, fun _ _ _ _ _ _ _ _ r h => by simp [impl_withPips.l2] at h, fun _ _ _ _ _ _ _ _ _ r h => by simp [impl_withPips.l3] at h⟩
 | k + 1 => by
  obtain ⟨ih0, ih1, ih2, ih3⟩ := impl_withPips.mono_l k
  refine ⟨?_, ?_, ?_, ?_⟩
  ·intro y0 y1 y2 y3 y4
   unfold impl_withPips.l0
   repeat' first
   | (with_reducible exact ih0 _ _ _ _ _)
   | (with_reducible exact ih1 _ _ _ _ _)
   | (with_reducible exact ih2 _ _ _ _ _ _ _ _)
   | (with_reducible exact ih3 _ _ _ _ _ _ _ _ _)
   | (with_reducible exact impl_setOf.mono _ _)
   | (with_reducible exact LeO.refl _)
   | (with_reducible exact LeO.none _)
   | (with_reducible refine LeO.ite ?_ ?_)
   | (with_reducible refine LeO.bind ?_ (fun _ => ?_))
   | exact ih0 _ _ _ _ _
   | exact ih1 _ _ _ _ _
   | exact ih2 _ _ _ _ _ _ _ _
   | exact ih3 _ _ _ _ _ _ _ _ _
   | exact impl_setOf.mono _ _
   | exact LeO.none _
   | refine LeO.ite ?_ ?_
   | refine LeO.bind ?_ (fun _ => ?_)
  ·intro y0 y1 y2 y3 y4
   unfold impl_withPips.l1
   repeat' first
   | (with_reducible exact ih0 _ _ _ _ _)
   | (with_reducible exact ih1 _ _ _ _ _)
   | (with_reducible exact ih2 _ _ _ _ _ _ _ _)
   | (with_reducible exact ih3 _ _ _ _ _ _ _ _ _)
   | (with_reducible exact impl_setOf.mono _ _)
   | (with_reducible exact LeO.refl _)
   | (with_reducible exact LeO.none _)
   | (with_reducible refine LeO.ite ?_ ?_)
   | (with_reducible refine LeO.bind ?_ (fun _ => ?_))
   | exact ih0 _ _ _ _ _
   | exact ih1 _ _ _ _ _
   | exact ih2 _ _ _ _ _ _ _ _
   | exact ih3 _ _ _ _ _ _ _ _ _
   | exact impl_setOf.mono _ _
   | exact LeO.none _
   | refine LeO.ite ?_ ?_
   | refine LeO.bind ?_ (fun _ => ?_)
  ·intro y0 y1 y2 y3 y4 y5 y6 y7
   unfold impl_withPips.l2
   repeat' first
   | (with_reducible exact ih0 _ _ _ _ _)
   | (with_reducible exact ih1 _ _ _ _ _)
   | (with_reducible exact ih2 _ _ _ _ _ _ _ _)
   | (with_reducible exact ih3 _ _ _ _ _ _ _ _ _)
   | (with_reducible exact impl_setOf.mono _ _)
   | (with_reducible exact LeO.refl _)
   | (with_reducible exact LeO.none _)
   | (with_reducible refine LeO.ite ?_ ?_)
   | (with_reducible refine LeO.bind ?_ (fun _ => ?_))
   | exact ih0 _ _ _ _ _
   | exact ih1 _ _ _ _ _
   | exact ih2 _ _ _ _ _ _ _ _
   | exact ih3 _ _ _ _ _ _ _ _ _
   | exact impl_setOf.mono _ _
   | exact LeO.none _
   | refine LeO.ite ?_ ?_
   | refine LeO.bind ?_ (fun _ => ?_)
  ·intro y0 y1 y2 y3 y4 y5 y6 y7 y8
   unfold impl_withPips.l3
   repeat' first
   | (with_reducible exact ih0 _ _ _ _ _)
   | (with_reducible exact ih1 _ _ _ _ _)
   | (with_reducible exact ih2 _ _ _ _ _ _ _ _)
   | (with_reducible exact ih3 _ _ _ _ _ _ _ _ _)
   | (with_reducible exact impl_setOf.mono _ _)
   | (with_reducible exact LeO.refl _)
   | (with_reducible exact LeO.none _)
   | (with_reducible refine LeO.ite ?_ ?_)
   | (with_reducible refine LeO.bind ?_ (fun _ => ?_))
   | exact ih0 _ _ _ _ _
   | exact ih1 _ _ _ _ _
   | exact ih2 _ _ _ _ _ _ _ _
   | exact ih3 _ _ _ _ _ _ _ _ _
   | exact impl_setOf.mono _ _
   | exact LeO.none _
   | refine LeO.ite ?_ ?_
   | refine LeO.bind ?_ (fun _ => ?_)
theorem impl_withPips.mono : ∀ a0 a1 k, LeO (impl_withPips.f k a0 a1) (impl_withPips.f (k + 1) a0 a1) := by
 intro a0 a1 k
 obtain ⟨ih0, ih1, ih2, ih3⟩ := impl_withPips.mono_l k
 unfold impl_withPips.f
 repeat' first
   | (with_reducible exact ih0 _ _ _ _ _)
   | (with_reducible exact ih1 _ _ _ _ _)
   | (with_reducible exact ih2 _ _ _ _ _ _ _ _)
   | (with_reducible exact ih3 _ _ _ _ _ _ _ _ _)
   | (with_reducible exact impl_setOf.mono _ _)
   | (with_reducible exact LeO.refl _)
   | (with_reducible exact LeO.none _)
   | (with_reducible refine LeO.ite ?_ ?_)
   | (with_reducible refine LeO.bind ?_ (fun _ => ?_))
   | exact ih0 _ _ _ _ _
   | exact ih1 _ _ _ _ _
   | exact ih2 _ _ _ _ _ _ _ _
   | exact ih3 _ _ _ _ _ _ _ _ _
   | exact impl_setOf.mono _ _
   | exact LeO.none _
   | refine LeO.ite ?_ ?_
   | refine LeO.bind ?_ (fun _ => ?_)
def impl_withPips.T17 : Bool × List (List Nat × List Nat) := (true, [([], []), ([], []), ([0, 1], [0, 1]), ([2], [2]), ([], []), ([3, 4], [3, 4]), ([5], [5]), ([], []), ([], []), ([8], [8]), ([7, 9], [7, 9]), ([10], [10]), ([], []), ([], []), ([13], [13]), ([12, 14], [12, 14]), ([], []), ([16], [16]), ([15, 17], [15, 17]), ([11, 18], [11, 18]), ([19], [19]), ([6, 20], [6, 20]), ([3, 4, 0, 1, 2, 3, 4, 5, 6, 7, 8, 9, 10, 11, 12, 13, 14, 15, 16, 17, 18, 19, 20, 21], [3, 4]), ([22, 21, 0, 1, 2, 3, 4, 5, 6, 7, 8, 9, 10, 11, 12, 13, 14, 15, 16, 17, 18, 19, 20, 21], [21, 22])])
def impl_withPips.B17 : List Nat := [0, 0, 3, 7, 0, 31, 63, 0, 0, 256, 896, 1920, 0, 0, 8192, 28672, 0, 65536, 258048, 524160, 1048448, 2097151, 4194303, 8388607]
theorem impl_withPips.tab17 : rtab .any (opsOf Try.f35 17) = impl_withPips.T17 := by kernel_rfl
theorem impl_withPips.bits17 : waitsOk impl_withPips.T17.2 impl_withPips.B17 = true := by kernel_rfl
set_option maxHeartbeats 8000000 in
set_option maxRecDepth 100000 in
theorem impl_withPips.calls (k : Nat) (a0 : Int) (a1 : Int) (r : List Int) (w : World) (h : impl_withPips.f k a0 a1 = some r) :
  Calls Try.prog 35 #[.int .i64 a0, .int .i64 a1] w fun e w' => ∃ v0_ : Value, e = .returned (v0_) ∧ Kd.R (Kd.int .i64) 3 w' w.heap.size (fun _ => True) v0_ r ∧ Below w.heap.size w w' := by
 have hu57 := Try.underlying57
 have HB := Aside0.mk (Below.refl w.heap.size w)
 have H : (if 0 ≤ (wrap64 (a1 + 1)) then (if (wrap64 (a1 + 1) : Int).toNat ≤ 11728124029610 then ((some (List.replicate (wrap64 (a1 + 1) : Int).toNat [] : List (List Int))).bind fun y220 => (impl_withPips.l0 k a0 a1 y220 (y220.length : Int) 0)) else (none)) else (none)) = some r := h
 clear h
 obtain ⟨ji3, hji3⟩ : ∃ j_ : Int, (wrap64 (a1 + 1)) = j_ := ⟨_, rfl⟩
 replace H : (if 0 ≤ (ji3) then (if (ji3 : Int).toNat ≤ 11728124029610 then ((some (List.replicate (ji3 : Int).toNat [] : List (List Int))).bind fun y220 => (impl_withPips.l0 k a0 a1 y220 (y220.length : Int) 0)) else (none)) else (none)) = some r := by first | (rw [hji3] at H; exact H) | (simp only [hji3] at H ⊢; exact H)
 have hji3w : (IntKind.i64.wrap (a1 + 1)) = ji3 := (i64_w _).trans hji3
 by_cases c4 : 0 ≤ (ji3)
 ·rw [if_pos c4] at H
  have c4b0 := eq_true c4
  have c4b1 : decide (0 ≤ (ji3)) = true := decide_eq_true c4
  clear c4
  by_cases c5 : (ji3 : Int).toNat ≤ 11728124029610
  ·rw [if_pos c5] at H
   have c5b0 := eq_true c5
   have c5b1 : decide ((ji3 : Int).toNat ≤ 11728124029610) = true := decide_eq_true c5
   clear c5
   obtain ⟨y220, hy220⟩ : ∃ y_ : List (List Int), y_ = (List.replicate (ji3 : Int).toNat []) := ⟨_, rfl⟩
   replace H : (impl_withPips.l0 k a0 a1 y220 (y220.length : Int) 0) = some r := by first | (rw [hy220]; with_reducible exact H) | (have H2_ := (Option.bind_some _ _).symm.trans H; rw [hy220]; with_reducible exact H2_) | (have H2_ := (Option.bind_some _ _).symm.trans H; with_reducible exact H2_) | with_reducible exact H | (rw [hy220]; exact H) | exact H
   have Ny220 := Aside0.mk hy220
   clear hy220
   have H' := Aside0.mk H
   clear H
   go_enter Try.func35, Try.ntmps35
   go_wp2_with (first | ((with_reducible refine gate_dst (N := 13) rfl ?_); refine Kd.S_make (Kd.slice 3 (Kd.int .i64)) _ 46 rfl (N := 13) rfl 53 _ _ rfl ji3 rfl rfl Try.underlying53 (.slice none 0 0) 24 info46 rfl (by decide) (by omega) [] (ok := fun _ => True) (okp := fun _ => True) ⟨_, rfl, Kd.R_nil _ _ _ _ _⟩ (fun _ hk => hk) trivial (of_decide_eq_true (by first | (with_reducible assumption) | assumption)) (Nat.le_trans (Nat.mul_le_mul_right _ (of_decide_eq_true (by first | (with_reducible assumption) | assumption) : ji3.toNat ≤ 11728124029610)) (by omega)) (Below.refl _ _) (Nat.le_refl _) ?_; intro v221 w6 ho7 hb hg_ hnew_; clear hg_ hnew_; (first | rw [← Ny220.out] at ho7 | (simp only [Int.reduceToNat] at ho7; rw [← Ny220.out] at ho7)); have HO222 := Aside0.mk (Kd.S_lower ho7 (below_size (by repeat (first | (with_reducible first | exact HB.out | apply below_alloc | apply pw_below_drewN | apply below_drew1) | exact HB.out)))); replace HB := Aside0.mk (below_step (by repeat (first | (with_reducible first | exact HB.out | apply below_alloc | apply pw_below_drewN | apply below_drew1) | exact HB.out)) hb); clear hb ho7; obtain ⟨Ao8, co8, eo8⟩ := Kd.S_slice HO222.out; subst eo8))
   go_loopg [16] k (fun kq v16 w' => ∃ (x5_1 : List (List Int)) (x16_1 : Int), v16 = .int .i64 x16_1 ∧ Aside0 (impl_withPips.l0 kq a0 a1 x5_1 (y220.length : Int) x16_1 = some r) ∧ Aside0 (kq ≤ k) ∧ Aside0 (Kd.S (Kd.slice 3 (Kd.int .i64)) 46 w' w.heap.size (fun _ => True) (.slice Ao8 y220.length co8) x5_1) ∧ Aside0 (Below w.heap.size w w'))
   case atStart => exact ⟨(y220), (0), (by first | rfl | (simp; done) | (simp [*]; done)), H', ⟨Nat.le_refl _⟩, ⟨by (with_reducible repeat (first | apply Kd.S_alloc | apply Kd.S_drewN | apply Kd.S_drew)); exact HO222.out⟩, ⟨by repeat (first | (with_reducible first | exact HB.out | apply below_alloc | apply pw_below_drewN | apply below_drew1) | exact HB.out)⟩⟩
   case round =>
    clear H'
    try clear p2
    try clear c3
    try clear c4
    try clear c4b0
    try clear c4b1
    try clear c5
    try clear c5b0
    try clear c5b1
    try clear p6
    obtain ⟨x5_1, x16_1, rfl, HA, HK1, HO_5, HB⟩ := hrel
    have hl5_1 := (Kd.S_reads' HO_5.out).1
    rw [hl5_1] at HO_5
    (try simp only [hl5_1])
    cases gk with
    | zero => exact absurd HA.out (by simp [impl_withPips.l0])
    | succ k1 =>
     have H := HA.out
     clear HA
     simp only [impl_withPips.l0] at H
     by_cases c9 : x16_1 < (y220.length : Int)
     ·rw [if_pos c9] at H
      have c9b0 : decide (x16_1 < (y220.length : Int)) = true := decide_eq_true c9
      clear c9
      by_cases c10 : 1001 ≤ 35184372088832
      ·rw [if_pos c10] at H
       have c10b0 := eq_true c10
       have c10b1 : decide (1001 ≤ 35184372088832) = true := decide_eq_true c10
       clear c10
       obtain ⟨y223, hy223⟩ : ∃ y_ : List Int, y_ = (List.replicate 1001 0) := ⟨_, rfl⟩
       replace H : (if 0 ≤ x16_1 then (if x16_1 < (x5_1.length : Int) then (impl_withPips.l0 k1 a0 a1 (x5_1.set (x16_1 : Int).toNat y223) (y220.length : Int) (wrap64 (x16_1 + 1))) else (none)) else (none)) = some r := by first | (rw [hy223]; with_reducible exact H) | (have H2_ := (Option.bind_some _ _).symm.trans H; rw [hy223]; with_reducible exact H2_) | (have H2_ := (Option.bind_some _ _).symm.trans H; with_reducible exact H2_) | with_reducible exact H | (rw [hy223]; exact H) | exact H
       have Ny223 := Aside0.mk hy223
       clear hy223
       by_cases c11 : 0 ≤ x16_1
       ·rw [if_pos c11] at H
        have c11b0 : decide (0 ≤ x16_1) = true := decide_eq_true c11
        clear c11
        by_cases c12 : x16_1 < (x5_1.length : Int)
        ·rw [if_pos c12] at H
         have c12b0 : decide (x16_1 < (x5_1.length : Int)) = true := decide_eq_true c12
         clear c12
         obtain ⟨y226, hy226⟩ : ∃ y_ : List (List Int), y_ = (x5_1.set (x16_1 : Int).toNat y223) := ⟨_, rfl⟩
         replace H : (impl_withPips.l0 k1 a0 a1 y226 (y220.length : Int) (wrap64 (x16_1 + 1))) = some r := by first | (rw [hy226]; with_reducible exact H) | (have H2_ := (Option.bind_some _ _).symm.trans H; rw [hy226]; with_reducible exact H2_) | (have H2_ := (Option.bind_some _ _).symm.trans H; with_reducible exact H2_) | with_reducible exact H | (rw [hy226]; exact H) | exact H
         have Ny226 := Aside0.mk hy226
         clear hy226
         have H' := Aside0.mk H
         clear H
         go_wp2_with (first | ((with_reducible refine gate_dst (N := 21) rfl ?_); refine Kd.R_make (Kd.int .i64) _ 3 rfl (N := 21) rfl 46 _ _ rfl 1001 rfl rfl Try.underlying46 (.int .i64 0) 8 info3 rfl (by decide) (by omega) 0 (ok := fun _ => True) (okp := fun _ => True) rfl (fun _ hk => hk) trivial (by omega) (by omega) (Below.refl _ _) (Nat.le_refl _) ?_; intro v224 w14 ho15 hb hg_ hnew_; clear hg_ hnew_; (first | rw [← Ny223.out] at ho15 | (simp only [Int.reduceToNat] at ho15; rw [← Ny223.out] at ho15)); replace HO_5 := Aside0.mk (Kd.S_elder' (by (with_reducible repeat (first | apply Kd.S_alloc | apply Kd.S_drewN | apply Kd.S_drew)); exact HO_5.out) (Kd.R_base ho15) hb); have HO225 := Aside0.mk (Kd.R_lower ho15 (below_size (by repeat (first | (with_reducible first | exact HB.out | apply below_alloc | apply pw_below_drewN | apply below_drew1) | exact HB.out)))); replace HB := Aside0.mk (below_step (by repeat (first | (with_reducible first | exact HB.out | apply below_alloc | apply pw_below_drewN | apply below_drew1) | exact HB.out)) hb); clear hb ho15; have p13 : 0 ≤ (x16_1 : Int) := of_decide_eq_true (by first | (with_reducible assumption) | assumption); have q13 : (x16_1 : Int) < ((x5_1.length : Int) : Int) := of_decide_eq_true (by first | (with_reducible assumption) | assumption); obtain ⟨go13, co13, eo13, gb13, gl13, cl13, HG13⟩ := Kd.S_form HO_5.out (by omega); (first | cases eo13 | (injection eo13 with ea_ en_ ec_; (first | subst ea_ | (injection ea_ with ea_; subst ea_)); subst ec_; clear en_)); have GB13 := Aside0.mk gb13; have GG13 := Aside0.mk HG13; clear gb13 gl13 HG13; obtain ⟨_, ce13, hcl13, hM13, hcc13, hfr13, _, _⟩ := Kd.S_elem HO_5.out [] (x16_1 : Int) p13 q13; obtain ⟨ve13_0, rfl, ge13_0⟩ := hM13; have hx13_0 := hcc13 0 _ rfl; have hf13_0 := hfr13 0; (try simp only [show ((Kd.slice 3 (Kd.int .i64))).sz = 1 from rfl, Nat.mul_one, Nat.add_zero] at hx13_0); (try simp only [show ((Kd.slice 3 (Kd.int .i64))).sz = 1 from rfl, Nat.mul_one, Nat.add_zero] at hf13_0); (try clear hM13); clear hcl13 hcc13 hfr13; replace p13 := eq_true p13; replace q13 := eq_true q13; have n_ := Aside0.mk (Kd.S_mono (ok' := (fun k_ => some k_ ≠ (v224 : Value).ownBlock)) HO_5.out (fun k_ hk => hk.2)); clear HO_5; have HO_5 := n_; clear n_; have HX16 := Aside0.mk (show Kd.S (Kd.slice 3 (Kd.int .i64)) 46 w14 w.heap.size (fun k_ => ((fun _ => True)) k_ ∧ ¬ ((fun k_ => some k_ = (v224 : Value).ownBlock)) k_) (.slice (some ⟨go13, 0, none⟩) x5_1.length co8) x5_1 from (by (with_reducible repeat (first | apply Kd.S_alloc | apply Kd.S_drewN | apply Kd.S_drew)); exact Kd.S_mono HO_5.out (fun k_ hk => ⟨trivial, fun e_ => hk e_⟩))); obtain ⟨oki16, ce16, hcl16, hM16, hcc16, hfr16, hoki16, hH16⟩ := Kd.S_elem HX16.out [] (x16_1 : Int) (of_decide_eq_true (by first | (with_reducible assumption) | assumption)) (by have h_ : (x16_1 : Int) < ((x5_1.length : Int) : Int) := of_decide_eq_true (by first | (with_reducible assumption) | assumption); first | exact h_ | (have e_ := (Kd.S_reads' HO_5.out).1; omega) | simpa using h_); obtain ⟨ve16_0, rfl, ge16_0⟩ := hM16; have HP16 := Kd.S_seg hH16 (of_decide_eq_true (by first | (with_reducible assumption) | assumption)) (by have h_ : (x16_1 : Int) < ((x5_1.length : Int) : Int) := of_decide_eq_true (by first | (with_reducible assumption) | assumption); first | exact h_ | (have e_ := (Kd.S_reads' HO_5.out).1; omega) | simpa using h_) (seg := [v224]) (j := 0) (show 1 ≤ 1 from by decide) (x' := y223) (Kd.M_row (Kd.R_mono (Kd.R_tight rfl (Kd.R_mono (ok' := fun k_ => ((fun _ => True)) k_ ∧ k_ ≠ go13) (Kd.R_apart' (HO225.out) (Kd.S_typed HO_5.out) (by decide)) (fun k_ hk => ⟨trivial, fun e_ => (hk.2) (by rw [e_]; rfl)⟩))) (fun _ h_ => Or.inr (h_)))) (fun _ hk => hk) (fun k_ hk_ => ((Kd.R_mono (ok' := fun k_ => ((fun _ => True)) k_ ∧ k_ ≠ go13) (Kd.R_apart' (HO225.out) (Kd.S_typed HO_5.out) (by decide)) (fun k_ hk => ⟨trivial, fun e_ => (hk.2) (by rw [e_]; rfl)⟩))).1 k_ hk_.symm); have hx16_0 := hcc16 0 _ rfl; (try simp only [show ((Kd.slice 3 (Kd.int .i64))).sz = 1 from rfl, Nat.mul_one, Nat.add_zero] at hx16_0); have hf16_0 := hfr16 0; (try simp only [show ((Kd.slice 3 (Kd.int .i64))).sz = 1 from rfl, Nat.mul_one, Nat.add_zero] at hf16_0); (try clear hM16); clear hcl16 hcc16 hfr16 hoki16 hH16; (try simp only [show ((Kd.slice 3 (Kd.int .i64))).sz = 1 from rfl, Nat.mul_one, Nat.add_zero] at HP16)) | ((with_reducible refine gate_store (t := 46) (p := 22) rfl ?_); refine store_event (t := 46) (p := 22) (v := ?vo_w17) (w1 := (w14.setCell ⟨go13, (x16_1 : Int).toNat, none⟩ (v224))) ?hg ?ho ?hn ?hr ?_; (case ho => rfl); (case hg => rfl); (case hn => rfl); (case hr => first | (go_simp; done) | (go_simp; rfl) | (obtain ⟨_, _, hv_⟩ := Kd.R_slice (‹Aside0 (Kd.R _ _ _ _ _ v224 _)›).out; subst hv_; go_simp; first | done | rfl)); intro w17 hw; have hg : w14.grownBy w17 (some go13) := (by rw [hw]; exact HP16.2); have hp_ : Kd.S (Kd.slice 3 (Kd.int .i64)) 46 w17 w.heap.size (fun _ => True) (.slice (some ⟨go13, 0, none⟩) x5_1.length co8) y226 := (by rw [hw, Ny226.out]; exact HP16.1); clear HP16; replace HO_5 := Aside0.mk (hp_); replace HB := Aside0.mk ((by rw [hw]; exact below_set (HB.out) GB13.out : Below w.heap.size w w17)); clear HO225; clear hg hw hp_))
         (try simp only [← hl5_1])
         go_roundg k1
         case measure => have := HK1.out; omega
         case rel => exact ⟨(y226), (wrap64 (x16_1 + 1)), (by first | rfl | (simp; done) | (simp [*]; done)), H', ⟨by have := HK1.out; omega⟩, ⟨by (try simp only [hl5_1]); (with_reducible repeat (first | apply Kd.S_alloc | apply Kd.S_drewN | apply Kd.S_drew)); exact HO_5.out⟩, ⟨by repeat (first | (with_reducible first | exact HB.out | apply below_alloc | apply pw_below_drewN | apply below_drew1) | exact HB.out)⟩⟩
        ·rw [if_neg c12] at H
         exact absurd H (by simp)
       ·rw [if_neg c11] at H
        exact absurd H (by simp)
      ·rw [if_neg c10] at H
       exact absurd H (by simp)
     ·rw [if_neg c9] at H
      have c9b0 : decide (x16_1 < (y220.length : Int)) = false := decide_eq_false c9
      (try (have c9b8 := c9b0; rw [hl5_1] at c9b8))
      clear c9
      by_cases c18 : 0 < (x5_1.length : Int)
      ·rw [if_pos c18] at H
       have c18b0 : decide (0 < (x5_1.length : Int)) = true := decide_eq_true c18
       have c18b1 : decide (0 < x5_1.length) = true := decide_eq_true (by omega)
       clear c18
       by_cases c19 : 0 < ((rd_L3 x5_1 0).length : Int)
       ·rw [if_pos c19] at H
        have c19b0 : decide (0 < ((rd_L3 x5_1 0).length : Int)) = true := decide_eq_true c19
        have c19b1 : decide (0 < (rd_L3 x5_1 0).length) = true := decide_eq_true (by omega)
        clear c19
        obtain ⟨y228, hy228⟩ : ∃ y_ : List Int, y_ = ((rd_L3 x5_1 0).set (0 : Int).toNat 1) := ⟨_, rfl⟩
        replace H : ((impl_setOf.f k1 a0).bind fun t231 => (impl_withPips.l1 k1 a1 (x5_1.set (0 : Int).toNat y228) t231 (t231.length : Int) 0)) = some r := by first | (rw [hy228]; with_reducible exact H) | (have H2_ := (Option.bind_some _ _).symm.trans H; rw [hy228]; with_reducible exact H2_) | (have H2_ := (Option.bind_some _ _).symm.trans H; with_reducible exact H2_) | with_reducible exact H | (rw [hy228]; exact H) | exact H
        have Ny228 := Aside0.mk hy228
        clear hy228
        obtain ⟨y230, hy230⟩ : ∃ y_ : List (List Int), y_ = (x5_1.set (0 : Int).toNat y228) := ⟨_, rfl⟩
        replace H : ((impl_setOf.f k1 a0).bind fun t231 => (impl_withPips.l1 k1 a1 y230 t231 (t231.length : Int) 0)) = some r := by first | (rw [hy230]; with_reducible exact H) | (have H2_ := (Option.bind_some _ _).symm.trans H; rw [hy230]; with_reducible exact H2_) | (have H2_ := (Option.bind_some _ _).symm.trans H; with_reducible exact H2_) | with_reducible exact H | (rw [hy230]; exact H) | exact H
        have Ny230 := Aside0.mk hy230
        clear hy230
        replace H := Option.bind_eq_some_iff.mp H
        obtain ⟨t231, A210, H⟩ := H
        replace H : (impl_withPips.l1 k1 a1 y230 t231 (t231.length : Int) 0) = some r := H
        have A21 := Aside0.mk A210
        clear A210
        have H' := Aside0.mk H
        clear H
        have p227 : 0 ≤ (0 : Int) := (by omega)
        have q227 : 0 < (x5_1.length : Int) := of_decide_eq_true (by first | (with_reducible assumption) | assumption)
        obtain ⟨ad227, A227_0, c227_0, e227, hx227_0, hl227_0, hi227_0⟩ := at_L3 (Kd.S_reads' HO_5.out).2.2 0 p227 q227
        cases e227
        obtain ⟨ce227, hce227, hMe227, hcc227⟩ := Kd.S_get HO_5.out [] 0 p227 (by first | exact q227 | exact of_decide_eq_true (by first | (with_reducible assumption) | assumption) | (have e_ := (Kd.S_reads' HO_5.out).1; omega))
        obtain ⟨ve227_0, rfl, ge227_0⟩ := hMe227
        have hv227_0 := hcc227 0 _ rfl
        rw [Nat.add_zero, show ((Kd.slice 3 (Kd.int .i64))).sz = 1 from rfl, Nat.mul_one] at hv227_0
        replace hv227_0 := Option.some.inj (hv227_0.symm.trans hx227_0)
        rw [hv227_0] at ge227_0
        have HL227_0 := Aside0.mk (show Kd.R (Kd.int .i64) 3 _ _ _ _ (rd_L3 x5_1 0) from ge227_0)
        clear hv227_0 ge227_0
        have HX227_0 := Aside0.mk hx227_0
        clear hcc227 hce227
        have qi227 : (0 < x5_1.length) = True := eq_true (by omega)
        (try rw [show ((0 : Int)).toNat = 0 from rfl] at hx227_0)
        (try rw [Addr.add_zero'] at hx227_0)
        have HR227_0 := Aside0.mk hi227_0
        have HC227_0 := Aside0.mk hl227_0
        clear hi227_0 hl227_0
        replace p227 := eq_true p227
        replace q227 := eq_true q227
        have p20 : 0 ≤ (0 : Int) := (by omega)
        have q20 : (0 : Int) < (((rd_L3 x5_1 0).length : Int) : Int) := of_decide_eq_true (by first | (with_reducible assumption) | assumption)
        have qi20 : (0 < (rd_L3 x5_1 0).length) = True := eq_true (by omega)
        obtain ⟨go20, co20, eo20, gb20, gl20, cl20, HG20⟩ := Kd.R_form HL227_0.out (by omega)
        (first | cases eo20 | (injection eo20 with ea_ en_ ec_; (first | subst ea_ | (injection ea_ with ea_; subst ea_)); subst ec_; clear en_))
        have GB20 := Aside0.mk gb20
        have GG20 := Aside0.mk HG20
        clear gb20 gl20 HG20
        obtain ⟨hx20_0, hf20_0⟩ := Kd.R_celln 0 HL227_0.out (0 : Int) p20 q20
        (try rw [show ((0 : Int)).toNat = 0 from rfl] at hx20_0)
        (try simp only [Nat.reduceMul, Nat.zero_mul, Nat.zero_add, Nat.reduceAdd] at hx20_0)
        (try rw [show ((0 : Int)).toNat = 0 from rfl] at hf20_0)
        (try simp only [Nat.reduceMul, Nat.zero_mul, Nat.zero_add, Nat.reduceAdd] at hf20_0)
        replace p20 := eq_true p20
        replace q20 := eq_true q20
        have hq22 : (0 : Int) < (x5_1.length : Int) := (by have h_ : (0 : Int) < ((x5_1.length : Int) : Int) := of_decide_eq_true (by first | (with_reducible assumption) | assumption); first | exact h_ | (have e_ := (Kd.S_reads' HO_5.out).1; omega) | simpa only [List.length_set, List.length_set] using h_)
        obtain ⟨oki22, ce22, hcl22, hM22, hcc22, hok22, hbk22⟩ := Kd.S_borrow HO_5.out [] (0 : Int) (by omega) hq22
        obtain ⟨ve22_0, rfl, ge22_0⟩ := hM22
        have hv22 := hcc22 0 _ rfl
        rw [Nat.add_zero, show ((Kd.slice 3 (Kd.int .i64))).sz = 1 from rfl, Nat.mul_one] at hv22
        replace hv22 := Option.some.inj (hv22.symm.trans HX227_0.out)
        subst hv22
        clear hcc22 hcl22
        replace ge22_0 := (show Kd.R (Kd.int .i64) 3 _ _ _ _ (rd_L3 x5_1 0) from ge22_0)
        have HP22 := Kd.R_putg ge22_0 (0 : Int) 1
        go_wp2_with (first | ((with_reducible refine gate_store (t := 3) (p := 27) rfl ?_); refine store_event (t := 3) (p := 27) (v := ?vo_w23) (w1 := (wr.setCell ⟨go20, 0, none⟩ (.int .i64 1))) ?hg ?ho ?hn ?hr ?_; (case ho => rfl); (case hg => rfl); (case hn => rfl); (case hr => first | (go_simp; done) | (go_simp; rfl)); intro w23 hw; have hg : wr.grownBy w23 (some go20) := (by rw [hw]; exact HP22.2); have hz_ : Kd.R (Kd.int .i64) 3 w23 w.heap.size oki22 (.slice (some ⟨go20, 0, none⟩) (rd_L3 x5_1 0).length c227_0) y228 := (by rw [hw, Ny228.out]; exact HP22.1); have hp_ : Kd.S (Kd.slice 3 (Kd.int .i64)) 46 w23 w.heap.size (fun _ => True) (.slice (some ad227) x5_1.length co8) y230 := (by rw [Ny230.out]; exact hbk22 hg (fun k_ e_ => by injection e_ with e_; subst e_; exact ge22_0.1 _ rfl) (Kd.M_row hz_)); have hm_ := Kd.R_mono hz_ hok22; clear HP22 hbk22; replace HO_5 := Aside0.mk (hp_); replace HB := Aside0.mk ((by rw [hw]; exact below_set (HB.out) GB20.out : Below w.heap.size w w23)); have HL244 := Aside0.mk (hm_); have HC229 := Aside0.mk ((Kd.R_reads' hm_).2.1); clear HL227_0; clear hg hw hp_ hz_ hm_ hok22) | ((with_reducible refine gate_callee (f := 48) rfl ?_); refine goesL_ (some 29) rfl rfl Try.func48 (by kernel_rfl) rfl #[.int .i64 a0] rfl (by (try simp only [List.map_toArray, List.map_cons, List.map_nil]); first | done | rfl | (simp only [List.length_drop, List.length_take]; rfl)) ?_; (with_reducible refine (impl_setOf.calls k1 a0 t231 _ A21.out).mono ?_); rintro e w24 ⟨v232, rfl, ho0, hb⟩; refine ⟨_, rfl, ?_⟩; replace HO_5 := Aside0.mk (Kd.S_below (by (with_reducible repeat (first | apply Kd.S_alloc | apply Kd.S_drewN | apply Kd.S_drew)); exact HO_5.out) hb); replace HL244 := Aside0.mk (Kd.R_below (by (with_reducible repeat (first | apply Kd.R_alloc | apply Kd.R_drewN | apply Kd.R_drew)); exact HL244.out) hb); have HO233 := Aside0.mk (Kd.R_lower ho0 (below_size (by repeat (first | (with_reducible first | exact HB.out | apply below_alloc | apply pw_below_drewN | apply below_drew1) | exact HB.out)))); replace HB := Aside0.mk (below_step (by repeat (first | (with_reducible first | exact HB.out | apply below_alloc | apply pw_below_drewN | apply below_drew1) | exact HB.out)) hb); (try clear hb); (try clear hb2); (try clear hk); (try clear hi); (try clear ho0); obtain ⟨Ao25, co25, eo25⟩ := Kd.R_slice HO233.out; subst eo25))
        go_loopg [31] k1 (fun kq v31 w' => ∃ (x5_2 : List (List Int)) (x31_2 : Int), v31 = .int .i64 x31_2 ∧ Aside0 (impl_withPips.l1 kq a1 x5_2 t231 (t231.length : Int) x31_2 = some r) ∧ Aside0 (kq ≤ k1) ∧ Aside0 (Kd.S (Kd.slice 3 (Kd.int .i64)) 46 w' w.heap.size (fun _ => True) (.slice (some ad227) x5_1.length co8) x5_2) ∧ Aside0 (Kd.R k57 57 w' w.heap.size (fun _ => True) (.slice Ao25 t231.length co25) t231) ∧ Aside0 (Below w.heap.size w w'))
        case atStart => exact ⟨(y230), (0), (by first | rfl | (simp; done) | (simp [*]; done)), H', ⟨Nat.le_refl _⟩, ⟨by (try simp only [hl5_1]); (with_reducible repeat (first | apply Kd.S_alloc | apply Kd.S_drewN | apply Kd.S_drew)); exact HO_5.out⟩, ⟨by (try simp only [hl5_1]); (with_reducible repeat (first | apply Kd.R_alloc | apply Kd.R_drewN | apply Kd.R_drew)); exact HO233.out⟩, ⟨by repeat (first | (with_reducible first | exact HB.out | apply below_alloc | apply pw_below_drewN | apply below_drew1) | exact HB.out)⟩⟩
        case round =>
         clear H'
         try clear c1
         try clear p1
         try clear q1
         try clear hx1
         try clear c2
         try clear p2
         try clear q2
         try clear hx2
         try clear qi2
         try clear hf2
         try clear c3
         try clear c4
         try clear c4b0
         try clear c4b1
         try clear c5
         try clear c5b0
         try clear c5b1
         try clear p6
         try clear c9
         try clear c9b0
         try clear c10
         try clear c10b0
         try clear c10b1
         try clear c11
         try clear c11b0
         try clear c12
         try clear c12b0
         try clear c13
         try clear p13
         try clear q13
         try clear hx13
         try clear hf13
         try clear c16
         try clear hx16
         try clear hf16
         try clear c18
         try clear c18b0
         try clear c18b1
         try clear c19
         try clear c19b0
         try clear c19b1
         try clear p20
         try clear q20
         try clear hx20
         try clear qi20
         try clear hf20
         try clear c22
         try clear p22
         try clear q22
         try clear hx22
         try clear qi22
         try clear hx13_0
         try clear hx16_0
         try clear hx20_0
         try clear hx227_0
         try clear p13
         try clear p2
         try clear p20
         try clear p227
         try clear p6
         try clear q13
         try clear q20
         try clear q227
         obtain ⟨x5_2, x31_2, rfl, HA, HK2, HO_5, HO_29, HB⟩ := hrel
         have hl5_2 := (Kd.S_reads' HO_5.out).1
         rw [hl5_2] at HO_5
         (try simp only [hl5_2])
         (try simp only [hl5_2] at HO_29)
         cases gk with
         | zero => exact absurd HA.out (by simp [impl_withPips.l1])
         | succ k2 =>
          have H := HA.out
          clear HA
          simp only [impl_withPips.l1] at H
          by_cases c26 : x31_2 < (t231.length : Int)
          ·rw [if_pos c26] at H
           have c26b0 : decide (x31_2 < (t231.length : Int)) = true := decide_eq_true c26
           clear c26
           by_cases c27 : 0 ≤ x31_2
           ·rw [if_pos c27] at H
            have c27b0 : decide (0 ≤ x31_2) = true := decide_eq_true c27
            clear c27
            by_cases c28 : x31_2 < (t231.length : Int)
            ·rw [if_pos c28] at H
             have c28b0 : decide (x31_2 < (t231.length : Int)) = true := decide_eq_true c28
             clear c28
             have H' := Aside0.mk H
             clear H
             have p235 : 0 ≤ (x31_2 : Int) := of_decide_eq_true (by first | (with_reducible assumption) | assumption)
             have q235 : x31_2 < (t231.length : Int) := of_decide_eq_true (by first | (with_reducible assumption) | assumption)
             obtain ⟨ad235, e235, hx235_0, hx235_1⟩ := at_T57 (Kd.R_reads' HO_29.out).2.2 x31_2 p235 q235
             cases e235
             replace p235 := eq_true p235
             replace q235 := eq_true q235
             go_wp2_with (first | ((with_reducible refine gate_dst (N := 8) rfl ?_); refine box_event ?hg (N := 8) ?hd (cs := #[.int .i64 0, .int .i64 0]) (t := 57) ?hr ?_; (case hd => rfl); (case hg => rfl); (case hr => first | (go_simp; done) | (go_simp; rfl)); intro gb236 hg w29 hbox hb; replace HO_5 := Aside0.mk (Kd.S_below (by (with_reducible repeat (first | apply Kd.S_alloc | apply Kd.S_drewN | apply Kd.S_drew)); exact HO_5.out) hb); replace HO_29 := Aside0.mk (Kd.R_below (Kd.R_elderB (by (with_reducible repeat (first | apply Kd.R_alloc | apply Kd.R_drewN | apply Kd.R_drew)); exact HO_29.out) gb236 (Nat.le_of_eq hg.symm)) hb); have BK236 := Aside0.mk (hbox); have GW236 := Aside0.mk ((by rw [hg]; exact (below_size (by repeat (first | (with_reducible first | exact HB.out | apply below_alloc | apply pw_below_drewN | apply below_drew1) | exact HB.out))) : w.heap.size ≤ gb236)); have GE236 := Aside0.mk ((by rw [hg]; exact (below_size (by repeat (first | (with_reducible first | exact HB.out | apply below_alloc | apply pw_below_drewN | apply below_drew1) | exact HB.out))) : w.heap.size ≤ gb236)); replace HB := Aside0.mk (below_step (by repeat (first | (with_reducible first | exact HB.out | apply below_alloc | apply pw_below_drewN | apply below_drew1) | exact HB.out)) hb); clear hb hbox hg; have hcz30_0 : w29.cell? ⟨gb236, 0, none⟩ = some (.int .i64 0) := (blk_cell BK236.out 0).trans rfl; have hcz30_1 : w29.cell? ⟨gb236, 1, none⟩ = some (.int .i64 0) := (blk_cell BK236.out 1).trans rfl; have hfz30_0 := blk_frozen BK236.out 0; have hfz30_1 := blk_frozen BK236.out 1))
             go_loopg [9] k2 (fun kq v9 w' => ∃ (x5_3 : List (List Int)) (x9_3 : Int), v9 = .int .i64 x9_3 ∧ Aside0 (impl_withPips.l2 kq a1 x5_3 x9_3 t231 (t231.length : Int) x31_2 ((rd_T57 t231 x31_2).f0) ((rd_T57 t231 x31_2).f1) = some r) ∧ Aside0 (kq ≤ k2) ∧ Aside0 (Kd.S (Kd.slice 3 (Kd.int .i64)) 46 w' w.heap.size (fun _ => True) (.slice (some ad227) x5_2.length co8) x5_3) ∧ Aside0 (Kd.R k57 57 w' w.heap.size (fun k_ => k_ ≠ gb236) (.slice (some ad235) t231.length co25) t231) ∧ Aside0 (w'.heap[gb236]? = some (.cells #[.int .i64 ((rd_T57 t231 x31_2).f0), .int .i64 ((rd_T57 t231 x31_2).f1)] 57 (0, 0))) ∧ Aside0 (Below w.heap.size w w'))
             case atStart => exact ⟨(x5_2), (a1), (by first | rfl | (simp; done) | (simp [*]; done)), H', ⟨Nat.le_refl _⟩, ⟨by (try simp only [hl5_1]); (try simp only [hl5_2]); (with_reducible repeat (first | apply Kd.S_alloc | apply Kd.S_drewN | apply Kd.S_drew)); exact Kd.S_mono (Kd.S_far (p := ⟨gb236, 1, none⟩) (Kd.S_far (p := ⟨gb236, 0, none⟩) (Kd.S_types HO_5.out BK236.out (by decide)) (fun _ hk => hk.2) (.int .i64 ((rd_T57 t231 x31_2).f0))) (fun _ hk => hk.2) (.int .i64 ((rd_T57 t231 x31_2).f1))) (fun _ hk => trivial)⟩, ⟨by (try simp only [hl5_1]); (try simp only [hl5_2]); (with_reducible repeat (first | apply Kd.R_alloc | apply Kd.R_drewN | apply Kd.R_drew)); exact Kd.R_mono (Kd.R_far (p := ⟨gb236, 1, none⟩) (Kd.R_far (p := ⟨gb236, 0, none⟩) (Kd.R_mono HO_29.out (fun k_ hk => (⟨hk, hk.2⟩ : _ ∧ k_ ≠ gb236))) (fun _ hk => hk.2) (.int .i64 ((rd_T57 t231 x31_2).f0))) (fun _ hk => hk.2) (.int .i64 ((rd_T57 t231 x31_2).f1))) (fun _ hk => hk.1.2)⟩, ⟨by (try simp only [hl5_1]); (try simp only [hl5_2]); (with_reducible repeat (first | refine blk_drewN ?_ _ | refine blk_drew ?_ | refine blk_alloc ?_ _)); refine blk_put (cs := #[.int .i64 ((rd_T57 t231 x31_2).f0), .int .i64 0]) ?_ 1 _ rfl; (with_reducible repeat (first | refine blk_drewN ?_ _ | refine blk_drew ?_ | refine blk_alloc ?_ _)); refine blk_put (cs := #[.int .i64 0, .int .i64 0]) ?_ 0 _ rfl; (with_reducible repeat (first | refine blk_drewN ?_ _ | refine blk_drew ?_ | refine blk_alloc ?_ _)); exact BK236.out⟩, ⟨by repeat (first | (with_reducible first | exact HB.out | apply below_alloc | apply pw_below_drewN | apply below_drew1 | refine below_set ?_ GE236.out) | exact HB.out)⟩⟩
             case round =>
              clear H'
              try clear c1
              try clear p1
              try clear q1
              try clear hx1
              try clear c2
              try clear p2
              try clear q2
              try clear hx2
              try clear qi2
              try clear hf2
              try clear c3
              try clear c4
              try clear c4b0
              try clear c4b1
              try clear c5
              try clear c5b0
              try clear c5b1
              try clear p6
              try clear c9
              try clear c9b0
              try clear c10
              try clear c10b0
              try clear c10b1
              try clear c11
              try clear c11b0
              try clear c12
              try clear c12b0
              try clear c13
              try clear p13
              try clear q13
              try clear hx13
              try clear hf13
              try clear c16
              try clear hx16
              try clear hf16
              try clear c18
              try clear c18b0
              try clear c18b1
              try clear c19
              try clear c19b0
              try clear c19b1
              try clear p20
              try clear q20
              try clear hx20
              try clear qi20
              try clear hf20
              try clear c22
              try clear p22
              try clear q22
              try clear hx22
              try clear qi22
              try clear p23
              try clear q23
              try clear hx23
              try clear c26
              try clear c26b0
              try clear c27
              try clear c27b0
              try clear c28
              try clear c28b0
              try clear hcz30_0
              try clear hcz30_1
              try clear hfz30_0
              try clear hfz30_1
              try clear hx13_0
              try clear hx16_0
              try clear hx20_0
              try clear hx227_0
              try clear hx235_0
              try clear hx235_1
              try clear p1
              try clear p13
              try clear p2
              try clear p20
              try clear p22
              try clear p227
              try clear p235
              try clear p6
              try clear q1
              try clear q13
              try clear q2
              try clear q20
              try clear q22
              try clear q227
              try clear q235
              obtain ⟨x5_3, x9_3, rfl, HA, HK3, HO_5, HO_29, BK236, HB⟩ := hrel
              have hl5_3 := (Kd.S_reads' HO_5.out).1
              rw [hl5_3] at HO_5
              (try simp only [hl5_3])
              (try simp only [hl5_3] at BK236)
              (try simp only [hl5_3] at HO_29)
              cases gk with
              | zero => exact absurd HA.out (by simp [impl_withPips.l2])
              | succ k3 =>
               have H := HA.out
               clear HA
               simp only [impl_withPips.l2] at H
               by_cases c31 : x9_3 > 0
               ·rw [if_pos c31] at H
                have c31b0 : decide (0 < x9_3) = true := decide_eq_true c31
                clear c31
                have H' := Aside0.mk H
                clear H
                go_wp2
                go_loopg [10] k3 (fun kq v10 w' => ∃ (x5_4 : List (List Int)) (x10_4 : Int), v10 = .int .i64 x10_4 ∧ Aside0 (impl_withPips.l3 kq a1 x5_4 x9_3 x10_4 t231 (t231.length : Int) x31_2 ((rd_T57 t231 x31_2).f0) ((rd_T57 t231 x31_2).f1) = some r) ∧ Aside0 (kq ≤ k3) ∧ Aside0 (Kd.S (Kd.slice 3 (Kd.int .i64)) 46 w' w.heap.size (fun _ => True) (.slice (some ad227) x5_3.length co8) x5_4) ∧ Aside0 (Kd.R k57 57 w' w.heap.size (fun k_ => k_ ≠ gb236) (.slice (some ad235) t231.length co25) t231) ∧ Aside0 (w'.heap[gb236]? = some (.cells #[.int .i64 ((rd_T57 t231 x31_2).f0), .int .i64 ((rd_T57 t231 x31_2).f1)] 57 (0, 0))) ∧ Aside0 (Below w.heap.size w w'))
                case atStart => exact ⟨(x5_3), (1000), (by first | rfl | (simp; done) | (simp [*]; done)), H', ⟨Nat.le_refl _⟩, ⟨by (try simp only [hl5_1]); (try simp only [hl5_2]); (try simp only [hl5_3]); (with_reducible repeat (first | apply Kd.S_alloc | apply Kd.S_drewN | apply Kd.S_drew)); exact HO_5.out⟩, ⟨by (try simp only [hl5_1]); (try simp only [hl5_2]); (try simp only [hl5_3]); (with_reducible repeat (first | apply Kd.R_alloc | apply Kd.R_drewN | apply Kd.R_drew)); exact HO_29.out⟩, ⟨by (try simp only [hl5_1]); (try simp only [hl5_2]); (try simp only [hl5_3]); (with_reducible repeat (first | refine blk_drewN ?_ _ | refine blk_drew ?_ | refine blk_alloc ?_ _)); exact BK236.out⟩, ⟨by repeat (first | (with_reducible first | exact HB.out | apply below_alloc | apply pw_below_drewN | apply below_drew1 | refine below_set ?_ GE236.out) | exact HB.out)⟩⟩
                case round =>
                 clear H'
                 try clear c1
                 try clear p1
                 try clear q1
                 try clear hx1
                 try clear c2
                 try clear p2
                 try clear q2
                 try clear hx2
                 try clear qi2
                 try clear hf2
                 try clear c3
                 try clear c4
                 try clear c4b0
                 try clear c4b1
                 try clear c5
                 try clear c5b0
                 try clear c5b1
                 try clear p6
                 try clear c9
                 try clear c9b0
                 try clear c10
                 try clear c10b0
                 try clear c10b1
                 try clear c11
                 try clear c11b0
                 try clear c12
                 try clear c12b0
                 try clear c13
                 try clear p13
                 try clear q13
                 try clear hx13
                 try clear hf13
                 try clear c16
                 try clear hx16
                 try clear hf16
                 try clear c18
                 try clear c18b0
                 try clear c18b1
                 try clear c19
                 try clear c19b0
                 try clear c19b1
                 try clear p20
                 try clear q20
                 try clear hx20
                 try clear qi20
                 try clear hf20
                 try clear c22
                 try clear p22
                 try clear q22
                 try clear hx22
                 try clear qi22
                 try clear p23
                 try clear q23
                 try clear hx23
                 try clear c26
                 try clear c26b0
                 try clear c27
                 try clear c27b0
                 try clear c28
                 try clear c28b0
                 try clear c31
                 try clear c31b0
                 try clear hcz30_0
                 try clear hcz30_1
                 try clear hfz30_0
                 try clear hfz30_1
                 try clear hx13_0
                 try clear hx16_0
                 try clear hx20_0
                 try clear hx227_0
                 try clear hx235_0
                 try clear hx235_1
                 try clear p1
                 try clear p13
                 try clear p2
                 try clear p20
                 try clear p22
                 try clear p227
                 try clear p23
                 try clear p235
                 try clear p6
                 try clear q1
                 try clear q13
                 try clear q2
                 try clear q20
                 try clear q22
                 try clear q227
                 try clear q23
                 try clear q235
                 obtain ⟨x5_4, x10_4, rfl, HA, HK4, HO_5, HO_29, BK236, HB⟩ := hrel
                 have hl5_4 := (Kd.S_reads' HO_5.out).1
                 rw [hl5_4] at HO_5
                 (try simp only [hl5_4])
                 (try simp only [hl5_4] at BK236)
                 (try simp only [hl5_4] at HO_29)
                 cases gk with
                 | zero => exact absurd HA.out (by simp [impl_withPips.l3])
                 | succ k4 =>
                  have H := HA.out
                  clear HA
                  simp only [impl_withPips.l3] at H
                  by_cases c32 : x10_4 ≥ (wrap64 (((rd_T57 t231 x31_2).f0) + ((rd_T57 t231 x31_2).f1)))
                  ·rw [if_pos c32] at H
                   have c32b0 : decide ((wrap64 (((rd_T57 t231 x31_2).f0) + ((rd_T57 t231 x31_2).f1))) ≤ x10_4) = true := decide_eq_true c32
                   clear c32
                   by_cases c33 : 0 ≤ x9_3
                   ·rw [if_pos c33] at H
                    have c33b0 : decide (0 ≤ x9_3) = true := decide_eq_true c33
                    clear c33
                    by_cases c34 : x9_3 < (x5_4.length : Int)
                    ·rw [if_pos c34] at H
                     have c34b0 : decide (x9_3 < (x5_4.length : Int)) = true := decide_eq_true c34
                     clear c34
                     by_cases c35 : 0 ≤ x10_4
                     ·rw [if_pos c35] at H
                      have c35b0 : decide (0 ≤ x10_4) = true := decide_eq_true c35
                      clear c35
                      by_cases c36 : x10_4 < ((rd_L3 x5_4 x9_3).length : Int)
                      ·rw [if_pos c36] at H
                       have c36b0 : decide (x10_4 < ((rd_L3 x5_4 x9_3).length : Int)) = true := decide_eq_true c36
                       clear c36
                       obtain ⟨ji37, hji37⟩ : ∃ j_ : Int, (wrap64 (x9_3 - 1)) = j_ := ⟨_, rfl⟩
                       replace H : (if 0 ≤ (ji37) then (if (ji37) < (x5_4.length : Int) then (if 0 ≤ (wrap64 ((wrap64 (x10_4 - ((rd_T57 t231 x31_2).f0))) - ((rd_T57 t231 x31_2).f1))) then (if (wrap64 ((wrap64 (x10_4 - ((rd_T57 t231 x31_2).f0))) - ((rd_T57 t231 x31_2).f1))) < ((rd_L3 x5_4 (ji37)).length : Int) then (impl_withPips.l3 k4 a1 (x5_4.set (x9_3 : Int).toNat ((rd_L3 x5_4 x9_3).set (x10_4 : Int).toNat (wrap64 ((rd (rd_L3 x5_4 x9_3) x10_4) + (rd (rd_L3 x5_4 (ji37)) (wrap64 ((wrap64 (x10_4 - ((rd_T57 t231 x31_2).f0))) - ((rd_T57 t231 x31_2).f1)))))))) x9_3 (wrap64 (x10_4 - 1)) t231 (t231.length : Int) x31_2 ((rd_T57 t231 x31_2).f0) ((rd_T57 t231 x31_2).f1)) else (none)) else (none)) else (none)) else (none)) = some r := by first | (rw [hji37] at H; exact H) | (simp only [hji37] at H ⊢; exact H)
                       have hji37w : (IntKind.i64.wrap (x9_3 - 1)) = ji37 := (i64_w _).trans hji37
                       by_cases c38 : 0 ≤ (ji37)
                       ·rw [if_pos c38] at H
                        have c38b0 : decide (0 ≤ (ji37)) = true := decide_eq_true c38
                        clear c38
                        by_cases c39 : (ji37) < (x5_4.length : Int)
                        ·rw [if_pos c39] at H
                         have c39b0 : decide ((ji37) < (x5_4.length : Int)) = true := decide_eq_true c39
                         clear c39
                         obtain ⟨ji40, hji40⟩ : ∃ j_ : Int, (wrap64 ((wrap64 (x10_4 - ((rd_T57 t231 x31_2).f0))) - ((rd_T57 t231 x31_2).f1))) = j_ := ⟨_, rfl⟩
                         replace H : (if 0 ≤ (ji40) then (if (ji40) < ((rd_L3 x5_4 (ji37)).length : Int) then (impl_withPips.l3 k4 a1 (x5_4.set (x9_3 : Int).toNat ((rd_L3 x5_4 x9_3).set (x10_4 : Int).toNat (wrap64 ((rd (rd_L3 x5_4 x9_3) x10_4) + (rd (rd_L3 x5_4 (ji37)) (ji40)))))) x9_3 (wrap64 (x10_4 - 1)) t231 (t231.length : Int) x31_2 ((rd_T57 t231 x31_2).f0) ((rd_T57 t231 x31_2).f1)) else (none)) else (none)) = some r := by first | (rw [hji40] at H; exact H) | (simp only [hji40] at H ⊢; exact H)
                         have hji40w : (IntKind.i64.wrap ((wrap64 (x10_4 - ((rd_T57 t231 x31_2).f0))) - ((rd_T57 t231 x31_2).f1))) = ji40 := (i64_w _).trans hji40
                         by_cases c41 : 0 ≤ (ji40)
                         ·rw [if_pos c41] at H
                          have c41b0 : decide (0 ≤ (ji40)) = true := decide_eq_true c41
                          clear c41
                          by_cases c42 : (ji40) < ((rd_L3 x5_4 (ji37)).length : Int)
                          ·rw [if_pos c42] at H
                           have c42b0 : decide ((ji40) < ((rd_L3 x5_4 (ji37)).length : Int)) = true := decide_eq_true c42
                           clear c42
                           obtain ⟨y241, hy241⟩ : ∃ y_ : List Int, y_ = ((rd_L3 x5_4 x9_3).set (x10_4 : Int).toNat (wrap64 ((rd (rd_L3 x5_4 x9_3) x10_4) + (rd (rd_L3 x5_4 (ji37)) (ji40))))) := ⟨_, rfl⟩
                           replace H : (impl_withPips.l3 k4 a1 (x5_4.set (x9_3 : Int).toNat y241) x9_3 (wrap64 (x10_4 - 1)) t231 (t231.length : Int) x31_2 ((rd_T57 t231 x31_2).f0) ((rd_T57 t231 x31_2).f1)) = some r := by first | (rw [hy241]; with_reducible exact H) | (have H2_ := (Option.bind_some _ _).symm.trans H; rw [hy241]; with_reducible exact H2_) | (have H2_ := (Option.bind_some _ _).symm.trans H; with_reducible exact H2_) | with_reducible exact H | (rw [hy241]; exact H) | exact H
                           have Ny241 := Aside0.mk hy241
                           clear hy241
                           obtain ⟨y243, hy243⟩ : ∃ y_ : List (List Int), y_ = (x5_4.set (x9_3 : Int).toNat y241) := ⟨_, rfl⟩
                           replace H : (impl_withPips.l3 k4 a1 y243 x9_3 (wrap64 (x10_4 - 1)) t231 (t231.length : Int) x31_2 ((rd_T57 t231 x31_2).f0) ((rd_T57 t231 x31_2).f1)) = some r := by first | (rw [hy243]; with_reducible exact H) | (have H2_ := (Option.bind_some _ _).symm.trans H; rw [hy243]; with_reducible exact H2_) | (have H2_ := (Option.bind_some _ _).symm.trans H; with_reducible exact H2_) | with_reducible exact H | (rw [hy243]; exact H) | exact H
                           have Ny243 := Aside0.mk hy243
                           clear hy243
                           have H' := Aside0.mk H
                           clear H
                           have hcz44_0 : wr.cell? ⟨gb236, 0, none⟩ = some (.int .i64 ((rd_T57 t231 x31_2).f0)) := (blk_cell BK236.out 0).trans rfl
                           have hcz44_1 : wr.cell? ⟨gb236, 1, none⟩ = some (.int .i64 ((rd_T57 t231 x31_2).f1)) := (blk_cell BK236.out 1).trans rfl
                           have hfz44_0 := blk_frozen BK236.out 0
                           have hfz44_1 := blk_frozen BK236.out 1
                           try go_wp2
                           replace HO_5 := Aside0.mk (Kd.S_drew HO_5.out)
                           replace HO_29 := Aside0.mk (Kd.R_drew HO_29.out)
                           replace BK236 := Aside0.mk (blk_drew BK236.out)
                           replace HB := Aside0.mk (below_drew1 HB.out)
                           have p237 : 0 ≤ (x9_3 : Int) := of_decide_eq_true (by first | (with_reducible assumption) | assumption)
                           have q237 : x9_3 < (x5_4.length : Int) := of_decide_eq_true (by first | (with_reducible assumption) | assumption)
                           obtain ⟨ad237, A237_0, c237_0, e237, hx237_0, hl237_0, hi237_0⟩ := at_L3 (Kd.S_reads' HO_5.out).2.2 x9_3 p237 q237
                           obtain rfl : ad227 = ad237 := (by injection e237)
                           obtain ⟨ce237, hce237, hMe237, hcc237⟩ := Kd.S_get HO_5.out [] x9_3 p237 (by first | exact q237 | exact of_decide_eq_true (by first | (with_reducible assumption) | assumption) | (have e_ := (Kd.S_reads' HO_5.out).1; omega))
                           obtain ⟨ve237_0, rfl, ge237_0⟩ := hMe237
                           have hv237_0 := hcc237 0 _ rfl
                           rw [Nat.add_zero, show ((Kd.slice 3 (Kd.int .i64))).sz = 1 from rfl, Nat.mul_one] at hv237_0
                           replace hv237_0 := Option.some.inj (hv237_0.symm.trans hx237_0)
                           rw [hv237_0] at ge237_0
                           have HL237_0 := Aside0.mk (show Kd.R (Kd.int .i64) 3 _ _ _ _ (rd_L3 x5_4 x9_3) from ge237_0)
                           clear hv237_0 ge237_0
                           have HX237_0 := Aside0.mk hx237_0
                           clear hcc237 hce237
                           have HR237_0 := Aside0.mk hi237_0
                           have HC237_0 := Aside0.mk hl237_0
                           clear hi237_0 hl237_0
                           replace p237 := eq_true p237
                           replace q237 := eq_true q237
                           have p238 : 0 ≤ (x10_4 : Int) := of_decide_eq_true (by first | (with_reducible assumption) | assumption)
                           have q238 : x10_4 < ((rd_L3 x5_4 x9_3).length : Int) := of_decide_eq_true (by first | (with_reducible assumption) | assumption)
                           obtain ⟨ad238, e238, hx238_0⟩ := Kd.at_int (by repeat (first | (with_reducible exact HR237_0.out) | (with_reducible refine Kd.C_alloc ?_ _) | (with_reducible refine Kd.C_drewN ?_ _) | (with_reducible refine Kd.C_drew ?_) | exact HR237_0.out)) x10_4 p238 q238
                           cases e238
                           replace p238 := eq_true p238
                           replace q238 := eq_true q238
                           have p239 : 0 ≤ ((ji37) : Int) := of_decide_eq_true (by first | (with_reducible assumption) | assumption)
                           have q239 : (ji37) < (x5_4.length : Int) := of_decide_eq_true (by first | (with_reducible assumption) | assumption)
                           obtain ⟨ad239, A239_0, c239_0, e239, hx239_0, hl239_0, hi239_0⟩ := at_L3 (Kd.S_reads' HO_5.out).2.2 (ji37) p239 q239
                           obtain rfl : ad227 = ad239 := (by injection e239)
                           obtain ⟨ce239, hce239, hMe239, hcc239⟩ := Kd.S_get HO_5.out [] (ji37) p239 (by first | exact q239 | exact of_decide_eq_true (by first | (with_reducible assumption) | assumption) | (have e_ := (Kd.S_reads' HO_5.out).1; omega))
                           obtain ⟨ve239_0, rfl, ge239_0⟩ := hMe239
                           have hv239_0 := hcc239 0 _ rfl
                           rw [Nat.add_zero, show ((Kd.slice 3 (Kd.int .i64))).sz = 1 from rfl, Nat.mul_one] at hv239_0
                           replace hv239_0 := Option.some.inj (hv239_0.symm.trans hx239_0)
                           rw [hv239_0] at ge239_0
                           have HL239_0 := Aside0.mk (show Kd.R (Kd.int .i64) 3 _ _ _ _ (rd_L3 x5_4 (ji37)) from ge239_0)
                           clear hv239_0 ge239_0
                           have HX239_0 := Aside0.mk hx239_0
                           clear hcc239 hce239
                           have HR239_0 := Aside0.mk hi239_0
                           have HC239_0 := Aside0.mk hl239_0
                           clear hi239_0 hl239_0
                           replace p239 := eq_true p239
                           replace q239 := eq_true q239
                           have p240 : 0 ≤ ((ji40) : Int) := of_decide_eq_true (by first | (with_reducible assumption) | assumption)
                           have q240 : (ji40) < ((rd_L3 x5_4 (ji37)).length : Int) := of_decide_eq_true (by first | (with_reducible assumption) | assumption)
                           obtain ⟨ad240, e240, hx240_0⟩ := Kd.at_int (by repeat (first | (with_reducible exact HR239_0.out) | (with_reducible refine Kd.C_alloc ?_ _) | (with_reducible refine Kd.C_drewN ?_ _) | (with_reducible refine Kd.C_drew ?_) | exact HR239_0.out)) (ji40) p240 q240
                           cases e240
                           replace p240 := eq_true p240
                           replace q240 := eq_true q240
                           have p43 : 0 ≤ (x10_4 : Int) := of_decide_eq_true (by first | (with_reducible assumption) | assumption)
                           have q43 : (x10_4 : Int) < (((rd_L3 x5_4 x9_3).length : Int) : Int) := of_decide_eq_true (by first | (with_reducible assumption) | assumption)
                           obtain ⟨go43, co43, eo43, gb43, gl43, cl43, HG43⟩ := Kd.R_form HL237_0.out (by omega)
                           (first | cases eo43 | (injection eo43 with ea_ en_ ec_; (first | subst ea_ | (injection ea_ with ea_; subst ea_)); subst ec_; clear en_))
                           have GB43 := Aside0.mk gb43
                           have GG43 := Aside0.mk HG43
                           clear gb43 gl43 HG43
                           (first | simp only [add_plain] at hx238_0 | skip)
                           obtain ⟨hx43_0, hf43_0⟩ := Kd.R_celln 0 HL237_0.out (x10_4 : Int) p43 q43
                           replace p43 := eq_true p43
                           replace q43 := eq_true q43
                           have hq46 : (x9_3 : Int) < (x5_4.length : Int) := (by have h_ : (x9_3 : Int) < ((x5_4.length : Int) : Int) := of_decide_eq_true (by first | (with_reducible assumption) | assumption); first | exact h_ | (have e_ := (Kd.S_reads' HO_5.out).1; omega) | simpa only [List.length_set, List.length_set] using h_)
                           obtain ⟨oki46, ce46, hcl46, hM46, hcc46, hok46, hbk46⟩ := Kd.S_borrow HO_5.out [] (x9_3 : Int) (of_decide_eq_true (by first | (with_reducible assumption) | assumption)) hq46
                           obtain ⟨ve46_0, rfl, ge46_0⟩ := hM46
                           have hv46 := hcc46 0 _ rfl
                           rw [Nat.add_zero, show ((Kd.slice 3 (Kd.int .i64))).sz = 1 from rfl, Nat.mul_one] at hv46
                           replace hv46 := Option.some.inj (hv46.symm.trans HX237_0.out)
                           subst hv46
                           clear hcc46 hcl46
                           replace ge46_0 := (show Kd.R (Kd.int .i64) 3 _ _ _ _ (rd_L3 x5_4 x9_3) from ge46_0)
                           have HP46 := Kd.R_putg ge46_0 (x10_4 : Int) (wrap64 ((rd (rd_L3 x5_4 x9_3) x10_4) + (rd (rd_L3 x5_4 (ji37)) (ji40))))
                           rw [← Ny241.out] at HP46
                           have HS46 := hbk46 HP46.2 (fun k_ e_ => by injection e_ with e_; subst e_; exact ge46_0.1 _ rfl) (x' := y241) (Kd.M_row HP46.1)
                           rw [← Ny243.out] at HS46
                           have HQ46 := Aside0.mk HS46
                           clear HP46 HS46 hbk46 hok46
                           refine start_ (n := 24) (S := fun w' => w'.cell? ⟨gb236, 0, none⟩ = some (.int .i64 ((rd_T57 t231 x31_2).f0)) ∧ w'.cell? ⟨gb236, 1, none⟩ = some (.int .i64 ((rd_T57 t231 x31_2).f1)) ∧ w'.cell? (ad227.add (x9_3).toNat) = some (.slice (some ⟨go43, 0, none⟩) (rd_L3 x5_4 x9_3).length c237_0) ∧ w'.cell? ⟨go43, (x10_4).toNat, none⟩ = some (.int .i64 (rd (rd_L3 x5_4 x9_3) x10_4)) ∧ w'.cell? (ad227.add ((ji37)).toNat) = some (.slice (some ad240) (rd_L3 x5_4 (ji37)).length c239_0) ∧ w'.cell? (ad240.add ((ji40)).toNat) = some (.int .i64 (rd (rd_L3 x5_4 (ji37)) (ji40)))) (ds := [23]) #[false, false, false, false, false, false, false, false, false, false, false, false, false, false, false, false, false, false, false, false, false, false, false, false] (by kernel_rfl) rfl rfl ⟨(blk_cell BK236.out 0).trans rfl, (blk_cell BK236.out 1).trans rfl, hx237_0, hx238_0, hx239_0, hx240_0⟩ (fun hHeld => ?_); refine with_tabW impl_withPips.tab17 impl_withPips.bits17 (fun HT_ HW_ => ?_)
                           generalize wr.drew = w45 at HO_5 HO_29 BK236 HB GG43 HL237_0 HL239_0 HQ46 HR237_0 HR239_0 HX237_0 HX239_0 hf43_0 hx237_0 hx238_0 hx239_0 hx240_0 hx43_0 hHeld ⊢
                           refine pure_ (i := 0) (N := some 49) (v := ?_) (a' := ?_) #[true, false, false, false, false, false, false, false, false, false, false, false, false, false, false, false, false, false, false, false, false, false, false, false] rfl rfl (any_of HT_.out (by kernel_rfl)) (fun _ _ _ h => h) (Or.inl ⟨by rfl, ?_⟩) ?_ ?_
                           rotate_left
                           ·intro w'
                            go_simp
                            with_reducible rfl
                           rotate_left
                           ·simp only [Act.put, List.setIfInBounds_toArray, List.set_cons_zero, List.set_cons_succ, i64_w, i32_w]
                            rfl
                           refine pure_ (i := 1) (N := some 50) (v := ?_) (a' := ?_) #[true, true, false, false, false, false, false, false, false, false, false, false, false, false, false, false, false, false, false, false, false, false, false, false] rfl rfl (any_of HT_.out (by kernel_rfl)) (fun _ _ _ h => h) (Or.inl ⟨by rfl, ?_⟩) ?_ ?_
                           rotate_left
                           ·intro w'
                            go_simp
                            with_reducible rfl
                           rotate_left
                           ·simp only [Act.put, List.setIfInBounds_toArray, List.set_cons_zero, List.set_cons_succ, i64_w, i32_w]
                            rfl
                           refine pure_ (i := 2) (N := some 51) (v := ?_) (a' := ?_) #[true, true, true, false, false, false, false, false, false, false, false, false, false, false, false, false, false, false, false, false, false, false, false, false] rfl rfl (any_of HT_.out (by kernel_rfl)) (fun _ _ _ h => h) (Or.inl ⟨by rfl, ?_⟩) ?_ ?_
                           rotate_left
                           ·intro w'
                            go_simp
                            with_reducible rfl
                           rotate_left
                           ·simp only [Act.put, List.setIfInBounds_toArray, List.set_cons_zero, List.set_cons_succ, i64_w, i32_w]
                            rfl
                           refine pure_ (i := 4) (N := some 53) (v := ?_) (a' := ?_) #[true, true, true, false, true, false, false, false, false, false, false, false, false, false, false, false, false, false, false, false, false, false, false, false] rfl rfl (any_of HT_.out (by kernel_rfl)) (fun _ _ _ h => h) (Or.inl ⟨by rfl, ?_⟩) ?_ ?_
                           rotate_left
                           ·intro w'
                            go_simp
                            with_reducible rfl
                           rotate_left
                           ·simp only [Act.put, List.setIfInBounds_toArray, List.set_cons_zero, List.set_cons_succ, i64_w, i32_w]
                            rfl
                           refine pure_ (i := 7) (N := some 56) (v := ?_) (a' := ?_) #[true, true, true, false, true, false, false, true, false, false, false, false, false, false, false, false, false, false, false, false, false, false, false, false] rfl rfl (any_of HT_.out (by kernel_rfl)) (fun _ _ _ h => h) (Or.inl ⟨by rfl, ?_⟩) ?_ ?_
                           rotate_left
                           ·intro w'
                            go_simp
                            with_reducible rfl
                           rotate_left
                           ·simp only [Act.put, List.setIfInBounds_toArray, List.set_cons_zero, List.set_cons_succ, i64_w, i32_w]
                            rfl
                           refine pure_ (i := 8) (N := some 57) (v := ?_) (a' := ?_) #[true, true, true, false, true, false, false, true, true, false, false, false, false, false, false, false, false, false, false, false, false, false, false, false] rfl rfl (any_of HT_.out (by kernel_rfl)) (fun _ _ _ h => h) (Or.inl ⟨by rfl, ?_⟩) ?_ ?_
                           rotate_left
                           ·intro w'
                            go_simp
                            with_reducible rfl
                           rotate_left
                           ·simp only [Act.put, List.setIfInBounds_toArray, List.set_cons_zero, List.set_cons_succ, i64_w, i32_w]
                            rfl
                           refine pure_ (i := 9) (N := some 58) (v := ?_) (a' := ?_) #[true, true, true, false, true, false, false, true, true, true, false, false, false, false, false, false, false, false, false, false, false, false, false, false] rfl rfl (any_of HT_.out (by kernel_rfl)) (fun _ _ _ h => h) (Or.inl ⟨by rfl, ?_⟩) ?_ ?_
                           rotate_left
                           ·intro w'
                            go_simp
                            with_reducible rfl
                           rotate_left
                           ·simp only [Act.put, List.setIfInBounds_toArray, List.set_cons_zero, List.set_cons_succ, i64_w, i32_w]
                            rfl
                           refine pure_ (i := 10) (N := some 59) (v := ?_) (a' := ?_) #[true, true, true, false, true, false, false, true, true, true, true, false, false, false, false, false, false, false, false, false, false, false, false, false] rfl rfl (any_of HT_.out (by kernel_rfl)) (fun _ _ _ h => h) (Or.inl ⟨by rfl, ?_⟩) ?_ ?_
                           rotate_left
                           ·intro w'
                            go_simp
                            with_reducible rfl
                           rotate_left
                           ·simp only [Act.put, List.setIfInBounds_toArray, List.set_cons_zero, List.set_cons_succ, i64_w, i32_w]
                            rfl
                           refine pure_ (i := 12) (N := some 61) (v := ?_) (a' := ?_) #[true, true, true, false, true, false, false, true, true, true, true, false, true, false, false, false, false, false, false, false, false, false, false, false] rfl rfl (any_of HT_.out (by kernel_rfl)) (fun _ _ _ h => h) (Or.inl ⟨by rfl, ?_⟩) ?_ ?_
                           rotate_left
                           ·intro w'
                            go_simp
                            with_reducible rfl
                           rotate_left
                           ·simp only [Act.put, List.setIfInBounds_toArray, List.set_cons_zero, List.set_cons_succ, i64_w, i32_w]
                            rfl
                           refine pure_ (i := 13) (N := some 62) (v := ?_) (a' := ?_) #[true, true, true, false, true, false, false, true, true, true, true, false, true, true, false, false, false, false, false, false, false, false, false, false] rfl rfl (any_of HT_.out (by kernel_rfl)) (fun _ _ _ h => h) (Or.inl ⟨by rfl, ?_⟩) ?_ ?_
                           rotate_left
                           ·intro w'
                            go_simp
                            with_reducible rfl
                           rotate_left
                           ·simp only [Act.put, List.setIfInBounds_toArray, List.set_cons_zero, List.set_cons_succ, i64_w, i32_w]
                            rfl
                           refine pure_ (i := 16) (N := some 65) (v := ?_) (a' := ?_) #[true, true, true, false, true, false, false, true, true, true, true, false, true, true, false, false, true, false, false, false, false, false, false, false] rfl rfl (any_of HT_.out (by kernel_rfl)) (fun _ _ _ h => h) (Or.inl ⟨by rfl, ?_⟩) ?_ ?_
                           rotate_left
                           ·intro w'
                            go_simp
                            with_reducible rfl
                           rotate_left
                           ·simp only [Act.put, List.setIfInBounds_toArray, List.set_cons_zero, List.set_cons_succ, i64_w, i32_w]
                            rfl
                           refine take_ (i := 3) (N := some 52) (v := ?_) (a' := ?_) #[true, true, true, true, true, false, false, true, true, true, true, false, true, true, false, false, true, false, false, false, false, false, false, false] rfl rfl (take_ofW HT_.out HW_.out (by kernel_rfl)) (fun _ _ _ h => h) (Or.inl ⟨by rfl, ?_⟩) hHeld ?_ ?_
                           rotate_left
                           ·rintro w' ⟨s0, s1, s2, s3, s4, s5⟩
                            go_simp
                            with_reducible rfl
                           rotate_left
                           ·simp only [Act.put, List.setIfInBounds_toArray, List.set_cons_zero, List.set_cons_succ, i64_w, i32_w]
                            rfl
                           refine pure_ (i := 5) (N := some 54) (v := ?_) (a' := ?_) #[true, true, true, true, true, true, false, true, true, true, true, false, true, true, false, false, true, false, false, false, false, false, false, false] rfl rfl (any_of HT_.out (by kernel_rfl)) (fun _ _ _ h => h) (Or.inl ⟨by rfl, ?_⟩) ?_ ?_
                           rotate_left
                           ·intro w'
                            go_simp
                            with_reducible rfl
                           rotate_left
                           ·simp only [Act.put, List.setIfInBounds_toArray, List.set_cons_zero, List.set_cons_succ, i64_w, i32_w]
                            rfl
                           refine take_ (i := 6) (N := some 55) (v := ?_) (a' := ?_) #[true, true, true, true, true, true, true, true, true, true, true, false, true, true, false, false, true, false, false, false, false, false, false, false] rfl rfl (take_ofW HT_.out HW_.out (by kernel_rfl)) (fun _ _ _ h => h) (Or.inl ⟨by rfl, ?_⟩) hHeld ?_ ?_
                           rotate_left
                           ·rintro w' ⟨s0, s1, s2, s3, s4, s5⟩
                            go_simp
                            with_reducible rfl
                           rotate_left
                           ·simp only [Act.put, List.setIfInBounds_toArray, List.set_cons_zero, List.set_cons_succ, i64_w, i32_w]
                            rfl
                           refine take_ (i := 11) (N := some 60) (v := ?_) (a' := ?_) #[true, true, true, true, true, true, true, true, true, true, true, true, true, true, false, false, true, false, false, false, false, false, false, false] rfl rfl (take_ofW HT_.out HW_.out (by kernel_rfl)) (fun _ _ _ h => h) (Or.inl ⟨by rfl, ?_⟩) hHeld ?_ ?_
                           rotate_left
                           ·rintro w' ⟨s0, s1, s2, s3, s4, s5⟩
                            go_simp
                            with_reducible rfl
                           rotate_left
                           ·simp only [Act.put, List.setIfInBounds_toArray, List.set_cons_zero, List.set_cons_succ, i64_w, i32_w]
                            rfl
                           refine take_ (i := 14) (N := some 63) (v := ?_) (a' := ?_) #[true, true, true, true, true, true, true, true, true, true, true, true, true, true, true, false, true, false, false, false, false, false, false, false] rfl rfl (take_ofW HT_.out HW_.out (by kernel_rfl)) (fun _ _ _ h => h) (Or.inl ⟨by rfl, ?_⟩) hHeld ?_ ?_
                           rotate_left
                           ·rintro w' ⟨s0, s1, s2, s3, s4, s5⟩
                            go_simp
                            with_reducible rfl
                           rotate_left
                           ·simp only [Act.put, List.setIfInBounds_toArray, List.set_cons_zero, List.set_cons_succ, i64_w, i32_w]
                            rfl
                           refine pure_ (i := 15) (N := some 64) (v := ?_) (a' := ?_) #[true, true, true, true, true, true, true, true, true, true, true, true, true, true, true, true, true, false, false, false, false, false, false, false] rfl rfl (any_of HT_.out (by kernel_rfl)) (fun _ _ _ h => h) (Or.inl ⟨by rfl, ?_⟩) ?_ ?_
                           rotate_left
                           ·intro w'
                            go_simp
                            with_reducible rfl
                           rotate_left
                           ·simp only [Act.put, List.setIfInBounds_toArray, List.set_cons_zero, List.set_cons_succ, i64_w, i32_w]
                            rfl
                           refine take_ (i := 17) (N := some 66) (v := ?_) (a' := ?_) #[true, true, true, true, true, true, true, true, true, true, true, true, true, true, true, true, true, true, false, false, false, false, false, false] rfl rfl (take_ofW HT_.out HW_.out (by kernel_rfl)) (fun _ _ _ h => h) (Or.inl ⟨by rfl, ?_⟩) hHeld ?_ ?_
                           rotate_left
                           ·rintro w' ⟨s0, s1, s2, s3, s4, s5⟩
                            go_simp
                            with_reducible rfl
                           rotate_left
                           ·simp only [Act.put, List.setIfInBounds_toArray, List.set_cons_zero, List.set_cons_succ, i64_w, i32_w]
                            rfl
                           refine pure_ (i := 18) (N := some 67) (v := ?_) (a' := ?_) #[true, true, true, true, true, true, true, true, true, true, true, true, true, true, true, true, true, true, true, false, false, false, false, false] rfl rfl (any_of HT_.out (by kernel_rfl)) (fun _ _ _ h => h) (Or.inl ⟨by rfl, ?_⟩) ?_ ?_
                           rotate_left
                           ·intro w'
                            go_simp
                            with_reducible rfl
                           rotate_left
                           ·simp only [Act.put, List.setIfInBounds_toArray, List.set_cons_zero, List.set_cons_succ, i64_w, i32_w]
                            rfl
                           refine pure_ (i := 19) (N := some 68) (v := ?_) (a' := ?_) #[true, true, true, true, true, true, true, true, true, true, true, true, true, true, true, true, true, true, true, true, false, false, false, false] rfl rfl (any_of HT_.out (by kernel_rfl)) (fun _ _ _ h => h) (Or.inl ⟨by rfl, ?_⟩) ?_ ?_
                           rotate_left
                           ·intro w'
                            go_simp
                            with_reducible rfl
                           rotate_left
                           ·simp only [Act.put, List.setIfInBounds_toArray, List.set_cons_zero, List.set_cons_succ, i64_w, i32_w]
                            rfl
                           refine take_ (i := 20) (N := some 69) (v := ?_) (a' := ?_) #[true, true, true, true, true, true, true, true, true, true, true, true, true, true, true, true, true, true, true, true, true, false, false, false] rfl rfl (take_ofW HT_.out HW_.out (by kernel_rfl)) (fun _ _ _ h => h) (Or.inl ⟨by rfl, ?_⟩) hHeld ?_ ?_
                           rotate_left
                           ·rintro w' ⟨s0, s1, s2, s3, s4, s5⟩
                            go_simp
                            with_reducible rfl
                           rotate_left
                           ·simp only [Act.put, List.setIfInBounds_toArray, List.set_cons_zero, List.set_cons_succ, i64_w, i32_w]
                            rfl
                           refine pure_ (i := 21) (N := some 70) (v := ?_) (a' := ?_) #[true, true, true, true, true, true, true, true, true, true, true, true, true, true, true, true, true, true, true, true, true, true, false, false] rfl rfl (any_of HT_.out (by kernel_rfl)) (fun _ _ _ h => h) (Or.inl ⟨by rfl, ?_⟩) ?_ ?_
                           rotate_left
                           ·intro w'
                            go_simp
                            with_reducible rfl
                           rotate_left
                           ·simp only [Act.put, List.setIfInBounds_toArray, List.set_cons_zero, List.set_cons_succ, i64_w, i32_w]
                            rfl
                           refine pure_ (i := 22) (N := some 71) (v := ?_) (a' := ?_) #[true, true, true, true, true, true, true, true, true, true, true, true, true, true, true, true, true, true, true, true, true, true, true, false] rfl rfl (any_of HT_.out (by kernel_rfl)) (fun _ _ _ h => h) (Or.inl ⟨by rfl, ?_⟩) ?_ ?_
                           rotate_left
                           ·intro w'
                            go_simp
                            with_reducible rfl
                           rotate_left
                           ·simp only [Act.put, List.setIfInBounds_toArray, List.set_cons_zero, List.set_cons_succ, i64_w, i32_w]
                            rfl
                           refine last_ (i := 23) (N := none) #[true, true, true, true, true, true, true, true, true, true, true, true, true, true, true, true, true, true, true, true, true, true, true, true] rfl rfl (one_of HT_.out (by kernel_rfl)) (by decide) (fun K hK => ?_)
                           refine skip_ (w1 := ?_) (by rfl) rfl ?_ ?_
                           rotate_left
                           ·go_simp
                            rfl
                           refine hK.out _ _ ?_
                           clear hK K
                           refine done_ (done_of HT_.out (by kernel_rfl)) ?_
                           try go_wp2
                           (try simp only [← hl5_4])
                           go_roundg k4
                           case measure => have := HK1.out; have := HK2.out; have := HK3.out; have := HK4.out; omega
                           case rel => exact ⟨(y243), (wrap64 (x10_4 - 1)), (by first | rfl | (simp; done) | (simp [*]; done)), H', ⟨by have := HK1.out; have := HK2.out; have := HK3.out; have := HK4.out; omega⟩, ⟨by (try simp only [hl5_1]); (try simp only [hl5_2]); (try simp only [hl5_3]); (try simp only [hl5_4]); (with_reducible repeat (first | apply Kd.S_alloc | apply Kd.S_drewN | apply Kd.S_drew)); exact HQ46.out⟩, ⟨by (try simp only [hl5_1]); (try simp only [hl5_2]); (try simp only [hl5_3]); (try simp only [hl5_4]); (with_reducible repeat (first | apply Kd.R_alloc | apply Kd.R_drewN | apply Kd.R_drew)); exact Kd.R_mono (Kd.R_far (p := ⟨go43, (x10_4 : Int).toNat, none⟩) (Kd.R_types HO_29.out GG43.out (by decide)) (fun _ hk => hk.2) (.int .i64 (wrap64 ((rd (rd_L3 x5_4 x9_3) x10_4) + (rd (rd_L3 x5_4 (ji37)) (ji40)))))) (fun _ hk => hk.1)⟩, ⟨by (try simp only [hl5_1]); (try simp only [hl5_2]); (try simp only [hl5_3]); (try simp only [hl5_4]); (with_reducible repeat (first | refine blk_drewN ?_ _ | refine blk_drew ?_ | refine blk_alloc ?_ _)); refine blk_far ?_ (by have h_ := Kd.R_ne HL237_0.out BK236.out (by decide); intro e_; exact h_ (by rw [e_]; rfl)) _; (with_reducible repeat (first | refine blk_drewN ?_ _ | refine blk_drew ?_ | refine blk_alloc ?_ _)); exact BK236.out⟩, ⟨by repeat (first | (with_reducible first | exact HB.out | apply below_alloc | apply pw_below_drewN | apply below_drew1 | refine below_set ?_ GB43.out | refine below_set ?_ GE236.out) | exact HB.out)⟩⟩
                          ·rw [if_neg c42] at H
                           exact absurd H (by simp)
                         ·rw [if_neg c41] at H
                          exact absurd H (by simp)
                        ·rw [if_neg c39] at H
                         exact absurd H (by simp)
                       ·rw [if_neg c38] at H
                        exact absurd H (by simp)
                      ·rw [if_neg c36] at H
                       exact absurd H (by simp)
                     ·rw [if_neg c35] at H
                      exact absurd H (by simp)
                    ·rw [if_neg c34] at H
                     exact absurd H (by simp)
                   ·rw [if_neg c33] at H
                    exact absurd H (by simp)
                  ·rw [if_neg c32] at H
                   have c32b0 : decide ((wrap64 (((rd_T57 t231 x31_2).f0) + ((rd_T57 t231 x31_2).f1))) ≤ x10_4) = false := decide_eq_false c32
                   clear c32
                   have H' := Aside0.mk H
                   clear H
                   have hcz48_0 : wr.cell? ⟨gb236, 0, none⟩ = some (.int .i64 ((rd_T57 t231 x31_2).f0)) := (blk_cell BK236.out 0).trans rfl
                   have hcz48_1 : wr.cell? ⟨gb236, 1, none⟩ = some (.int .i64 ((rd_T57 t231 x31_2).f1)) := (blk_cell BK236.out 1).trans rfl
                   have hfz48_0 := blk_frozen BK236.out 0
                   have hfz48_1 := blk_frozen BK236.out 1
                   go_wp2
                   (try simp only [← hl5_3, ← hl5_4])
                   go_roundg k4
                   case measure => have := HK1.out; have := HK2.out; have := HK3.out; have := HK4.out; omega
                   case rel => exact ⟨(x5_4), (wrap64 (x9_3 - 1)), (by first | rfl | (simp; done) | (simp [*]; done)), H', ⟨by have := HK1.out; have := HK2.out; have := HK3.out; have := HK4.out; omega⟩, ⟨by (try simp only [hl5_1]); (try simp only [hl5_2]); (try simp only [hl5_3]); (try simp only [hl5_4]); (with_reducible repeat (first | apply Kd.S_alloc | apply Kd.S_drewN | apply Kd.S_drew)); exact HO_5.out⟩, ⟨by (try simp only [hl5_1]); (try simp only [hl5_2]); (try simp only [hl5_3]); (try simp only [hl5_4]); (with_reducible repeat (first | apply Kd.R_alloc | apply Kd.R_drewN | apply Kd.R_drew)); exact HO_29.out⟩, ⟨by (try simp only [hl5_1]); (try simp only [hl5_2]); (try simp only [hl5_3]); (try simp only [hl5_4]); (with_reducible repeat (first | refine blk_drewN ?_ _ | refine blk_drew ?_ | refine blk_alloc ?_ _)); exact BK236.out⟩, ⟨by repeat (first | (with_reducible first | exact HB.out | apply below_alloc | apply pw_below_drewN | apply below_drew1 | refine below_set ?_ GE236.out) | exact HB.out)⟩⟩
               ·rw [if_neg c31] at H
                have c31b0 : decide (0 < x9_3) = false := decide_eq_false c31
                clear c31
                have H' := Aside0.mk H
                clear H
                go_wp2
                (try simp only [← hl5_2, ← hl5_3])
                go_roundg k3
                case measure => have := HK1.out; have := HK2.out; have := HK3.out; omega
                case rel => exact ⟨(x5_3), (wrap64 (x31_2 + 1)), (by first | rfl | (simp; done) | (simp [*]; done)), H', ⟨by have := HK1.out; have := HK2.out; have := HK3.out; omega⟩, ⟨by (try simp only [hl5_1]); (try simp only [hl5_2]); (try simp only [hl5_3]); (with_reducible repeat (first | apply Kd.S_alloc | apply Kd.S_drewN | apply Kd.S_drew)); exact HO_5.out⟩, ⟨by (try simp only [hl5_1]); (try simp only [hl5_2]); (try simp only [hl5_3]); (with_reducible repeat (first | apply Kd.R_alloc | apply Kd.R_drewN | apply Kd.R_drew)); exact Kd.R_mono HO_29.out (fun _ hk => trivial)⟩, ⟨by repeat (first | (with_reducible first | exact HB.out | apply below_alloc | apply pw_below_drewN | apply below_drew1 | refine below_set ?_ GE236.out) | exact HB.out)⟩⟩
            ·rw [if_neg c28] at H
             exact absurd H (by simp)
           ·rw [if_neg c27] at H
            exact absurd H (by simp)
          ·rw [if_neg c26] at H
           have c26b0 : decide (x31_2 < (t231.length : Int)) = false := decide_eq_false c26
           (try (have c26b8 := c26b0; rw [hl5_2] at c26b8))
           clear c26
           by_cases c49 : 0 ≤ a1
           ·rw [if_pos c49] at H
            have c49b0 : decide (0 ≤ a1) = true := decide_eq_true c49
            clear c49
            by_cases c50 : a1 < (x5_2.length : Int)
            ·rw [if_pos c50] at H
             have c50b0 : decide (a1 < (x5_2.length : Int)) = true := decide_eq_true c50
             clear c50
             obtain rfl := Option.some.inj H
             have p234 : 0 ≤ (a1 : Int) := of_decide_eq_true (by first | (with_reducible assumption) | assumption)
             have q234 : a1 < (x5_2.length : Int) := of_decide_eq_true (by first | (with_reducible assumption) | assumption)
             obtain ⟨ad234, A234_0, c234_0, e234, hx234_0, hl234_0, hi234_0⟩ := at_L3 (Kd.S_reads' HO_5.out).2.2 a1 p234 q234
             obtain rfl : ad227 = ad234 := (by injection e234)
             obtain ⟨ce234, hce234, hMe234, hcc234⟩ := Kd.S_get HO_5.out [] a1 p234 (by first | exact q234 | exact of_decide_eq_true (by first | (with_reducible assumption) | assumption) | (have e_ := (Kd.S_reads' HO_5.out).1; omega))
             obtain ⟨ve234_0, rfl, ge234_0⟩ := hMe234
             have hv234_0 := hcc234 0 _ rfl
             rw [Nat.add_zero, show ((Kd.slice 3 (Kd.int .i64))).sz = 1 from rfl, Nat.mul_one] at hv234_0
             replace hv234_0 := Option.some.inj (hv234_0.symm.trans hx234_0)
             rw [hv234_0] at ge234_0
             have HL234_0 := Aside0.mk (show Kd.R (Kd.int .i64) 3 _ _ _ _ (rd_L3 x5_2 a1) from ge234_0)
             clear hv234_0 ge234_0
             have HX234_0 := Aside0.mk hx234_0
             clear hcc234 hce234
             have HR234_0 := Aside0.mk hi234_0
             have HC234_0 := Aside0.mk hl234_0
             clear hi234_0 hl234_0
             replace p234 := eq_true p234
             replace q234 := eq_true q234
             go_wp2
             go_ret
             exact ⟨_, by first | rfl | (simp [errW_none, errW_some] <;> rfl) | (simp only [← hji3]; first | rfl | (simp [errW_none, errW_some] <;> rfl)) | (simp [*, errW_none, errW_some] <;> rfl), by (with_reducible repeat (first | apply Kd.R_alloc | apply Kd.R_drewN | apply Kd.R_drew)); exact Kd.R_mono HL234_0.out (fun _ hk => trivial), by repeat (first | (with_reducible first | exact HB.out | apply below_alloc | apply pw_below_drewN | apply below_drew1) | exact HB.out)⟩
            ·rw [if_neg c50] at H
             exact absurd H (by simp)
           ·rw [if_neg c49] at H
            exact absurd H (by simp)
       ·rw [if_neg c19] at H
        exact absurd H (by simp)
      ·rw [if_neg c18] at H
       exact absurd H (by simp)
  ·rw [if_neg c5] at H
   exact absurd H (by simp)
 ·rw [if_neg c4] at H
  exact absurd H (by simp)

end Go.Proofs.Ytfaobohggphaaaa.QFnChancesOfHands
