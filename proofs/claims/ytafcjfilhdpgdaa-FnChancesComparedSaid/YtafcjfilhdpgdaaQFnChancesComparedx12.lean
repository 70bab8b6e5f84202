-- WRITTEN BY A PROGRAM OF THIS CLAIM'S AUTHOR (wprint.py)
import Derived.Test.YtafcjfilhdpgdaaQFnChancesComparedx0
import Derived.Test.YtafcjfilhdpgdaaQFnChancesComparedx3
namespace Go.Proofs.Ytafcjfilhdpgdaa.QFnChancesCompared
open Go.RowKit Go.Proofs.YtafcjfilhdpgdaaW.PrintWords Go.Proofs.YtafcjfilhdpgdaaW.PrintLast Go.Proofs.YtafcjfilhdpgdaaW.PrintMore
attribute [local go_sem] max2_int min2_int max_two min_two max_three min_three max_four min_four   -- for this text's walks alone
set_option linter.unusedVariables false
set_option linter.unusedSimpArgs false

/-! ### impl_withPips: function 53 -/
mutual
def impl_withPips.l0 : Nat → Int → Int → List (List Int) → Int → Int → Option (List Int)
 | 0, _, _, _, _, _ => none
 | k + 1, x0, x1, x5, x15, x16 => if x16 < x15 then (if 1001 ≤ 35184372088832 then (if 0 ≤ x16 then (if x16 < (x5.length : Int) then (impl_withPips.l0 k x0 x1 (x5.set (x16 : Int).toNat (List.replicate 1001 0)) x15 (wrap64 (x16 + 1))) else (none)) else (none)) else (none)) else (if 0 < (x5.length : Int) then (if 0 < ((rd_L3 x5 0).length : Int) then ((impl_setOf.f k x0).bind fun t319 => (impl_withPips.l1 k x1 (x5.set (0 : Int).toNat ((rd_L3 x5 0).set (0 : Int).toNat 1)) t319 (t319.length : Int) 0)) else (none)) else (none))
def impl_withPips.l1 : Nat → Int → List (List Int) → List (S53) → Int → Int → Option (List Int)
 | 0, _, _, _, _, _ => none
 | k + 1, x1, x5, x29, x30, x31 => if x31 < x30 then (if 0 ≤ x31 then (if x31 < (x29.length : Int) then (impl_withPips.l2 k x1 x5 x1 x29 x30 x31 ((rd_T53 x29 x31).f0) ((rd_T53 x29 x31).f1)) else (none)) else (none)) else (if 0 ≤ x1 then (if x1 < (x5.length : Int) then (some (rd_L3 x5 x1)) else (none)) else (none))
def impl_withPips.l2 : Nat → Int → List (List Int) → Int → List (S53) → Int → Int → Int → Int → Option (List Int)
 | 0, _, _, _, _, _, _, _, _ => none
 | k + 1, x1, x5, x9, x29, x30, x31, x325000, x325001 => if x9 > 0 then (impl_withPips.l3 k x1 x5 x9 1000 x29 x30 x31 x325000 x325001) else (impl_withPips.l1 k x1 x5 x29 x30 (wrap64 (x31 + 1)))
def impl_withPips.l3 : Nat → Int → List (List Int) → Int → Int → List (S53) → Int → Int → Int → Int → Option (List Int)
 | 0, _, _, _, _, _, _, _, _, _ => none
 | k + 1, x1, x5, x9, x10, x29, x30, x31, x325000, x325001 => if x10 ≥ (wrap64 (x325000 + x325001)) then (if 0 ≤ x9 then (if x9 < (x5.length : Int) then (if 0 ≤ x10 then (if x10 < ((rd_L3 x5 x9).length : Int) then (if 0 ≤ (wrap64 (x9 - 1)) then (if (wrap64 (x9 - 1)) < (x5.length : Int) then (if 0 ≤ (wrap64 ((wrap64 (x10 - x325000)) - x325001)) then (if (wrap64 ((wrap64 (x10 - x325000)) - x325001)) < ((rd_L3 x5 (wrap64 (x9 - 1))).length : Int) then (impl_withPips.l3 k x1 (x5.set (x9 : Int).toNat ((rd_L3 x5 x9).set (x10 : Int).toNat (wrap64 ((rd (rd_L3 x5 x9) x10) + (rd (rd_L3 x5 (wrap64 (x9 - 1))) (wrap64 ((wrap64 (x10 - x325000)) - x325001))))))) x9 (wrap64 (x10 - 1)) x29 x30 x31 x325000 x325001) else (none)) else (none)) else (none)) else (none)) else (none)) else (none)) else (none)) else (none)) else (impl_withPips.l2 k x1 x5 (wrap64 (x9 - 1)) x29 x30 x31 x325000 x325001)
end
def impl_withPips.f (k : Nat) (a0 : Int) (a1 : Int) : Option (List Int) := if 0 ≤ (wrap64 (a1 + 1)) then (if (wrap64 (a1 + 1) : Int).toNat ≤ 11728124029610 then ((some (List.replicate (wrap64 (a1 + 1) : Int).toNat [] : List (List Int))).bind fun y308 => (impl_withPips.l0 k a0 a1 y308 (y308.length : Int) 0)) else (none)) else (none)
theorem impl_withPips.mono_l : ∀ k, (∀ y0 y1 y2 y3 y4, LeO (impl_withPips.l0 k y0 y1 y2 y3 y4) (impl_withPips.l0 (k + 1) y0 y1 y2 y3 y4)) ∧ (∀ y0 y1 y2 y3 y4, LeO (impl_withPips.l1 k y0 y1 y2 y3 y4) (impl_withPips.l1 (k + 1) y0 y1 y2 y3 y4)) ∧ (∀ y0 y1 y2 y3 y4 y5 y6 y7, LeO (impl_withPips.l2 k y0 y1 y2 y3 y4 y5 y6 y7) (impl_withPips.l2 (k + 1) y0 y1 y2 y3 y4 y5 y6 y7)) ∧ (∀ y0 y1 y2 y3 y4 y5 y6 y7 y8, LeO (impl_withPips.l3 k y0 y1 y2 y3 y4 y5 y6 y7 y8) (impl_withPips.l3 (k + 1) y0 y1 y2 y3 y4 y5 y6 y7 y8))
 | 0 => ⟨fun _ _ _ _ _ r h => by simp [impl_withPips.l0] at h, fun _ _ _ _ _ r h => by simp [impl_withPips.l1] at h, fun _ _ _ _ _ _ _ _ r h => by simp [impl_withPips.l2] at h, fun _ _ _ _ _ _ _ _ _ r h => by simp [impl_withPips.l3] at h⟩
 | k + 1 => by
  obtain ⟨ih0, ih1, ih2, ih3⟩ := impl_withPips.mono_l k
  refine ⟨?_, ?_, ?_, ?_⟩
  ·intro y0 y1 y2 y3 y4
   unfold impl_withPips.l0
   repeat' first
   | (with_reducible exact ih0 _ _ _ _ _)
   | (with_reducible exact ih1 _ _ _ _ _)
   | (with_reducible exact ih2 _ _ _ _ _ _ _ _)
   | (with_reducible exact ih3 _ _ _ _ _ _ _ _ _)
   | (with_reducible exact impl_setOf.mono _ _)
   | (with_reducible exact LeO.refl _)
   | (with_reducible exact LeO.none _)
   | (with_reducible refine LeO.ite ?_ ?_)
   | (with_reducible refine LeO.bind ?_ (fun _ => ?_))
   | exact ih0 _ _ _ _ _
   | exact ih1 _ _ _ _ _
   | exact ih2 _ _ _ _ _ _ _ _
   | exact ih3 _ _ _ _ _ _ _ _ _
   | exact impl_setOf.mono _ _
   | exact LeO.none _
   | refine LeO.ite ?_ ?_
   | refine LeO.bind ?_ (fun _ => ?_)
  ·intro y0 y1 y2 y3 y4
   unfold impl_withPips.l1
   repeat' first
   | (with_reducible exact ih0 _ _ _ _ _)
   | (with_reducible exact ih1 _ _ _ _ _)
   | (with_reducible exact ih2 _ _ _ _ _ _ _ _)
   | (with_reducible exact ih3 _ _ _ _ _ _ _ _ _)
   | (with_reducible exact impl_setOf.mono _ _)
   | (with_reducible exact LeO.refl _)
   | (with_reducible exact LeO.none _)
   | (with_reducible refine LeO.ite ?_ ?_)
   | (with_reducible refine LeO.bind ?_ (fun _ => ?_))
   | exact ih0 _ _ _ _ _
   | exact ih1 _ _ _ _ _
   | exact ih2 _ _ _ _ _ _ _ _
   | exact ih3 _ _ _ _ _ _ _ _ _
   | exact impl_setOf.mono _ _
   | exact LeO.none _
   | refine LeO.ite ?_ ?_
   | refine LeO.bind ?_ (fun _ => ?_)
  ·intro y0 y1 y2 y3 y4 y5 y6 y7
   unfold impl_withPips.l2
   repeat' first
   | (with_reducible exact ih0 _ _ _ _ _)
   | (with_reducible exact ih1 _ _ _ _ _)
   | (with_reducible exact ih2 _ _ _ _ _ _ _ _)
   | (with_reducible exact ih3 _ _ _ _ _ _ _ _ _)
   | (with_reducible exact impl_setOf.mono _ _)
   | (with_reducible exact LeO.refl _)
   | (with_reducible exact LeO.none _)
   | (with_reducible refine LeO.ite ?_ ?_)
   | (with_reducible refine LeO.bind ?_ (fun _ => ?_))
   | exact ih0 _ _ _ _ _
   | exact ih1 _ _ _ _ _
   | exact ih2 _ _ _ _ _ _ _ _
   | exact ih3 _ _ _ _ _ _ _ _ _
   | exact impl_setOf.mono _ _
   | exact LeO.none _
   | refine LeO.ite ?_ ?_
   | refine LeO.bind ?_ (fun _ => ?_)
  ·intro y0 y1 y2 y3 y4 y5 y6 y7 y8
   unfold impl_withPips.l3
   repeat' first
   | (with_reducible exact ih0 _ _ _ _ _)
   | (with_reducible exact ih1 _ _ _ _ _)
   | (with_reducible exact ih2 _ _ _ _ _ _ _ _)
   | (with_reducible exact ih3 _ _ _ _ _ _ _ _ _)
   | (with_reducible exact impl_setOf.mono _ _)
   | (with_reducible exact LeO.refl _)
   | (with_reducible exact LeO.none _)
   | (with_reducible refine LeO.ite ?_ ?_)
   | (with_reducible refine LeO.bind ?_ (fun _ => ?_))
   | exact ih0 _ _ _ _ _
   | exact ih1 _ _ _ _ _
   | exact ih2 _ _ _ _ _ _ _ _
   | exact ih3 _ _ _ _ _ _ _ _ _
   | exact impl_setOf.mono _ _
   | exact LeO.none _
   | refine LeO.ite ?_ ?_
   | refine LeO.bind ?_ (fun _ => ?_)
theorem impl_withPips.mono : ∀ a0 a1 k, LeO (impl_withPips.f k a0 a1) (impl_withPips.f (k + 1) a0 a1) := by
 intro a0 a1 k
 obtain ⟨ih0, ih1, ih2, ih3⟩ := impl_withPips.mono_l k
 unfold impl_withPips.f
 repeat' first
   | (with_reducible exact ih0 _ _ _ _ _)
   | (with_reducible exact ih1 _ _ _ _ _)
   | (with_reducible exact ih2 _ _ _ _ _ _ _ _)
   | (with_reducible exact ih3 _ _ _ _ _ _ _ _ _)
   | (with_reducible exact impl_setOf.mono _ _)
   | (with_reducible exact LeO.refl _)
   | (with_reducible exact LeO.none _)
   | (with_reducible refine LeO.ite ?_ ?_)
   | (with_reducible refine LeO.bind ?_ (fun _ => ?_))
   | exact ih0 _ _ _ _ _
   | exact ih1 _ _ _ _ _
   | exact ih2 _ _ _ _ _ _ _ _
   | exact ih3 _ _ _ _ _ _ _ _ _
   | exact impl_setOf.mono _ _
   | exact LeO.none _
   | refine LeO.ite ?_ ?_
   | refine LeO.bind ?_ (fun _ => ?_)
def impl_withPips.T17 : Bool × List (List Nat × List Nat) := (true, [([], []), ([], []), ([0, 1], [0, 1]), ([2], [2]), ([], []), ([3, 4], [3, 4]), ([5], [5]), ([], []), ([], []), ([8], [8]), ([7, 9], [7, 9]), ([10], [10]), ([], []), ([], []), ([13], [13]), ([12, 14], [12, 14]), ([], []), ([16], [16]), ([15, 17], [15, 17]), ([11, 18], [11, 18]), ([19], [19]), ([6, 20], [6, 20]), ([3, 4, 0, 1, 2, 3, 4, 5, 6, 7, 8, 9, 10, 11, 12, 13, 14, 15, 16, 17, 18, 19, 20, 21], [3, 4]), ([22, 21, 0, 1, 2, 3, 4, 5, 6, 7, 8, 9, 10, 11, 12, 13, 14, 15, 16, 17, 18, 19, 20, 21], [21, 22])])
def impl_withPips.B17 : List Nat := [0, 0, 3, 7, 0, 31, 63, 0, 0, 256, 896, 1920, 0, 0, 8192, 28672, 0, 65536, 258048, 524160, 1048448, 2097151, 4194303, 8388607]
theorem impl_withPips.tab17 : rtab .any (opsOf Try.f53 17) = impl_withPips.T17 := by kernel_rfl
theorem impl_withPips.bits17 : waitsOk impl_withPips.T17.2 impl_withPips.B17 = true := by kernel_rfl
set_option maxHeartbeats 8000000 in
set_option maxRecDepth 100000 in
theorem impl_withPips.calls (k : Nat) (a0 : Int) (a1 : Int) (r : List Int) (w : World) (h : impl_withPips.f k a0 a1 = some r) :
  Calls Try.prog 53 #[.int .i64 a0, .int .i64 a1] w fun e w' => ∃ v0_ : Value, e = .returned (v0_) ∧ Kd.R (Kd.int .i64) 3 w' w.heap.size (fun _ => True) v0_ r ∧ Below w.heap.size w w' := by
 have hu53 := Try.underlying53
 have HB := Aside0.mk (Below.refl w.heap.size w)
 have H : (if 0 ≤ (wrap64 (a1 + 1)) then (if (wrap64 (a1 + 1) : Int).toNat ≤ 11728124029610 then ((some (List.replicate (wrap64 (a1 + 1) : Int).toNat [] : List (List Int))).bind fun y308 => (impl_withPips.l0 k a0 a1 y308 (y308.length : Int) 0)) else (none)) else (none)) = some r := h
 clear h
 obtain ⟨ji3, hji3⟩ : ∃ j_ : Int, (wrap64 (a1 + 1)) = j_ := ⟨_, rfl⟩
 replace H : (if 0 ≤ (ji3) then (if (ji3 : Int).toNat ≤ 11728124029610 then ((some (List.replicate (ji3 : Int).toNat [] : List (List Int))).bind fun y308 => (impl_withPips.l0 k a0 a1 y308 (y308.length : Int) 0)) else (none)) else (none)) = some r := by first | (rw [hji3] at H; exact H) | (simp only [hji3] at H ⊢; exact H)
 have hji3w : (IntKind.i64.wrap (a1 + 1)) = ji3 := (i64_w _).trans hji3
 by_cases c4 : 0 ≤ (ji3)
 ·rw [if_pos c4] at H
  have c4b0 := eq_true c4
  have c4b1 : decide (0 ≤ (ji3)) = true := decide_eq_true c4
  clear c4
  by_cases c5 : (ji3 : Int).toNat ≤ 11728124029610
  ·rw [if_pos c5] at H
   have c5b0 := eq_true c5
   have c5b1 : decide ((ji3 : Int).toNat ≤ 11728124029610) = true := decide_eq_true c5
   clear c5
   obtain ⟨y308, hy308⟩ : ∃ y_ : List (List Int), y_ = (List.replicate (ji3 : Int).toNat []) := ⟨_, rfl⟩
   replace H : (impl_withPips.l0 k a0 a1 y308 (y308.length : Int) 0) = some r := by first | (rw [hy308]; with_reducible exact H) | (have H2_ := (Option.bind_some _ _).symm.trans H; rw [hy308]; with_reducible exact H2_) | (have H2_ := (Option.bind_some _ _).symm.trans H; with_reducible exact H2_) | with_reducible exact H | (rw [hy308]; exact H) | exact H
   have Ny308 := Aside0.mk hy308
   clear hy308
   have H' := Aside0.mk H
   clear H
   go_enter Try.func53, Try.ntmps53
   go_wp2_with (first | ((with_reducible refine gate_dst (N := 13) rfl ?_); refine Kd.S_make (Kd.slice 3 (Kd.int .i64)) _ 62 rfl (N := 13) rfl 67 _ _ rfl ji3 rfl rfl Try.underlying67 (.slice none 0 0) 24 info62 rfl (by decide) (by omega) [] (ok := fun _ => True) (okp := fun _ => True) ⟨_, rfl, Kd.R_nil _ _ _ _ _⟩ (fun _ hk => hk) trivial (of_decide_eq_true (by assumption)) (Nat.le_trans (Nat.mul_le_mul_right _ (of_decide_eq_true (by assumption) : ji3.toNat ≤ 11728124029610)) (by omega)) (Below.refl _ _) (Nat.le_refl _) ?_; intro v309 w6 ho7 hb hg_ hnew_; clear hg_ hnew_; (first | rw [← Ny308.out] at ho7 | (simp only [Int.reduceToNat] at ho7; rw [← Ny308.out] at ho7)); have HO310 := Aside0.mk (Kd.S_lower ho7 (below_size HB.out)); replace HB := Aside0.mk (below_step HB.out hb); clear hb ho7; obtain ⟨Ao8, co8, eo8⟩ := Kd.S_slice HO310.out; subst eo8))
   go_loopg [16] k (fun kq v16 w' => ∃ (x5_1 : List (List Int)) (x16_1 : Int), v16 = .int .i64 x16_1 ∧ Aside0 (impl_withPips.l0 kq a0 a1 x5_1 (y308.length : Int) x16_1 = some r) ∧ Aside0 (kq ≤ k) ∧ Aside0 (Kd.S (Kd.slice 3 (Kd.int .i64)) 62 w' w.heap.size (fun _ => True) (.slice Ao8 y308.length co8) x5_1) ∧ Aside0 (Below w.heap.size w w'))
   case atStart => exact ⟨(y308), (0), rfl, H', ⟨Nat.le_refl _⟩, ⟨HO310.out⟩, ⟨HB.out⟩⟩
   case round =>
    clear H'
    try clear p2
    try clear c4
    try clear c4b0
    try clear c4b1
    try clear c5
    try clear c5b0
    try clear c5b1
    try clear p6
    obtain ⟨x5_1, x16_1, rfl, HA, HK1, HO_5, HB⟩ := hrel
    have hl5_1 := (Kd.S_reads' HO_5.out).1
    rw [hl5_1] at HO_5
    (try simp only [hl5_1])
    cases gk with
    | zero => exact absurd HA.out (by simp [impl_withPips.l0])
    | succ k1 =>
     have H := HA.out
     clear HA
     simp only [impl_withPips.l0] at H
     by_cases c9 : x16_1 < (y308.length : Int)
     ·rw [if_pos c9] at H
      have c9b0 : decide (x16_1 < (y308.length : Int)) = true := decide_eq_true c9
      clear c9
      by_cases c10 : 1001 ≤ 35184372088832
      ·rw [if_pos c10] at H
       have c10b0 := eq_true c10
       have c10b1 : decide (1001 ≤ 35184372088832) = true := decide_eq_true c10
       clear c10
       obtain ⟨y311, hy311⟩ : ∃ y_ : List Int, y_ = (List.replicate 1001 0) := ⟨_, rfl⟩
       replace H : (if 0 ≤ x16_1 then (if x16_1 < (x5_1.length : Int) then (impl_withPips.l0 k1 a0 a1 (x5_1.set (x16_1 : Int).toNat y311) (y308.length : Int) (wrap64 (x16_1 + 1))) else (none)) else (none)) = some r := by first | (rw [hy311]; with_reducible exact H) | (have H2_ := (Option.bind_some _ _).symm.trans H; rw [hy311]; with_reducible exact H2_) | (have H2_ := (Option.bind_some _ _).symm.trans H; with_reducible exact H2_) | with_reducible exact H | (rw [hy311]; exact H) | exact H
       have Ny311 := Aside0.mk hy311
       clear hy311
       by_cases c11 : 0 ≤ x16_1
       ·rw [if_pos c11] at H
        have c11b0 : decide (0 ≤ x16_1) = true := decide_eq_true c11
        clear c11
        by_cases c12 : x16_1 < (x5_1.length : Int)
        ·rw [if_pos c12] at H
         have c12b0 : decide (x16_1 < (x5_1.length : Int)) = true := decide_eq_true c12
         clear c12
         obtain ⟨y314, hy314⟩ : ∃ y_ : List (List Int), y_ = (x5_1.set (x16_1 : Int).toNat y311) := ⟨_, rfl⟩
         replace H : (impl_withPips.l0 k1 a0 a1 y314 (y308.length : Int) (wrap64 (x16_1 + 1))) = some r := by first | (rw [hy314]; with_reducible exact H) | (have H2_ := (Option.bind_some _ _).symm.trans H; rw [hy314]; with_reducible exact H2_) | (have H2_ := (Option.bind_some _ _).symm.trans H; with_reducible exact H2_) | with_reducible exact H | (rw [hy314]; exact H) | exact H
         have Ny314 := Aside0.mk hy314
         clear hy314
         have H' := Aside0.mk H
         clear H
         go_wp2_with (first | ((with_reducible refine gate_dst (N := 21) rfl ?_); refine Kd.R_make (Kd.int .i64) _ 3 rfl (N := 21) rfl 62 _ _ rfl 1001 rfl rfl Try.underlying62 (.int .i64 0) 8 info3 rfl (by decide) (by omega) 0 (ok := fun _ => True) (okp := fun _ => True) rfl (fun _ hk => hk) trivial (by omega) (by omega) (Below.refl _ _) (Nat.le_refl _) ?_; intro v312 w14 ho15 hb hg_ hnew_; clear hg_ hnew_; (first | rw [← Ny311.out] at ho15 | (simp only [Int.reduceToNat] at ho15; rw [← Ny311.out] at ho15)); replace HO_5 := Aside0.mk (Kd.S_elder' (HO_5.out) (Kd.R_base ho15) hb); have HO313 := Aside0.mk (Kd.R_lower ho15 (below_size HB.out)); replace HB := Aside0.mk (below_step HB.out hb); clear hb ho15; have p13 : 0 ≤ (x16_1 : Int) := of_decide_eq_true (by assumption); have q13 : (x16_1 : Int) < ((x5_1.length : Int) : Int) := of_decide_eq_true (by assumption); obtain ⟨go13, co13, eo13, gb13, gl13, cl13, HG13⟩ := Kd.S_form HO_5.out (by omega); (first | cases eo13 | (injection eo13 with ea_ en_ ec_; (first | subst ea_ | (injection ea_ with ea_; subst ea_)); subst ec_; clear en_)); have GB13 := Aside0.mk gb13; have GG13 := Aside0.mk HG13; clear gb13 gl13 HG13; obtain ⟨_, ce13, hcl13, hM13, hcc13, hfr13, _, _⟩ := Kd.S_elem HO_5.out [] (x16_1 : Int) p13 q13; obtain ⟨ve13_0, rfl, ge13_0⟩ := hM13; have hx13_0 := hcc13 0 _ rfl; have hf13_0 := hfr13 0; (try simp only [show ((Kd.slice 3 (Kd.int .i64))).sz = 1 from rfl, Nat.mul_one, Nat.add_zero] at hx13_0); (try simp only [show ((Kd.slice 3 (Kd.int .i64))).sz = 1 from rfl, Nat.mul_one, Nat.add_zero] at hf13_0); (try clear hM13); clear hcl13 hcc13 hfr13; replace p13 := eq_true p13; replace q13 := eq_true q13; have n_ := Aside0.mk (Kd.S_mono (ok' := (fun k_ => some k_ ≠ (v312 : Value).ownBlock)) HO_5.out (fun k_ hk => hk.2)); clear HO_5; have HO_5 := n_; clear n_; have HX16 := Aside0.mk (show Kd.S (Kd.slice 3 (Kd.int .i64)) 62 w14 w.heap.size (fun k_ => ((fun _ => True)) k_ ∧ ¬ ((fun k_ => some k_ = (v312 : Value).ownBlock)) k_) (.slice (some ⟨go13, 0, none⟩) x5_1.length co8) x5_1 from (Kd.S_mono HO_5.out (fun k_ hk => ⟨trivial, fun e_ => hk e_⟩))); obtain ⟨oki16, ce16, hcl16, hM16, hcc16, hfr16, hoki16, hH16⟩ := Kd.S_elem HX16.out [] (x16_1 : Int) (of_decide_eq_true (by assumption)) (by have h_ : (x16_1 : Int) < ((x5_1.length : Int) : Int) := of_decide_eq_true (by assumption); first | exact h_ | (have e_ := (Kd.S_reads' HO_5.out).1; omega) | simpa using h_); obtain ⟨ve16_0, rfl, ge16_0⟩ := hM16; have HP16 := Kd.S_seg hH16 (of_decide_eq_true (by assumption)) (by have h_ : (x16_1 : Int) < ((x5_1.length : Int) : Int) := of_decide_eq_true (by assumption); first | exact h_ | (have e_ := (Kd.S_reads' HO_5.out).1; omega) | simpa using h_) (seg := [v312]) (j := 0) (show 1 ≤ 1 from by decide) (x' := y311) (Kd.M_row (Kd.R_mono (Kd.R_tight rfl (Kd.R_mono (ok' := fun k_ => ((fun _ => True)) k_ ∧ k_ ≠ go13) (Kd.R_apart' (HO313.out) (Kd.S_typed HO_5.out) (by decide)) (fun k_ hk => ⟨trivial, fun e_ => (hk.2) (by rw [e_]; rfl)⟩))) (fun _ h_ => Or.inr (h_)))) (fun _ hk => hk) (fun k_ hk_ => ((Kd.R_mono (ok' := fun k_ => ((fun _ => True)) k_ ∧ k_ ≠ go13) (Kd.R_apart' (HO313.out) (Kd.S_typed HO_5.out) (by decide)) (fun k_ hk => ⟨trivial, fun e_ => (hk.2) (by rw [e_]; rfl)⟩))).1 k_ hk_.symm); have hx16_0 := hcc16 0 _ rfl; (try simp only [show ((Kd.slice 3 (Kd.int .i64))).sz = 1 from rfl, Nat.mul_one, Nat.add_zero] at hx16_0); have hf16_0 := hfr16 0; (try simp only [show ((Kd.slice 3 (Kd.int .i64))).sz = 1 from rfl, Nat.mul_one, Nat.add_zero] at hf16_0); (try clear hM16); clear hcl16 hcc16 hfr16 hoki16 hH16; (try simp only [show ((Kd.slice 3 (Kd.int .i64))).sz = 1 from rfl, Nat.mul_one, Nat.add_zero] at HP16)) | ((with_reducible refine gate_store (t := 62) (p := 22) rfl ?_); refine store_event (t := 62) (p := 22) (v := ?vo_w17) (w1 := (w14.setCell ⟨go13, (x16_1 : Int).toNat, none⟩ (v312))) ?hg ?ho ?hn ?hr ?_; (case ho => rfl); (case hg => rfl); (case hn => rfl); (case hr => first | (go_simp; done) | (go_simp; rfl) | (obtain ⟨_, _, hv_⟩ := Kd.R_slice (‹Aside0 (Kd.R _ _ _ _ _ v312 _)›).out; subst hv_; go_simp; first | done | rfl)); intro w17 hw; have hg : w14.grownBy w17 (some go13) := (by rw [hw]; exact HP16.2); have hp_ : Kd.S (Kd.slice 3 (Kd.int .i64)) 62 w17 w.heap.size (fun _ => True) (.slice (some ⟨go13, 0, none⟩) x5_1.length co8) y314 := (by rw [hw, Ny314.out]; exact HP16.1); clear HP16; replace HO_5 := Aside0.mk (hp_); replace HB := Aside0.mk ((by rw [hw]; exact below_set (HB.out) GB13.out : Below w.heap.size w w17)); clear HO313; clear hg hw hp_))
         (try simp only [← hl5_1])
         go_roundg k1
         case measure => have := HK1.out; omega
         case rel => exact ⟨(y314), (wrap64 (x16_1 + 1)), rfl, H', ⟨by have := HK1.out; omega⟩, ⟨by (try simp only [hl5_1]); exact HO_5.out⟩, ⟨HB.out⟩⟩
        ·rw [if_neg c12] at H
         exact absurd H (by simp)
       ·rw [if_neg c11] at H
        exact absurd H (by simp)
      ·rw [if_neg c10] at H
       exact absurd H (by simp)
     ·rw [if_neg c9] at H
      have c9b0 : decide (x16_1 < (y308.length : Int)) = false := decide_eq_false c9
      (try (have c9b8 := c9b0; rw [hl5_1] at c9b8))
      clear c9
      by_cases c18 : 0 < (x5_1.length : Int)
      ·rw [if_pos c18] at H
       have c18b0 : decide (0 < (x5_1.length : Int)) = true := decide_eq_true c18
       have c18b1 : decide (0 < x5_1.length) = true := decide_eq_true (by omega)
       clear c18
       by_cases c19 : 0 < ((rd_L3 x5_1 0).length : Int)
       ·rw [if_pos c19] at H
        have c19b0 : decide (0 < ((rd_L3 x5_1 0).length : Int)) = true := decide_eq_true c19
        have c19b1 : decide (0 < (rd_L3 x5_1 0).length) = true := decide_eq_true (by omega)
        clear c19
        obtain ⟨y316, hy316⟩ : ∃ y_ : List Int, y_ = ((rd_L3 x5_1 0).set (0 : Int).toNat 1) := ⟨_, rfl⟩
        replace H : ((impl_setOf.f k1 a0).bind fun t319 => (impl_withPips.l1 k1 a1 (x5_1.set (0 : Int).toNat y316) t319 (t319.length : Int) 0)) = some r := by first | (rw [hy316]; with_reducible exact H) | (have H2_ := (Option.bind_some _ _).symm.trans H; rw [hy316]; with_reducible exact H2_) | (have H2_ := (Option.bind_some _ _).symm.trans H; with_reducible exact H2_) | with_reducible exact H | (rw [hy316]; exact H) | exact H
        have Ny316 := Aside0.mk hy316
        clear hy316
        obtain ⟨y318, hy318⟩ : ∃ y_ : List (List Int), y_ = (x5_1.set (0 : Int).toNat y316) := ⟨_, rfl⟩
        replace H : ((impl_setOf.f k1 a0).bind fun t319 => (impl_withPips.l1 k1 a1 y318 t319 (t319.length : Int) 0)) = some r := by first | (rw [hy318]; with_reducible exact H) | (have H2_ := (Option.bind_some _ _).symm.trans H; rw [hy318]; with_reducible exact H2_) | (have H2_ := (Option.bind_some _ _).symm.trans H; with_reducible exact H2_) | with_reducible exact H | (rw [hy318]; exact H) | exact H
        have Ny318 := Aside0.mk hy318
        clear hy318
        replace H := Option.bind_eq_some_iff.mp H
        obtain ⟨t319, A210, H⟩ := H
        replace H : (impl_withPips.l1 k1 a1 y318 t319 (t319.length : Int) 0) = some r := H
        have A21 := Aside0.mk A210
        clear A210
        have H' := Aside0.mk H
        clear H
        have p315 : 0 ≤ (0 : Int) := (by omega)
        have q315 : 0 < (x5_1.length : Int) := of_decide_eq_true (by assumption)
        obtain ⟨ad315, A315_0, c315_0, e315, hx315_0, hl315_0, hi315_0⟩ := at_L3 (Kd.S_reads' HO_5.out).2.2 0 p315 q315
        cases e315
        obtain ⟨ce315, hce315, hMe315, hcc315⟩ := Kd.S_get HO_5.out [] 0 p315 (by first | exact q315 | exact of_decide_eq_true (by assumption) | (have e_ := (Kd.S_reads' HO_5.out).1; omega))
        obtain ⟨ve315_0, rfl, ge315_0⟩ := hMe315
        have hv315_0 := hcc315 0 _ rfl
        rw [Nat.add_zero, show ((Kd.slice 3 (Kd.int .i64))).sz = 1 from rfl, Nat.mul_one] at hv315_0
        replace hv315_0 := Option.some.inj (hv315_0.symm.trans hx315_0)
        rw [hv315_0] at ge315_0
        have HL315_0 := Aside0.mk (show Kd.R (Kd.int .i64) 3 _ _ _ _ (rd_L3 x5_1 0) from ge315_0)
        clear hv315_0 ge315_0
        have HX315_0 := Aside0.mk hx315_0
        clear hcc315 hce315
        have qi315 : (0 < x5_1.length) = True := eq_true (by omega)
        (try rw [show ((0 : Int)).toNat = 0 from rfl] at hx315_0)
        (try rw [Addr.add_zero'] at hx315_0)
        have HR315_0 := Aside0.mk hi315_0
        have HC315_0 := Aside0.mk hl315_0
        clear hi315_0 hl315_0
        replace p315 := eq_true p315
        replace q315 := eq_true q315
        have p20 : 0 ≤ (0 : Int) := (by omega)
        have q20 : (0 : Int) < (((rd_L3 x5_1 0).length : Int) : Int) := of_decide_eq_true (by assumption)
        have qi20 : (0 < (rd_L3 x5_1 0).length) = True := eq_true (by omega)
        obtain ⟨go20, co20, eo20, gb20, gl20, cl20, HG20⟩ := Kd.R_form HL315_0.out (by omega)
        (first | cases eo20 | (injection eo20 with ea_ en_ ec_; (first | subst ea_ | (injection ea_ with ea_; subst ea_)); subst ec_; clear en_))
        have GB20 := Aside0.mk gb20
        have GG20 := Aside0.mk HG20
        clear gb20 gl20 HG20
        obtain ⟨hx20_0, hf20_0⟩ := Kd.R_celln 0 HL315_0.out (0 : Int) p20 q20
        (try rw [show ((0 : Int)).toNat = 0 from rfl] at hx20_0)
        (try simp only [Nat.reduceMul, Nat.zero_mul, Nat.zero_add, Nat.reduceAdd] at hx20_0)
        (try rw [show ((0 : Int)).toNat = 0 from rfl] at hf20_0)
        (try simp only [Nat.reduceMul, Nat.zero_mul, Nat.zero_add, Nat.reduceAdd] at hf20_0)
        replace p20 := eq_true p20
        replace q20 := eq_true q20
        have hq22 : (0 : Int) < (x5_1.length : Int) := (by have h_ : (0 : Int) < ((x5_1.length : Int) : Int) := of_decide_eq_true (by assumption); first | exact h_ | (have e_ := (Kd.S_reads' HO_5.out).1; omega) | simpa only [List.length_set, List.length_set] using h_)
        obtain ⟨oki22, ce22, hcl22, hM22, hcc22, hok22, hbk22⟩ := Kd.S_borrow HO_5.out [] (0 : Int) (by omega) hq22
        obtain ⟨ve22_0, rfl, ge22_0⟩ := hM22
        have hv22 := hcc22 0 _ rfl
        rw [Nat.add_zero, show ((Kd.slice 3 (Kd.int .i64))).sz = 1 from rfl, Nat.mul_one] at hv22
        replace hv22 := Option.some.inj (hv22.symm.trans HX315_0.out)
        subst hv22
        clear hcc22 hcl22
        replace ge22_0 := (show Kd.R (Kd.int .i64) 3 _ _ _ _ (rd_L3 x5_1 0) from ge22_0)
        have HP22 := Kd.R_putg ge22_0 (0 : Int) 1
        go_wp2_with (first | ((with_reducible refine gate_store (t := 3) (p := 27) rfl ?_); refine store_event (t := 3) (p := 27) (v := ?vo_w23) (w1 := (wr.setCell ⟨go20, 0, none⟩ (.int .i64 1))) ?hg ?ho ?hn ?hr ?_; (case ho => rfl); (case hg => rfl); (case hn => rfl); (case hr => first | (go_simp; done) | (go_simp; rfl)); intro w23 hw; have hg : wr.grownBy w23 (some go20) := (by rw [hw]; exact HP22.2); have hz_ : Kd.R (Kd.int .i64) 3 w23 w.heap.size oki22 (.slice (some ⟨go20, 0, none⟩) (rd_L3 x5_1 0).length c315_0) y316 := (by rw [hw, Ny316.out]; exact HP22.1); have hp_ : Kd.S (Kd.slice 3 (Kd.int .i64)) 62 w23 w.heap.size (fun _ => True) (.slice (some ad315) x5_1.length co8) y318 := (by rw [Ny318.out]; exact hbk22 hg (fun k_ e_ => by injection e_ with e_; subst e_; exact ge22_0.1 _ rfl) (Kd.M_row hz_)); have hm_ := Kd.R_mono hz_ hok22; clear HP22 hbk22; replace HO_5 := Aside0.mk (hp_); replace HB := Aside0.mk ((by rw [hw]; exact below_set (HB.out) GB20.out : Below w.heap.size w w23)); have HL332 := Aside0.mk (hm_); have HC317 := Aside0.mk ((Kd.R_reads' hm_).2.1); clear HL315_0; clear hg hw hp_ hz_ hm_ hok22) | ((with_reducible refine gate_callee (f := 32) rfl ?_); refine goesL_ (some 29) rfl rfl Try.func32 (by kernel_rfl) rfl #[.int .i64 a0] rfl (by simp only [List.map_toArray, List.map_cons, List.map_nil] <;> rfl) ?_; (with_reducible refine (impl_setOf.calls k1 a0 t319 _ A21.out).mono ?_); rintro e w24 ⟨v320, rfl, ho0, hb⟩; refine ⟨_, rfl, ?_⟩; replace HO_5 := Aside0.mk (Kd.S_below (HO_5.out) hb); replace HL332 := Aside0.mk (Kd.R_below (HL332.out) hb); have HO321 := Aside0.mk (Kd.R_lower ho0 (below_size HB.out)); replace HB := Aside0.mk (below_step HB.out hb); (try clear ho0); obtain ⟨Ao25, co25, eo25⟩ := Kd.R_slice HO321.out; subst eo25))
        go_loopg [31] k1 (fun kq v31 w' => ∃ (x5_2 : List (List Int)) (x31_2 : Int), v31 = .int .i64 x31_2 ∧ Aside0 (impl_withPips.l1 kq a1 x5_2 t319 (t319.length : Int) x31_2 = some r) ∧ Aside0 (kq ≤ k1) ∧ Aside0 (Kd.S (Kd.slice 3 (Kd.int .i64)) 62 w' w.heap.size (fun _ => True) (.slice (some ad315) x5_1.length co8) x5_2) ∧ Aside0 (Kd.R k53 53 w' w.heap.size (fun _ => True) (.slice Ao25 t319.length co25) t319) ∧ Aside0 (Below w.heap.size w w'))
        case atStart => exact ⟨(y318), (0), rfl, H', ⟨Nat.le_refl _⟩, ⟨by (try simp only [hl5_1]); exact HO_5.out⟩, ⟨by (try simp only [hl5_1]); exact HO321.out⟩, ⟨HB.out⟩⟩
        case round =>
         clear H'
         try clear c1
         try clear p1
         try clear q1
         try clear hx1
         try clear c2
         try clear p2
         try clear q2
         try clear hx2
         try clear qi2
         try clear hf2
         try clear c3
         try clear p3
         try clear q3
         try clear hx3
         try clear qi3
         try clear c4
         try clear c4b0
         try clear c4b1
         try clear c5
         try clear c5b0
         try clear c5b1
         try clear p6
         try clear c9
         try clear c9b0
         try clear c10
         try clear c10b0
         try clear c10b1
         try clear c11
         try clear c11b0
         try clear c12
         try clear c12b0
         try clear c13
         try clear p13
         try clear q13
         try clear hx13
         try clear hf13
         try clear c16
         try clear hx16
         try clear hf16
         try clear c18
         try clear c18b0
         try clear c18b1
         try clear c19
         try clear c19b0
         try clear c19b1
         try clear p20
         try clear q20
         try clear hx20
         try clear qi20
         try clear hf20
         try clear c22
         try clear q22
         try clear hx13_0
         try clear hx16_0
         try clear hx20_0
         try clear hx315_0
         try clear p13
         try clear p2
         try clear p20
         try clear p315
         try clear p6
         try clear q13
         try clear q20
         try clear q315
         obtain ⟨x5_2, x31_2, rfl, HA, HK2, HO_5, HO_29, HB⟩ := hrel
         have hl5_2 := (Kd.S_reads' HO_5.out).1
         rw [hl5_2] at HO_5
         (try simp only [hl5_2])
         (try simp only [hl5_2] at HO_29)
         cases gk with
         | zero => exact absurd HA.out (by simp [impl_withPips.l1])
         | succ k2 =>
          have H := HA.out
          clear HA
          simp only [impl_withPips.l1] at H
          by_cases c26 : x31_2 < (t319.length : Int)
          ·rw [if_pos c26] at H
           have c26b0 : decide (x31_2 < (t319.length : Int)) = true := decide_eq_true c26
           clear c26
           by_cases c27 : 0 ≤ x31_2
           ·rw [if_pos c27] at H
            have c27b0 : decide (0 ≤ x31_2) = true := decide_eq_true c27
            clear c27
            by_cases c28 : x31_2 < (t319.length : Int)
            ·rw [if_pos c28] at H
             have c28b0 : decide (x31_2 < (t319.length : Int)) = true := decide_eq_true c28
             clear c28
             have H' := Aside0.mk H
             clear H
             have p323 : 0 ≤ (x31_2 : Int) := of_decide_eq_true (by assumption)
             have q323 : x31_2 < (t319.length : Int) := of_decide_eq_true (by assumption)
             obtain ⟨ad323, e323, hx323_0, hx323_1⟩ := at_T53 (Kd.R_reads' HO_29.out).2.2 x31_2 p323 q323
             cases e323
             replace p323 := eq_true p323
             replace q323 := eq_true q323
             go_wp2_with (first | ((with_reducible refine gate_dst (N := 8) rfl ?_); refine box_event ?hg (N := 8) ?hd (cs := #[.int .i64 0, .int .i64 0]) (t := 53) ?hr ?_; (case hd => rfl); (case hg => rfl); (case hr => first | (go_simp; done) | (go_simp; rfl)); intro gb324 hg w29 hbox hb; replace HO_5 := Aside0.mk (Kd.S_below (HO_5.out) hb); replace HO_29 := Aside0.mk (Kd.R_below (Kd.R_elderB (HO_29.out) gb324 (Nat.le_of_eq hg.symm)) hb); have BK324 := Aside0.mk (hbox); have GW324 := Aside0.mk ((by rw [hg]; exact (below_size HB.out) : w.heap.size ≤ gb324)); have GE324 := Aside0.mk ((by rw [hg]; exact (below_size HB.out) : w.heap.size ≤ gb324)); replace HB := Aside0.mk (below_step HB.out hb); clear hb hbox hg; have hcz30_0 : w29.cell? ⟨gb324, 0, none⟩ = some (.int .i64 0) := (blk_cell BK324.out 0).trans rfl; have hcz30_1 : w29.cell? ⟨gb324, 1, none⟩ = some (.int .i64 0) := (blk_cell BK324.out 1).trans rfl; have hfz30_0 := blk_frozen BK324.out 0; have hfz30_1 := blk_frozen BK324.out 1))
             go_loopg [9] k2 (fun kq v9 w' => ∃ (x5_3 : List (List Int)) (x9_3 : Int), v9 = .int .i64 x9_3 ∧ Aside0 (impl_withPips.l2 kq a1 x5_3 x9_3 t319 (t319.length : Int) x31_2 ((rd_T53 t319 x31_2).f0) ((rd_T53 t319 x31_2).f1) = some r) ∧ Aside0 (kq ≤ k2) ∧ Aside0 (Kd.S (Kd.slice 3 (Kd.int .i64)) 62 w' w.heap.size (fun _ => True) (.slice (some ad315) x5_2.length co8) x5_3) ∧ Aside0 (Kd.R k53 53 w' w.heap.size (fun k_ => k_ ≠ gb324) (.slice (some ad323) t319.length co25) t319) ∧ Aside0 (w'.heap[gb324]? = some (.cells #[.int .i64 ((rd_T53 t319 x31_2).f0), .int .i64 ((rd_T53 t319 x31_2).f1)] 53 (0, 0))) ∧ Aside0 (Below w.heap.size w w'))
             case atStart => exact ⟨(x5_2), (a1), rfl, H', ⟨Nat.le_refl _⟩, ⟨by (try simp only [hl5_1]); (try simp only [hl5_2]); (with_reducible repeat (first | apply Kd.S_alloc | apply Kd.S_drewN | apply Kd.S_drew)); exact Kd.S_mono (Kd.S_far (p := ⟨gb324, 1, none⟩) (Kd.S_far (p := ⟨gb324, 0, none⟩) (Kd.S_types HO_5.out BK324.out (by decide)) (fun _ hk => hk.2) (.int .i64 ((rd_T53 t319 x31_2).f0))) (fun _ hk => hk.2) (.int .i64 ((rd_T53 t319 x31_2).f1))) (fun _ hk => trivial)⟩, ⟨by (try simp only [hl5_1]); (try simp only [hl5_2]); (with_reducible repeat (first | apply Kd.R_alloc | apply Kd.R_drewN | apply Kd.R_drew)); exact Kd.R_mono (Kd.R_far (p := ⟨gb324, 1, none⟩) (Kd.R_far (p := ⟨gb324, 0, none⟩) (Kd.R_mono HO_29.out (fun k_ hk => (⟨hk, hk.2⟩ : _ ∧ k_ ≠ gb324))) (fun _ hk => hk.2) (.int .i64 ((rd_T53 t319 x31_2).f0))) (fun _ hk => hk.2) (.int .i64 ((rd_T53 t319 x31_2).f1))) (fun _ hk => hk.1.2)⟩, ⟨by (try simp only [hl5_1]); (try simp only [hl5_2]); (with_reducible repeat (first | refine blk_drewN ?_ _ | refine blk_drew ?_ | refine blk_alloc ?_ _)); refine blk_put (cs := #[.int .i64 ((rd_T53 t319 x31_2).f0), .int .i64 0]) ?_ 1 _ rfl; (with_reducible repeat (first | refine blk_drewN ?_ _ | refine blk_drew ?_ | refine blk_alloc ?_ _)); refine blk_put (cs := #[.int .i64 0, .int .i64 0]) ?_ 0 _ rfl; (with_reducible repeat (first | refine blk_drewN ?_ _ | refine blk_drew ?_ | refine blk_alloc ?_ _)); exact BK324.out⟩, ⟨by repeat (first | (with_reducible first | exact HB.out | apply below_alloc | apply pw_below_drewN | apply below_drew1 | refine below_set ?_ GE324.out) | exact HB.out)⟩⟩
             case round =>
              clear H'
              try clear c1
              try clear p1
              try clear q1
              try clear hx1
              try clear c2
              try clear p2
              try clear q2
              try clear hx2
              try clear qi2
              try clear hf2
              try clear c3
              try clear p3
              try clear q3
              try clear hx3
              try clear qi3
              try clear c4
              try clear c4b0
              try clear c4b1
              try clear c5
              try clear c5b0
              try clear c5b1
              try clear p6
              try clear c9
              try clear c9b0
              try clear c10
              try clear c10b0
              try clear c10b1
              try clear c11
              try clear c11b0
              try clear c12
              try clear c12b0
              try clear c13
              try clear p13
              try clear q13
              try clear hx13
              try clear hf13
              try clear c16
              try clear hx16
              try clear hf16
              try clear c18
              try clear c18b0
              try clear c18b1
              try clear c19
              try clear c19b0
              try clear c19b1
              try clear p20
              try clear q20
              try clear hx20
              try clear qi20
              try clear hf20
              try clear c22
              try clear q22
              try clear c26
              try clear c26b0
              try clear c27
              try clear c27b0
              try clear c28
              try clear c28b0
              try clear hcz30_0
              try clear hcz30_1
              try clear hfz30_0
              try clear hfz30_1
              try clear hx13_0
              try clear hx16_0
              try clear hx20_0
              try clear hx315_0
              try clear hx323_0
              try clear hx323_1
              try clear p1
              try clear p13
              try clear p2
              try clear p20
              try clear p3
              try clear p315
              try clear p323
              try clear p6
              try clear q1
              try clear q13
              try clear q2
              try clear q20
              try clear q22
              try clear q3
              try clear q315
              try clear q323
              obtain ⟨x5_3, x9_3, rfl, HA, HK3, HO_5, HO_29, BK324, HB⟩ := hrel
              have hl5_3 := (Kd.S_reads' HO_5.out).1
              rw [hl5_3] at HO_5
              (try simp only [hl5_3])
              (try simp only [hl5_3] at BK324)
              (try simp only [hl5_3] at HO_29)
              cases gk with
              | zero => exact absurd HA.out (by simp [impl_withPips.l2])
              | succ k3 =>
               have H := HA.out
               clear HA
               simp only [impl_withPips.l2] at H
               by_cases c31 : x9_3 > 0
               ·rw [if_pos c31] at H
                have c31b0 : decide (0 < x9_3) = true := decide_eq_true c31
                clear c31
                have H' := Aside0.mk H
                clear H
                go_wp2
                go_loopg [10] k3 (fun kq v10 w' => ∃ (x5_4 : List (List Int)) (x10_4 : Int), v10 = .int .i64 x10_4 ∧ Aside0 (impl_withPips.l3 kq a1 x5_4 x9_3 x10_4 t319 (t319.length : Int) x31_2 ((rd_T53 t319 x31_2).f0) ((rd_T53 t319 x31_2).f1) = some r) ∧ Aside0 (kq ≤ k3) ∧ Aside0 (Kd.S (Kd.slice 3 (Kd.int .i64)) 62 w' w.heap.size (fun _ => True) (.slice (some ad315) x5_3.length co8) x5_4) ∧ Aside0 (Kd.R k53 53 w' w.heap.size (fun k_ => k_ ≠ gb324) (.slice (some ad323) t319.length co25) t319) ∧ Aside0 (w'.heap[gb324]? = some (.cells #[.int .i64 ((rd_T53 t319 x31_2).f0), .int .i64 ((rd_T53 t319 x31_2).f1)] 53 (0, 0))) ∧ Aside0 (Below w.heap.size w w'))
                case atStart => exact ⟨(x5_3), (1000), rfl, H', ⟨Nat.le_refl _⟩, ⟨by (try simp only [hl5_1]); (try simp only [hl5_2]); (try simp only [hl5_3]); exact HO_5.out⟩, ⟨by (try simp only [hl5_1]); (try simp only [hl5_2]); (try simp only [hl5_3]); exact HO_29.out⟩, ⟨by (try simp only [hl5_1]); (try simp only [hl5_2]); (try simp only [hl5_3]); exact BK324.out⟩, ⟨HB.out⟩⟩
                case round =>
                 clear H'
                 try clear c1
                 try clear p1
                 try clear q1
                 try clear hx1
                 try clear c2
                 try clear p2
                 try clear q2
                 try clear hx2
                 try clear qi2
                 try clear hf2
                 try clear c3
                 try clear p3
                 try clear q3
                 try clear hx3
                 try clear qi3
                 try clear c4
                 try clear c4b0
                 try clear c4b1
                 try clear c5
                 try clear c5b0
                 try clear c5b1
                 try clear p6
                 try clear c9
                 try clear c9b0
                 try clear c10
                 try clear c10b0
                 try clear c10b1
                 try clear c11
                 try clear c11b0
                 try clear c12
                 try clear c12b0
                 try clear c13
                 try clear p13
                 try clear q13
                 try clear hx13
                 try clear hf13
                 try clear c16
                 try clear hx16
                 try clear hf16
                 try clear c18
                 try clear c18b0
                 try clear c18b1
                 try clear c19
                 try clear c19b0
                 try clear c19b1
                 try clear p20
                 try clear q20
                 try clear hx20
                 try clear qi20
                 try clear hf20
                 try clear c22
                 try clear q22
                 try clear c26
                 try clear c26b0
                 try clear c27
                 try clear c27b0
                 try clear c28
                 try clear c28b0
                 try clear c31
                 try clear c31b0
                 try clear p31
                 try clear q31
                 try clear hx31
                 try clear qi31
                 try clear hcz30_0
                 try clear hcz30_1
                 try clear hfz30_0
                 try clear hfz30_1
                 try clear hx13_0
                 try clear hx16_0
                 try clear hx20_0
                 try clear hx315_0
                 try clear hx323_0
                 try clear hx323_1
                 try clear p1
                 try clear p13
                 try clear p2
                 try clear p20
                 try clear p3
                 try clear p315
                 try clear p323
                 try clear p6
                 try clear q1
                 try clear q13
                 try clear q2
                 try clear q20
                 try clear q22
                 try clear q3
                 try clear q315
                 try clear q323
                 obtain ⟨x5_4, x10_4, rfl, HA, HK4, HO_5, HO_29, BK324, HB⟩ := hrel
                 have hl5_4 := (Kd.S_reads' HO_5.out).1
                 rw [hl5_4] at HO_5
                 (try simp only [hl5_4])
                 (try simp only [hl5_4] at BK324)
                 (try simp only [hl5_4] at HO_29)
                 cases gk with
                 | zero => exact absurd HA.out (by simp [impl_withPips.l3])
                 | succ k4 =>
                  have H := HA.out
                  clear HA
                  simp only [impl_withPips.l3] at H
                  by_cases c32 : x10_4 ≥ (wrap64 (((rd_T53 t319 x31_2).f0) + ((rd_T53 t319 x31_2).f1)))
                  ·rw [if_pos c32] at H
                   have c32b0 : decide ((wrap64 (((rd_T53 t319 x31_2).f0) + ((rd_T53 t319 x31_2).f1))) ≤ x10_4) = true := decide_eq_true c32
                   clear c32
                   by_cases c33 : 0 ≤ x9_3
                   ·rw [if_pos c33] at H
                    have c33b0 : decide (0 ≤ x9_3) = true := decide_eq_true c33
                    clear c33
                    by_cases c34 : x9_3 < (x5_4.length : Int)
                    ·rw [if_pos c34] at H
                     have c34b0 : decide (x9_3 < (x5_4.length : Int)) = true := decide_eq_true c34
                     clear c34
                     by_cases c35 : 0 ≤ x10_4
                     ·rw [if_pos c35] at H
                      have c35b0 : decide (0 ≤ x10_4) = true := decide_eq_true c35
                      clear c35
                      by_cases c36 : x10_4 < ((rd_L3 x5_4 x9_3).length : Int)
                      ·rw [if_pos c36] at H
                       have c36b0 : decide (x10_4 < ((rd_L3 x5_4 x9_3).length : Int)) = true := decide_eq_true c36
                       clear c36
                       obtain ⟨ji37, hji37⟩ : ∃ j_ : Int, (wrap64 (x9_3 - 1)) = j_ := ⟨_, rfl⟩
                       replace H : (if 0 ≤ (ji37) then (if (ji37) < (x5_4.length : Int) then (if 0 ≤ (wrap64 ((wrap64 (x10_4 - ((rd_T53 t319 x31_2).f0))) - ((rd_T53 t319 x31_2).f1))) then (if (wrap64 ((wrap64 (x10_4 - ((rd_T53 t319 x31_2).f0))) - ((rd_T53 t319 x31_2).f1))) < ((rd_L3 x5_4 (ji37)).length : Int) then (impl_withPips.l3 k4 a1 (x5_4.set (x9_3 : Int).toNat ((rd_L3 x5_4 x9_3).set (x10_4 : Int).toNat (wrap64 ((rd (rd_L3 x5_4 x9_3) x10_4) + (rd (rd_L3 x5_4 (ji37)) (wrap64 ((wrap64 (x10_4 - ((rd_T53 t319 x31_2).f0))) - ((rd_T53 t319 x31_2).f1)))))))) x9_3 (wrap64 (x10_4 - 1)) t319 (t319.length : Int) x31_2 ((rd_T53 t319 x31_2).f0) ((rd_T53 t319 x31_2).f1)) else (none)) else (none)) else (none)) else (none)) = some r := by first | (rw [hji37] at H; exact H) | (simp only [hji37] at H ⊢; exact H)
                       have hji37w : (IntKind.i64.wrap (x9_3 - 1)) = ji37 := (i64_w _).trans hji37
                       by_cases c38 : 0 ≤ (ji37)
                       ·rw [if_pos c38] at H
                        have c38b0 : decide (0 ≤ (ji37)) = true := decide_eq_true c38
                        clear c38
                        by_cases c39 : (ji37) < (x5_4.length : Int)
                        ·rw [if_pos c39] at H
                         have c39b0 : decide ((ji37) < (x5_4.length : Int)) = true := decide_eq_true c39
                         clear c39
                         obtain ⟨ji40, hji40⟩ : ∃ j_ : Int, (wrap64 ((wrap64 (x10_4 - ((rd_T53 t319 x31_2).f0))) - ((rd_T53 t319 x31_2).f1))) = j_ := ⟨_, rfl⟩
                         replace H : (if 0 ≤ (ji40) then (if (ji40) < ((rd_L3 x5_4 (ji37)).length : Int) then (impl_withPips.l3 k4 a1 (x5_4.set (x9_3 : Int).toNat ((rd_L3 x5_4 x9_3).set (x10_4 : Int).toNat (wrap64 ((rd (rd_L3 x5_4 x9_3) x10_4) + (rd (rd_L3 x5_4 (ji37)) (ji40)))))) x9_3 (wrap64 (x10_4 - 1)) t319 (t319.length : Int) x31_2 ((rd_T53 t319 x31_2).f0) ((rd_T53 t319 x31_2).f1)) else (none)) else (none)) = some r := by first | (rw [hji40] at H; exact H) | (simp only [hji40] at H ⊢; exact H)
                         have hji40w : (IntKind.i64.wrap ((wrap64 (x10_4 - ((rd_T53 t319 x31_2).f0))) - ((rd_T53 t319 x31_2).f1))) = ji40 := (i64_w _).trans hji40
                         by_cases c41 : 0 ≤ (ji40)
                         ·rw [if_pos c41] at H
                          have c41b0 : decide (0 ≤ (ji40)) = true := decide_eq_true c41
                          clear c41
                          by_cases c42 : (ji40) < ((rd_L3 x5_4 (ji37)).length : Int)
                          ·rw [if_pos c42] at H
                           have c42b0 : decide ((ji40) < ((rd_L3 x5_4 (ji37)).length : Int)) = true := decide_eq_true c42
                           clear c42
                           obtain ⟨y329, hy329⟩ : ∃ y_ : List Int, y_ = ((rd_L3 x5_4 x9_3).set (x10_4 : Int).toNat (wrap64 ((rd (rd_L3 x5_4 x9_3) x10_4) + (rd (rd_L3 x5_4 (ji37)) (ji40))))) := ⟨_, rfl⟩
                           replace H : (impl_withPips.l3 k4 a1 (x5_4.set (x9_3 : Int).toNat y329) x9_3 (wrap64 (x10_4 - 1)) t319 (t319.length : Int) x31_2 ((rd_T53 t319 x31_2).f0) ((rd_T53 t319 x31_2).f1)) = some r := by first | (rw [hy329]; with_reducible exact H) | (have H2_ := (Option.bind_some _ _).symm.trans H; rw [hy329]; with_reducible exact H2_) | (have H2_ := (Option.bind_some _ _).symm.trans H; with_reducible exact H2_) | with_reducible exact H | (rw [hy329]; exact H) | exact H
                           have Ny329 := Aside0.mk hy329
                           clear hy329
                           obtain ⟨y331, hy331⟩ : ∃ y_ : List (List Int), y_ = (x5_4.set (x9_3 : Int).toNat y329) := ⟨_, rfl⟩
                           replace H : (impl_withPips.l3 k4 a1 y331 x9_3 (wrap64 (x10_4 - 1)) t319 (t319.length : Int) x31_2 ((rd_T53 t319 x31_2).f0) ((rd_T53 t319 x31_2).f1)) = some r := by first | (rw [hy331]; with_reducible exact H) | (have H2_ := (Option.bind_some _ _).symm.trans H; rw [hy331]; with_reducible exact H2_) | (have H2_ := (Option.bind_some _ _).symm.trans H; with_reducible exact H2_) | with_reducible exact H | (rw [hy331]; exact H) | exact H
                           have Ny331 := Aside0.mk hy331
                           clear hy331
                           have H' := Aside0.mk H
                           clear H
                           have hcz44_0 : wr.cell? ⟨gb324, 0, none⟩ = some (.int .i64 ((rd_T53 t319 x31_2).f0)) := (blk_cell BK324.out 0).trans rfl
                           have hcz44_1 : wr.cell? ⟨gb324, 1, none⟩ = some (.int .i64 ((rd_T53 t319 x31_2).f1)) := (blk_cell BK324.out 1).trans rfl
                           have hfz44_0 := blk_frozen BK324.out 0
                           have hfz44_1 := blk_frozen BK324.out 1
                           try go_wp2
                           replace HO_5 := Aside0.mk (Kd.S_drew HO_5.out)
                           replace HO_29 := Aside0.mk (Kd.R_drew HO_29.out)
                           replace BK324 := Aside0.mk (blk_drew BK324.out)
                           replace HB := Aside0.mk (below_drew1 HB.out)
                           have p325 : 0 ≤ (x9_3 : Int) := of_decide_eq_true (by assumption)
                           have q325 : x9_3 < (x5_4.length : Int) := of_decide_eq_true (by assumption)
                           obtain ⟨ad325, A325_0, c325_0, e325, hx325_0, hl325_0, hi325_0⟩ := at_L3 (Kd.S_reads' HO_5.out).2.2 x9_3 p325 q325
                           obtain rfl : ad315 = ad325 := (by injection e325)
                           obtain ⟨ce325, hce325, hMe325, hcc325⟩ := Kd.S_get HO_5.out [] x9_3 p325 (by first | exact q325 | exact of_decide_eq_true (by assumption) | (have e_ := (Kd.S_reads' HO_5.out).1; omega))
                           obtain ⟨ve325_0, rfl, ge325_0⟩ := hMe325
                           have hv325_0 := hcc325 0 _ rfl
                           rw [Nat.add_zero, show ((Kd.slice 3 (Kd.int .i64))).sz = 1 from rfl, Nat.mul_one] at hv325_0
                           replace hv325_0 := Option.some.inj (hv325_0.symm.trans hx325_0)
                           rw [hv325_0] at ge325_0
                           have HL325_0 := Aside0.mk (show Kd.R (Kd.int .i64) 3 _ _ _ _ (rd_L3 x5_4 x9_3) from ge325_0)
                           clear hv325_0 ge325_0
                           have HX325_0 := Aside0.mk hx325_0
                           clear hcc325 hce325
                           have HR325_0 := Aside0.mk hi325_0
                           have HC325_0 := Aside0.mk hl325_0
                           clear hi325_0 hl325_0
                           replace p325 := eq_true p325
                           replace q325 := eq_true q325
                           have p326 : 0 ≤ (x10_4 : Int) := of_decide_eq_true (by assumption)
                           have q326 : x10_4 < ((rd_L3 x5_4 x9_3).length : Int) := of_decide_eq_true (by assumption)
                           obtain ⟨ad326, e326, hx326_0⟩ := Kd.at_int (by repeat (first | (with_reducible exact HR325_0.out) | (with_reducible refine Kd.C_alloc ?_ _) | (with_reducible refine Kd.C_drewN ?_ _) | (with_reducible refine Kd.C_drew ?_) | exact HR325_0.out)) x10_4 p326 q326
                           cases e326
                           replace p326 := eq_true p326
                           replace q326 := eq_true q326
                           have p327 : 0 ≤ ((ji37) : Int) := of_decide_eq_true (by assumption)
                           have q327 : (ji37) < (x5_4.length : Int) := of_decide_eq_true (by assumption)
                           obtain ⟨ad327, A327_0, c327_0, e327, hx327_0, hl327_0, hi327_0⟩ := at_L3 (Kd.S_reads' HO_5.out).2.2 (ji37) p327 q327
                           obtain rfl : ad315 = ad327 := (by injection e327)
                           obtain ⟨ce327, hce327, hMe327, hcc327⟩ := Kd.S_get HO_5.out [] (ji37) p327 (by first | exact q327 | exact of_decide_eq_true (by assumption) | (have e_ := (Kd.S_reads' HO_5.out).1; omega))
                           obtain ⟨ve327_0, rfl, ge327_0⟩ := hMe327
                           have hv327_0 := hcc327 0 _ rfl
                           rw [Nat.add_zero, show ((Kd.slice 3 (Kd.int .i64))).sz = 1 from rfl, Nat.mul_one] at hv327_0
                           replace hv327_0 := Option.some.inj (hv327_0.symm.trans hx327_0)
                           rw [hv327_0] at ge327_0
                           have HL327_0 := Aside0.mk (show Kd.R (Kd.int .i64) 3 _ _ _ _ (rd_L3 x5_4 (ji37)) from ge327_0)
                           clear hv327_0 ge327_0
                           have HX327_0 := Aside0.mk hx327_0
                           clear hcc327 hce327
                           have HR327_0 := Aside0.mk hi327_0
                           have HC327_0 := Aside0.mk hl327_0
                           clear hi327_0 hl327_0
                           replace p327 := eq_true p327
                           replace q327 := eq_true q327
                           have p328 : 0 ≤ ((ji40) : Int) := of_decide_eq_true (by assumption)
                           have q328 : (ji40) < ((rd_L3 x5_4 (ji37)).length : Int) := of_decide_eq_true (by assumption)
                           obtain ⟨ad328, e328, hx328_0⟩ := Kd.at_int (by repeat (first | (with_reducible exact HR327_0.out) | (with_reducible refine Kd.C_alloc ?_ _) | (with_reducible refine Kd.C_drewN ?_ _) | (with_reducible refine Kd.C_drew ?_) | exact HR327_0.out)) (ji40) p328 q328
                           cases e328
                           replace p328 := eq_true p328
                           replace q328 := eq_true q328
                           have p43 : 0 ≤ (x10_4 : Int) := of_decide_eq_true (by assumption)
                           have q43 : (x10_4 : Int) < (((rd_L3 x5_4 x9_3).length : Int) : Int) := of_decide_eq_true (by assumption)
                           obtain ⟨go43, co43, eo43, gb43, gl43, cl43, HG43⟩ := Kd.R_form HL325_0.out (by omega)
                           (first | cases eo43 | (injection eo43 with ea_ en_ ec_; (first | subst ea_ | (injection ea_ with ea_; subst ea_)); subst ec_; clear en_))
                           have GB43 := Aside0.mk gb43
                           have GG43 := Aside0.mk HG43
                           clear gb43 gl43 HG43
                           (first | simp only [add_plain] at hx326_0 | skip)
                           obtain ⟨hx43_0, hf43_0⟩ := Kd.R_celln 0 HL325_0.out (x10_4 : Int) p43 q43
                           replace p43 := eq_true p43
                           replace q43 := eq_true q43
                           have hq46 : (x9_3 : Int) < (x5_4.length : Int) := (by have h_ : (x9_3 : Int) < ((x5_4.length : Int) : Int) := of_decide_eq_true (by assumption); first | exact h_ | (have e_ := (Kd.S_reads' HO_5.out).1; omega) | simpa only [List.length_set, List.length_set] using h_)
                           obtain ⟨oki46, ce46, hcl46, hM46, hcc46, hok46, hbk46⟩ := Kd.S_borrow HO_5.out [] (x9_3 : Int) (of_decide_eq_true (by assumption)) hq46
                           obtain ⟨ve46_0, rfl, ge46_0⟩ := hM46
                           have hv46 := hcc46 0 _ rfl
                           rw [Nat.add_zero, show ((Kd.slice 3 (Kd.int .i64))).sz = 1 from rfl, Nat.mul_one] at hv46
                           replace hv46 := Option.some.inj (hv46.symm.trans HX325_0.out)
                           subst hv46
                           clear hcc46 hcl46
                           replace ge46_0 := (show Kd.R (Kd.int .i64) 3 _ _ _ _ (rd_L3 x5_4 x9_3) from ge46_0)
                           have HP46 := Kd.R_putg ge46_0 (x10_4 : Int) (wrap64 ((rd (rd_L3 x5_4 x9_3) x10_4) + (rd (rd_L3 x5_4 (ji37)) (ji40))))
                           rw [← Ny329.out] at HP46
                           have HS46 := hbk46 HP46.2 (fun k_ e_ => by injection e_ with e_; subst e_; exact ge46_0.1 _ rfl) (x' := y329) (Kd.M_row HP46.1)
                           rw [← Ny331.out] at HS46
                           have HQ46 := Aside0.mk HS46
                           clear HP46 HS46 hbk46 hok46
                           refine start_ (n := 24) (S := fun w' => w'.cell? ⟨gb324, 0, none⟩ = some (.int .i64 ((rd_T53 t319 x31_2).f0)) ∧ w'.cell? ⟨gb324, 1, none⟩ = some (.int .i64 ((rd_T53 t319 x31_2).f1)) ∧ w'.cell? (ad315.add (x9_3).toNat) = some (.slice (some ⟨go43, 0, none⟩) (rd_L3 x5_4 x9_3).length c325_0) ∧ w'.cell? ⟨go43, (x10_4).toNat, none⟩ = some (.int .i64 (rd (rd_L3 x5_4 x9_3) x10_4)) ∧ w'.cell? (ad315.add ((ji37)).toNat) = some (.slice (some ad328) (rd_L3 x5_4 (ji37)).length c327_0) ∧ w'.cell? (ad328.add ((ji40)).toNat) = some (.int .i64 (rd (rd_L3 x5_4 (ji37)) (ji40)))) (ds := [23]) #[false, false, false, false, false, false, false, false, false, false, false, false, false, false, false, false, false, false, false, false, false, false, false, false] (by kernel_rfl) rfl rfl ⟨(blk_cell BK324.out 0).trans rfl, (blk_cell BK324.out 1).trans rfl, hx325_0, hx326_0, hx327_0, hx328_0⟩ (fun hHeld => ?_); refine with_tabW impl_withPips.tab17 impl_withPips.bits17 (fun HT_ HW_ => ?_)
                           generalize wr.drew = w45 at HO_5 HO_29 BK324 HB GG43 HL325_0 HL327_0 HQ46 HR325_0 HR327_0 HX325_0 HX327_0 hf43_0 hx325_0 hx326_0 hx327_0 hx328_0 hx43_0 hHeld ⊢
                           refine pure_ (i := 0) (N := some 49) (v := ?_) (a' := ?_) #[true, false, false, false, false, false, false, false, false, false, false, false, false, false, false, false, false, false, false, false, false, false, false, false] rfl rfl (any_of HT_.out (by kernel_rfl)) (fun _ _ _ h => h) (Or.inl ⟨by rfl, ?_⟩) ?_ ?_
                           rotate_left
                           ·intro w'
                            go_simp
                            with_reducible rfl
                           rotate_left
                           ·simp only [Act.put, List.setIfInBounds_toArray, List.set_cons_zero, List.set_cons_succ, i64_w, i32_w]
                            rfl
                           refine pure_ (i := 1) (N := some 50) (v := ?_) (a' := ?_) #[true, true, false, false, false, false, false, false, false, false, false, false, false, false, false, false, false, false, false, false, false, false, false, false] rfl rfl (any_of HT_.out (by kernel_rfl)) (fun _ _ _ h => h) (Or.inl ⟨by rfl, ?_⟩) ?_ ?_
                           rotate_left
                           ·intro w'
                            go_simp
                            with_reducible rfl
                           rotate_left
                           ·simp only [Act.put, List.setIfInBounds_toArray, List.set_cons_zero, List.set_cons_succ, i64_w, i32_w]
                            rfl
                           refine pure_ (i := 2) (N := some 51) (v := ?_) (a' := ?_) #[true, true, true, false, false, false, false, false, false, false, false, false, false, false, false, false, false, false, false, false, false, false, false, false] rfl rfl (any_of HT_.out (by kernel_rfl)) (fun _ _ _ h => h) (Or.inl ⟨by rfl, ?_⟩) ?_ ?_
                           rotate_left
                           ·intro w'
                            go_simp
                            with_reducible rfl
                           rotate_left
                           ·simp only [Act.put, List.setIfInBounds_toArray, List.set_cons_zero, List.set_cons_succ, i64_w, i32_w]
                            rfl
                           refine pure_ (i := 4) (N := some 53) (v := ?_) (a' := ?_) #[true, true, true, false, true, false, false, false, false, false, false, false, false, false, false, false, false, false, false, false, false, false, false, false] rfl rfl (any_of HT_.out (by kernel_rfl)) (fun _ _ _ h => h) (Or.inl ⟨by rfl, ?_⟩) ?_ ?_
                           rotate_left
                           ·intro w'
                            go_simp
                            with_reducible rfl
                           rotate_left
                           ·simp only [Act.put, List.setIfInBounds_toArray, List.set_cons_zero, List.set_cons_succ, i64_w, i32_w]
                            rfl
                           refine pure_ (i := 7) (N := some 56) (v := ?_) (a' := ?_) #[true, true, true, false, true, false, false, true, false, false, false, false, false, false, false, false, false, false, false, false, false, false, false, false] rfl rfl (any_of HT_.out (by kernel_rfl)) (fun _ _ _ h => h) (Or.inl ⟨by rfl, ?_⟩) ?_ ?_
                           rotate_left
                           ·intro w'
                            go_simp
                            with_reducible rfl
                           rotate_left
                           ·simp only [Act.put, List.setIfInBounds_toArray, List.set_cons_zero, List.set_cons_succ, i64_w, i32_w]
                            rfl
                           refine pure_ (i := 8) (N := some 57) (v := ?_) (a' := ?_) #[true, true, true, false, true, false, false, true, true, false, false, false, false, false, false, false, false, false, false, false, false, false, false, false] rfl rfl (any_of HT_.out (by kernel_rfl)) (fun _ _ _ h => h) (Or.inl ⟨by rfl, ?_⟩) ?_ ?_
                           rotate_left
                           ·intro w'
                            go_simp
                            with_reducible rfl
                           rotate_left
                           ·simp only [Act.put, List.setIfInBounds_toArray, List.set_cons_zero, List.set_cons_succ, i64_w, i32_w]
                            rfl
                           refine pure_ (i := 9) (N := some 58) (v := ?_) (a' := ?_) #[true, true, true, false, true, false, false, true, true, true, false, false, false, false, false, false, false, false, false, false, false, false, false, false] rfl rfl (any_of HT_.out (by kernel_rfl)) (fun _ _ _ h => h) (Or.inl ⟨by rfl, ?_⟩) ?_ ?_
                           rotate_left
                           ·intro w'
                            go_simp
                            with_reducible rfl
                           rotate_left
                           ·simp only [Act.put, List.setIfInBounds_toArray, List.set_cons_zero, List.set_cons_succ, i64_w, i32_w]
                            rfl
                           refine pure_ (i := 10) (N := some 59) (v := ?_) (a' := ?_) #[true, true, true, false, true, false, false, true, true, true, true, false, false, false, false, false, false, false, false, false, false, false, false, false] rfl rfl (any_of HT_.out (by kernel_rfl)) (fun _ _ _ h => h) (Or.inl ⟨by rfl, ?_⟩) ?_ ?_
                           rotate_left
                           ·intro w'
                            go_simp
                            with_reducible rfl
                           rotate_left
                           ·simp only [Act.put, List.setIfInBounds_toArray, List.set_cons_zero, List.set_cons_succ, i64_w, i32_w]
                            rfl
                           refine pure_ (i := 12) (N := some 61) (v := ?_) (a' := ?_) #[true, true, true, false, true, false, false, true, true, true, true, false, true, false, false, false, false, false, false, false, false, false, false, false] rfl rfl (any_of HT_.out (by kernel_rfl)) (fun _ _ _ h => h) (Or.inl ⟨by rfl, ?_⟩) ?_ ?_
                           rotate_left
                           ·intro w'
                            go_simp
                            with_reducible rfl
                           rotate_left
                           ·simp only [Act.put, List.setIfInBounds_toArray, List.set_cons_zero, List.set_cons_succ, i64_w, i32_w]
                            rfl
                           refine pure_ (i := 13) (N := some 62) (v := ?_) (a' := ?_) #[true, true, true, false, true, false, false, true, true, true, true, false, true, true, false, false, false, false, false, false, false, false, false, false] rfl rfl (any_of HT_.out (by kernel_rfl)) (fun _ _ _ h => h) (Or.inl ⟨by rfl, ?_⟩) ?_ ?_
                           rotate_left
                           ·intro w'
                            go_simp
                            with_reducible rfl
                           rotate_left
                           ·simp only [Act.put, List.setIfInBounds_toArray, List.set_cons_zero, List.set_cons_succ, i64_w, i32_w]
                            rfl
                           refine pure_ (i := 16) (N := some 65) (v := ?_) (a' := ?_) #[true, true, true, false, true, false, false, true, true, true, true, false, true, true, false, false, true, false, false, false, false, false, false, false] rfl rfl (any_of HT_.out (by kernel_rfl)) (fun _ _ _ h => h) (Or.inl ⟨by rfl, ?_⟩) ?_ ?_
                           rotate_left
                           ·intro w'
                            go_simp
                            with_reducible rfl
                           rotate_left
                           ·simp only [Act.put, List.setIfInBounds_toArray, List.set_cons_zero, List.set_cons_succ, i64_w, i32_w]
                            rfl
                           refine take_ (i := 3) (N := some 52) (v := ?_) (a' := ?_) #[true, true, true, true, true, false, false, true, true, true, true, false, true, true, false, false, true, false, false, false, false, false, false, false] rfl rfl (take_ofW HT_.out HW_.out (by kernel_rfl)) (fun _ _ _ h => h) (Or.inl ⟨by rfl, ?_⟩) hHeld ?_ ?_
                           rotate_left
                           ·rintro w' ⟨s0, s1, s2, s3, s4, s5⟩
                            go_simp
                            with_reducible rfl
                           rotate_left
                           ·simp only [Act.put, List.setIfInBounds_toArray, List.set_cons_zero, List.set_cons_succ, i64_w, i32_w]
                            rfl
                           refine pure_ (i := 5) (N := some 54) (v := ?_) (a' := ?_) #[true, true, true, true, true, true, false, true, true, true, true, false, true, true, false, false, true, false, false, false, false, false, false, false] rfl rfl (any_of HT_.out (by kernel_rfl)) (fun _ _ _ h => h) (Or.inl ⟨by rfl, ?_⟩) ?_ ?_
                           rotate_left
                           ·intro w'
                            go_simp
                            with_reducible rfl
                           rotate_left
                           ·simp only [Act.put, List.setIfInBounds_toArray, List.set_cons_zero, List.set_cons_succ, i64_w, i32_w]
                            rfl
                           refine take_ (i := 6) (N := some 55) (v := ?_) (a' := ?_) #[true, true, true, true, true, true, true, true, true, true, true, false, true, true, false, false, true, false, false, false, false, false, false, false] rfl rfl (take_ofW HT_.out HW_.out (by kernel_rfl)) (fun _ _ _ h => h) (Or.inl ⟨by rfl, ?_⟩) hHeld ?_ ?_
                           rotate_left
                           ·rintro w' ⟨s0, s1, s2, s3, s4, s5⟩
                            go_simp
                            with_reducible rfl
                           rotate_left
                           ·simp only [Act.put, List.setIfInBounds_toArray, List.set_cons_zero, List.set_cons_succ, i64_w, i32_w]
                            rfl
                           refine take_ (i := 11) (N := some 60) (v := ?_) (a' := ?_) #[true, true, true, true, true, true, true, true, true, true, true, true, true, true, false, false, true, false, false, false, false, false, false, false] rfl rfl (take_ofW HT_.out HW_.out (by kernel_rfl)) (fun _ _ _ h => h) (Or.inl ⟨by rfl, ?_⟩) hHeld ?_ ?_
                           rotate_left
                           ·rintro w' ⟨s0, s1, s2, s3, s4, s5⟩
                            go_simp
                            with_reducible rfl
                           rotate_left
                           ·simp only [Act.put, List.setIfInBounds_toArray, List.set_cons_zero, List.set_cons_succ, i64_w, i32_w]
                            rfl
                           refine take_ (i := 14) (N := some 63) (v := ?_) (a' := ?_) #[true, true, true, true, true, true, true, true, true, true, true, true, true, true, true, false, true, false, false, false, false, false, false, false] rfl rfl (take_ofW HT_.out HW_.out (by kernel_rfl)) (fun _ _ _ h => h) (Or.inl ⟨by rfl, ?_⟩) hHeld ?_ ?_
                           rotate_left
                           ·rintro w' ⟨s0, s1, s2, s3, s4, s5⟩
                            go_simp
                            with_reducible rfl
                           rotate_left
                           ·simp only [Act.put, List.setIfInBounds_toArray, List.set_cons_zero, List.set_cons_succ, i64_w, i32_w]
                            rfl
                           refine pure_ (i := 15) (N := some 64) (v := ?_) (a' := ?_) #[true, true, true, true, true, true, true, true, true, true, true, true, true, true, true, true, true, false, false, false, false, false, false, false] rfl rfl (any_of HT_.out (by kernel_rfl)) (fun _ _ _ h => h) (Or.inl ⟨by rfl, ?_⟩) ?_ ?_
                           rotate_left
                           ·intro w'
                            go_simp
                            with_reducible rfl
                           rotate_left
                           ·simp only [Act.put, List.setIfInBounds_toArray, List.set_cons_zero, List.set_cons_succ, i64_w, i32_w]
                            rfl
                           refine take_ (i := 17) (N := some 66) (v := ?_) (a' := ?_) #[true, true, true, true, true, true, true, true, true, true, true, true, true, true, true, true, true, true, false, false, false, false, false, false] rfl rfl (take_ofW HT_.out HW_.out (by kernel_rfl)) (fun _ _ _ h => h) (Or.inl ⟨by rfl, ?_⟩) hHeld ?_ ?_
                           rotate_left
                           ·rintro w' ⟨s0, s1, s2, s3, s4, s5⟩
                            go_simp
                            with_reducible rfl
                           rotate_left
                           ·simp only [Act.put, List.setIfInBounds_toArray, List.set_cons_zero, List.set_cons_succ, i64_w, i32_w]
                            rfl
                           refine pure_ (i := 18) (N := some 67) (v := ?_) (a' := ?_) #[true, true, true, true, true, true, true, true, true, true, true, true, true, true, true, true, true, true, true, false, false, false, false, false] rfl rfl (any_of HT_.out (by kernel_rfl)) (fun _ _ _ h => h) (Or.inl ⟨by rfl, ?_⟩) ?_ ?_
                           rotate_left
                           ·intro w'
                            go_simp
                            with_reducible rfl
                           rotate_left
                           ·simp only [Act.put, List.setIfInBounds_toArray, List.set_cons_zero, List.set_cons_succ, i64_w, i32_w]
                            rfl
                           refine pure_ (i := 19) (N := some 68) (v := ?_) (a' := ?_) #[true, true, true, true, true, true, true, true, true, true, true, true, true, true, true, true, true, true, true, true, false, false, false, false] rfl rfl (any_of HT_.out (by kernel_rfl)) (fun _ _ _ h => h) (Or.inl ⟨by rfl, ?_⟩) ?_ ?_
                           rotate_left
                           ·intro w'
                            go_simp
                            with_reducible rfl
                           rotate_left
                           ·simp only [Act.put, List.setIfInBounds_toArray, List.set_cons_zero, List.set_cons_succ, i64_w, i32_w]
                            rfl
                           refine take_ (i := 20) (N := some 69) (v := ?_) (a' := ?_) #[true, true, true, true, true, true, true, true, true, true, true, true, true, true, true, true, true, true, true, true, true, false, false, false] rfl rfl (take_ofW HT_.out HW_.out (by kernel_rfl)) (fun _ _ _ h => h) (Or.inl ⟨by rfl, ?_⟩) hHeld ?_ ?_
                           rotate_left
                           ·rintro w' ⟨s0, s1, s2, s3, s4, s5⟩
                            go_simp
                            with_reducible rfl
                           rotate_left
                           ·simp only [Act.put, List.setIfInBounds_toArray, List.set_cons_zero, List.set_cons_succ, i64_w, i32_w]
                            rfl
                           refine pure_ (i := 21) (N := some 70) (v := ?_) (a' := ?_) #[true, true, true, true, true, true, true, true, true, true, true, true, true, true, true, true, true, true, true, true, true, true, false, false] rfl rfl (any_of HT_.out (by kernel_rfl)) (fun _ _ _ h => h) (Or.inl ⟨by rfl, ?_⟩) ?_ ?_
                           rotate_left
                           ·intro w'
                            go_simp
                            with_reducible rfl
                           rotate_left
                           ·simp only [Act.put, List.setIfInBounds_toArray, List.set_cons_zero, List.set_cons_succ, i64_w, i32_w]
                            rfl
                           refine pure_ (i := 22) (N := some 71) (v := ?_) (a' := ?_) #[true, true, true, true, true, true, true, true, true, true, true, true, true, true, true, true, true, true, true, true, true, true, true, false] rfl rfl (any_of HT_.out (by kernel_rfl)) (fun _ _ _ h => h) (Or.inl ⟨by rfl, ?_⟩) ?_ ?_
                           rotate_left
                           ·intro w'
                            go_simp
                            with_reducible rfl
                           rotate_left
                           ·simp only [Act.put, List.setIfInBounds_toArray, List.set_cons_zero, List.set_cons_succ, i64_w, i32_w]
                            rfl
                           refine last_ (i := 23) (N := none) #[true, true, true, true, true, true, true, true, true, true, true, true, true, true, true, true, true, true, true, true, true, true, true, true] rfl rfl (one_of HT_.out (by kernel_rfl)) (by decide) (fun K hK => ?_)
                           refine skip_ (w1 := ?_) (by rfl) rfl ?_ ?_
                           rotate_left
                           ·go_simp
                            rfl
                           refine hK.out _ _ ?_
                           clear hK K
                           refine done_ (done_of HT_.out (by kernel_rfl)) ?_
                           try go_wp2
                           (try simp only [← hl5_4])
                           go_roundg k4
                           case measure => have := HK1.out; have := HK2.out; have := HK3.out; have := HK4.out; omega
                           case rel => exact ⟨(y331), (wrap64 (x10_4 - 1)), rfl, H', ⟨by have := HK1.out; have := HK2.out; have := HK3.out; have := HK4.out; omega⟩, ⟨by (try simp only [hl5_1]); (try simp only [hl5_2]); (try simp only [hl5_3]); (try simp only [hl5_4]); (with_reducible repeat (first | apply Kd.S_alloc | apply Kd.S_drewN | apply Kd.S_drew)); exact HQ46.out⟩, ⟨by (try simp only [hl5_1]); (try simp only [hl5_2]); (try simp only [hl5_3]); (try simp only [hl5_4]); (with_reducible repeat (first | apply Kd.R_alloc | apply Kd.R_drewN | apply Kd.R_drew)); exact Kd.R_mono (Kd.R_far (p := ⟨go43, (x10_4 : Int).toNat, none⟩) (Kd.R_types HO_29.out GG43.out (by decide)) (fun _ hk => hk.2) (.int .i64 (wrap64 ((rd (rd_L3 x5_4 x9_3) x10_4) + (rd (rd_L3 x5_4 (ji37)) (ji40)))))) (fun _ hk => hk.1)⟩, ⟨by (try simp only [hl5_1]); (try simp only [hl5_2]); (try simp only [hl5_3]); (try simp only [hl5_4]); (with_reducible repeat (first | refine blk_drewN ?_ _ | refine blk_drew ?_ | refine blk_alloc ?_ _)); refine blk_far ?_ (by have h_ := Kd.R_ne HL325_0.out BK324.out (by decide); intro e_; exact h_ (by rw [e_]; rfl)) _; (with_reducible repeat (first | refine blk_drewN ?_ _ | refine blk_drew ?_ | refine blk_alloc ?_ _)); exact BK324.out⟩, ⟨by repeat (first | (with_reducible first | exact HB.out | apply below_alloc | apply pw_below_drewN | apply below_drew1 | refine below_set ?_ GB43.out | refine below_set ?_ GE324.out) | exact HB.out)⟩⟩
                          ·rw [if_neg c42] at H
                           exact absurd H (by simp)
                         ·rw [if_neg c41] at H
                          exact absurd H (by simp)
                        ·rw [if_neg c39] at H
                         exact absurd H (by simp)
                       ·rw [if_neg c38] at H
                        exact absurd H (by simp)
                      ·rw [if_neg c36] at H
                       exact absurd H (by simp)
                     ·rw [if_neg c35] at H
                      exact absurd H (by simp)
                    ·rw [if_neg c34] at H
                     exact absurd H (by simp)
                   ·rw [if_neg c33] at H
                    exact absurd H (by simp)
                  ·rw [if_neg c32] at H
                   have c32b0 : decide ((wrap64 (((rd_T53 t319 x31_2).f0) + ((rd_T53 t319 x31_2).f1))) ≤ x10_4) = false := decide_eq_false c32
                   clear c32
                   have H' := Aside0.mk H
                   clear H
                   have hcz48_0 : wr.cell? ⟨gb324, 0, none⟩ = some (.int .i64 ((rd_T53 t319 x31_2).f0)) := (blk_cell BK324.out 0).trans rfl
                   have hcz48_1 : wr.cell? ⟨gb324, 1, none⟩ = some (.int .i64 ((rd_T53 t319 x31_2).f1)) := (blk_cell BK324.out 1).trans rfl
                   have hfz48_0 := blk_frozen BK324.out 0
                   have hfz48_1 := blk_frozen BK324.out 1
                   go_wp2
                   (try simp only [← hl5_3, ← hl5_4])
                   go_roundg k4
                   case measure => have := HK1.out; have := HK2.out; have := HK3.out; have := HK4.out; omega
                   case rel => exact ⟨(x5_4), (wrap64 (x9_3 - 1)), rfl, H', ⟨by have := HK1.out; have := HK2.out; have := HK3.out; have := HK4.out; omega⟩, ⟨by (try simp only [hl5_1]); (try simp only [hl5_2]); (try simp only [hl5_3]); (try simp only [hl5_4]); exact HO_5.out⟩, ⟨by (try simp only [hl5_1]); (try simp only [hl5_2]); (try simp only [hl5_3]); (try simp only [hl5_4]); exact HO_29.out⟩, ⟨by (try simp only [hl5_1]); (try simp only [hl5_2]); (try simp only [hl5_3]); (try simp only [hl5_4]); exact BK324.out⟩, ⟨HB.out⟩⟩
               ·rw [if_neg c31] at H
                have c31b0 : decide (0 < x9_3) = false := decide_eq_false c31
                clear c31
                have H' := Aside0.mk H
                clear H
                go_wp2
                (try simp only [← hl5_2, ← hl5_3])
                go_roundg k3
                case measure => have := HK1.out; have := HK2.out; have := HK3.out; omega
                case rel => exact ⟨(x5_3), (wrap64 (x31_2 + 1)), rfl, H', ⟨by have := HK1.out; have := HK2.out; have := HK3.out; omega⟩, ⟨by (try simp only [hl5_1]); (try simp only [hl5_2]); (try simp only [hl5_3]); exact HO_5.out⟩, ⟨by (try simp only [hl5_1]); (try simp only [hl5_2]); (try simp only [hl5_3]); exact Kd.R_mono HO_29.out (fun _ hk => trivial)⟩, ⟨HB.out⟩⟩
            ·rw [if_neg c28] at H
             exact absurd H (by simp)
           ·rw [if_neg c27] at H
            exact absurd H (by simp)
          ·rw [if_neg c26] at H
           have c26b0 : decide (x31_2 < (t319.length : Int)) = false := decide_eq_false c26
           (try (have c26b8 := c26b0; rw [hl5_2] at c26b8))
           clear c26
           by_cases c49 : 0 ≤ a1
           ·rw [if_pos c49] at H
            have c49b0 : decide (0 ≤ a1) = true := decide_eq_true c49
            clear c49
            by_cases c50 : a1 < (x5_2.length : Int)
            ·rw [if_pos c50] at H
             have c50b0 : decide (a1 < (x5_2.length : Int)) = true := decide_eq_true c50
             clear c50
             obtain rfl := Option.some.inj H
             have p322 : 0 ≤ (a1 : Int) := of_decide_eq_true (by assumption)
             have q322 : a1 < (x5_2.length : Int) := of_decide_eq_true (by assumption)
             obtain ⟨ad322, A322_0, c322_0, e322, hx322_0, hl322_0, hi322_0⟩ := at_L3 (Kd.S_reads' HO_5.out).2.2 a1 p322 q322
             obtain rfl : ad315 = ad322 := (by injection e322)
             obtain ⟨ce322, hce322, hMe322, hcc322⟩ := Kd.S_get HO_5.out [] a1 p322 (by first | exact q322 | exact of_decide_eq_true (by assumption) | (have e_ := (Kd.S_reads' HO_5.out).1; omega))
             obtain ⟨ve322_0, rfl, ge322_0⟩ := hMe322
             have hv322_0 := hcc322 0 _ rfl
             rw [Nat.add_zero, show ((Kd.slice 3 (Kd.int .i64))).sz = 1 from rfl, Nat.mul_one] at hv322_0
             replace hv322_0 := Option.some.inj (hv322_0.symm.trans hx322_0)
             rw [hv322_0] at ge322_0
             have HL322_0 := Aside0.mk (show Kd.R (Kd.int .i64) 3 _ _ _ _ (rd_L3 x5_2 a1) from ge322_0)
             clear hv322_0 ge322_0
             have HX322_0 := Aside0.mk hx322_0
             clear hcc322 hce322
             have HR322_0 := Aside0.mk hi322_0
             have HC322_0 := Aside0.mk hl322_0
             clear hi322_0 hl322_0
             replace p322 := eq_true p322
             replace q322 := eq_true q322
             go_wp2
             go_ret
             exact ⟨_, by first | rfl | (simp [errW_none, errW_some] <;> rfl) | (simp only [← hji3]; first | rfl | (simp [errW_none, errW_some] <;> rfl)) | (simp [*, errW_none, errW_some] <;> rfl), by exact Kd.R_mono HL322_0.out (fun _ hk => trivial), HB.out⟩
            ·rw [if_neg c50] at H
             exact absurd H (by simp)
           ·rw [if_neg c49] at H
            exact absurd H (by simp)
       ·rw [if_neg c19] at H
        exact absurd H (by simp)
      ·rw [if_neg c18] at H
       exact absurd H (by simp)
  ·rw [if_neg c5] at H
   exact absurd H (by simp)
 ·rw [if_neg c4] at H
  exact absurd H (by simp)

end Go.Proofs.Ytafcjfilhdpgdaa.QFnChancesCompared
