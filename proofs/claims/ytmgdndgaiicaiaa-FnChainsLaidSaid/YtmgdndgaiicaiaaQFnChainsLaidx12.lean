-- WRITTEN BY A PROGRAM OF THIS CLAIM'S AUTHOR (wprint.py)
import Derived.Test.YtmgdndgaiicaiaaQFnChainsLaidx0
import Derived.Test.YtmgdndgaiicaiaaQFnChainsLaidx2
import Derived.Test.YtmgdndgaiicaiaaQFnChainsLaidx3
import Derived.Test.YtmgdndgaiicaiaaQFnChainsLaidx4
import Derived.Test.YtmgdndgaiicaiaaQFnChainsLaidx10
namespace Go.Proofs.Ytmgdndgaiicaiaa.QFnChainsLaid
open Go.RowKit Go.Proofs.YtmgdndgaiicaiaaW.PrintWords Go.Proofs.YtmgdndgaiicaiaaW.PrintLast Go.Proofs.YtmgdndgaiicaiaaW.PrintMore
attribute [local go_sem] max2_int min2_int max_two min_two max_three min_three max_four min_four   -- for this text's walks alone
set_option linter.unusedVariables false
set_option linter.unusedSimpArgs false

/-! ### spec_DrawJoinChains: function 28 -/
mutual
def spec_DrawJoinChains.j0 : Nat → List Int → Bool → List Int → Int → Int → Option (List Int × List Int)
 | 0, _, _, _, _, _ => none
 | k + 1, x5, x21, x426000, x426001, x426002 => if x21 = true then (if 0 ≤ (wrap64 ((x5.length : Int) - 1)) then (if (wrap64 ((x5.length : Int) - 1)) < (x5.length : Int) then ((spec_l1Cur_pick.f x426000 x426001 x426002 5).bind fun bt438 => (spec_DrawJoinChains.l0 k x5 (([rd x5 (wrap64 ((x5.length : Int) - 1))] : List Int)) bt438.1 x426000 bt438.2.1 bt438.2.2)) else (none)) else (none)) else ((spec_l1Cur_chain.f k x426000 x426001 x426002 5 5).bind fun bt451 => (some (x5, bt451.1)))
def spec_DrawJoinChains.l0 : Nat → List Int → List Int → Int → List Int → Int → Int → Option (List Int × List Int)
 | 0, _, _, _, _, _, _ => none
 | k + 1, x5, x6, x7, x426000, x426001, x426002 => if x7 > 0 then ((spec_l1Own.f x6).bind fun t441 => ((spec_l1Cur_pick.f x426000 x426001 x426002 6).bind fun bt444 => (if t441.length < 17592186044416 then ((some (t441 ++ [bt444.1] : List Int)).bind fun y447 => ((spec_haGood.f k y447).bind fun t450 => (if t450 = true then (spec_DrawJoinChains.l0 k x5 y447 (wrap64 (x7 - 1)) x426000 bt444.2.1 bt444.2.2) else (spec_DrawJoinChains.l0 k x5 x6 (wrap64 (x7 - 1)) x426000 bt444.2.1 bt444.2.2)))) else (none)))) else (some (x5, x6))
end
def spec_DrawJoinChains.f (k : Nat) (l0 : List Int) : Option (List Int × List Int) := (spec_l1Cur_chain.f k l0 0 0 5 5).bind fun bt426 => (if (bt426.1.length : Int) > 0 then ((spec_l1Cur_one.f l0 bt426.2.1 bt426.2.2 5).bind fun bt431 => (spec_DrawJoinChains.j0 k bt426.1 (!bt431.1) l0 bt431.2.1 bt431.2.2)) else (spec_DrawJoinChains.j0 k bt426.1 false l0 bt426.2.1 bt426.2.2))
theorem spec_DrawJoinChains.mono_l : ∀ k, (∀ y0 y1 y2 y3 y4, LeO (spec_DrawJoinChains.j0 k y0 y1 y2 y3 y4) (spec_DrawJoinChains.j0 (k + 1) y0 y1 y2 y3 y4)) ∧ (∀ y0 y1 y2 y3 y4 y5, LeO (spec_DrawJoinChains.l0 k y0 y1 y2 y3 y4 y5) (spec_DrawJoinChains.l0 (k + 1) y0 y1 y2 y3 y4 y5))
 | 0 => ⟨fun _ _ _ _ _ r h => by simp [spec_DrawJoinChains.j0] at h, fun _ _ _ _ _ _ r h => by simp [spec_DrawJoinChains.l0] at h⟩
 | k + 1 => by
  obtain ⟨ih0, ih1⟩ := spec_DrawJoinChains.mono_l k
  refine ⟨?_, ?_⟩
  ·intro y0 y1 y2 y3 y4
   unfold spec_DrawJoinChains.j0
   repeat' first
   | (with_reducible exact ih0 _ _ _ _ _)
   | (with_reducible exact ih1 _ _ _ _ _ _)
   | (with_reducible exact spec_haGood.mono _ _)
   | (with_reducible exact spec_l1Cur_chain.mono _ _ _ _ _ _)
   | (with_reducible exact LeO.refl _)
   | (with_reducible exact LeO.none _)
   | (with_reducible refine LeO.ite ?_ ?_)
   | (with_reducible refine LeO.bind ?_ (fun _ => ?_))
   | exact ih0 _ _ _ _ _
   | exact ih1 _ _ _ _ _ _
   | exact spec_haGood.mono _ _
   | exact spec_l1Cur_chain.mono _ _ _ _ _ _
   | exact LeO.none _
   | refine LeO.ite ?_ ?_
   | refine LeO.bind ?_ (fun _ => ?_)
  ·intro y0 y1 y2 y3 y4 y5
   unfold spec_DrawJoinChains.l0
   repeat' first
   | (with_reducible exact ih0 _ _ _ _ _)
   | (with_reducible exact ih1 _ _ _ _ _ _)
   | (with_reducible exact spec_haGood.mono _ _)
   | (with_reducible exact spec_l1Cur_chain.mono _ _ _ _ _ _)
   | (with_reducible exact LeO.refl _)
   | (with_reducible exact LeO.none _)
   | (with_reducible refine LeO.ite ?_ ?_)
   | (with_reducible refine LeO.bind ?_ (fun _ => ?_))
   | exact ih0 _ _ _ _ _
   | exact ih1 _ _ _ _ _ _
   | exact spec_haGood.mono _ _
   | exact spec_l1Cur_chain.mono _ _ _ _ _ _
   | exact LeO.none _
   | refine LeO.ite ?_ ?_
   | refine LeO.bind ?_ (fun _ => ?_)
theorem spec_DrawJoinChains.mono : ∀ a0 k, LeO (spec_DrawJoinChains.f k a0) (spec_DrawJoinChains.f (k + 1) a0) := by
 intro a0 k
 obtain ⟨ih0, ih1⟩ := spec_DrawJoinChains.mono_l k
 unfold spec_DrawJoinChains.f
 repeat' first
   | (with_reducible exact ih0 _ _ _ _ _)
   | (with_reducible exact ih1 _ _ _ _ _ _)
   | (with_reducible exact spec_haGood.mono _ _)
   | (with_reducible exact spec_l1Cur_chain.mono _ _ _ _ _ _)
   | (with_reducible exact LeO.refl _)
   | (with_reducible exact LeO.none _)
   | (with_reducible refine LeO.ite ?_ ?_)
   | (with_reducible refine LeO.bind ?_ (fun _ => ?_))
   | exact ih0 _ _ _ _ _
   | exact ih1 _ _ _ _ _ _
   | exact spec_haGood.mono _ _
   | exact spec_l1Cur_chain.mono _ _ _ _ _ _
   | exact LeO.none _
   | refine LeO.ite ?_ ?_
   | refine LeO.bind ?_ (fun _ => ?_)
set_option maxHeartbeats 8000000 in
set_option maxRecDepth 100000 in
theorem spec_DrawJoinChains.calls (k : Nat) (A0 : Option Addr) (c0 : Nat) (l0 : List Int) (r1 : List Int) (r2 : List Int) (w : World) (hr0 : Kd.C (Kd.int .u8) w A0 l0.length l0) (hc0 : l0.length ≤ c0) (h : spec_DrawJoinChains.f k l0 = some (r1, r2)) :
  Calls Try.prog 28 #[.slice A0 l0.length c0] w fun e w' => ∃ v0_ v1_ : Value, e = .returned (.tuple #[v0_, v1_]) ∧ Kd.R (Kd.int .i64) 3 w' w.heap.size (fun k_ => some k_ ≠ (v1_ : Value).ownBlock) v0_ r1 ∧ Kd.R (Kd.int .i64) 3 w' w.heap.size (fun k_ => some k_ ≠ (v0_ : Value).ownBlock) v1_ r2 ∧ Below w.heap.size w w' := by
 have hu70 := Try.underlying70
 have HR0 := Aside0.mk hr0
 have HC0 := Aside0.mk hc0
 clear hr0 hc0
 have HB := Aside0.mk (Below.refl w.heap.size w)
 have H : ((spec_l1Cur_chain.f k l0 0 0 5 5).bind fun bt426 => (if (bt426.1.length : Int) > 0 then ((spec_l1Cur_one.f l0 bt426.2.1 bt426.2.2 5).bind fun bt431 => (spec_DrawJoinChains.j0 k bt426.1 (!bt431.1) l0 bt431.2.1 bt431.2.2)) else (spec_DrawJoinChains.j0 k bt426.1 false l0 bt426.2.1 bt426.2.2))) = some (r1, r2) := h
 clear h
 replace H := Option.bind_eq_some_iff.mp H
 obtain ⟨⟨t426, t429, t430⟩, A20, H⟩ := H
 replace H : (if (t426.length : Int) > 0 then ((spec_l1Cur_one.f l0 t429 t430 5).bind fun bt431 => (spec_DrawJoinChains.j0 k t426 (!bt431.1) l0 bt431.2.1 bt431.2.2)) else (spec_DrawJoinChains.j0 k t426 false l0 t429 t430)) = some (r1, r2) := H
 have A2 := Aside0.mk A20
 clear A20
 have HC3 := Aside0.mk H
 clear H
 go_enter Try.func28, Try.ntmps28
 go_upto_region 3 with (first | ((with_reducible refine gate_dst (N := 11) rfl ?_); refine box_event ?hg (N := 11) ?hd (cs := #[.slice A0 l0.length c0, .int .i64 0, .int .u64 0]) (t := 70) ?hr ?_; (case hd => rfl); (case hg => rfl); (case hr => first | (go_simp; done) | (go_simp; rfl)); intro gb425 hg w4 hbox hb; have BK425 := Aside0.mk (hbox); have GW425 := Aside0.mk ((by rw [hg]; exact (below_size (bl_ HB.out)) : w.heap.size ≤ gb425)); have GE425 := Aside0.mk ((by rw [hg]; exact (below_size (bl_ HB.out)) : w.heap.size ≤ gb425)); replace HB := Aside0.mk (below_step (bl_ HB.out) hb); clear hb hbox hg) | ((with_reducible refine gate_callee (f := 59) rfl ?_); refine goesL_ (some 13) rfl rfl Try.func59 (by kernel_rfl) rfl #[.pointer (some ⟨gb425, 0, none⟩), .int .i64 5, .int .i64 5] rfl (by simp only [List.map_toArray, List.map_cons, List.map_nil] <;> rfl) ?_; (with_reducible refine (spec_l1Cur_chain.calls k gb425 l0 0 0 5 5 t426 t429 t430 w _ ?side1 ?side2 A2.out).mono ?_); (case side1 => exact ⟨_, _, by (with_reducible repeat (first | refine blk_drewN ?_ _ | refine blk_drew ?_ | refine blk_alloc ?_ _)); exact BK425.out, GE425.out, HR0.out⟩); (case side2 => repeat (first | (with_reducible first | exact HB.out | apply below_alloc | apply pw_below_drewN | apply below_drew1 | refine below_set ?_ (IsS70.ge HI425.out)) | exact HB.out)); rintro e w5 ⟨v427, rfl, ho0, hi, hb, hk⟩; refine ⟨_, rfl, ?_⟩; have HO428 := Aside0.mk (Kd.R_lower ho0 (below_size (by repeat (first | (with_reducible first | exact HB.out | apply below_alloc | apply pw_below_drewN | apply below_drew1 | refine below_set ?_ (IsS70.ge HI425.out)) | exact HB.out)))); replace HB := Aside0.mk (hb); have HI425 := Aside0.mk (hi); clear hb hk hi; (try clear ho0)))
 (try simp only [Act.put, List.setIfInBounds_toArray, List.set_cons_zero, List.set_cons_succ])
 go_cut [21] (fun v21 wc => ∃ (kq : Nat) (x21_2 : Bool) (x426001_2 : Int) (x426002_2 : Int), v21 = .bool x21_2 ∧ Aside0 (spec_DrawJoinChains.j0 kq t426 x21_2 l0 x426001_2 x426002_2 = some (r1, r2)) ∧ Aside0 (kq ≤ k) ∧ Aside0 (Kd.R (Kd.int .i64) 3 wc w.heap.size (fun _ => True) v427 t426) ∧ Aside0 (IsS70 w wc gb425 l0 x426001_2 x426002_2) ∧ Aside0 (Below w.heap.size w wc))
 case first =>
  have H := HC3.out
  clear HC3
  by_cases c6 : (t426.length : Int) > 0
  ·rw [if_pos c6] at H
   have c6b0 : decide (0 < (t426.length : Int)) = true := decide_eq_true c6
   have c6b1 : decide (0 < t426.length) = true := decide_eq_true (by omega)
   clear c6
   (first | rw [c6b0] | (simp only [i64_w, i32_w]; rw [c6b0]) | skip)
   replace H := Option.bind_eq_some_iff.mp H
   obtain ⟨⟨t431, t432, t433⟩, A70, H⟩ := H
   replace H : (spec_DrawJoinChains.j0 k t426 (!t431) l0 t432 t433) = some (r1, r2) := H
   have A7 := Aside0.mk A70
   clear A70
   have H' := Aside0.mk H
   clear H
   obtain ⟨Ao8, co8, eo8⟩ := Kd.R_slice HO428.out
   subst eo8
   go_wp2_with (first | (go_at_call 60; (with_reducible refine (spec_l1Cur_one.calls gb425 l0 t429 t430 5 t431 t432 t433 w _ ?side1 ?side2 A7.out).mono ?_); (case side1 => repeat (first | (with_reducible first | exact HI425.out | apply IsS70.alloc | apply IsS70.drewN | apply IsS70.drew | apply IsS70.set_1 | apply IsS70.set_2) | exact HI425.out)); (case side2 => repeat (first | (with_reducible first | exact HB.out | apply below_alloc | apply pw_below_drewN | apply below_drew1 | refine below_set ?_ (IsS70.ge HI425.out)) | exact HB.out)); rintro e w9 ⟨rfl, hi, hb, hk⟩; replace HO428 := Aside0.mk (Kd.R_mono (Kd.R_keep (IsS70.apart (show IsS70 w _ gb425 l0 t429 t430 from by repeat (first | (with_reducible first | exact HI425.out | apply IsS70.alloc | apply IsS70.drewN | apply IsS70.drew | apply IsS70.set_1 | apply IsS70.set_2) | exact HI425.out)) (Rl_ HO428.out) (by decide)) hk (fun _ h => h.2)) (fun _ h => h.1)); replace HB := Aside0.mk (hb); replace HI425 := Aside0.mk (hi); clear hb hk hi))
   go_meet
   case rel => exact ⟨_, (!t431), (t432), (t433), (by first | rfl | (simp; done) | (simp [*]; done)), H', ⟨by first | omega | exact Nat.le_refl _⟩, ⟨Rl_ HO428.out⟩, ⟨by repeat (first | (with_reducible first | exact HI425.out | apply IsS70.alloc | apply IsS70.drewN | apply IsS70.drew | apply IsS70.set_1 | apply IsS70.set_2) | exact HI425.out)⟩, ⟨by repeat (first | (with_reducible first | exact HB.out | apply below_alloc | apply pw_below_drewN | apply below_drew1 | refine below_set ?_ (IsS70.ge HI425.out)) | exact HB.out)⟩⟩
  ·rw [if_neg c6] at H
   have c6b0 : decide (0 < (t426.length : Int)) = false := decide_eq_false c6
   have c6b1 : decide (0 < t426.length) = false := decide_eq_false (by omega)
   clear c6
   (first | rw [c6b0] | (simp only [i64_w, i32_w]; rw [c6b0]) | skip)
   have H' := Aside0.mk H
   clear H
   obtain ⟨Ao10, co10, eo10⟩ := Kd.R_slice HO428.out
   subst eo10
   go_wp2
   go_meet
   case rel => exact ⟨_, (false), (t429), (t430), (by first | rfl | (simp; done) | (simp [*]; done)), H', ⟨by first | omega | exact Nat.le_refl _⟩, ⟨Rl_ HO428.out⟩, ⟨by repeat (first | (with_reducible first | exact HI425.out | apply IsS70.alloc | apply IsS70.drewN | apply IsS70.drew | apply IsS70.set_1 | apply IsS70.set_2) | exact HI425.out)⟩, ⟨by repeat (first | (with_reducible first | exact HB.out | apply below_alloc | apply pw_below_drewN | apply below_drew1 | refine below_set ?_ (IsS70.ge HI425.out)) | exact HB.out)⟩⟩
 case rest =>
  clear HC3
  (try clear c2); (try clear p2); (try clear c5); (try clear c6); (try clear c6b0); (try clear c6b1)
  obtain ⟨kq, x21_2, x426001_2, x426002_2, rfl, HA, HJ2, HO_5, HI425, HB⟩ := hcut
  cases kq with
  | zero => exact absurd HA.out (by simp [spec_DrawJoinChains.j0])
  | succ kj2 =>
   have H := HA.out
   clear HA
   simp only [spec_DrawJoinChains.j0] at H
   by_cases c11 : x21_2 = true
   ·subst c11
    have H1 : (if 0 ≤ (wrap64 ((t426.length : Int) - 1)) then (if (wrap64 ((t426.length : Int) - 1)) < (t426.length : Int) then ((spec_l1Cur_pick.f l0 x426001_2 x426002_2 5).bind fun bt438 => (spec_DrawJoinChains.l0 kj2 t426 (([rd t426 (wrap64 ((t426.length : Int) - 1))] : List Int)) bt438.1 l0 bt438.2.1 bt438.2.2)) else (none)) else (none)) = some (r1, r2) := by rw [if_pos rfl] at H; exact H
    clear H
    have H := H1
    clear H1
    obtain ⟨ji12, hji12⟩ : ∃ j_ : Int, (wrap64 ((t426.length : Int) - 1)) = j_ := ⟨_, rfl⟩
    replace H : (if 0 ≤ (ji12) then (if (ji12) < (t426.length : Int) then ((spec_l1Cur_pick.f l0 x426001_2 x426002_2 5).bind fun bt438 => (spec_DrawJoinChains.l0 kj2 t426 (([rd t426 (ji12)] : List Int)) bt438.1 l0 bt438.2.1 bt438.2.2)) else (none)) else (none)) = some (r1, r2) := by first | (rw [hji12] at H; exact H) | (simp only [hji12] at H ⊢; exact H)
    have hji12w : (IntKind.i64.wrap ((t426.length : Int) - 1)) = ji12 := (i64_w _).trans hji12
    obtain ⟨c13, H⟩ := ifp_ H
    have c13b0 : decide (0 ≤ (ji12)) = true := decide_eq_true c13
    clear c13
    obtain ⟨c14, H⟩ := ifp_ H
    have c14b0 : decide ((ji12) < (t426.length : Int)) = true := decide_eq_true c14
    clear c14
    obtain ⟨y435, hy435⟩ : ∃ y_ : List Int, y_ = (([rd t426 (ji12)] : List Int)) := ⟨_, rfl⟩
    replace H : ((spec_l1Cur_pick.f l0 x426001_2 x426002_2 5).bind fun bt438 => (spec_DrawJoinChains.l0 kj2 t426 y435 bt438.1 l0 bt438.2.1 bt438.2.2)) = some (r1, r2) := by first | (rw [hy435]; with_reducible exact H) | (have H2_ := (Option.bind_some _ _).symm.trans H; rw [hy435]; with_reducible exact H2_) | (have H2_ := (Option.bind_some _ _).symm.trans H; with_reducible exact H2_) | with_reducible exact H | (rw [hy435]; exact H) | exact H
    have Ny435 := Aside0.mk hy435
    clear hy435
    replace H := Option.bind_eq_some_iff.mp H
    obtain ⟨⟨t438, t439, t440⟩, A150, H⟩ := H
    replace H : (spec_DrawJoinChains.l0 kj2 t426 y435 t438 l0 t439 t440) = some (r1, r2) := H
    have A15 := Aside0.mk A150
    clear A150
    have H' := Aside0.mk H
    clear H
    obtain ⟨Ao16, co16, eo16⟩ := Kd.R_slice HO_5.out
    subst eo16
    have p434 : 0 ≤ ((ji12) : Int) := of_decide_eq_true (by first | (with_reducible assumption) | assumption)
    have q434 : (ji12) < (t426.length : Int) := of_decide_eq_true (by first | (with_reducible assumption) | assumption)
    obtain ⟨ad434, e434, hx434_0⟩ := Kd.at_int (Kd.R_reads' HO_5.out).2.2 (ji12) p434 q434
    cases e434
    replace p434 := eq_true p434
    replace q434 := eq_true q434
    go_wp2_with (first | ((with_reducible refine gate_dst (N := 28) rfl ?_); refine Kd.R_lit (Kd.int .i64) _ 3 ?hg (N := 28) ?hd (xs := ([rd t426 (ji12)] : List Int)) (inner := [.int .i64 (rd t426 (ji12))]) (ok := fun _ => True) (okp := fun _ => True) ?hr ?hp (fun _ hk => hk) trivial (Below.refl _ _) (Nat.le_refl _) (by simp) ?_; (case hd => rfl); (case hg => rfl); (case hr => first | (go_simp; done) | (go_simp; rfl)); (case hp => exact (Reps.one (show Kd.M (Kd.int .i64) _ _ _ (rd t426 (ji12)) [.int .i64 (rd t426 (ji12))] from rfl) (Reps.none _ _))); intro v436 w17 ho18 hb hg_ hnew_; clear hg_ hnew_; (first | rw [← Ny435.out] at ho18 | (simp only [Int.reduceToNat] at ho18; rw [← Ny435.out] at ho18)); have HO437 := Aside0.mk (Kd.R_lower (Kd.R_new' ho18 (Kd.R_lt (Rl_ HO_5.out))) (below_size (by repeat (first | (with_reducible first | exact HB.out | apply below_alloc | apply pw_below_drewN | apply below_drew1 | refine below_set ?_ (IsS70.ge HI425.out)) | exact HB.out)))); replace HO_5 := Aside0.mk (Kd.R_elder' (Rl_ HO_5.out) (Kd.R_base ho18) hb); replace HB := Aside0.mk (below_step (by repeat (first | (with_reducible first | exact HB.out | apply below_alloc | apply pw_below_drewN | apply below_drew1 | refine below_set ?_ (IsS70.ge HI425.out)) | exact HB.out)) hb); replace HI425 := Aside0.mk (IsS70.below (by repeat (first | (with_reducible first | exact HI425.out | apply IsS70.alloc | apply IsS70.drewN | apply IsS70.drew | apply IsS70.set_1 | apply IsS70.set_2) | exact HI425.out)) hb); clear hb ho18) | ((with_reducible refine gate_callee (f := 54) rfl ?_); refine goesL_ (some 30) rfl rfl Try.func54 (by kernel_rfl) rfl #[.pointer (some ⟨gb425, 0, none⟩), .int .i64 5] rfl (by simp only [List.map_toArray, List.map_cons, List.map_nil] <;> rfl) ?_; (with_reducible refine (spec_l1Cur_pick.calls gb425 l0 x426001_2 x426002_2 5 t438 t439 t440 w _ ?side1 ?side2 A15.out).mono ?_); (case side1 => repeat (first | (with_reducible first | exact HI425.out | apply IsS70.alloc | apply IsS70.drewN | apply IsS70.drew | apply IsS70.set_1 | apply IsS70.set_2) | exact HI425.out)); (case side2 => repeat (first | (with_reducible first | exact HB.out | apply below_alloc | apply pw_below_drewN | apply below_drew1 | refine below_set ?_ (IsS70.ge HI425.out)) | exact HB.out)); rintro e w19 ⟨rfl, hi, hb, hk⟩; refine ⟨_, rfl, ?_⟩; replace HO_5 := Aside0.mk (Kd.R_mono (Kd.R_keep (IsS70.apart (show IsS70 w _ gb425 l0 x426001_2 x426002_2 from by repeat (first | (with_reducible first | exact HI425.out | apply IsS70.alloc | apply IsS70.drewN | apply IsS70.drew | apply IsS70.set_1 | apply IsS70.set_2) | exact HI425.out)) (Rl_ HO_5.out) (by decide)) hk (fun _ h => h.2)) (fun _ h => h.1)); replace HO437 := Aside0.mk (Kd.R_mono (Kd.R_keep (IsS70.apart (show IsS70 w _ gb425 l0 x426001_2 x426002_2 from by repeat (first | (with_reducible first | exact HI425.out | apply IsS70.alloc | apply IsS70.drewN | apply IsS70.drew | apply IsS70.set_1 | apply IsS70.set_2) | exact HI425.out)) (Rl_ HO437.out) (by decide)) hk (fun _ h => h.2)) (fun _ h => h.1)); replace HB := Aside0.mk (hb); replace HI425 := Aside0.mk (hi); clear hb hk hi))
    go_loopg [6, 7] kj2 (fun kq v6 v7 w' => ∃ (x6_2 : List Int) (x7_2 : Int) (x426001_2 : Int) (x426002_2 : Int), v7 = .int .i64 x7_2 ∧ Aside0 (spec_DrawJoinChains.l0 kq t426 x6_2 x7_2 l0 x426001_2 x426002_2 = some (r1, r2)) ∧ Aside0 (kq ≤ kj2) ∧ Aside0 (Kd.R (Kd.int .i64) 3 w' w.heap.size (fun k_ => some k_ ≠ (v6 : Value).ownBlock) (.slice (some ad434) t426.length co16) t426) ∧ Aside0 (Kd.R (Kd.int .i64) 3 w' w.heap.size (fun k_ => some k_ ≠ ((.slice (some ad434) t426.length co16) : Value).ownBlock) v6 x6_2) ∧ Aside0 (IsS70 w w' gb425 l0 x426001_2 x426002_2) ∧ Aside0 (Below w.heap.size w w'))
    case atStart => exact ⟨(y435), (t438), (t439), (t440), (by first | rfl | (simp; done) | (simp [*]; done)), H', ⟨Nat.le_refl _⟩, ⟨Rl_ (Kd.R_mono HO_5.out (fun _ hk => hk.2))⟩, ⟨Rl_ (Kd.R_mono HO437.out (fun _ hk => hk.2))⟩, ⟨by repeat (first | (with_reducible first | exact HI425.out | apply IsS70.alloc | apply IsS70.drewN | apply IsS70.drew | apply IsS70.set_1 | apply IsS70.set_2) | exact HI425.out)⟩, ⟨by repeat (first | (with_reducible first | exact HB.out | apply below_alloc | apply pw_below_drewN | apply below_drew1 | refine below_set ?_ (IsS70.ge HI425.out)) | exact HB.out)⟩⟩
    case round =>
     clear H'
     (try clear c1); (try clear c2); (try clear p2); (try clear p4); (try clear q4); (try clear hx4); (try clear c5); (try clear c6); (try clear c6b0); (try clear c6b1); (try clear p6); (try clear c11); (try clear c13); (try clear c13b0); (try clear c14); (try clear c14b0); (try clear hx434_0); (try clear p2); (try clear p434); (try clear q434)
     obtain ⟨x6_2, x7_2, x426001_2, x426002_2, rfl, HA, HK2, HO_5, HO_6, HI425, HB⟩ := hrel
     cases gk with
     | zero => exact absurd HA.out (by simp [spec_DrawJoinChains.l0])
     | succ k2 =>
      have H := HA.out
      clear HA
      simp only [spec_DrawJoinChains.l0] at H
      by_cases c20 : x7_2 > 0
      ·rw [if_pos c20] at H
       have c20b0 : decide (0 < x7_2) = true := decide_eq_true c20
       clear c20
       replace H := Option.bind_eq_some_iff.mp H
       obtain ⟨t441, A210, H⟩ := H
       replace H : ((spec_l1Cur_pick.f l0 x426001_2 x426002_2 6).bind fun bt444 => (if t441.length < 17592186044416 then ((some (t441 ++ [bt444.1] : List Int)).bind fun y447 => ((spec_haGood.f k2 y447).bind fun t450 => (if t450 = true then (spec_DrawJoinChains.l0 k2 t426 y447 (wrap64 (x7_2 - 1)) l0 bt444.2.1 bt444.2.2) else (spec_DrawJoinChains.l0 k2 t426 x6_2 (wrap64 (x7_2 - 1)) l0 bt444.2.1 bt444.2.2)))) else (none))) = some (r1, r2) := H
       have A21 := Aside0.mk A210
       clear A210
       replace H := Option.bind_eq_some_iff.mp H
       obtain ⟨⟨t444, t445, t446⟩, A220, H⟩ := H
       replace H : (if t441.length < 17592186044416 then ((some (t441 ++ [t444] : List Int)).bind fun y447 => ((spec_haGood.f k2 y447).bind fun t450 => (if t450 = true then (spec_DrawJoinChains.l0 k2 t426 y447 (wrap64 (x7_2 - 1)) l0 t445 t446) else (spec_DrawJoinChains.l0 k2 t426 x6_2 (wrap64 (x7_2 - 1)) l0 t445 t446)))) else (none)) = some (r1, r2) := H
       have A22 := Aside0.mk A220
       clear A220
       obtain ⟨c23, H⟩ := ifp_ H
       have LMc23 := Aside0.mk c23
       clear c23
       obtain ⟨y447, hy447⟩ : ∃ y_ : List Int, y_ = (t441 ++ [t444]) := ⟨_, rfl⟩
       replace H : ((spec_haGood.f k2 y447).bind fun t450 => (if t450 = true then (spec_DrawJoinChains.l0 k2 t426 y447 (wrap64 (x7_2 - 1)) l0 t445 t446) else (spec_DrawJoinChains.l0 k2 t426 x6_2 (wrap64 (x7_2 - 1)) l0 t445 t446))) = some (r1, r2) := by first | (rw [hy447]; with_reducible exact H) | (have H2_ := (Option.bind_some _ _).symm.trans H; rw [hy447]; with_reducible exact H2_) | (have H2_ := (Option.bind_some _ _).symm.trans H; with_reducible exact H2_) | with_reducible exact H | (rw [hy447]; exact H) | exact H
       have Ny447 := Aside0.mk hy447
       clear hy447
       replace H := Option.bind_eq_some_iff.mp H
       obtain ⟨t450, A240, H⟩ := H
       replace H : (if t450 = true then (spec_DrawJoinChains.l0 k2 t426 y447 (wrap64 (x7_2 - 1)) l0 t445 t446) else (spec_DrawJoinChains.l0 k2 t426 x6_2 (wrap64 (x7_2 - 1)) l0 t445 t446)) = some (r1, r2) := H
       have A24 := Aside0.mk A240
       clear A240
       by_cases c25 : t450 = true
       ·subst c25
        have H1 : (spec_DrawJoinChains.l0 k2 t426 y447 (wrap64 (x7_2 - 1)) l0 t445 t446) = some (r1, r2) := by rw [if_pos rfl] at H; exact H
        clear H
        have H := H1
        clear H1
        have H' := Aside0.mk H
        clear H
        obtain ⟨Ao26, co26, eo26⟩ := Kd.R_slice HO_6.out
        subst eo26
        go_wp2_with (first | ((with_reducible refine gate_callee (f := 58) rfl ?_); refine goesL_ (some 36) rfl rfl Try.func58 (by kernel_rfl) rfl #[.slice Ao26 x6_2.length co26] rfl (by simp only [List.map_toArray, List.map_cons, List.map_nil] <;> rfl) ?_; (with_reducible refine (spec_l1Own.calls _ _ x6_2 t441 _ ?side1 ?side2 A21.out).mono ?_); (case side1 => exact Cl_ ((Kd.R_reads' HO_6.out).2.2)); (case side2 => exact (Kd.R_reads' HO_6.out).2.1); rintro e w27 ⟨v442, rfl, ho0, hb⟩; refine ⟨_, rfl, ?_⟩; have HO443 := Aside0.mk (Kd.R_lower (Kd.R_new' (Kd.R_new' ho0 (Kd.R_lt (Rl_ HO_5.out))) (Kd.R_lt (Rl_ HO_6.out))) (below_size (by repeat (first | (with_reducible first | exact HB.out | apply below_alloc | apply pw_below_drewN | apply below_drew1 | refine below_set ?_ (IsS70.ge HI425.out)) | exact HB.out)))); replace HO_5 := Aside0.mk (Kd.R_elder' (Rl_ HO_5.out) (Kd.R_base ho0) hb); replace HO_6 := Aside0.mk (Kd.R_elder' (Rl_ HO_6.out) (Kd.R_base ho0) hb); replace HB := Aside0.mk (below_step (by repeat (first | (with_reducible first | exact HB.out | apply below_alloc | apply pw_below_drewN | apply below_drew1 | refine below_set ?_ (IsS70.ge HI425.out)) | exact HB.out)) hb); replace HI425 := Aside0.mk (IsS70.below (by repeat (first | (with_reducible first | exact HI425.out | apply IsS70.alloc | apply IsS70.drewN | apply IsS70.drew | apply IsS70.set_1 | apply IsS70.set_2) | exact HI425.out)) hb); clear hb; (try clear ho0)) | ((with_reducible refine gate_callee (f := 54) rfl ?_); refine goesL_ (some 38) rfl rfl Try.func54 (by kernel_rfl) rfl #[.pointer (some ⟨gb425, 0, none⟩), .int .i64 6] rfl (by simp only [List.map_toArray, List.map_cons, List.map_nil] <;> rfl) ?_; (with_reducible refine (spec_l1Cur_pick.calls gb425 l0 x426001_2 x426002_2 6 t444 t445 t446 w _ ?side1 ?side2 A22.out).mono ?_); (case side1 => repeat (first | (with_reducible first | exact HI425.out | apply IsS70.alloc | apply IsS70.drewN | apply IsS70.drew | apply IsS70.set_1 | apply IsS70.set_2) | exact HI425.out)); (case side2 => repeat (first | (with_reducible first | exact HB.out | apply below_alloc | apply pw_below_drewN | apply below_drew1 | refine below_set ?_ (IsS70.ge HI425.out)) | exact HB.out)); rintro e w28 ⟨rfl, hi, hb, hk⟩; refine ⟨_, rfl, ?_⟩; replace HO_5 := Aside0.mk (Kd.R_mono (Kd.R_keep (IsS70.apart (show IsS70 w _ gb425 l0 x426001_2 x426002_2 from by repeat (first | (with_reducible first | exact HI425.out | apply IsS70.alloc | apply IsS70.drewN | apply IsS70.drew | apply IsS70.set_1 | apply IsS70.set_2) | exact HI425.out)) (Rl_ HO_5.out) (by decide)) hk (fun _ h => h.2)) (fun _ h => h.1)); replace HO_6 := Aside0.mk (Kd.R_mono (Kd.R_keep (IsS70.apart (show IsS70 w _ gb425 l0 x426001_2 x426002_2 from by repeat (first | (with_reducible first | exact HI425.out | apply IsS70.alloc | apply IsS70.drewN | apply IsS70.drew | apply IsS70.set_1 | apply IsS70.set_2) | exact HI425.out)) (Rl_ HO_6.out) (by decide)) hk (fun _ h => h.2)) (fun _ h => h.1)); replace HO443 := Aside0.mk (Kd.R_mono (Kd.R_keep (IsS70.apart (show IsS70 w _ gb425 l0 x426001_2 x426002_2 from by repeat (first | (with_reducible first | exact HI425.out | apply IsS70.alloc | apply IsS70.drewN | apply IsS70.drew | apply IsS70.set_1 | apply IsS70.set_2) | exact HI425.out)) (Rl_ HO443.out) (by decide)) hk (fun _ h => h.2)) (fun _ h => h.1)); replace HB := Aside0.mk (hb); replace HI425 := Aside0.mk (hi); clear hb hk hi) | ((with_reducible refine gate_builtin (b := .append) (xs := #[.tmp 36, .tmp 39]) rfl ?_); at_builtin; refine Kd.R_append (Kd.int .i64) (w0 := w) w.heap.size rfl (.tmp 36) (.tmp 39) 24 3 (.int .i64 0) 8 rfl Try.underlying24 info3 rfl (by decide) (by omega) v442 t441 t444 [.int .i64 t444] (fun k_ => some k_ ≠ (.slice (some ad434) t426.length co16 : Value).ownBlock ∧ some k_ ≠ (.slice Ao26 x6_2.length co26 : Value).ownBlock) (fun _ => False) rfl rfl ?aP (fun _ hk => hk.elim) ?aF ?aO ?aB ?aS ?aL ?_; (case aP => exact rfl); (case aB => exact (by repeat (first | (with_reducible first | exact HB.out | apply below_alloc | apply pw_below_drewN | apply below_drew1 | refine below_set ?_ (IsS70.ge HI425.out)) | exact HB.out))); (case aF => exact (fun k_ hk => ⟨Kd.fresh' (Kd.R_lt (Rl_ HO_5.out)) k_ hk, Kd.fresh' (Kd.R_lt (Rl_ HO_6.out)) k_ hk⟩)); (case aO => exact (Rl_ (Kd.R_mono HO443.out (fun _ hk => ⟨hk.1.2, hk.2⟩)))); (case aS => exact (below_size (by repeat (first | (with_reducible first | exact HB.out | apply below_alloc | apply pw_below_drewN | apply below_drew1 | refine below_set ?_ (IsS70.ge HI425.out)) | exact HB.out)))); (case aL => have := LMc23.out; omega); intro v448 w29 ho hb hg hat; rw [← Ny447.out] at ho; replace HO_5 := Aside0.mk (Kd.R_after (ok := (fun k_ => some k_ ≠ (.slice Ao26 x6_2.length co26 : Value).ownBlock)) (Rl_ HO_5.out) hg hat); replace HO_6 := Aside0.mk (Kd.R_after (ok := (fun k_ => some k_ ≠ (.slice (some ad434) t426.length co16 : Value).ownBlock)) (Rl_ HO_6.out) hg hat); replace HI425 := Aside0.mk (IsS70.grown (by repeat (first | (with_reducible first | exact HI425.out | apply IsS70.alloc | apply IsS70.drewN | apply IsS70.drew | apply IsS70.set_1 | apply IsS70.set_2) | exact HI425.out)) hg (IsS70.own_ne HI425.out HO443.out (by decide))); replace HB := Aside0.mk (hb); have HO449 := Aside0.mk (ho); clear HO443; clear ho hb hg hat; obtain ⟨Ao30, co30, eo30⟩ := Kd.R_slice HO449.out; subst eo30) | ((with_reducible refine gate_callee (f := 35) rfl ?_); refine goesL_ (some 42) rfl rfl Try.func35 (by kernel_rfl) rfl #[.slice Ao30 y447.length co30] rfl (by simp only [List.map_toArray, List.map_cons, List.map_nil] <;> rfl) ?_; (with_reducible refine (spec_haGood.calls k2 _ _ y447 true _ ?side1 ?side2 A24.out).mono ?_); (case side1 => exact Cl_ ((Kd.R_reads' HO449.out).2.2)); (case side2 => exact (Kd.R_reads' HO449.out).2.1); rintro e w31 ⟨rfl, hb⟩; refine ⟨_, rfl, ?_⟩; replace HO_5 := Aside0.mk (Kd.R_below (Rl_ HO_5.out) hb); replace HO_6 := Aside0.mk (Kd.R_below (Rl_ HO_6.out) hb); replace HO449 := Aside0.mk (Kd.R_below (Rl_ HO449.out) hb); replace HB := Aside0.mk (below_step (by repeat (first | (with_reducible first | exact HB.out | apply below_alloc | apply pw_below_drewN | apply below_drew1 | refine below_set ?_ (IsS70.ge HI425.out)) | exact HB.out)) hb); replace HI425 := Aside0.mk (IsS70.below (by repeat (first | (with_reducible first | exact HI425.out | apply IsS70.alloc | apply IsS70.drewN | apply IsS70.drew | apply IsS70.set_1 | apply IsS70.set_2) | exact HI425.out)) hb); clear hb))
        go_roundg k2
        case measure => have := HJ2.out; have := HK2.out; omega
        case rel => exact ⟨(y447), (wrap64 (x7_2 - 1)), (t445), (t446), (by first | rfl | (simp; done) | (simp [*]; done)), H', ⟨by have := HJ2.out; have := HK2.out; omega⟩, ⟨Rl_ (Kd.R_mono HO_5.out (fun _ hk => hk.2))⟩, ⟨Rl_ (Kd.R_mono HO449.out (fun _ hk => hk.1))⟩, ⟨by repeat (first | (with_reducible first | exact HI425.out | apply IsS70.alloc | apply IsS70.drewN | apply IsS70.drew | apply IsS70.set_1 | apply IsS70.set_2) | exact HI425.out)⟩, ⟨by repeat (first | (with_reducible first | exact HB.out | apply below_alloc | apply pw_below_drewN | apply below_drew1 | refine below_set ?_ (IsS70.ge HI425.out)) | exact HB.out)⟩⟩
       ·replace c25 := Bool.eq_false_iff.mpr c25
        subst c25
        have H1 : (spec_DrawJoinChains.l0 k2 t426 x6_2 (wrap64 (x7_2 - 1)) l0 t445 t446) = some (r1, r2) := by rw [if_neg (show ¬ (false = true) by decide)] at H; exact H
        clear H
        have H := H1
        clear H1
        have H' := Aside0.mk H
        clear H
        obtain ⟨Ao32, co32, eo32⟩ := Kd.R_slice HO_6.out
        subst eo32
        go_wp2_with (first | ((with_reducible refine gate_callee (f := 58) rfl ?_); refine goesL_ (some 36) rfl rfl Try.func58 (by kernel_rfl) rfl #[.slice Ao32 x6_2.length co32] rfl (by simp only [List.map_toArray, List.map_cons, List.map_nil] <;> rfl) ?_; (with_reducible refine (spec_l1Own.calls _ _ x6_2 t441 _ ?side1 ?side2 A21.out).mono ?_); (case side1 => exact Cl_ ((Kd.R_reads' HO_6.out).2.2)); (case side2 => exact (Kd.R_reads' HO_6.out).2.1); rintro e w33 ⟨v442, rfl, ho0, hb⟩; refine ⟨_, rfl, ?_⟩; have HO443 := Aside0.mk (Kd.R_lower (Kd.R_new' (Kd.R_new' ho0 (Kd.R_lt (Rl_ HO_5.out))) (Kd.R_lt (Rl_ HO_6.out))) (below_size (by repeat (first | (with_reducible first | exact HB.out | apply below_alloc | apply pw_below_drewN | apply below_drew1 | refine below_set ?_ (IsS70.ge HI425.out)) | exact HB.out)))); replace HO_5 := Aside0.mk (Kd.R_elder' (Rl_ HO_5.out) (Kd.R_base ho0) hb); replace HO_6 := Aside0.mk (Kd.R_elder' (Rl_ HO_6.out) (Kd.R_base ho0) hb); replace HB := Aside0.mk (below_step (by repeat (first | (with_reducible first | exact HB.out | apply below_alloc | apply pw_below_drewN | apply below_drew1 | refine below_set ?_ (IsS70.ge HI425.out)) | exact HB.out)) hb); replace HI425 := Aside0.mk (IsS70.below (by repeat (first | (with_reducible first | exact HI425.out | apply IsS70.alloc | apply IsS70.drewN | apply IsS70.drew | apply IsS70.set_1 | apply IsS70.set_2) | exact HI425.out)) hb); clear hb; (try clear ho0)) | ((with_reducible refine gate_callee (f := 54) rfl ?_); refine goesL_ (some 38) rfl rfl Try.func54 (by kernel_rfl) rfl #[.pointer (some ⟨gb425, 0, none⟩), .int .i64 6] rfl (by simp only [List.map_toArray, List.map_cons, List.map_nil] <;> rfl) ?_; (with_reducible refine (spec_l1Cur_pick.calls gb425 l0 x426001_2 x426002_2 6 t444 t445 t446 w _ ?side1 ?side2 A22.out).mono ?_); (case side1 => repeat (first | (with_reducible first | exact HI425.out | apply IsS70.alloc | apply IsS70.drewN | apply IsS70.drew | apply IsS70.set_1 | apply IsS70.set_2) | exact HI425.out)); (case side2 => repeat (first | (with_reducible first | exact HB.out | apply below_alloc | apply pw_below_drewN | apply below_drew1 | refine below_set ?_ (IsS70.ge HI425.out)) | exact HB.out)); rintro e w34 ⟨rfl, hi, hb, hk⟩; refine ⟨_, rfl, ?_⟩; replace HO_5 := Aside0.mk (Kd.R_mono (Kd.R_keep (IsS70.apart (show IsS70 w _ gb425 l0 x426001_2 x426002_2 from by repeat (first | (with_reducible first | exact HI425.out | apply IsS70.alloc | apply IsS70.drewN | apply IsS70.drew | apply IsS70.set_1 | apply IsS70.set_2) | exact HI425.out)) (Rl_ HO_5.out) (by decide)) hk (fun _ h => h.2)) (fun _ h => h.1)); replace HO_6 := Aside0.mk (Kd.R_mono (Kd.R_keep (IsS70.apart (show IsS70 w _ gb425 l0 x426001_2 x426002_2 from by repeat (first | (with_reducible first | exact HI425.out | apply IsS70.alloc | apply IsS70.drewN | apply IsS70.drew | apply IsS70.set_1 | apply IsS70.set_2) | exact HI425.out)) (Rl_ HO_6.out) (by decide)) hk (fun _ h => h.2)) (fun _ h => h.1)); replace HO443 := Aside0.mk (Kd.R_mono (Kd.R_keep (IsS70.apart (show IsS70 w _ gb425 l0 x426001_2 x426002_2 from by repeat (first | (with_reducible first | exact HI425.out | apply IsS70.alloc | apply IsS70.drewN | apply IsS70.drew | apply IsS70.set_1 | apply IsS70.set_2) | exact HI425.out)) (Rl_ HO443.out) (by decide)) hk (fun _ h => h.2)) (fun _ h => h.1)); replace HB := Aside0.mk (hb); replace HI425 := Aside0.mk (hi); clear hb hk hi) | ((with_reducible refine gate_builtin (b := .append) (xs := #[.tmp 36, .tmp 39]) rfl ?_); at_builtin; refine Kd.R_append (Kd.int .i64) (w0 := w) w.heap.size rfl (.tmp 36) (.tmp 39) 24 3 (.int .i64 0) 8 rfl Try.underlying24 info3 rfl (by decide) (by omega) v442 t441 t444 [.int .i64 t444] (fun k_ => some k_ ≠ (.slice (some ad434) t426.length co16 : Value).ownBlock ∧ some k_ ≠ (.slice Ao32 x6_2.length co32 : Value).ownBlock) (fun _ => False) rfl rfl ?aP (fun _ hk => hk.elim) ?aF ?aO ?aB ?aS ?aL ?_; (case aP => exact rfl); (case aB => exact (by repeat (first | (with_reducible first | exact HB.out | apply below_alloc | apply pw_below_drewN | apply below_drew1 | refine below_set ?_ (IsS70.ge HI425.out)) | exact HB.out))); (case aF => exact (fun k_ hk => ⟨Kd.fresh' (Kd.R_lt (Rl_ HO_5.out)) k_ hk, Kd.fresh' (Kd.R_lt (Rl_ HO_6.out)) k_ hk⟩)); (case aO => exact (Rl_ (Kd.R_mono HO443.out (fun _ hk => ⟨hk.1.2, hk.2⟩)))); (case aS => exact (below_size (by repeat (first | (with_reducible first | exact HB.out | apply below_alloc | apply pw_below_drewN | apply below_drew1 | refine below_set ?_ (IsS70.ge HI425.out)) | exact HB.out)))); (case aL => have := LMc23.out; omega); intro v448 w35 ho hb hg hat; rw [← Ny447.out] at ho; replace HO_5 := Aside0.mk (Kd.R_after (ok := (fun k_ => some k_ ≠ (.slice Ao32 x6_2.length co32 : Value).ownBlock)) (Rl_ HO_5.out) hg hat); replace HO_6 := Aside0.mk (Kd.R_after (ok := (fun k_ => some k_ ≠ (.slice (some ad434) t426.length co16 : Value).ownBlock)) (Rl_ HO_6.out) hg hat); replace HI425 := Aside0.mk (IsS70.grown (by repeat (first | (with_reducible first | exact HI425.out | apply IsS70.alloc | apply IsS70.drewN | apply IsS70.drew | apply IsS70.set_1 | apply IsS70.set_2) | exact HI425.out)) hg (IsS70.own_ne HI425.out HO443.out (by decide))); replace HB := Aside0.mk (hb); have HO449 := Aside0.mk (ho); clear HO443; clear ho hb hg hat; obtain ⟨Ao36, co36, eo36⟩ := Kd.R_slice HO449.out; subst eo36) | ((with_reducible refine gate_callee (f := 35) rfl ?_); refine goesL_ (some 42) rfl rfl Try.func35 (by kernel_rfl) rfl #[.slice Ao36 y447.length co36] rfl (by simp only [List.map_toArray, List.map_cons, List.map_nil] <;> rfl) ?_; (with_reducible refine (spec_haGood.calls k2 _ _ y447 false _ ?side1 ?side2 A24.out).mono ?_); (case side1 => exact Cl_ ((Kd.R_reads' HO449.out).2.2)); (case side2 => exact (Kd.R_reads' HO449.out).2.1); rintro e w37 ⟨rfl, hb⟩; refine ⟨_, rfl, ?_⟩; replace HO_5 := Aside0.mk (Kd.R_below (Rl_ HO_5.out) hb); replace HO_6 := Aside0.mk (Kd.R_below (Rl_ HO_6.out) hb); replace HO449 := Aside0.mk (Kd.R_below (Rl_ HO449.out) hb); replace HB := Aside0.mk (below_step (by repeat (first | (with_reducible first | exact HB.out | apply below_alloc | apply pw_below_drewN | apply below_drew1 | refine below_set ?_ (IsS70.ge HI425.out)) | exact HB.out)) hb); replace HI425 := Aside0.mk (IsS70.below (by repeat (first | (with_reducible first | exact HI425.out | apply IsS70.alloc | apply IsS70.drewN | apply IsS70.drew | apply IsS70.set_1 | apply IsS70.set_2) | exact HI425.out)) hb); clear hb))
        go_roundg k2
        case measure => have := HJ2.out; have := HK2.out; omega
        case rel => exact ⟨(x6_2), (wrap64 (x7_2 - 1)), (t445), (t446), (by first | rfl | (simp; done) | (simp [*]; done)), H', ⟨by have := HJ2.out; have := HK2.out; omega⟩, ⟨Rl_ (Kd.R_mono HO_5.out (fun _ hk => hk.1))⟩, ⟨Rl_ (Kd.R_mono HO_6.out (fun _ hk => hk.1))⟩, ⟨by repeat (first | (with_reducible first | exact HI425.out | apply IsS70.alloc | apply IsS70.drewN | apply IsS70.drew | apply IsS70.set_1 | apply IsS70.set_2) | exact HI425.out)⟩, ⟨by repeat (first | (with_reducible first | exact HB.out | apply below_alloc | apply pw_below_drewN | apply below_drew1 | refine below_set ?_ (IsS70.ge HI425.out)) | exact HB.out)⟩⟩
      ·rw [if_neg c20] at H
       have c20b0 : decide (0 < x7_2) = false := decide_eq_false c20
       clear c20
       simp only [Option.some.injEq, Prod.mk.injEq] at H
       obtain ⟨rfl, rfl⟩ := H
       go_wp2
       go_ret2
       exact ⟨_, _, by first | rfl | (simp [errW_none, errW_some] <;> rfl) | (simp only [← hji12]; first | rfl | (simp [errW_none, errW_some] <;> rfl)) | (simp [*, errW_none, errW_some] <;> rfl), Rl_ HO_5.out, Rl_ HO_6.out, by repeat (first | (with_reducible first | exact HB.out | apply below_alloc | apply pw_below_drewN | apply below_drew1 | refine below_set ?_ (IsS70.ge HI425.out)) | exact HB.out)⟩
   ·replace c11 := Bool.eq_false_iff.mpr c11
    subst c11
    have H1 : ((spec_l1Cur_chain.f kj2 l0 x426001_2 x426002_2 5 5).bind fun bt451 => (some (t426, bt451.1))) = some (r1, r2) := by rw [if_neg (show ¬ (false = true) by decide)] at H; exact H
    clear H
    have H := H1
    clear H1
    replace H := Option.bind_eq_some_iff.mp H
    obtain ⟨⟨t451, t454, t455⟩, A380, H⟩ := H
    replace H : (some (t426, t451)) = some (r1, r2) := H
    have A38 := Aside0.mk A380
    clear A380
    simp only [Option.some.injEq, Prod.mk.injEq] at H
    obtain ⟨rfl, rfl⟩ := H
    go_wp2_with (first | ((with_reducible refine gate_callee (f := 59) rfl ?_); refine goesL_ (some 48) rfl rfl Try.func59 (by kernel_rfl) rfl #[.pointer (some ⟨gb425, 0, none⟩), .int .i64 5, .int .i64 5] rfl (by simp only [List.map_toArray, List.map_cons, List.map_nil] <;> rfl) ?_; (with_reducible refine (spec_l1Cur_chain.calls kj2 gb425 l0 x426001_2 x426002_2 5 5 t451 t454 t455 w _ ?side1 ?side2 A38.out).mono ?_); (case side1 => repeat (first | (with_reducible first | exact HI425.out | apply IsS70.alloc | apply IsS70.drewN | apply IsS70.drew | apply IsS70.set_1 | apply IsS70.set_2) | exact HI425.out)); (case side2 => repeat (first | (with_reducible first | exact HB.out | apply below_alloc | apply pw_below_drewN | apply below_drew1 | refine below_set ?_ (IsS70.ge HI425.out)) | exact HB.out)); rintro e w39 ⟨v452, rfl, ho0, hi, hb, hk⟩; refine ⟨_, rfl, ?_⟩; have HO453 := Aside0.mk (Kd.R_lower (Kd.R_new' ho0 (Kd.R_lt (Rl_ HO_5.out))) (below_size (by repeat (first | (with_reducible first | exact HB.out | apply below_alloc | apply pw_below_drewN | apply below_drew1 | refine below_set ?_ (IsS70.ge HI425.out)) | exact HB.out)))); replace HO_5 := Aside0.mk (Kd.R_mono (Kd.R_told (Kd.R_oldK (IsS70.apart (show IsS70 w _ gb425 l0 x426001_2 x426002_2 from by repeat (first | (with_reducible first | exact HI425.out | apply IsS70.alloc | apply IsS70.drewN | apply IsS70.drew | apply IsS70.set_1 | apply IsS70.set_2) | exact HI425.out)) (Rl_ HO_5.out) (by decide)) hk) (Kd.R_base ho0)) (fun _ h_ => h_.1)); replace HB := Aside0.mk (hb); replace HI425 := Aside0.mk (hi); clear hb hk hi; (try clear ho0)))
    go_ret2
    exact ⟨_, _, by first | rfl | (simp [errW_none, errW_some] <;> rfl) | (simp [*, errW_none, errW_some] <;> rfl), Rl_ (Kd.R_mono HO_5.out (fun _ hk => hk.2)), Rl_ (Kd.R_mono HO453.out (fun _ hk => hk.2)), by repeat (first | (with_reducible first | exact HB.out | apply below_alloc | apply pw_below_drewN | apply below_drew1 | refine below_set ?_ (IsS70.ge HI425.out)) | exact HB.out)⟩

end Go.Proofs.Ytmgdndgaiicaiaa.QFnChainsLaid
