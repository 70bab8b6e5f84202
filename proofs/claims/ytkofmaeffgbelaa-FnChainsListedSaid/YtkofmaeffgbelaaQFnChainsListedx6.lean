-- WRITTEN BY A PROGRAM OF THIS CLAIM'S AUTHOR (wprint.py)
import Derived.Test.YtkofmaeffgbelaaQFnChainsListedx0
import Derived.Test.YtkofmaeffgbelaaQFnChainsListedx5
namespace Go.Proofs.Ytkofmaeffgbelaa.QFnChainsListed
open Go.RowKit Go.Proofs.YtkofmaeffgbelaaW.PrintWords Go.Proofs.YtkofmaeffgbelaaW.PrintLast Go.Proofs.YtkofmaeffgbelaaW.PrintMore
attribute [local go_sem] max2_int min2_int max_two min_two max_three min_three max_four min_four   -- for this text's walks alone
set_option linter.unusedVariables false
set_option linter.unusedSimpArgs false

/-! ### impl_areDifferent_impl_Tile: function 33 -/
def impl_areDifferent_impl_Tile.l0 : Nat → List (S39) → List (S39) → Int → Int → Option (Bool)
  | 0, _, _, _, _ => none
  | k + 1, x0, x5, x6, x7 => if x7 < x6 then (if 0 ≤ x7 then (if x7 < (x5.length : Int) then (if x7 ≤ (x0.length : Int) then ((slices_Contains_impl_Tile_impl_Tile.f k (x0.take (x7 : Int).toNat) ((rd_T39 x5 x7).f0) ((rd_T39 x5 x7).f1)).bind fun t297 => (if t297 = true then (some false) else (impl_areDifferent_impl_Tile.l0 k x0 x5 x6 (wrap64 (x7 + 1))))) else (none)) else (none)) else (none)) else (some true)
def impl_areDifferent_impl_Tile.f (k : Nat) (l0 : List (S39)) : Option (Bool) := impl_areDifferent_impl_Tile.l0 k l0 l0 (l0.length : Int) 0
set_option maxHeartbeats 8000000 in
set_option maxRecDepth 100000 in
theorem impl_areDifferent_impl_Tile.calls (k : Nat) (A0 : Option Addr) (c0 : Nat) (l0 : List (S39)) (r : Bool) (w : World) (hr0 : Kd.C k39 w A0 l0.length l0) (hc0 : l0.length ≤ c0) (h : impl_areDifferent_impl_Tile.f k l0 = some r) :
    Calls Try.prog 33 #[.slice A0 l0.length c0] w fun e w' => e = .returned (.bool r) ∧ Below w.heap.size w w' := by
  have hu39 := Try.underlying39
  have HR0 := Aside0.mk hr0
  have HC0 := Aside0.mk hc0
  clear hr0 hc0
  have HB := Aside0.mk (Below.refl w.heap.size w)
  have H : (impl_areDifferent_impl_Tile.l0 k l0 l0 (l0.length : Int) 0) = some r := h
  clear h
  have H' := Aside0.mk H
  clear H
  go_enter Try.func33, Try.ntmps33
  go_wp2
  go_loopg [7] k (fun kq v7 w' => ∃ (x7_1 : Int), v7 = .int .i64 x7_1 ∧ Aside0 (impl_areDifferent_impl_Tile.l0 kq l0 l0 (l0.length : Int) x7_1 = some r) ∧ Aside0 (kq ≤ k) ∧ Aside0 (Below w.heap.size w w'))
  case atStart => exact ⟨(0), (by first | rfl | (simp; done) | (simp [*]; done)), H', ⟨Nat.le_refl _⟩, ⟨by repeat (first | (with_reducible first | exact HB.out | apply below_alloc | apply pw_below_drewN | apply below_drew1) | exact HB.out)⟩⟩
  case round =>
    clear H'
    obtain ⟨x7_1, rfl, HA, HK1, HB⟩ := hrel
    cases gk with
    | zero => exact absurd HA.out (by simp [impl_areDifferent_impl_Tile.l0])
    | succ k1 =>
      have H := HA.out
      clear HA
      simp only [impl_areDifferent_impl_Tile.l0] at H
      by_cases c2 : x7_1 < (l0.length : Int)
      · rw [if_pos c2] at H
        have c2b0 : decide (x7_1 < (l0.length : Int)) = true := decide_eq_true c2
        clear c2
        by_cases c3 : 0 ≤ x7_1
        · rw [if_pos c3] at H
          have c3b0 : decide (0 ≤ x7_1) = true := decide_eq_true c3
          clear c3
          by_cases c4 : x7_1 < (l0.length : Int)
          · rw [if_pos c4] at H
            have c4b0 : decide (x7_1 < (l0.length : Int)) = true := decide_eq_true c4
            clear c4
            have c5b0 := eq_true (of_decide_eq_true (by first | (with_reducible assumption) | assumption) : 0 ≤ x7_1)
            by_cases c6 : x7_1 ≤ (l0.length : Int)
            · rw [if_pos c6] at H
              have c6b0 := eq_true c6
              have c6b1 : decide (x7_1 ≤ (l0.length : Int)) = true := decide_eq_true c6
              clear c6
              obtain ⟨y293, hy293⟩ : ∃ y_ : List (S39), y_ = (l0.take (x7_1 : Int).toNat) := ⟨_, rfl⟩
              replace H : ((slices_Contains_impl_Tile_impl_Tile.f k1 y293 ((rd_T39 l0 x7_1).f0) ((rd_T39 l0 x7_1).f1)).bind fun t297 => (if t297 = true then (some false) else (impl_areDifferent_impl_Tile.l0 k1 l0 l0 (l0.length : Int) (wrap64 (x7_1 + 1))))) = some r := by first | (rw [hy293]; with_reducible exact H) | (have H2_ := (Option.bind_some _ _).symm.trans H; rw [hy293]; with_reducible exact H2_) | (have H2_ := (Option.bind_some _ _).symm.trans H; with_reducible exact H2_) | with_reducible exact H | (rw [hy293]; exact H) | exact H
              have Ny293 := Aside0.mk hy293
              clear hy293
              replace H := Option.bind_eq_some_iff.mp H
              obtain ⟨t297, A70, H⟩ := H
              replace H : (if t297 = true then (some false) else (impl_areDifferent_impl_Tile.l0 k1 l0 l0 (l0.length : Int) (wrap64 (x7_1 + 1)))) = some r := H
              have A7 := Aside0.mk A70
              clear A70
              by_cases c8 : t297 = true
              · subst c8
                have H1 : (some false) = some r := by rw [if_pos rfl] at H; exact H
                clear H
                have H := H1
                clear H1
                obtain rfl := Option.some.inj H
                have p291 : 0 ≤ (x7_1 : Int) := of_decide_eq_true (by first | (with_reducible assumption) | assumption)
                have q291 : x7_1 < (l0.length : Int) := of_decide_eq_true (by first | (with_reducible assumption) | assumption)
                obtain ⟨ad291, e291, hx291_0, hx291_1⟩ := at_T39 HR0.out x7_1 p291 q291
                cases e291
                replace hx291_0 := (HB.out.cell (World.block_lt_of_cell? w _ hx291_0)).trans hx291_0
                replace hx291_1 := (HB.out.cell (World.block_lt_of_cell? w _ hx291_1)).trans hx291_1
                replace p291 := eq_true p291
                replace q291 := eq_true q291
                try go_wp2_with (first | ((with_reducible refine gate_dst (N := 4) rfl ?_); refine box_event ?hg (N := 4) ?hd (cs := #[.int .i64 0, .int .i64 0]) (t := 39) ?hr ?_; (case hd => rfl); (case hg => rfl); (case hr => first | (go_simp; done) | (go_simp; rfl)); intro gb292 hg w9 hbox hb; have BK292 := Aside0.mk (hbox); have GW292 := Aside0.mk ((by rw [hg]; exact (below_size (by repeat (first | (with_reducible first | exact HB.out | apply below_alloc | apply pw_below_drewN | apply below_drew1) | exact HB.out))) : w.heap.size ≤ gb292)); have GE292 := Aside0.mk ((by rw [hg]; exact (below_size (by repeat (first | (with_reducible first | exact HB.out | apply below_alloc | apply pw_below_drewN | apply below_drew1) | exact HB.out))) : w.heap.size ≤ gb292)); replace HB := Aside0.mk (below_step (by repeat (first | (with_reducible first | exact HB.out | apply below_alloc | apply pw_below_drewN | apply below_drew1) | exact HB.out)) hb); clear hb hbox hg; have hcz10_0 : w9.cell? ⟨gb292, 0, none⟩ = some (.int .i64 0) := (blk_cell BK292.out 0).trans rfl; have hcz10_1 : w9.cell? ⟨gb292, 1, none⟩ = some (.int .i64 0) := (blk_cell BK292.out 1).trans rfl; have hfz10_0 := blk_frozen BK292.out 0; have hfz10_1 := blk_frozen BK292.out 1))
                have n0_ : Aside0 (((w9.setCell ⟨gb292, 0, none⟩ (.int .i64 ((rd_T39 l0 x7_1).f0))).setCell ⟨gb292, 1, none⟩ (.int .i64 ((rd_T39 l0 x7_1).f1))).heap[gb292]? = some (.cells #[.int .i64 ((rd_T39 l0 x7_1).f0), .int .i64 ((rd_T39 l0 x7_1).f1)] 39 (0, 0))) := ⟨by (with_reducible repeat (first | refine blk_drewN ?_ _ | refine blk_drew ?_ | refine blk_alloc ?_ _)); refine blk_put (cs := #[.int .i64 ((rd_T39 l0 x7_1).f0), .int .i64 0]) ?_ 1 _ rfl; (with_reducible repeat (first | refine blk_drewN ?_ _ | refine blk_drew ?_ | refine blk_alloc ?_ _)); refine blk_put (cs := #[.int .i64 0, .int .i64 0]) ?_ 0 _ rfl; (with_reducible repeat (first | refine blk_drewN ?_ _ | refine blk_drew ?_ | refine blk_alloc ?_ _)); exact BK292.out⟩
                have n1_ : Aside0 (Below w.heap.size w ((w9.setCell ⟨gb292, 0, none⟩ (.int .i64 ((rd_T39 l0 x7_1).f0))).setCell ⟨gb292, 1, none⟩ (.int .i64 ((rd_T39 l0 x7_1).f1)))) := ⟨by repeat (first | (with_reducible first | exact HB.out | apply below_alloc | apply pw_below_drewN | apply below_drew1 | refine below_set ?_ GE292.out) | exact HB.out)⟩
                (try clear BK292)
                (try clear HB)
                generalize ((w9.setCell ⟨gb292, 0, none⟩ (.int .i64 ((rd_T39 l0 x7_1).f0))).setCell ⟨gb292, 1, none⟩ (.int .i64 ((rd_T39 l0 x7_1).f1))) = w11 at n0_ n1_ ⊢
                have BK292 := n0_
                have HB := n1_
                clear n0_ n1_
                replace BK292 := Aside0.mk (blk_drew BK292.out)
                replace HB := Aside0.mk (below_drew1 HB.out)
                have q13 : (x7_1 : Int) ≤ ((l0.length : Int) : Int) := of_decide_eq_true (by first | (with_reducible assumption) | assumption)
                obtain ⟨i013, hi013, _, hsz13, _⟩ := info_parts info39
                have hroom13 : l0.length ≤ c0 := HC0.out
                have hC13 : Kd.C k39 _ (some ad291) l0.length l0 := HR0.out
                have hcut13 := cut_to (P := Try.prog) 24 39 .i64 Try.underlying24 hi013 (some ad291) l0.length c0 x7_1 (of_decide_eq_true (by first | (with_reducible assumption) | assumption)) q13 hroom13
                have hr13 := Kd.C_take (m := (x7_1 : Int).toNat) hC13 (by omega)
                have hy13 : y293.length = (x7_1 : Int).toNat := (by rw [Ny293.out, List.length_take]; omega)
                rw [← Ny293.out] at hr13
                rw [← hy13] at hcut13
                have HR296 := Aside0.mk hr13
                have HC296 := Aside0.mk (show y293.length ≤ c0 from by omega)
                clear hr13 hC13 hroom13 hi013 hsz13
                have KY13 := Aside0.mk hy13
                clear hy13
                replace q13 := eq_true q13
                refine start_ (n := 5) (S := fun w' => w'.cell? ⟨gb292, 0, none⟩ = some (.int .i64 ((rd_T39 l0 x7_1).f0)) ∧ w'.cell? ⟨gb292, 1, none⟩ = some (.int .i64 ((rd_T39 l0 x7_1).f1))) (ds := []) #[false, false, false, false, false] (by kernel_rfl) rfl rfl ⟨(blk_cell BK292.out 0).trans rfl, (blk_cell BK292.out 1).trans rfl⟩ (fun hHeld => ?_)
                generalize w11.drew = w12 at BK292 HB HR296 hHeld ⊢
                refine pure_ (i := 0) (N := some 12) (v := ?_) (a' := ?_) #[true, false, false, false, false] rfl rfl (by kernel_rfl) (fun _ _ _ h => h) (Or.inl ⟨by rfl, ?_⟩) ?_ ?_
                rotate_left
                · intro w'
                  go_simp
                  with_reducible rfl
                rotate_left
                · simp only [Act.put, List.setIfInBounds_toArray, List.set_cons_zero, List.set_cons_succ, i64_w, i32_w]
                  rfl
                refine pure_ (i := 1) (N := some 13) (v := ?_) (a' := ?_) #[true, true, false, false, false] rfl rfl (by kernel_rfl) (fun _ _ _ h => h) (Or.inl ⟨by rfl, ?_⟩) ?_ ?_
                rotate_left
                · intro w'
                  go_simp
                  with_reducible rfl
                rotate_left
                · simp only [Act.put, List.setIfInBounds_toArray, List.set_cons_zero, List.set_cons_succ, i64_w, i32_w]
                  rfl
                refine pure_ (i := 2) (N := some 14) (v := ?_) (a' := ?_) #[true, true, true, false, false] rfl rfl (by kernel_rfl) (fun _ _ _ h => h) (Or.inl ⟨by rfl, ?_⟩) ?_ ?_
                rotate_left
                · intro w'
                  go_simp
                  with_reducible rfl
                rotate_left
                · simp only [Act.put, List.setIfInBounds_toArray, List.set_cons_zero, List.set_cons_succ, i64_w, i32_w]
                  rfl
                refine take_ (i := 3) (N := some 15) (v := ?_) (a' := ?_) #[true, true, true, true, false] rfl rfl (by kernel_rfl) (fun _ _ _ h => h) (Or.inl ⟨by rfl, ?_⟩) hHeld ?_ ?_
                rotate_left
                · rintro w' ⟨s0, s1⟩
                  go_simp
                  with_reducible rfl
                rotate_left
                · simp only [Act.put, List.setIfInBounds_toArray, List.set_cons_zero, List.set_cons_succ, i64_w, i32_w]
                  rfl
                refine one_ (i := 4) (N := some 16) #[true, true, true, true, true] rfl rfl (by kernel_rfl) (by decide) (fun K hK => ?_)
                refine goes_ Try.func55 (by kernel_rfl) rfl #[.slice (some ad291) y293.length c0, .agg #[.int .i64 ((rd_T39 l0 x7_1).f0), .int .i64 ((rd_T39 l0 x7_1).f1)]] (by rfl) rfl rfl (by (try simp only [List.map_toArray, List.map_cons, List.map_nil]); first | done | rfl | (simp only [List.length_drop, List.length_take]; rfl)) ?_
                with_reducible refine (slices_Contains_impl_Tile_impl_Tile.calls k1 _ _ y293 ((rd_T39 l0 x7_1).f0) ((rd_T39 l0 x7_1).f1) true _ ?side1 ?side2 A7.out).mono ?_
                (case side1 => repeat (first | exact (Kd.C_below HR296.out HB.out) | (with_reducible refine Kd.C_alloc ?_ _) | (with_reducible refine Kd.C_drewN ?_ _) | (with_reducible refine Kd.C_drew ?_)))
                (case side2 => exact HC296.out)
                rintro e w14 ⟨rfl, hb⟩
                refine ⟨_, rfl, ?_⟩
                replace BK292 := Aside0.mk (blk_below (g := gb292) (o := .cells #[.int .i64 ((rd_T39 l0 x7_1).f0), .int .i64 ((rd_T39 l0 x7_1).f1)] 39 (0, 0)) (by (with_reducible repeat (first | refine blk_drewN ?_ _ | refine blk_drew ?_ | refine blk_alloc ?_ _)); exact BK292.out) hb)
                replace HB := Aside0.mk (below_step (by repeat (first | (with_reducible first | exact HB.out | apply below_alloc | apply pw_below_drewN | apply below_drew1 | refine below_set ?_ GE292.out) | exact HB.out)) hb)
                (try clear hb)
                (try clear hb2)
                (try clear hk)
                (try clear hi)
                refine hK.out _ _ ⟨(blk_cell BK292.out 0).trans rfl, (blk_cell BK292.out 1).trans rfl⟩ (fun hHeld => ?_)
                clear hK K
                refine norm_ (a' := ?_) ?_ ?_
                rotate_left
                · show Act.put _ (some 16) _ = _
                  simp only [Act.put, List.setIfInBounds_toArray, List.set_cons_zero, List.set_cons_succ, i64_w, i32_w]
                  rfl
                refine done_ (by kernel_rfl) ?_
                try go_wp2
                go_ret
                exact ⟨by first | rfl | (simp [errW_none, errW_some] <;> rfl) | (simp [*, errW_none, errW_some] <;> rfl), by repeat (first | (with_reducible first | exact HB.out | apply below_alloc | apply pw_below_drewN | apply below_drew1 | refine below_set ?_ GE292.out) | exact HB.out)⟩
              · replace c8 := Bool.eq_false_iff.mpr c8
                subst c8
                have H1 : (impl_areDifferent_impl_Tile.l0 k1 l0 l0 (l0.length : Int) (wrap64 (x7_1 + 1))) = some r := by rw [if_neg (show ¬ (false = true) by decide)] at H; exact H
                clear H
                have H := H1
                clear H1
                have H' := Aside0.mk H
                clear H
                have p291 : 0 ≤ (x7_1 : Int) := of_decide_eq_true (by first | (with_reducible assumption) | assumption)
                have q291 : x7_1 < (l0.length : Int) := of_decide_eq_true (by first | (with_reducible assumption) | assumption)
                obtain ⟨ad291, e291, hx291_0, hx291_1⟩ := at_T39 HR0.out x7_1 p291 q291
                cases e291
                replace hx291_0 := (HB.out.cell (World.block_lt_of_cell? w _ hx291_0)).trans hx291_0
                replace hx291_1 := (HB.out.cell (World.block_lt_of_cell? w _ hx291_1)).trans hx291_1
                replace p291 := eq_true p291
                replace q291 := eq_true q291
                try go_wp2_with (first | ((with_reducible refine gate_dst (N := 4) rfl ?_); refine box_event ?hg (N := 4) ?hd (cs := #[.int .i64 0, .int .i64 0]) (t := 39) ?hr ?_; (case hd => rfl); (case hg => rfl); (case hr => first | (go_simp; done) | (go_simp; rfl)); intro gb292 hg w15 hbox hb; have BK292 := Aside0.mk (hbox); have GW292 := Aside0.mk ((by rw [hg]; exact (below_size (by repeat (first | (with_reducible first | exact HB.out | apply below_alloc | apply pw_below_drewN | apply below_drew1) | exact HB.out))) : w.heap.size ≤ gb292)); have GE292 := Aside0.mk ((by rw [hg]; exact (below_size (by repeat (first | (with_reducible first | exact HB.out | apply below_alloc | apply pw_below_drewN | apply below_drew1) | exact HB.out))) : w.heap.size ≤ gb292)); replace HB := Aside0.mk (below_step (by repeat (first | (with_reducible first | exact HB.out | apply below_alloc | apply pw_below_drewN | apply below_drew1) | exact HB.out)) hb); clear hb hbox hg; have hcz16_0 : w15.cell? ⟨gb292, 0, none⟩ = some (.int .i64 0) := (blk_cell BK292.out 0).trans rfl; have hcz16_1 : w15.cell? ⟨gb292, 1, none⟩ = some (.int .i64 0) := (blk_cell BK292.out 1).trans rfl; have hfz16_0 := blk_frozen BK292.out 0; have hfz16_1 := blk_frozen BK292.out 1))
                have n0_ : Aside0 (((w15.setCell ⟨gb292, 0, none⟩ (.int .i64 ((rd_T39 l0 x7_1).f0))).setCell ⟨gb292, 1, none⟩ (.int .i64 ((rd_T39 l0 x7_1).f1))).heap[gb292]? = some (.cells #[.int .i64 ((rd_T39 l0 x7_1).f0), .int .i64 ((rd_T39 l0 x7_1).f1)] 39 (0, 0))) := ⟨by (with_reducible repeat (first | refine blk_drewN ?_ _ | refine blk_drew ?_ | refine blk_alloc ?_ _)); refine blk_put (cs := #[.int .i64 ((rd_T39 l0 x7_1).f0), .int .i64 0]) ?_ 1 _ rfl; (with_reducible repeat (first | refine blk_drewN ?_ _ | refine blk_drew ?_ | refine blk_alloc ?_ _)); refine blk_put (cs := #[.int .i64 0, .int .i64 0]) ?_ 0 _ rfl; (with_reducible repeat (first | refine blk_drewN ?_ _ | refine blk_drew ?_ | refine blk_alloc ?_ _)); exact BK292.out⟩
                have n1_ : Aside0 (Below w.heap.size w ((w15.setCell ⟨gb292, 0, none⟩ (.int .i64 ((rd_T39 l0 x7_1).f0))).setCell ⟨gb292, 1, none⟩ (.int .i64 ((rd_T39 l0 x7_1).f1)))) := ⟨by repeat (first | (with_reducible first | exact HB.out | apply below_alloc | apply pw_below_drewN | apply below_drew1 | refine below_set ?_ GE292.out) | exact HB.out)⟩
                (try clear BK292)
                (try clear HB)
                generalize ((w15.setCell ⟨gb292, 0, none⟩ (.int .i64 ((rd_T39 l0 x7_1).f0))).setCell ⟨gb292, 1, none⟩ (.int .i64 ((rd_T39 l0 x7_1).f1))) = w17 at n0_ n1_ ⊢
                have BK292 := n0_
                have HB := n1_
                clear n0_ n1_
                replace BK292 := Aside0.mk (blk_drew BK292.out)
                replace HB := Aside0.mk (below_drew1 HB.out)
                have q19 : (x7_1 : Int) ≤ ((l0.length : Int) : Int) := of_decide_eq_true (by first | (with_reducible assumption) | assumption)
                obtain ⟨i019, hi019, _, hsz19, _⟩ := info_parts info39
                have hroom19 : l0.length ≤ c0 := HC0.out
                have hC19 : Kd.C k39 _ (some ad291) l0.length l0 := HR0.out
                have hcut19 := cut_to (P := Try.prog) 24 39 .i64 Try.underlying24 hi019 (some ad291) l0.length c0 x7_1 (of_decide_eq_true (by first | (with_reducible assumption) | assumption)) q19 hroom19
                have hr19 := Kd.C_take (m := (x7_1 : Int).toNat) hC19 (by omega)
                have hy19 : y293.length = (x7_1 : Int).toNat := (by rw [Ny293.out, List.length_take]; omega)
                rw [← Ny293.out] at hr19
                rw [← hy19] at hcut19
                have HR296 := Aside0.mk hr19
                have HC296 := Aside0.mk (show y293.length ≤ c0 from by omega)
                clear hr19 hC19 hroom19 hi019 hsz19
                have KY19 := Aside0.mk hy19
                clear hy19
                replace q19 := eq_true q19
                refine start_ (n := 5) (S := fun w' => w'.cell? ⟨gb292, 0, none⟩ = some (.int .i64 ((rd_T39 l0 x7_1).f0)) ∧ w'.cell? ⟨gb292, 1, none⟩ = some (.int .i64 ((rd_T39 l0 x7_1).f1))) (ds := []) #[false, false, false, false, false] (by kernel_rfl) rfl rfl ⟨(blk_cell BK292.out 0).trans rfl, (blk_cell BK292.out 1).trans rfl⟩ (fun hHeld => ?_)
                generalize w17.drew = w18 at BK292 HB HR296 hHeld ⊢
                refine pure_ (i := 0) (N := some 12) (v := ?_) (a' := ?_) #[true, false, false, false, false] rfl rfl (by kernel_rfl) (fun _ _ _ h => h) (Or.inl ⟨by rfl, ?_⟩) ?_ ?_
                rotate_left
                · intro w'
                  go_simp
                  with_reducible rfl
                rotate_left
                · simp only [Act.put, List.setIfInBounds_toArray, List.set_cons_zero, List.set_cons_succ, i64_w, i32_w]
                  rfl
                refine pure_ (i := 1) (N := some 13) (v := ?_) (a' := ?_) #[true, true, false, false, false] rfl rfl (by kernel_rfl) (fun _ _ _ h => h) (Or.inl ⟨by rfl, ?_⟩) ?_ ?_
                rotate_left
                · intro w'
                  go_simp
                  with_reducible rfl
                rotate_left
                · simp only [Act.put, List.setIfInBounds_toArray, List.set_cons_zero, List.set_cons_succ, i64_w, i32_w]
                  rfl
                refine pure_ (i := 2) (N := some 14) (v := ?_) (a' := ?_) #[true, true, true, false, false] rfl rfl (by kernel_rfl) (fun _ _ _ h => h) (Or.inl ⟨by rfl, ?_⟩) ?_ ?_
                rotate_left
                · intro w'
                  go_simp
                  with_reducible rfl
                rotate_left
                · simp only [Act.put, List.setIfInBounds_toArray, List.set_cons_zero, List.set_cons_succ, i64_w, i32_w]
                  rfl
                refine take_ (i := 3) (N := some 15) (v := ?_) (a' := ?_) #[true, true, true, true, false] rfl rfl (by kernel_rfl) (fun _ _ _ h => h) (Or.inl ⟨by rfl, ?_⟩) hHeld ?_ ?_
                rotate_left
                · rintro w' ⟨s0, s1⟩
                  go_simp
                  with_reducible rfl
                rotate_left
                · simp only [Act.put, List.setIfInBounds_toArray, List.set_cons_zero, List.set_cons_succ, i64_w, i32_w]
                  rfl
                refine one_ (i := 4) (N := some 16) #[true, true, true, true, true] rfl rfl (by kernel_rfl) (by decide) (fun K hK => ?_)
                refine goes_ Try.func55 (by kernel_rfl) rfl #[.slice (some ad291) y293.length c0, .agg #[.int .i64 ((rd_T39 l0 x7_1).f0), .int .i64 ((rd_T39 l0 x7_1).f1)]] (by rfl) rfl rfl (by (try simp only [List.map_toArray, List.map_cons, List.map_nil]); first | done | rfl | (simp only [List.length_drop, List.length_take]; rfl)) ?_
                with_reducible refine (slices_Contains_impl_Tile_impl_Tile.calls k1 _ _ y293 ((rd_T39 l0 x7_1).f0) ((rd_T39 l0 x7_1).f1) false _ ?side1 ?side2 A7.out).mono ?_
                (case side1 => repeat (first | exact (Kd.C_below HR296.out HB.out) | (with_reducible refine Kd.C_alloc ?_ _) | (with_reducible refine Kd.C_drewN ?_ _) | (with_reducible refine Kd.C_drew ?_)))
                (case side2 => exact HC296.out)
                rintro e w20 ⟨rfl, hb⟩
                refine ⟨_, rfl, ?_⟩
                replace BK292 := Aside0.mk (blk_below (g := gb292) (o := .cells #[.int .i64 ((rd_T39 l0 x7_1).f0), .int .i64 ((rd_T39 l0 x7_1).f1)] 39 (0, 0)) (by (with_reducible repeat (first | refine blk_drewN ?_ _ | refine blk_drew ?_ | refine blk_alloc ?_ _)); exact BK292.out) hb)
                replace HB := Aside0.mk (below_step (by repeat (first | (with_reducible first | exact HB.out | apply below_alloc | apply pw_below_drewN | apply below_drew1 | refine below_set ?_ GE292.out) | exact HB.out)) hb)
                (try clear hb)
                (try clear hb2)
                (try clear hk)
                (try clear hi)
                refine hK.out _ _ ⟨(blk_cell BK292.out 0).trans rfl, (blk_cell BK292.out 1).trans rfl⟩ (fun hHeld => ?_)
                clear hK K
                refine norm_ (a' := ?_) ?_ ?_
                rotate_left
                · show Act.put _ (some 16) _ = _
                  simp only [Act.put, List.setIfInBounds_toArray, List.set_cons_zero, List.set_cons_succ, i64_w, i32_w]
                  rfl
                refine done_ (by kernel_rfl) ?_
                try go_wp2
                go_roundg k1
                case measure => have := HK1.out; omega
                case rel => exact ⟨(wrap64 (x7_1 + 1)), (by first | rfl | (simp; done) | (simp [*]; done)), H', ⟨by have := HK1.out; omega⟩, ⟨by repeat (first | (with_reducible first | exact HB.out | apply below_alloc | apply pw_below_drewN | apply below_drew1 | refine below_set ?_ GE292.out) | exact HB.out)⟩⟩
            · rw [if_neg c6] at H
              exact absurd H (by simp)
          · rw [if_neg c4] at H
            exact absurd H (by simp)
        · rw [if_neg c3] at H
          exact absurd H (by simp)
      · rw [if_neg c2] at H
        have c2b0 : decide (x7_1 < (l0.length : Int)) = false := decide_eq_false c2
        clear c2
        obtain rfl := Option.some.inj H
        go_wp2
        go_ret
        exact ⟨by first | rfl | (simp [errW_none, errW_some] <;> rfl) | (simp [*, errW_none, errW_some] <;> rfl), by repeat (first | (with_reducible first | exact HB.out | apply below_alloc | apply pw_below_drewN | apply below_drew1) | exact HB.out)⟩

/-! ### impl_IsHand: function 14, by hand -/
/-- Is it no tile? -/
def noTile (x : S39) : Bool := !(decide (0 ≤ x.f0) && (decide (x.f0 ≤ x.f1) && decide (x.f1 ≤ 9)))
theorem noTile_f (x : S39) : impl_IsHand_1.f x.f0 x.f1 = some (noTile x) := by
  unfold impl_IsHand_1.f impl_IsTile.f impl_within.f noTile
  by_cases h1 : 0 ≤ x.f0
  · rw [if_pos h1]
    by_cases h2 : x.f0 ≤ x.f1
    · simp [h1, h2]
    · simp [h1, h2]
  · simp [h1]

/-- IsHand: few tiles, tiles all, and no two the same. -/
def impl_IsHand.f (k : Nat) (l0 : List S39) : Option Bool := if (l0.length : Int) ≤ 55 then (if l0.any noTile = true then some false else impl_areDifferent_impl_Tile.f k l0) else some false
set_option maxHeartbeats 1000000 in
set_option maxRecDepth 100000 in
theorem impl_IsHand.calls (k : Nat) (A0 : Option Addr) (c0 : Nat) (l0 : List (S39)) (r : Bool) (w : World) (hr0 : Kd.C k39 w A0 l0.length l0) (hc0 : l0.length ≤ c0) (h : impl_IsHand.f k l0 = some r) :
    Calls Try.prog 14 #[.slice A0 l0.length c0] w fun e w' => e = .returned (.bool r) ∧ Below w.heap.size w w' := by
  have hcon := conT 31 #[] noTile A0 c0 l0 w hr0 (enters_of' Try.func31 (by kernel_rfl) rfl) (fun x W _ => impl_IsHand_1.calls x.f0 x.f1 (noTile x) W (noTile_f x))
  have HR := Lib.hid hr0
  clear hr0
  unfold impl_IsHand.f at h
  by_cases h1 : (l0.length : Int) ≤ 55
  · rw [if_pos h1] at h
    have d1 : decide ((l0.length : Int) ≤ 55) = true := decide_eq_true h1
    have d2 : decide (l0.length ≤ 55) = true := decide_eq_true (by omega)
    by_cases h2 : l0.any noTile = true
    · rw [if_pos h2] at h
      obtain rfl := Option.some.inj h
      rw [h2] at hcon
      clear h h2 h1
      go_enter Try.func14, Try.ntmps14
      go_wp2_with (go_at_call 30; refine hcon.mono ?_; rintro e w' ⟨rfl, hb⟩)
      go_ret
      exact ⟨rfl, hb⟩
    · rw [if_neg h2] at h
      have h3 := Bool.eq_false_iff.mpr h2
      rw [h3] at hcon
      have HK := Lib.hid h
      clear h h2 h3 h1
      go_enter Try.func14, Try.ntmps14
      go_wp2_with (first | (go_at_call 30; refine hcon.mono ?_; rintro e w1 ⟨rfl, hb⟩) | (go_at_call 33; refine (impl_areDifferent_impl_Tile.calls k A0 c0 l0 r _ (Kd.C_below HR.out hb) hc0 HK.out).mono ?_; rintro e w2 ⟨rfl, hb2⟩))
      go_ret
      exact ⟨rfl, hb.trans (hb2.mono hb.size)⟩
  · rw [if_neg h1] at h
    obtain rfl := Option.some.inj h
    have d1 : decide ((l0.length : Int) ≤ 55) = false := decide_eq_false h1
    have d2 : decide (l0.length ≤ 55) = false := decide_eq_false (by omega)
    clear h h1
    go_enter Try.func14, Try.ntmps14
    go_wp2
    go_ret
    exact ⟨rfl, Below.refl _ _⟩

/-! ### impl_isChained: function 23 -/
def impl_isChained.f (k : Nat) (l0 : List (S39)) : Option (Bool) := (impl_IsHand.f k l0).bind fun t298 => (if t298 = true then (some (decide ((l0.length : Int) ≤ 8))) else (some false))
/-! ### impl_tile: function 45 -/
def impl_tile.f (a0 : Int) (a1 : Int) : Option (Int × Int) := some (mn a0 a1, mx a0 a1)
/-! ### slices_Clone_int_int: function 46, by hand -/
theorem slices_Clone_int_int.info : (Try.prog.info? 3).map (fun i => (i.zero, i.size, i.bytes)) = some (some (.int .i64 0), (Kd.int .i64).sz, 8) := by kernel_rfl
/-- A copy in memory of its own (nil of nil). -/
def slices_Clone_int_int.f (l0 : List (Int)) : Option (List (Int)) := if l0.length < 17592186044416 then some l0 else none
set_option maxHeartbeats 1000000 in
theorem slices_Clone_int_int.calls (A0 : Option Addr) (c0 : Nat) (l0 : List (Int)) (r : List (Int)) (w : World) (hr0 : Kd.C (Kd.int .i64) w A0 l0.length l0) (_hc0 : l0.length ≤ c0) (h : slices_Clone_int_int.f l0 = some r) :
    Calls Try.prog 46 #[.slice A0 l0.length c0] w fun e w' => ∃ v0_ : Value, e = .returned (v0_) ∧ Kd.R (Kd.int .i64) 3 w' w.heap.size (fun _ => True) v0_ r ∧ Below w.heap.size w w' := by
  unfold slices_Clone_int_int.f at h
  by_cases hl : l0.length < 17592186044416
  · rw [if_pos hl] at h
    obtain rfl := Option.some.inj h
    clear h
    cases A0 with
    | none =>
      have hz : l0 = [] := by
        cases l0 with
        | nil => rfl
        | cons x xs =>
          obtain ⟨ad, e, _⟩ := hr0.2.2 (by simp)
          cases e
      subst hz
      clear hr0 hl
      have hq := fun (W : World) => Lib.run_eql_slice_nil (P := Try.prog) W 29 3 none 0 c0 0 0 Try.underlying29
      go_enter Try.func46, Try.ntmps46
      go_wp2
      go_ret
      exact ⟨_, rfl, Kd.R_nil _ _ _ _ _, Below.refl _ _⟩
    | some ad =>
      have hq := fun (W : World) => Lib.run_eql_slice_nil (P := Try.prog) W 29 3 (some ad) l0.length c0 0 0 Try.underlying29
      have HR := Lib.hid hr0
      clear hr0
      go_enter Try.func46, Try.ntmps46
      go_wp2_with (first
        | ((with_reducible refine gate_dst (N := 5) rfl ?_); refine Kd.R_lit (Kd.int .i64) _ 3 ?hg (N := 5) ?hd (xs := ([] : List (Int))) (inner := []) (ok := fun _ => True) (okp := fun _ => True) ?hr ?hp (fun _ hk => hk) trivial (Below.refl _ _) (Nat.le_refl _) (by simp) ?_; (case hd => rfl); (case hg => rfl); (case hr => first | (go_simp; done) | (go_simp; rfl)); (case hp => exact (Reps.none _ _)); intro v1 w1 ho1 hb1 hg_ hnew_; clear hg_ hnew_)
        | ((with_reducible refine gate_builtin (b := .append) (xs := #[.tmp 5, .tmp 6]) rfl ?_); at_builtin; refine Kd.R_append_rows (Kd.int .i64) (w0 := w) w.heap.size rfl (.tmp 5) (.tmp 6) 29 3 (.int .i64 0) 8 rfl Try.underlying29 slices_Clone_int_int.info rfl (by decide) (by omega) v1 [] l0 _ _ _ (fun _ => True) (fun _ => False) rfl rfl ?aO ?aR (fun _ _ h => h) (fun _ h => h.elim) ?aF ?aB ?aS ?aL ?_; (case aR => exact Kd.C_below HR.out hb1); (case aB => exact hb1); (case aF => exact (fun _ _ => trivial)); (case aO => exact ho1); (case aS => exact hb1.size); (case aL => simp; omega); intro v2 w2 ho2 hb2 hg hat))
      go_ret
      exact ⟨_, rfl, ho2, hb2⟩
  · rw [if_neg hl] at h
    exact absurd h (by simp)


/-! ### slices_Delete_impl_Tile_impl_Tile: function 47, by hand -/
/-! ### slices.Delete of one element, at a row of the call's own -/
theorem R_past {α : Type} {d : Kd α} {e base n cap g j : Nat} {ok : Nat → Prop} {W : World} {xs : List α} (h : d.R e W base ok (.slice (some ⟨g, 0, none⟩) n cap) xs) (hj : n * d.sz ≤ j) (u : Value) :
    d.R e (W.setCell ⟨g, j, none⟩ u) base ok (.slice (some ⟨g, 0, none⟩) n cap) xs := by
  obtain ⟨hok, inner, ⟨hl, hown⟩, hr⟩ := h
  have hne : ∀ k, (ok k ∧ some k ≠ (Value.slice (some ⟨g, 0, none⟩) n cap).ownBlock) → k ≠ g := by
    rintro k ⟨_, hk⟩ rfl
    exact hk rfl
  rcases hown with ⟨hv, _⟩ | ⟨g', cap', cur, hv, hb, hh, hn, hm, hs, ht⟩
  · cases hv
  · injection hv with h1 h2 h3
    injection h1 with h1
    injection h1 with h1
    subst h1
    subst h3
    subst h2
    refine ⟨hok, inner, ⟨hl, .inr ⟨g, cap, cur.setIfInBounds j u, rfl, hb, blk_set hh j u, hn, hm, by rw [Array.size_setIfInBounds]; exact hs, ?_⟩⟩, hr.imp_ (fun p c hp => ?_)⟩
    · rw [← ht, Array.toList_setIfInBounds, List.take_set_of_le (by omega)]
    · exact Kd.M_far (p := ⟨g, j, none⟩) hp hne u
theorem R_past2 {α : Type} {d : Kd α} {e base n cap g j : Nat} {ok : Nat → Prop} {W : World} {xs : List α} (h : d.R e W base ok (.slice (some ⟨g, 0, none⟩) n cap) xs) (hj : n * d.sz ≤ j) (us : List Value) :
    d.R e (W.setCells g j us) base ok (.slice (some ⟨g, 0, none⟩) n cap) xs := by
  induction us generalizing W j with
  | nil => exact h
  | cons u us ih => exact ih (R_past h hj u) (by omega)
theorem below_cells {base g j : Nat} {w W : World} (h : Below base w W) (hg : base ≤ g) (us : List Value) : Below base w (W.setCells g j us) := by
  induction us generalizing W j with
  | nil => exact h
  | cons u us ih => exact ih (h.setCell hg _)
theorem delT_info : (Try.prog.info? 39).map (·.size) = some k39.sz := by kernel_rfl
theorem grown_cell {g j : Nat} {w W : World} (h : w.grownBy W (some g)) (u : Value) : w.grownBy (W.setCell ⟨g, j, none⟩ u) (some g) :=
  ⟨h.os, h.tape, h.output, by rw [World.size_setCell]; exact h.size, fun i hi hr => (Below.heap_setCell W ⟨g, j, none⟩ u i (fun e => hr (by rw [e]))).trans (h.block i hi hr)⟩
theorem grown_cells {g j : Nat} {w W : World} (h : w.grownBy W (some g)) (us : List Value) : w.grownBy (W.setCells g j us) (some g) := by
  induction us generalizing W j with
  | nil => exact h
  | cons u us ih => exact ih (grown_cell h u)
theorem zeroT_ (w : World) : (zeroValue 39).run Try.prog w = .ok (.agg #[.int .i64 0, .int .i64 0]) w := by kernel_rfl
theorem clearT_ {w : World} {g o c : Nat} {cur : Array Value} (hh : w.heap[g]? = some (.cells cur 39 (0, 0))) (hs : o + 2 ≤ cur.size) (ty : TypeId) :
    (Builtin.clear_ #[24] ty #[.slice (some ⟨g, o, none⟩) 1 c]).run Try.prog w = .ok (.tuple #[]) (w.setCells g o [.int .i64 0, .int .i64 0]) := by
  have hst := run_storeCells_cells (P := Try.prog) g o [.int .i64 0, .int .i64 0] 0 w
    (fun j hj => by
      rw [blk_cell hh]
      have : o + 0 + j < cur.size := by simp at hj; omega
      rw [Array.getElem?_eq_getElem this]
      rfl)
    (fun j hj => blk_frozen hh _) (fun v hv => by simp at hv; subst hv; rfl)
  simp only [Nat.add_zero] at hst
  have hzc : (Builtin.zeroCells (Value.agg #[.int .i64 0, .int .i64 0]).cells 1).toList = [.int .i64 0, .int .i64 0] := by kernel_rfl
  simp [Builtin.clear_, run_underlying Try.underlying24, zeroT_, hzc, hst]
set_option maxHeartbeats 4000000 in
set_option maxRecDepth 1000000 in
theorem delT (w : World) (base g cap k m : Nat) (ok : Nat → Prop) (l : List S39) (hb : base ≤ w.heap.size) (hl : l.length = m + 1) (hk : k ≤ m) (hR : Kd.R k39 39 w base ok (.slice (some ⟨g, 0, none⟩) (m + 1) cap) l) :
    Calls Try.prog 47 #[.slice (some ⟨g, 0, none⟩) (m + 1) cap, .int .i64 k, .int .i64 ((k : Int) + 1)] w fun e w' => e = .returned (.slice (some ⟨g, 0, none⟩) m cap) ∧ Kd.R k39 39 w' base ok (.slice (some ⟨g, 0, none⟩) m cap) (l.eraseIdx k) ∧ Below base w w' ∧ w.grownBy w' (some g) := by
  obtain ⟨cur, hok, hbg, hh, hn, hm, hs⟩ : ∃ cur, (∀ k, some g = some k → ok k) ∧ base ≤ g ∧ w.heap[g]? = some (.cells cur 39 (0, 0)) ∧ m + 1 ≤ cap ∧ cap ≤ maxLen ∧ cur.size = cap * 2 := by
    obtain ⟨hok, inner, ⟨hlen, hown⟩, hrep⟩ := hR
    rcases hown with ⟨hv, _⟩ | ⟨g', cap', cur, hv, hb, hh, hn, hm, hs, ht⟩
    · cases hv
    · injection hv with h1 h2 h3
      injection h1 with h1
      injection h1 with h1
      subst h1
      subst h3
      exact ⟨cur, hok, hb, hh, by omega, hm, hs⟩
  have HR := Lib.hid hR
  have HL := Lib.hid hl
  unfold maxLen at hm
  have huel := Try.underlying39
  have hkc : k ≤ cap := by omega
  have hkd : k + 1 ≤ cap := by omega
  have hkl : k + 1 ≤ m + 1 := by omega
  have hi0 : 0 ≤ (k : Int) + 1 := by omega
  have hi1 : (k : Int) + 1 ≤ ((m + 1 : Nat) : Int) := by omega
  have hi2 : (k : Int) + 1 ≤ ((m : Nat) : Int) + 1 := by omega
  have hcm : ¬ cap = m := by omega
  have hA : (if cap = k + 1 then (some ⟨g, 0, none⟩ : Option Addr) else some ⟨g, (k + 1) * 2, none⟩) = if cap = k + 1 then some ⟨g, 0, none⟩ else (some (⟨g, 0, none⟩ : Addr)).map (·.add ((k + 1) * k39.sz)) := by
    by_cases h : cap = k + 1
    · rw [if_pos h, if_pos h]
    · rw [if_neg h, if_neg h, Option.map_some, add_plain]
      rfl
  have HA := Lib.hid hA
  clear hR hh hs hok hl hA
  go_enter Try.func47, Try.ntmps47
  go_wp2_with fail
  go_region_law (refine Kd.R_delete_step k39 (w0 := w) (g := g) (n := m + 1) (c := cap) (k := k) (m := m + 1 - (k + 1)) (c2 := cap - (k + 1)) (A := if cap = k + 1 then (some ⟨g, 0, none⟩ : Option Addr) else some ⟨g, (k + 1) * 2, none⟩) (xs := l) (ok := ok) base rfl (.tmp 22) (.tmp 25) 24 39 rfl Try.underlying24 delT_info (by rfl) (by first | rfl | (simp [Act.eval, Act.put]; done)) HA.out rfl (Kd.R_drewN HR.out 1) (by omega) (below_drew1 (Below.refl _ _)) hb ?_; intro w1 hr1 hb1 hg1)
  have HR1 := Lib.hid hr1
  have HG1 := Lib.hid hg1
  have hcl : ∀ ty, (Builtin.clear_ #[24] ty #[.slice (some ⟨g, m * 2, none⟩) 1 (cap - m)]).run Try.prog w1 = .ok (.tuple #[]) (w1.setCells g (m * 2) [.int .i64 0, .int .i64 0]) := by
    intro ty
    obtain ⟨cur, hh, hs⟩ : ∃ cur, w1.heap[g]? = some (.cells cur 39 (0, 0)) ∧ cur.size = cap * 2 := by
      obtain ⟨hok, inner, ⟨hlen, hown⟩, hrep⟩ := hr1
      rcases hown with ⟨hv, _⟩ | ⟨g', cap', cur, hv, hb, hh, hn, hm, hs, ht⟩
      · cases hv
      · injection hv with h1 h2 h3
        injection h1 with h1
        injection h1 with h1
        subst h1
        subst h3
        exact ⟨cur, hh, hs⟩
    exact clearT_ hh (by omega) ty
  clear hr1 hg1
  go_wp2
  all_goals
    have hr2 : Kd.R k39 39 w1 base ok (.slice (some ⟨g, 0, none⟩) m cap) (l.eraseIdx k) := HR1.out
    have hg2 : w.grownBy w1 (some g) := ⟨HG1.out.os, HG1.out.tape, HG1.out.output, HG1.out.size, HG1.out.block⟩
    go_ret
    first
      | exact ⟨rfl, R_past2 hr2 (Nat.le_refl _) _, below_cells hb1 hbg _, grown_cells hg2 _⟩
      | (have hq : cap = k + 1 := by assumption
         rw [hq] at hr2
         exact ⟨rfl, R_past2 hr2 (Nat.le_refl _) _, below_cells hb1 hbg _, grown_cells hg2 _⟩)

/-! ### slices_Clone_impl_Tile_impl_Tile: function 48, by hand -/
theorem slices_Clone_impl_Tile_impl_Tile.info : (Try.prog.info? 39).map (fun i => (i.zero, i.size, i.bytes)) = some (some (.agg #[(.int .i64 0), (.int .i64 0)]), k39.sz, 16) := by kernel_rfl
/-- A copy in memory of its own (nil of nil). -/
def slices_Clone_impl_Tile_impl_Tile.f (l0 : List (S39)) : Option (List (S39)) := if l0.length < 8796093022208 then some l0 else none
set_option maxHeartbeats 1000000 in
theorem slices_Clone_impl_Tile_impl_Tile.calls (A0 : Option Addr) (c0 : Nat) (l0 : List (S39)) (r : List (S39)) (w : World) (hr0 : Kd.C k39 w A0 l0.length l0) (_hc0 : l0.length ≤ c0) (h : slices_Clone_impl_Tile_impl_Tile.f l0 = some r) :
    Calls Try.prog 48 #[.slice A0 l0.length c0] w fun e w' => ∃ v0_ : Value, e = .returned (v0_) ∧ Kd.R k39 39 w' w.heap.size (fun _ => True) v0_ r ∧ Below w.heap.size w w' := by
  unfold slices_Clone_impl_Tile_impl_Tile.f at h
  by_cases hl : l0.length < 8796093022208
  · rw [if_pos hl] at h
    obtain rfl := Option.some.inj h
    clear h
    cases A0 with
    | none =>
      have hz : l0 = [] := by
        cases l0 with
        | nil => rfl
        | cons x xs =>
          obtain ⟨ad, e, _⟩ := hr0.2.2 (by simp)
          cases e
      subst hz
      clear hr0 hl
      have hq := fun (W : World) => Lib.run_eql_slice_nil (P := Try.prog) W 24 39 none 0 c0 0 0 Try.underlying24
      go_enter Try.func48, Try.ntmps48
      go_wp2
      go_ret
      exact ⟨_, rfl, Kd.R_nil _ _ _ _ _, Below.refl _ _⟩
    | some ad =>
      have hq := fun (W : World) => Lib.run_eql_slice_nil (P := Try.prog) W 24 39 (some ad) l0.length c0 0 0 Try.underlying24
      have HR := Lib.hid hr0
      clear hr0
      go_enter Try.func48, Try.ntmps48
      go_wp2_with (first
        | ((with_reducible refine gate_dst (N := 5) rfl ?_); refine Kd.R_lit k39 _ 39 ?hg (N := 5) ?hd (xs := ([] : List (S39))) (inner := []) (ok := fun _ => True) (okp := fun _ => True) ?hr ?hp (fun _ hk => hk) trivial (Below.refl _ _) (Nat.le_refl _) (by simp) ?_; (case hd => rfl); (case hg => rfl); (case hr => first | (go_simp; done) | (go_simp; rfl)); (case hp => exact (Reps.none _ _)); intro v1 w1 ho1 hb1 hg_ hnew_; clear hg_ hnew_)
        | ((with_reducible refine gate_builtin (b := .append) (xs := #[.tmp 5, .tmp 6]) rfl ?_); at_builtin; refine Kd.R_append_rows k39 (w0 := w) w.heap.size rfl (.tmp 5) (.tmp 6) 24 39 (.agg #[(.int .i64 0), (.int .i64 0)]) 16 rfl Try.underlying24 slices_Clone_impl_Tile_impl_Tile.info rfl (by decide) (by omega) v1 [] l0 _ _ _ (fun _ => True) (fun _ => False) rfl rfl ?aO ?aR (fun _ _ h => h) (fun _ h => h.elim) ?aF ?aB ?aS ?aL ?_; (case aR => exact Kd.C_below HR.out hb1); (case aB => exact hb1); (case aF => exact (fun _ _ => trivial)); (case aO => exact ho1); (case aS => exact hb1.size); (case aL => simp; omega); intro v2 w2 ho2 hb2 hg hat))
      go_ret
      exact ⟨_, rfl, ho2, hb2⟩
  · rw [if_neg hl] at h
    exact absurd h (by simp)


-- NOT PRINTED: function 43 (impl_chains_1)

/-! ### impl_bit: function 72 -/
def impl_bit.f (a0 : Bool) : Option (Int) := if a0 = true then (some 1) else (some 0)
/-! ### impl_times: function 65 -/
def impl_times.l0 : Nat → Int → Int → List (S39) → Int → Int → Option (Int)
  | 0, _, _, _, _, _ => none
  | k + 1, x1, x5, x8, x9, x10 => if x10 < x9 then (if 0 ≤ x10 then (if x10 < (x8.length : Int) then ((impl_bit.f (((rd_T39 x8 x10).f0) == x1)).bind fun t302 => ((impl_bit.f (((rd_T39 x8 x10).f1) == x1)).bind fun t303 => (impl_times.l0 k x1 (wrap64 (x5 + (wrap64 (t302 + t303)))) x8 x9 (wrap64 (x10 + 1))))) else (none)) else (none)) else (some x5)
def impl_times.f (k : Nat) (l0 : List (S39)) (a1 : Int) : Option (Int) := impl_times.l0 k a1 0 l0 (l0.length : Int) 0
end Go.Proofs.Ytkofmaeffgbelaa.QFnChainsListed
