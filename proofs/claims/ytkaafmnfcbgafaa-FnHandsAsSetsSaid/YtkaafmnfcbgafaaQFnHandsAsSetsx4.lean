-- WRITTEN BY A PROGRAM OF THIS CLAIM'S AUTHOR (wprint.py)
import Derived.Test.YtkaafmnfcbgafaaQFnHandsAsSetsx0
import Derived.Test.YtkaafmnfcbgafaaQFnHandsAsSetsx3
namespace Go.Proofs.Ytkaafmnfcbgafaa.QFnHandsAsSets
open Go.RowKit Go.Proofs.YtkaafmnfcbgafaaW.PrintWords Go.Proofs.YtkaafmnfcbgafaaW.PrintLast Go.Proofs.YtkaafmnfcbgafaaW.PrintMore
attribute [local go_sem] max2_int min2_int max_two min_two max_three min_three max_four min_four   -- for this text's walks alone
set_option linter.unusedVariables false
set_option linter.unusedSimpArgs false

/-! ### impl_areDifferent_impl_Tile: function 41 -/
def impl_areDifferent_impl_Tile.l0 : Nat → List (S35) → List (S35) → Int → Int → Option (Bool)
 | 0, _, _, _, _ => none
 | k + 1, x0, x5, x6, x7 => if x7 < x6 then (if 0 ≤ x7 then (if x7 < (x5.length : Int) then (if x7 ≤ (x0.length : Int) then ((slices_Contains_impl_Tile_impl_Tile.f k (x0.take (x7 : Int).toNat) ((rd_T35 x5 x7).f0) ((rd_T35 x5 x7).f1)).bind fun t220 => (if t220 = true then (some false) else (impl_areDifferent_impl_Tile.l0 k x0 x5 x6 (wrap64 (x7 + 1))))) else (none)) else (none)) else (none)) else (some true)
def impl_areDifferent_impl_Tile.f (k : Nat) (l0 : List (S35)) : Option (Bool) := impl_areDifferent_impl_Tile.l0 k l0 l0 (l0.length : Int) 0
set_option maxHeartbeats 8000000 in
set_option maxRecDepth 100000 in
theorem impl_areDifferent_impl_Tile.calls (k : Nat) (A0 : Option Addr) (c0 : Nat) (l0 : List (S35)) (r : Bool) (w : World) (hr0 : Kd.C k35 w A0 l0.length l0) (hc0 : l0.length ≤ c0) (h : impl_areDifferent_impl_Tile.f k l0 = some r) :
  Calls Try.prog 41 #[.slice A0 l0.length c0] w fun e w' => e = .returned (.bool r) ∧ Below w.heap.size w w' := by
 have hu35 := Try.underlying35
 have HR0 := Aside0.mk hr0
 have HC0 := Aside0.mk hc0
 clear hr0 hc0
 have HB := Aside0.mk (Below.refl w.heap.size w)
 have H : (impl_areDifferent_impl_Tile.l0 k l0 l0 (l0.length : Int) 0) = some r := h
 clear h
 have H' := Aside0.mk H
 clear H
 go_enter Try.func41, Try.ntmps41
 go_wp2
 go_loopg [7] k (fun kq v7 w' => ∃ (x7_1 : Int), v7 = .int .i64 x7_1 ∧ Aside0 (impl_areDifferent_impl_Tile.l0 kq l0 l0 (l0.length : Int) x7_1 = some r) ∧ Aside0 (kq ≤ k) ∧ Aside0 (Below w.heap.size w w'))
 case atStart => exact ⟨(0), (by first | rfl | (simp; done) | (simp [*]; done)), H', ⟨Nat.le_refl _⟩, ⟨by repeat (first | (with_reducible first | exact HB.out | apply below_alloc | apply pw_below_drewN | apply below_drew1) | exact HB.out)⟩⟩
 case round =>
  clear H'
  obtain ⟨x7_1, rfl, HA, HK1, HB⟩ := hrel
  cases gk with
  | zero => exact absurd HA.out (by simp [impl_areDifferent_impl_Tile.l0])
  | succ k1 =>
   have H := HA.out
   clear HA
   simp only [impl_areDifferent_impl_Tile.l0] at H
   by_cases c2 : x7_1 < (l0.length : Int)
   ·rw [if_pos c2] at H
    have c2b0 : decide (x7_1 < (l0.length : Int)) = true := decide_eq_true c2
    clear c2
    by_cases c3 : 0 ≤ x7_1
    ·rw [if_pos c3] at H
     have c3b0 : decide (0 ≤ x7_1) = true := decide_eq_true c3
     clear c3
     by_cases c4 : x7_1 < (l0.length : Int)
     ·rw [if_pos c4] at H
      have c4b0 : decide (x7_1 < (l0.length : Int)) = true := decide_eq_true c4
      clear c4
      have c5b0 := eq_true (of_decide_eq_true (by first | (with_reducible assumption) | assumption) : 0 ≤ x7_1)
      by_cases c6 : x7_1 ≤ (l0.length : Int)
      ·rw [if_pos c6] at H
       have c6b0 := eq_true c6
       have c6b1 : decide (x7_1 ≤ (l0.length : Int)) = true := decide_eq_true c6
       clear c6
       obtain ⟨y216, hy216⟩ : ∃ y_ : List (S35), y_ = (l0.take (x7_1 : Int).toNat) := ⟨_, rfl⟩
       replace H : ((slices_Contains_impl_Tile_impl_Tile.f k1 y216 ((rd_T35 l0 x7_1).f0) ((rd_T35 l0 x7_1).f1)).bind fun t220 => (if t220 = true then (some false) else (impl_areDifferent_impl_Tile.l0 k1 l0 l0 (l0.length : Int) (wrap64 (x7_1 + 1))))) = some r := by first | (rw [hy216]; with_reducible exact H) | (have H2_ := (Option.bind_some _ _).symm.trans H; rw [hy216]; with_reducible exact H2_) | (have H2_ := (Option.bind_some _ _).symm.trans H; with_reducible exact H2_) | with_reducible exact H | (rw [hy216]; exact H) | exact H
       have Ny216 := Aside0.mk hy216
       clear hy216
       replace H := Option.bind_eq_some_iff.mp H
       obtain ⟨t220, A70, H⟩ := H
       replace H : (if t220 = true then (some false) else (impl_areDifferent_impl_Tile.l0 k1 l0 l0 (l0.length : Int) (wrap64 (x7_1 + 1)))) = some r := H
       have A7 := Aside0.mk A70
       clear A70
       by_cases c8 : t220 = true
       ·subst c8
        have H1 : (some false) = some r := by rw [if_pos rfl] at H; exact H
        clear H
        have H := H1
        clear H1
        obtain rfl := Option.some.inj H
        have p214 : 0 ≤ (x7_1 : Int) := of_decide_eq_true (by first | (with_reducible assumption) | assumption)
        have q214 : x7_1 < (l0.length : Int) := of_decide_eq_true (by first | (with_reducible assumption) | assumption)
        obtain ⟨ad214, e214, hx214_0, hx214_1⟩ := at_T35 HR0.out x7_1 p214 q214
        cases e214
        replace hx214_0 := (HB.out.cell (World.block_lt_of_cell? w _ hx214_0)).trans hx214_0
        replace hx214_1 := (HB.out.cell (World.block_lt_of_cell? w _ hx214_1)).trans hx214_1
        replace p214 := eq_true p214
        replace q214 := eq_true q214
        try go_wp2_with (first | ((with_reducible refine gate_dst (N := 4) rfl ?_); refine box_event ?hg (N := 4) ?hd (cs := #[.int .i64 0, .int .i64 0]) (t := 35) ?hr ?_; (case hd => rfl); (case hg => rfl); (case hr => first | (go_simp; done) | (go_simp; rfl)); intro gb215 hg w9 hbox hb; have BK215 := Aside0.mk (hbox); have GW215 := Aside0.mk ((by rw [hg]; exact (below_size (by repeat (first | (with_reducible first | exact HB.out | apply below_alloc | apply pw_below_drewN | apply below_drew1) | exact HB.out))) : w.heap.size ≤ gb215)); have GE215 := Aside0.mk ((by rw [hg]; exact (below_size (by repeat (first | (with_reducible first | exact HB.out | apply below_alloc | apply pw_below_drewN | apply below_drew1) | exact HB.out))) : w.heap.size ≤ gb215)); replace HB := Aside0.mk (below_step (by repeat (first | (with_reducible first | exact HB.out | apply below_alloc | apply pw_below_drewN | apply below_drew1) | exact HB.out)) hb); clear hb hbox hg; have hcz10_0 : w9.cell? ⟨gb215, 0, none⟩ = some (.int .i64 0) := (blk_cell BK215.out 0).trans rfl; have hcz10_1 : w9.cell? ⟨gb215, 1, none⟩ = some (.int .i64 0) := (blk_cell BK215.out 1).trans rfl; have hfz10_0 := blk_frozen BK215.out 0; have hfz10_1 := blk_frozen BK215.out 1))
        have n0_ : Aside0 (((w9.setCell ⟨gb215, 0, none⟩ (.int .i64 ((rd_T35 l0 x7_1).f0))).setCell ⟨gb215, 1, none⟩ (.int .i64 ((rd_T35 l0 x7_1).f1))).heap[gb215]? = some (.cells #[.int .i64 ((rd_T35 l0 x7_1).f0), .int .i64 ((rd_T35 l0 x7_1).f1)] 35 (0, 0))) := ⟨by (with_reducible repeat (first | refine blk_drewN ?_ _ | refine blk_drew ?_ | refine blk_alloc ?_ _)); refine blk_put (cs := #[.int .i64 ((rd_T35 l0 x7_1).f0), .int .i64 0]) ?_ 1 _ rfl; (with_reducible repeat (first | refine blk_drewN ?_ _ | refine blk_drew ?_ | refine blk_alloc ?_ _)); refine blk_put (cs := #[.int .i64 0, .int .i64 0]) ?_ 0 _ rfl; (with_reducible repeat (first | refine blk_drewN ?_ _ | refine blk_drew ?_ | refine blk_alloc ?_ _)); exact BK215.out⟩
        have n1_ : Aside0 (Below w.heap.size w ((w9.setCell ⟨gb215, 0, none⟩ (.int .i64 ((rd_T35 l0 x7_1).f0))).setCell ⟨gb215, 1, none⟩ (.int .i64 ((rd_T35 l0 x7_1).f1)))) := ⟨by repeat (first | (with_reducible first | exact HB.out | apply below_alloc | apply pw_below_drewN | apply below_drew1 | refine below_set ?_ GE215.out) | exact HB.out)⟩
        (try clear BK215)
        (try clear HB)
        generalize ((w9.setCell ⟨gb215, 0, none⟩ (.int .i64 ((rd_T35 l0 x7_1).f0))).setCell ⟨gb215, 1, none⟩ (.int .i64 ((rd_T35 l0 x7_1).f1))) = w11 at n0_ n1_ ⊢
        have BK215 := n0_
        have HB := n1_
        clear n0_ n1_
        replace BK215 := Aside0.mk (blk_drew BK215.out)
        replace HB := Aside0.mk (below_drew1 HB.out)
        have q13 : (x7_1 : Int) ≤ ((l0.length : Int) : Int) := of_decide_eq_true (by first | (with_reducible assumption) | assumption)
        obtain ⟨i013, hi013, _, hsz13, _⟩ := info_parts info35
        have hroom13 : l0.length ≤ c0 := HC0.out
        have hC13 : Kd.C k35 _ (some ad214) l0.length l0 := HR0.out
        have hcut13 := cut_to (P := Try.prog) 24 35 .i64 Try.underlying24 hi013 (some ad214) l0.length c0 x7_1 (of_decide_eq_true (by first | (with_reducible assumption) | assumption)) q13 hroom13
        have hr13 := Kd.C_take (m := (x7_1 : Int).toNat) hC13 (by omega)
        have hy13 : y216.length = (x7_1 : Int).toNat := (by rw [Ny216.out, List.length_take]; omega)
        rw [← Ny216.out] at hr13
        rw [← hy13] at hcut13
        have HR219 := Aside0.mk hr13
        have HC219 := Aside0.mk (show y216.length ≤ c0 from by omega)
        clear hr13 hC13 hroom13 hi013 hsz13
        have KY13 := Aside0.mk hy13
        clear hy13
        replace q13 := eq_true q13
        refine start_ (n := 5) (S := fun w' => w'.cell? ⟨gb215, 0, none⟩ = some (.int .i64 ((rd_T35 l0 x7_1).f0)) ∧ w'.cell? ⟨gb215, 1, none⟩ = some (.int .i64 ((rd_T35 l0 x7_1).f1))) (ds := []) #[false, false, false, false, false] (by kernel_rfl) rfl rfl ⟨(blk_cell BK215.out 0).trans rfl, (blk_cell BK215.out 1).trans rfl⟩ (fun hHeld => ?_)
        generalize w11.drew = w12 at BK215 HB HR219 hHeld ⊢
        refine pure_ (i := 0) (N := some 12) (v := ?_) (a' := ?_) #[true, false, false, false, false] rfl rfl (by kernel_rfl) (fun _ _ _ h => h) (Or.inl ⟨by rfl, ?_⟩) ?_ ?_
        rotate_left
        ·intro w'
         go_simp
         with_reducible rfl
        rotate_left
        ·simp only [Act.put, List.setIfInBounds_toArray, List.set_cons_zero, List.set_cons_succ, i64_w, i32_w]
         rfl
        refine pure_ (i := 1) (N := some 13) (v := ?_) (a' := ?_) #[true, true, false, false, false] rfl rfl (by kernel_rfl) (fun _ _ _ h => h) (Or.inl ⟨by rfl, ?_⟩) ?_ ?_
        rotate_left
        ·intro w'
         go_simp
         with_reducible rfl
        rotate_left
        ·simp only [Act.put, List.setIfInBounds_toArray, List.set_cons_zero, List.set_cons_succ, i64_w, i32_w]
         rfl
        refine pure_ (i := 2) (N := some 14) (v := ?_) (a' := ?_) #[true, true, true, false, false] rfl rfl (by kernel_rfl) (fun _ _ _ h => h) (Or.inl ⟨by rfl, ?_⟩) ?_ ?_
        rotate_left
        ·intro w'
         go_simp
         with_reducible rfl
        rotate_left
        ·simp only [Act.put, List.setIfInBounds_toArray, List.set_cons_zero, List.set_cons_succ, i64_w, i32_w]
         rfl
        refine take_ (i := 3) (N := some 15) (v := ?_) (a' := ?_) #[true, true, true, true, false] rfl rfl (by kernel_rfl) (fun _ _ _ h => h) (Or.inl ⟨by rfl, ?_⟩) hHeld ?_ ?_
        rotate_left
        ·rintro w' ⟨s0, s1⟩
         go_simp
         with_reducible rfl
        rotate_left
        ·simp only [Act.put, List.setIfInBounds_toArray, List.set_cons_zero, List.set_cons_succ, i64_w, i32_w]
         rfl
        refine one_ (i := 4) (N := some 16) #[true, true, true, true, true] rfl rfl (by kernel_rfl) (by decide) (fun K hK => ?_)
        refine goes_ Try.func35 (by kernel_rfl) rfl #[.slice (some ad214) y216.length c0, .agg #[.int .i64 ((rd_T35 l0 x7_1).f0), .int .i64 ((rd_T35 l0 x7_1).f1)]] (by rfl) rfl rfl (by (try simp only [List.map_toArray, List.map_cons, List.map_nil]); first | done | rfl | (simp only [List.length_drop, List.length_take]; rfl)) ?_
        with_reducible refine (slices_Contains_impl_Tile_impl_Tile.calls k1 _ _ y216 ((rd_T35 l0 x7_1).f0) ((rd_T35 l0 x7_1).f1) true _ ?side1 ?side2 A7.out).mono ?_
        (case side1 => repeat (first | exact (Kd.C_below HR219.out HB.out) | (with_reducible refine Kd.C_alloc ?_ _) | (with_reducible refine Kd.C_drewN ?_ _) | (with_reducible refine Kd.C_drew ?_)))
        (case side2 => exact HC219.out)
        rintro e w14 ⟨rfl, hb⟩
        refine ⟨_, rfl, ?_⟩
        replace BK215 := Aside0.mk (blk_below (g := gb215) (o := .cells #[.int .i64 ((rd_T35 l0 x7_1).f0), .int .i64 ((rd_T35 l0 x7_1).f1)] 35 (0, 0)) (by (with_reducible repeat (first | refine blk_drewN ?_ _ | refine blk_drew ?_ | refine blk_alloc ?_ _)); exact BK215.out) hb)
        replace HB := Aside0.mk (below_step (by repeat (first | (with_reducible first | exact HB.out | apply below_alloc | apply pw_below_drewN | apply below_drew1 | refine below_set ?_ GE215.out) | exact HB.out)) hb)
        (try clear hb)
        (try clear hb2)
        (try clear hk)
        (try clear hi)
        refine hK.out _ _ ⟨(blk_cell BK215.out 0).trans rfl, (blk_cell BK215.out 1).trans rfl⟩ (fun hHeld => ?_)
        clear hK K
        refine norm_ (a' := ?_) ?_ ?_
        rotate_left
        ·show Act.put _ (some 16) _ = _
         simp only [Act.put, List.setIfInBounds_toArray, List.set_cons_zero, List.set_cons_succ, i64_w, i32_w]
         rfl
        refine done_ (by kernel_rfl) ?_
        try go_wp2
        go_ret
        exact ⟨by first | rfl | (simp [errW_none, errW_some] <;> rfl) | (simp [*, errW_none, errW_some] <;> rfl), by repeat (first | (with_reducible first | exact HB.out | apply below_alloc | apply pw_below_drewN | apply below_drew1 | refine below_set ?_ GE215.out) | exact HB.out)⟩
       ·replace c8 := Bool.eq_false_iff.mpr c8
        subst c8
        have H1 : (impl_areDifferent_impl_Tile.l0 k1 l0 l0 (l0.length : Int) (wrap64 (x7_1 + 1))) = some r := by rw [if_neg (show ¬ (false = true) by decide)] at H; exact H
        clear H
        have H := H1
        clear H1
        have H' := Aside0.mk H
        clear H
        have p214 : 0 ≤ (x7_1 : Int) := of_decide_eq_true (by first | (with_reducible assumption) | assumption)
        have q214 : x7_1 < (l0.length : Int) := of_decide_eq_true (by first | (with_reducible assumption) | assumption)
        obtain ⟨ad214, e214, hx214_0, hx214_1⟩ := at_T35 HR0.out x7_1 p214 q214
        cases e214
        replace hx214_0 := (HB.out.cell (World.block_lt_of_cell? w _ hx214_0)).trans hx214_0
        replace hx214_1 := (HB.out.cell (World.block_lt_of_cell? w _ hx214_1)).trans hx214_1
        replace p214 := eq_true p214
        replace q214 := eq_true q214
        try go_wp2_with (first | ((with_reducible refine gate_dst (N := 4) rfl ?_); refine box_event ?hg (N := 4) ?hd (cs := #[.int .i64 0, .int .i64 0]) (t := 35) ?hr ?_; (case hd => rfl); (case hg => rfl); (case hr => first | (go_simp; done) | (go_simp; rfl)); intro gb215 hg w15 hbox hb; have BK215 := Aside0.mk (hbox); have GW215 := Aside0.mk ((by rw [hg]; exact (below_size (by repeat (first | (with_reducible first | exact HB.out | apply below_alloc | apply pw_below_drewN | apply below_drew1) | exact HB.out))) : w.heap.size ≤ gb215)); have GE215 := Aside0.mk ((by rw [hg]; exact (below_size (by repeat (first | (with_reducible first | exact HB.out | apply below_alloc | apply pw_below_drewN | apply below_drew1) | exact HB.out))) : w.heap.size ≤ gb215)); replace HB := Aside0.mk (below_step (by repeat (first | (with_reducible first | exact HB.out | apply below_alloc | apply pw_below_drewN | apply below_drew1) | exact HB.out)) hb); clear hb hbox hg; have hcz16_0 : w15.cell? ⟨gb215, 0, none⟩ = some (.int .i64 0) := (blk_cell BK215.out 0).trans rfl; have hcz16_1 : w15.cell? ⟨gb215, 1, none⟩ = some (.int .i64 0) := (blk_cell BK215.out 1).trans rfl; have hfz16_0 := blk_frozen BK215.out 0; have hfz16_1 := blk_frozen BK215.out 1))
        have n0_ : Aside0 (((w15.setCell ⟨gb215, 0, none⟩ (.int .i64 ((rd_T35 l0 x7_1).f0))).setCell ⟨gb215, 1, none⟩ (.int .i64 ((rd_T35 l0 x7_1).f1))).heap[gb215]? = some (.cells #[.int .i64 ((rd_T35 l0 x7_1).f0), .int .i64 ((rd_T35 l0 x7_1).f1)] 35 (0, 0))) := ⟨by (with_reducible repeat (first | refine blk_drewN ?_ _ | refine blk_drew ?_ | refine blk_alloc ?_ _)); refine blk_put (cs := #[.int .i64 ((rd_T35 l0 x7_1).f0), .int .i64 0]) ?_ 1 _ rfl; (with_reducible repeat (first | refine blk_drewN ?_ _ | refine blk_drew ?_ | refine blk_alloc ?_ _)); refine blk_put (cs := #[.int .i64 0, .int .i64 0]) ?_ 0 _ rfl; (with_reducible repeat (first | refine blk_drewN ?_ _ | refine blk_drew ?_ | refine blk_alloc ?_ _)); exact BK215.out⟩
        have n1_ : Aside0 (Below w.heap.size w ((w15.setCell ⟨gb215, 0, none⟩ (.int .i64 ((rd_T35 l0 x7_1).f0))).setCell ⟨gb215, 1, none⟩ (.int .i64 ((rd_T35 l0 x7_1).f1)))) := ⟨by repeat (first | (with_reducible first | exact HB.out | apply below_alloc | apply pw_below_drewN | apply below_drew1 | refine below_set ?_ GE215.out) | exact HB.out)⟩
        (try clear BK215)
        (try clear HB)
        generalize ((w15.setCell ⟨gb215, 0, none⟩ (.int .i64 ((rd_T35 l0 x7_1).f0))).setCell ⟨gb215, 1, none⟩ (.int .i64 ((rd_T35 l0 x7_1).f1))) = w17 at n0_ n1_ ⊢
        have BK215 := n0_
        have HB := n1_
        clear n0_ n1_
        replace BK215 := Aside0.mk (blk_drew BK215.out)
        replace HB := Aside0.mk (below_drew1 HB.out)
        have q19 : (x7_1 : Int) ≤ ((l0.length : Int) : Int) := of_decide_eq_true (by first | (with_reducible assumption) | assumption)
        obtain ⟨i019, hi019, _, hsz19, _⟩ := info_parts info35
        have hroom19 : l0.length ≤ c0 := HC0.out
        have hC19 : Kd.C k35 _ (some ad214) l0.length l0 := HR0.out
        have hcut19 := cut_to (P := Try.prog) 24 35 .i64 Try.underlying24 hi019 (some ad214) l0.length c0 x7_1 (of_decide_eq_true (by first | (with_reducible assumption) | assumption)) q19 hroom19
        have hr19 := Kd.C_take (m := (x7_1 : Int).toNat) hC19 (by omega)
        have hy19 : y216.length = (x7_1 : Int).toNat := (by rw [Ny216.out, List.length_take]; omega)
        rw [← Ny216.out] at hr19
        rw [← hy19] at hcut19
        have HR219 := Aside0.mk hr19
        have HC219 := Aside0.mk (show y216.length ≤ c0 from by omega)
        clear hr19 hC19 hroom19 hi019 hsz19
        have KY19 := Aside0.mk hy19
        clear hy19
        replace q19 := eq_true q19
        refine start_ (n := 5) (S := fun w' => w'.cell? ⟨gb215, 0, none⟩ = some (.int .i64 ((rd_T35 l0 x7_1).f0)) ∧ w'.cell? ⟨gb215, 1, none⟩ = some (.int .i64 ((rd_T35 l0 x7_1).f1))) (ds := []) #[false, false, false, false, false] (by kernel_rfl) rfl rfl ⟨(blk_cell BK215.out 0).trans rfl, (blk_cell BK215.out 1).trans rfl⟩ (fun hHeld => ?_)
        generalize w17.drew = w18 at BK215 HB HR219 hHeld ⊢
        refine pure_ (i := 0) (N := some 12) (v := ?_) (a' := ?_) #[true, false, false, false, false] rfl rfl (by kernel_rfl) (fun _ _ _ h => h) (Or.inl ⟨by rfl, ?_⟩) ?_ ?_
        rotate_left
        ·intro w'
         go_simp
         with_reducible rfl
        rotate_left
        ·simp only [Act.put, List.setIfInBounds_toArray, List.set_cons_zero, List.set_cons_succ, i64_w, i32_w]
         rfl
        refine pure_ (i := 1) (N := some 13) (v := ?_) (a' := ?_) #[true, true, false, false, false] rfl rfl (by kernel_rfl) (fun _ _ _ h => h) (Or.inl ⟨by rfl, ?_⟩) ?_ ?_
        rotate_left
        ·intro w'
         go_simp
         with_reducible rfl
        rotate_left
        ·simp only [Act.put, List.setIfInBounds_toArray, List.set_cons_zero, List.set_cons_succ, i64_w, i32_w]
         rfl
        refine pure_ (i := 2) (N := some 14) (v := ?_) (a' := ?_) #[true, true, true, false, false] rfl rfl (by kernel_rfl) (fun _ _ _ h => h) (Or.inl ⟨by rfl, ?_⟩) ?_ ?_
        rotate_left
        ·intro w'
         go_simp
         with_reducible rfl
        rotate_left
        ·simp only [Act.put, List.setIfInBounds_toArray, List.set_cons_zero, List.set_cons_succ, i64_w, i32_w]
         rfl
        refine take_ (i := 3) (N := some 15) (v := ?_) (a' := ?_) #[true, true, true, true, false] rfl rfl (by kernel_rfl) (fun _ _ _ h => h) (Or.inl ⟨by rfl, ?_⟩) hHeld ?_ ?_
        rotate_left
        ·rintro w' ⟨s0, s1⟩
         go_simp
         with_reducible rfl
        rotate_left
        ·simp only [Act.put, List.setIfInBounds_toArray, List.set_cons_zero, List.set_cons_succ, i64_w, i32_w]
         rfl
        refine one_ (i := 4) (N := some 16) #[true, true, true, true, true] rfl rfl (by kernel_rfl) (by decide) (fun K hK => ?_)
        refine goes_ Try.func35 (by kernel_rfl) rfl #[.slice (some ad214) y216.length c0, .agg #[.int .i64 ((rd_T35 l0 x7_1).f0), .int .i64 ((rd_T35 l0 x7_1).f1)]] (by rfl) rfl rfl (by (try simp only [List.map_toArray, List.map_cons, List.map_nil]); first | done | rfl | (simp only [List.length_drop, List.length_take]; rfl)) ?_
        with_reducible refine (slices_Contains_impl_Tile_impl_Tile.calls k1 _ _ y216 ((rd_T35 l0 x7_1).f0) ((rd_T35 l0 x7_1).f1) false _ ?side1 ?side2 A7.out).mono ?_
        (case side1 => repeat (first | exact (Kd.C_below HR219.out HB.out) | (with_reducible refine Kd.C_alloc ?_ _) | (with_reducible refine Kd.C_drewN ?_ _) | (with_reducible refine Kd.C_drew ?_)))
        (case side2 => exact HC219.out)
        rintro e w20 ⟨rfl, hb⟩
        refine ⟨_, rfl, ?_⟩
        replace BK215 := Aside0.mk (blk_below (g := gb215) (o := .cells #[.int .i64 ((rd_T35 l0 x7_1).f0), .int .i64 ((rd_T35 l0 x7_1).f1)] 35 (0, 0)) (by (with_reducible repeat (first | refine blk_drewN ?_ _ | refine blk_drew ?_ | refine blk_alloc ?_ _)); exact BK215.out) hb)
        replace HB := Aside0.mk (below_step (by repeat (first | (with_reducible first | exact HB.out | apply below_alloc | apply pw_below_drewN | apply below_drew1 | refine below_set ?_ GE215.out) | exact HB.out)) hb)
        (try clear hb)
        (try clear hb2)
        (try clear hk)
        (try clear hi)
        refine hK.out _ _ ⟨(blk_cell BK215.out 0).trans rfl, (blk_cell BK215.out 1).trans rfl⟩ (fun hHeld => ?_)
        clear hK K
        refine norm_ (a' := ?_) ?_ ?_
        rotate_left
        ·show Act.put _ (some 16) _ = _
         simp only [Act.put, List.setIfInBounds_toArray, List.set_cons_zero, List.set_cons_succ, i64_w, i32_w]
         rfl
        refine done_ (by kernel_rfl) ?_
        try go_wp2
        go_roundg k1
        case measure => have := HK1.out; omega
        case rel => exact ⟨(wrap64 (x7_1 + 1)), (by first | rfl | (simp; done) | (simp [*]; done)), H', ⟨by have := HK1.out; omega⟩, ⟨by repeat (first | (with_reducible first | exact HB.out | apply below_alloc | apply pw_below_drewN | apply below_drew1 | refine below_set ?_ GE215.out) | exact HB.out)⟩⟩
      ·rw [if_neg c6] at H
       exact absurd H (by simp)
     ·rw [if_neg c4] at H
      exact absurd H (by simp)
    ·rw [if_neg c3] at H
     exact absurd H (by simp)
   ·rw [if_neg c2] at H
    have c2b0 : decide (x7_1 < (l0.length : Int)) = false := decide_eq_false c2
    clear c2
    obtain rfl := Option.some.inj H
    go_wp2
    go_ret
    exact ⟨by first | rfl | (simp [errW_none, errW_some] <;> rfl) | (simp [*, errW_none, errW_some] <;> rfl), by repeat (first | (with_reducible first | exact HB.out | apply below_alloc | apply pw_below_drewN | apply below_drew1) | exact HB.out)⟩

/-! ### impl_IsHand: function 13, by hand -/
/-- Is it no tile? -/
def noTile (x : S35) : Bool := !(decide (0 ≤ x.f0) && (decide (x.f0 ≤ x.f1) && decide (x.f1 ≤ 9)))
theorem noTile_f (x : S35) : impl_IsHand_1.f x.f0 x.f1 = some (noTile x) := by
 unfold impl_IsHand_1.f impl_IsTile.f impl_within.f noTile
 by_cases h1 : 0 ≤ x.f0
 ·rw [if_pos h1]
  by_cases h2 : x.f0 ≤ x.f1
  ·simp [h1, h2]
  ·simp [h1, h2]
 ·simp [h1]

/-- IsHand: few tiles, tiles all, and no two the same. -/
def impl_IsHand.f (k : Nat) (l0 : List S35) : Option Bool := if (l0.length : Int) ≤ 55 then (if l0.any noTile = true then some false else impl_areDifferent_impl_Tile.f k l0) else some false
set_option maxHeartbeats 1000000 in
set_option maxRecDepth 100000 in
theorem impl_IsHand.calls (k : Nat) (A0 : Option Addr) (c0 : Nat) (l0 : List (S35)) (r : Bool) (w : World) (hr0 : Kd.C k35 w A0 l0.length l0) (hc0 : l0.length ≤ c0) (h : impl_IsHand.f k l0 = some r) :
  Calls Try.prog 13 #[.slice A0 l0.length c0] w fun e w' => e = .returned (.bool r) ∧ Below w.heap.size w w' := by
 have hcon := conT 39 #[] noTile A0 c0 l0 w hr0 (enters_of' Try.func39 (by kernel_rfl) rfl) (fun x W _ => impl_IsHand_1.calls x.f0 x.f1 (noTile x) W (noTile_f x))
 have HR := Lib.hid hr0
 clear hr0
 unfold impl_IsHand.f at h
 by_cases h1 : (l0.length : Int) ≤ 55
 ·rw [if_pos h1] at h
  have d1 : decide ((l0.length : Int) ≤ 55) = true := decide_eq_true h1
  have d2 : decide (l0.length ≤ 55) = true := decide_eq_true (by omega)
  by_cases h2 : l0.any noTile = true
  ·rw [if_pos h2] at h
   obtain rfl := Option.some.inj h
   rw [h2] at hcon
   clear h h2 h1
   go_enter Try.func13, Try.ntmps13
   go_wp2_with (go_at_call 38; refine hcon.mono ?_; rintro e w' ⟨rfl, hb⟩)
   go_ret
   exact ⟨rfl, hb⟩
  ·rw [if_neg h2] at h
   have h3 := Bool.eq_false_iff.mpr h2
   rw [h3] at hcon
   have HK := Lib.hid h
   clear h h2 h3 h1
   go_enter Try.func13, Try.ntmps13
   go_wp2_with (first | (go_at_call 38; refine hcon.mono ?_; rintro e w1 ⟨rfl, hb⟩) | (go_at_call 41; refine (impl_areDifferent_impl_Tile.calls k A0 c0 l0 r _ (Kd.C_below HR.out hb) hc0 HK.out).mono ?_; rintro e w2 ⟨rfl, hb2⟩))
   go_ret
   exact ⟨rfl, hb.trans (hb2.mono hb.size)⟩
 ·rw [if_neg h1] at h
  obtain rfl := Option.some.inj h
  have d1 : decide ((l0.length : Int) ≤ 55) = false := decide_eq_false h1
  have d2 : decide (l0.length ≤ 55) = false := decide_eq_false (by omega)
  clear h h1
  go_enter Try.func13, Try.ntmps13
  go_wp2
  go_ret
  exact ⟨rfl, Below.refl _ _⟩

-- NOT PRINTED: function 28 (slices_Compact_impl_Tile_impl_Tile)

/-! ### slices_Clone_impl_Tile_impl_Tile: function 57, by hand -/
theorem slices_Clone_impl_Tile_impl_Tile.info : (Try.prog.info? 35).map (fun i => (i.zero, i.size, i.bytes)) = some (some (.agg #[(.int .i64 0), (.int .i64 0)]), k35.sz, 16) := by kernel_rfl
/-- A copy in memory of its own (nil of nil). -/
def slices_Clone_impl_Tile_impl_Tile.f (l0 : List (S35)) : Option (List (S35)) := if l0.length < 8796093022208 then some l0 else none
set_option maxHeartbeats 1000000 in
theorem slices_Clone_impl_Tile_impl_Tile.calls (A0 : Option Addr) (c0 : Nat) (l0 : List (S35)) (r : List (S35)) (w : World) (hr0 : Kd.C k35 w A0 l0.length l0) (_hc0 : l0.length ≤ c0) (h : slices_Clone_impl_Tile_impl_Tile.f l0 = some r) :
  Calls Try.prog 57 #[.slice A0 l0.length c0] w fun e w' => ∃ v0_ : Value, e = .returned (v0_) ∧ Kd.R k35 35 w' w.heap.size (fun _ => True) v0_ r ∧ Below w.heap.size w w' := by
 unfold slices_Clone_impl_Tile_impl_Tile.f at h
 by_cases hl : l0.length < 8796093022208
 ·rw [if_pos hl] at h
  obtain rfl := Option.some.inj h
  clear h
  cases A0 with
  | none =>
   have hz : l0 = [] := by
    cases l0 with
    | nil => rfl
    | cons x xs =>
     obtain ⟨ad, e, _⟩ := hr0.2.2 (by simp)
     cases e
   subst hz
   clear hr0 hl
   have hq := fun (W : World) => Lib.run_eql_slice_nil (P := Try.prog) W 24 35 none 0 c0 0 0 Try.underlying24
   go_enter Try.func57, Try.ntmps57
   go_wp2
   go_ret
   exact ⟨_, rfl, Kd.R_nil _ _ _ _ _, Below.refl _ _⟩
  | some ad =>
   have hq := fun (W : World) => Lib.run_eql_slice_nil (P := Try.prog) W 24 35 (some ad) l0.length c0 0 0 Try.underlying24
   have HR := Lib.hid hr0
   clear hr0
   go_enter Try.func57, Try.ntmps57
   go_wp2_with (first
    | ((with_reducible refine gate_dst (N := 5) rfl ?_); refine Kd.R_lit k35 _ 35 ?hg (N := 5) ?hd (xs := ([] : List (S35))) (inner := []) (ok := fun _ => True) (okp := fun _ => True) ?hr ?hp (fun _ hk => hk) trivial (Below.refl _ _) (Nat.le_refl _) (by simp) ?_; (case hd => rfl); (case hg => rfl); (case hr => first | (go_simp; done) | (go_simp; rfl)); (case hp => exact (Reps.none _ _)); intro v1 w1 ho1 hb1 hg_ hnew_; clear hg_ hnew_)
    | ((with_reducible refine gate_builtin (b := .append) (xs := #[.tmp 5, .tmp 6]) rfl ?_); at_builtin; refine Kd.R_append_rows k35 (w0 := w) w.heap.size rfl (.tmp 5) (.tmp 6) 24 35 (.agg #[(.int .i64 0), (.int .i64 0)]) 16 rfl Try.underlying24 slices_Clone_impl_Tile_impl_Tile.info rfl (by decide) (by omega) v1 [] l0 _ _ _ (fun _ => True) (fun _ => False) rfl rfl ?aO ?aR (fun _ _ h => h) (fun _ h => h.elim) ?aF ?aB ?aS ?aL ?_; (case aR => exact Kd.C_below HR.out hb1); (case aB => exact hb1); (case aF => exact (fun _ _ => trivial)); (case aO => exact ho1); (case aS => exact hb1.size); (case aL => simp; omega); intro v2 w2 ho2 hb2 hg hat))
   go_ret
   exact ⟨_, rfl, ho2, hb2⟩
 ·rw [if_neg hl] at h
  exact absurd h (by simp)


/-! ### impl_compareTiles: function 59 -/
def impl_compareTiles.f (a0_0 : Int) (a0_1 : Int) (a1_0 : Int) (a1_1 : Int) : Option (Int) := if a0_0 = a1_0 then (some (wrap64 (a0_1 - a1_1))) else (some (wrap64 (a0_0 - a1_0)))
/-! ### impl_sorted: function 29, by hand -/
def cmpT (x y : S35) : Int := if x.f0 = y.f0 then wrap64 (x.f1 - y.f1) else wrap64 (x.f0 - y.f0)
def sortedT : List S35 → Bool
 | [] => true
 | x :: xs => (match xs with | [] => true | y :: _ => !decide (cmpT y x < 0)) && sortedT xs
/-! ### Sorting tiles: the shelf's contract of slices.SortFunc, told of rows of the call's own -/
section
open Go.Shelf Go.Sort Go.Lib
def smallT (x : S35) : Bool := decide (-1000000000 ≤ x.f0 ∧ x.f0 ≤ 1000000000 ∧ -1000000000 ≤ x.f1 ∧ x.f1 ≤ 1000000000)
abbrev SmT := {x : S35 // smallT x = true}
instance : Inhabited SmT := ⟨⟨⟨0, 0⟩, by decide⟩⟩
/-- Is one ahead of the other? -/
def ltT (x y : S35) : Bool := decide (x.f0 < y.f0 ∨ (x.f0 = y.f0 ∧ x.f1 < y.f1))
def encT (x : SmT) : List Value := [.int .i64 x.1.f0, .int .i64 x.1.f1]
def cfT (x y : SmT) : Int := cmpT x.1 y.1
theorem smallT_iff (x : S35) : smallT x = true ↔ -1000000000 ≤ x.f0 ∧ x.f0 ≤ 1000000000 ∧ -1000000000 ≤ x.f1 ∧ x.f1 ≤ 1000000000 := by
 unfold smallT
 simp
theorem cfT_lt (x y : SmT) : ltOf cfT x y = ltT x.1 y.1 := by
 have hx := (smallT_iff _).1 x.2
 have hy := (smallT_iff _).1 y.2
 unfold ltOf cfT cmpT ltT
 have w : ∀ n : Int, -2000000000 ≤ n → n ≤ 2000000000 → wrap64 n = n := fun n h h' => by unfold wrap64; omega
 by_cases h : x.1.f0 = y.1.f0
 ·rw [if_pos h, w _ (by omega) (by omega)]
  simp only [decide_eq_decide]
  omega
 ·rw [if_neg h, w _ (by omega) (by omega)]
  simp only [decide_eq_decide]
  omega
theorem ltT_iff (x y : S35) : ltT x y = true ↔ (x.f0 < y.f0 ∨ (x.f0 = y.f0 ∧ x.f1 < y.f1)) := by
 unfold ltT
 simp
theorem ltT_no (x y : S35) : ltT x y = false ↔ ¬ (x.f0 < y.f0 ∨ (x.f0 = y.f0 ∧ x.f1 < y.f1)) := by
 unfold ltT
 exact decide_eq_false_iff_not
theorem swoT : SWO (ltOf cfT) where
 irrefl x := by
  rw [cfT_lt, ltT_no]
  omega
 trans x y z h k := by
  rw [cfT_lt, ltT_iff] at *
  omega
 ntrans x y z h k := by
  rw [cfT_lt, ltT_no] at *
  omega
theorem totT (x y : SmT) (h : ltOf cfT x y = false) (k : ltOf cfT y x = false) : x = y := by
 rw [cfT_lt, ltT_no] at h k
 have h0 : x.1.f0 = y.1.f0 := by omega
 have h1 : x.1.f1 = y.1.f1 := by omega
 obtain ⟨⟨a, b⟩, _⟩ := x
 obtain ⟨⟨c, d⟩, _⟩ := y
 simp only at h0 h1
 subst h0 h1
 rfl
/-- The small tiles of a list of small tiles. -/
def smalls (l : List S35) (h : l.all smallT = true) : Array SmT := (l.pmap (fun x hx => (⟨x, hx⟩ : SmT)) (fun x hx => List.all_eq_true.1 h x hx)).toArray
theorem smalls_val (l : List S35) (h : l.all smallT = true) : (smalls l h).toList.map (·.1) = l := by
 unfold smalls
 rw [List.map_pmap]
 simp
theorem smalls_size (l : List S35) (h : l.all smallT = true) : (smalls l h).size = l.length := by
 unfold smalls
 simp
/-- A list of tiles in order. -/
def msort (l : List S35) : List S35 := l.mergeSort fun x y => !ltT y x
theorem smalls_sort (l : List S35) (h : l.all smallT = true) : (((smalls l h).toList.mergeSort fun x y => !(ltOf cfT) y x).map (·.1)) = msort l := by
 rw [List.map_mergeSort (s := fun x y => !ltT y x) (fun a _ b _ => by rw [cfT_lt]), smalls_val]
 rfl
/-- What a block holds once the sort has written its row. -/
theorem row_put (cur : Array Value) (d : Array SmT) (n : Nat) (hs : cur.size = n * 2) (hd : d.size ≤ n) (j : Nat) (hj : j < d.size) :
  (((putCells id 0 (flatK encT 2 d) cur).toList.drop (j * 2)).take 2) = encT d[j]! := by
 have h0 : ∀ t, t < d.size * 2 → (putCells id 0 (flatK encT 2 d) cur).toList[t]? = some ((encT d[t / 2]!)[t % 2]!) := by
  intro t ht
  rw [Array.getElem?_toList]
  unfold putCells
  rw [Array.getElem?_mapIdx, Array.getElem?_eq_getElem (by omega)]
  simp only [Option.map_some]
  rw [if_pos ⟨by omega, by rw [size_flatK]; omega⟩, Nat.sub_zero, get_flatK _ _ _ _ ht]
  rfl
 have e0 := h0 (j * 2) (by omega)
 have e1 := h0 (j * 2 + 1) (by omega)
 rw [show j * 2 / 2 = j from by omega, show j * 2 % 2 = 0 from by omega] at e0
 rw [show (j * 2 + 1) / 2 = j from by omega, show (j * 2 + 1) % 2 = 1 from by omega] at e1
 apply List.ext_getElem?
 intro i
 rw [List.getElem?_take]
 by_cases hi : i < 2
 ·rw [if_pos hi, List.getElem?_drop]
  rcases (show i = 0 ∨ i = 1 from by omega) with rfl | rfl
  ·rw [Nat.add_zero, e0]
   rfl
  ·rw [e1]
   rfl
 ·rw [if_neg hi, List.getElem?_eq_none (by simp [encT]; omega)]
/-- A row of the call's own, taken apart. -/
theorem row_open (w1 : World) (base g cap : Nat) (ok : Nat → Prop) (l : List S35) (hR : Kd.R k35 35 w1 base ok (.slice (some ⟨g, 0, none⟩) l.length cap) l) :
  ∃ cur, (∀ k, some g = some k → ok k) ∧ base ≤ g ∧ w1.heap[g]? = some (.cells cur 35 (0, 0)) ∧ l.length ≤ cap ∧ cap ≤ maxLen ∧ cur.size = cap * 2 ∧ ∀ j x, l[j]? = some x → ((cur.toList.drop (j * 2)).take 2) = [.int .i64 x.f0, .int .i64 x.f1] := by
 obtain ⟨hok, inner, ⟨hlen, hown⟩, hrep⟩ := hR
 rcases hown with ⟨hv, _⟩ | ⟨g', cap', cur, hv, hb, hh, hn, hm, hs, ht⟩
 ·cases hv
 ·injection hv with h1 h2 h3
  injection h1 with h1
  injection h1 with h1
  subst h1
  subst h3
  refine ⟨cur, hok, hb, hh, hn, hm, hs, fun j x hj => ?_⟩
  have hjl : j < l.length := (List.getElem?_eq_some_iff.1 hj).1
  obtain ⟨c0, c1, hc, e0, e1⟩ := hrep.2 j x hj
  have e0' : c0 = [.int .i64 x.f0] := e0
  have e1' : c1 = [.int .i64 x.f1] := e1
  have hc' : (inner.drop (j * 2)).take 2 = c0 ++ c1 := hc
  rw [e0', e1', ← ht] at hc'
  have hk : l.length * (k35 : Kd S35).sz = l.length * 2 := rfl
  rw [hk, List.drop_take, List.take_take, Nat.min_eq_left (by omega)] at hc'
  exact hc'
/-- The sort's row: held ahead, and the call's own still behind it. -/
theorem sort_holds (w1 : World) (base g cap : Nat) (ok : Nat → Prop) (l : List S35) (hR : Kd.R k35 35 w1 base ok (.slice (some ⟨g, 0, none⟩) l.length cap) l) (d : Array SmT) (hd : d.toList.map (·.1) = l) :
  HoldsK encT 2 w1 g 0 d ∧ g < w1.heap.size := by
 obtain ⟨cur, _, _, hh, hn, _, hs, hc⟩ := row_open w1 base g cap ok l hR
 have hds : d.size = l.length := by rw [← hd]; simp
 refine ⟨fun t ht => ?_, ?_⟩
 ·rw [size_flatK] at ht
  rw [get_flatK _ _ _ _ ht]
  have hj : t / 2 < d.size := by omega
  have hx : l[t / 2]? = some (d[t / 2]!).1 := by
   rw [← hd, List.getElem?_map, Array.getElem?_toList, Array.getElem?_eq_getElem hj]
   simp only [Option.map_some]
   rw [getElem!_pos d (t / 2) hj]
  have h2 := hc (t / 2) _ hx
  have h3 : cur.toList[t]? = (encT d[t / 2]!)[t % 2]? := by
   have := congrArg (fun z => z[t % 2]?) h2
   simp only [List.getElem?_take, List.getElem?_drop, if_pos (show t % 2 < 2 from by omega), show t / 2 * 2 + t % 2 = t from by omega] at this
   exact this
  have h4 : (encT d[t / 2]!)[t % 2]? = some ((encT d[t / 2]!)[t % 2]!) := by
   rcases (show t % 2 = 0 ∨ t % 2 = 1 from by omega) with e | e <;> rw [e] <;> rfl
  constructor
  ·show w1.cell? ⟨g, 0 + t, none⟩ = some (id ((encT d[t / 2]!)[t % 2]!))
   rw [Nat.zero_add]
   unfold World.cell?
   rw [hh]
   show cur[t]? = _
   rw [← Array.getElem?_toList, h3, h4]
   rfl
  ·show w1.frozen? ⟨g, 0 + t, none⟩ = false
   unfold World.frozen?
   rw [hh]
   simp
 ·exact (Array.getElem?_eq_some_iff.1 hh).1
theorem sort_row (w1 : World) (base g cap : Nat) (ok : Nat → Prop) (l : List S35) (hR : Kd.R k35 35 w1 base ok (.slice (some ⟨g, 0, none⟩) l.length cap) l) (d : Array SmT) (hd : d.size = l.length) (n : Nat) (os : Array Obj) :
  Kd.R k35 35 (sortWorldK encT 2 w1 g 0 n d os) base ok (.slice (some ⟨g, 0, none⟩) l.length cap) (d.toList.map (·.1)) ∧ Go.RowKit.Below base w1 (sortWorldK encT 2 w1 g 0 n d os) := by
 obtain ⟨cur, hok, hb, hh, hn, hm, hs, hc⟩ := row_open w1 base g cap ok l hR
 have hg : g < w1.heap.size := (Array.getElem?_eq_some_iff.1 hh).1
 have hhp : (sortWorldK encT 2 w1 g 0 n d os).heap = w1.heap.modify g (onCells (putCells id 0 (flatK encT 2 d))) ++ os := rfl
 have hblk : (sortWorldK encT 2 w1 g 0 n d os).heap[g]? = some (.cells (putCells id 0 (flatK encT 2 d) cur) 35 (0, 0)) := by
  rw [hhp, Array.getElem?_append_left (by simpa using hg), Array.getElem?_modify, if_pos rfl, hh]
  rfl
 have hsz : (putCells id 0 (flatK encT 2 d) cur).size = cap * 2 := by
  unfold putCells
  rw [Array.size_mapIdx, hs]
 have hl2 : (d.toList.map (·.1)).length = l.length := by simp [hd]
 refine ⟨⟨hok, (putCells id 0 (flatK encT 2 d) cur).toList.take (l.length * 2), ⟨?_, .inr ⟨g, cap, _, by rw [hl2], hb, hblk, by rw [hl2]; exact hn, hm, hsz, by rw [hl2]; rfl⟩⟩, ?_, ?_⟩, rfl, rfl, rfl, ?_, ?_⟩
 ·rw [hl2]
  show (List.take (l.length * 2) _).length = l.length * 2
  have hz : (putCells id 0 (flatK encT 2 d) cur).toList.length = cap * 2 := hsz
  rw [List.length_take, hz]
  omega
 ·rw [hl2]
  show (List.take (l.length * 2) _).length = l.length * 2
  have hz : (putCells id 0 (flatK encT 2 d) cur).toList.length = cap * 2 := hsz
  rw [List.length_take, hz]
  omega
 ·intro j x hj
  have hjl : j < d.size := by
   have := (List.getElem?_eq_some_iff.1 hj).1
   simpa using this
  rw [List.getElem?_map, Array.getElem?_toList, Array.getElem?_eq_getElem hjl] at hj
  simp only [Option.map_some, Option.some.injEq] at hj
  have h2 := row_put cur d cap hs (by omega) j hjl
  show ∃ c0 c1, ((List.take (l.length * 2) _).drop (j * 2)).take 2 = c0 ++ c1 ∧ c0 = [Value.int .i64 x.f0] ∧ c1 = [Value.int .i64 x.f1]
  rw [List.drop_take, List.take_take, Nat.min_eq_left (by omega), h2]
  refine ⟨_, _, ?_, rfl, rfl⟩
  rw [getElem!_pos d j hjl, ← hj]
  rfl
 ·rw [hhp]
  simp
 ·intro k hk
  rw [hhp, Array.getElem?_append_left (by simp; omega), Array.getElem?_modify, if_neg (by omega)]
set_option maxHeartbeats 1000000 in
/-- compareTiles, in whatever world: it may lay blocks. -/
theorem cmpT_lays (x y : S35) (W : World) : Calls Try.prog 59 #[.agg #[.int .i64 x.f0, .int .i64 x.f1], .agg #[.int .i64 y.f0, .int .i64 y.f1]] W fun e w' => e = .returned (.int .i64 (cmpT x y)) ∧ ∃ q os', w' = grow (W.drewN q) os' := by
 unfold cmpT
 by_cases h : x.f0 = y.f0
 ·rw [if_pos h]
  go_enter Try.func59, Try.ntmps59
  go_wp2
  go_ret
  exact ⟨rfl, 0, _, by rw [alloc_eq_grow, alloc_eq_grow, grow_grow]; rfl⟩
 ·rw [if_neg h]
  go_enter Try.func59, Try.ntmps59
  go_wp2
  go_ret
  exact ⟨rfl, 0, _, by rw [alloc_eq_grow, alloc_eq_grow, grow_grow]; rfl⟩
theorem msort_nil : msort [] = [] := by
 unfold msort
 simp
/-- slices.SortFunc at a row of the call's own: it stays the call's own, and is in order. -/
theorem sortT (w : World) (base : Nat) (ok : Nat → Prop) (v : Value) (l : List S35) (hs : l.all smallT = true) (hl : l.length < 4611686018427387904) (hR : Kd.R k35 35 w base ok v l) :
  Calls Try.prog 58 #[v, .func (.func 59) #[] #[]] w fun e w' => e = .returned (.tuple #[]) ∧ Kd.R k35 35 w' base ok v (msort l) ∧ Go.RowKit.Below base w w' := by
 have hv : ∃ p cap, v = .slice p l.length cap ∧ (0 < l.length → ∃ g, p = some ⟨g, 0, none⟩) := by
  obtain ⟨_, inner, ⟨_, hown⟩, _⟩ := hR
  rcases hown with ⟨hv, hn⟩ | ⟨g, cap, cur, hv, _⟩
  ·exact ⟨none, 0, by rw [hv, hn], fun h => by omega⟩
  ·exact ⟨_, cap, hv, fun _ => ⟨g, rfl⟩⟩
 obtain ⟨p, cap, rfl, hp⟩ := hv
 by_cases h0 : l = []
 ·subst h0
  refine (Try.slices_SortFunc_none (α := Nat) p cap (.func (.func 59) #[] #[]) w).mono ?_
  rintro e w' ⟨he, rfl⟩
  exact ⟨he, by rw [msort_nil]; exact hR, Go.RowKit.Below.refl _ _⟩
 ·have hpos : 0 < l.length := List.length_pos_iff.2 h0
  obtain ⟨g, rfl⟩ := hp hpos
  obtain ⟨hH, hg⟩ := sort_holds w base g cap ok l hR (smalls l hs) (smalls_val l hs)
  have hsz := smalls_size l hs
  have hcmp : CmpLays Try.prog 59 #[] encT 2 cfT g 0 (smalls l hs).size w := fun _ _ _ _ x y => cmpT_lays x.1 y.1 _
  have hcon := Try.slices_SortFunc_total 2 Try.isAgg35 Try.sizeOf35 encT (fun _ => rfl) (fun x u hu => by simp [encT] at hu; rcases hu with rfl | rfl <;> rfl) cfT swoT 59 #[] g 0 cap (smalls l hs) w (enters_of Try.func59 (by kernel_rfl) rfl) hcmp hH hg (by omega) totT
  rw [hsz] at hcon
  refine hcon.mono ?_
  rintro e w' ⟨he, n, os, rfl⟩
  have hq : ((smalls l hs).toList.mergeSort fun x y => !(ltOf cfT) y x).toArray.size = l.length := by simp [hsz]
  obtain ⟨r1, r2⟩ := sort_row w base g cap ok l hR _ hq n os
  rw [List.toList_toArray, smalls_sort] at r1
  exact ⟨he, r1, r2⟩
end
/-- A list of tiles, sorted, in memory of its own. -/
def impl_sorted.f (l0 : List S35) : Option (List S35) := (slices_Clone_impl_Tile_impl_Tile.f l0).bind fun _ => if l0.all smallT = true then some (msort l0) else none
set_option maxHeartbeats 1000000 in
theorem impl_sorted.calls (A0 : Option Addr) (c0 : Nat) (l0 : List S35) (r : List S35) (w : World) (hr0 : Kd.C k35 w A0 l0.length l0) (hc0 : l0.length ≤ c0) (h : impl_sorted.f l0 = some r) :
  Calls Try.prog 29 #[.slice A0 l0.length c0] w fun e w' => ∃ v0_ : Value, e = .returned (v0_) ∧ Kd.R k35 35 w' w.heap.size (fun _ => True) v0_ r ∧ Below w.heap.size w w' := by
 unfold impl_sorted.f at h
 obtain ⟨t, ht, h⟩ := Option.bind_eq_some_iff.1 h
 have hl : l0.length < 8796093022208 := by
  unfold slices_Clone_impl_Tile_impl_Tile.f at ht
  by_cases hl : l0.length < 8796093022208
  ·exact hl
  ·rw [if_neg hl] at ht
   cases ht
 obtain rfl : l0 = t := by
  unfold slices_Clone_impl_Tile_impl_Tile.f at ht
  rw [if_pos hl] at ht
  exact Option.some.inj ht
 by_cases hs : l0.all smallT = true
 ·rw [if_pos hs] at h
  obtain rfl := Option.some.inj h
  have hcl := slices_Clone_impl_Tile_impl_Tile.calls A0 c0 l0 l0 w hr0 hc0 ht
  have hso := fun (W : World) (v : Value) (hR : Kd.R k35 35 W w.heap.size (fun _ => True) v l0) => sortT W w.heap.size (fun _ => True) v l0 hs (by omega) hR
  have HR := Lib.hid hr0
  clear hr0 h ht
  go_enter Try.func29, Try.ntmps29
  go_wp2_with (first
   | (go_at_call 57; refine hcl.mono ?_; rintro e w1 ⟨v1, rfl, ho1, hb1⟩)
   | (go_at_call 58; refine (hso _ _ ho1).mono ?_; rintro e w2 ⟨rfl, ho2, hb2⟩))
  go_ret
  exact ⟨_, rfl, ho2, hb1.trans hb2⟩
 ·rw [if_neg hs] at h
  cases h


/-! ### slices_Grow_impl_Tile_impl_Tile: function 60, by hand -/
theorem slices_Grow_impl_Tile_impl_Tile.info : (Try.prog.info? 35).map (fun i => (i.zero, i.size, i.bytes)) = some (some ((.agg #[(.int .i64 0), (.int .i64 0)])), 2, 16) := by kernel_rfl
/-- Room for so many elements, over nil alone. -/
def slices_Grow_impl_Tile_impl_Tile.f (l0 : List S35) (a1 : Int) : Option (List S35) := if l0.length = 0 then (if 0 ≤ a1 then (if a1 < 8796093022208 then some [] else none) else none) else none
set_option maxHeartbeats 2000000 in
set_option maxRecDepth 100000 in
theorem slices_Grow_impl_Tile_impl_Tile.calls (A0 : Option Addr) (c0 : Nat) (l0 : List S35) (a1 : Int) (r : List S35) (w : World) (_hr0 : Kd.C k35 w A0 l0.length l0) (_hc0 : l0.length ≤ c0) (h : slices_Grow_impl_Tile_impl_Tile.f l0 a1 = some r) (hA : A0 = none := by rfl) (hz : c0 = 0 := by rfl) :
  Calls Try.prog 60 #[.slice A0 l0.length c0, .int .i64 a1] w fun e w' => ∃ v0_ : Value, e = .returned (v0_) ∧ Kd.R k35 35 w' w.heap.size (fun _ => True) v0_ r ∧ Below w.heap.size w w' := by
 subst hA hz
 unfold slices_Grow_impl_Tile_impl_Tile.f at h
 by_cases h1 : l0.length = 0
 ·rw [if_pos h1] at h
  by_cases h2 : 0 ≤ a1
  ·rw [if_pos h2] at h
   by_cases h3 : a1 < 8796093022208
   ·rw [if_pos h3] at h
    obtain rfl := Option.some.inj h
    clear h
    rw [h1]
    obtain ⟨n, rfl⟩ : ∃ n : Nat, a1 = (n : Int) := ⟨a1.toNat, by omega⟩
    clear _hr0 _hc0 h1 h2
    have q1 : ¬ ((n : Int) < 0) := by omega
    have q1b : decide ((n : Int) < 0) = false := decide_eq_false q1
    by_cases h0 : n = 0
    ·subst h0
     go_enter Try.func60, Try.ntmps60
     go_wp2
     go_ret
     exact ⟨_, rfl, Kd.R_nil _ _ _ _ _, Below.refl _ _⟩
    ·obtain ⟨i0, hi, hz0, hz1, hz2⟩ := info_parts slices_Grow_impl_Tile_impl_Tile.info
     have q4 : (n : Int) > 0 := by omega
     have q4b : decide ((n : Int) > 0) = true := decide_eq_true q4
     have hold : (Builtin.firstCells i0.size 0 (.slice none 0 0)).run Try.prog w.drew = .ok (([] : List Value).toArray) w.drew := run_firstCells_none w.drew i0.size 0 0 0
     have hrz : ∀ ty, (Builtin.append_ #[24, 3] ty #[.slice none 0 0, .int .i64 (n : Int)]).run Try.prog w =
       .ok (.slice (some ⟨w.heap.size, 0, none⟩) n (grownCap w n 0 35)) (w.drew.alloc (.cells (([] : List Value).toArray ++ Builtin.zeroCells ((.agg #[(.int .i64 0), (.int .i64 0)]) : Value).cells n ++ Builtin.zeroCells ((.agg #[(.int .i64 0), (.int .i64 0)]) : Value).cells (grownCap w n 0 35 - n)) 35)) := fun ty => by
      have h := Lib.run_append_grow_zeros w 24 3 ty 35 i0 _ .i64 .i64 Try.underlying24 Try.underlying3 hi hz0 none 0 0 [] hold n (by omega) (by omega) (by omega) (by omega) (by rw [hz2]; omega)
       (growslice_fits (by omega) (by rw [hz2]; omega))
      rw [Nat.zero_add] at h
      exact h
     have hGn : n ≤ grownCap w n 0 35 := grownCap_ge w _ _ _
     obtain ⟨G, hG⟩ : ∃ G, G = grownCap w n 0 35 := ⟨_, rfl⟩
     rw [← hG] at hrz hGn
     have hG63 : G ≤ 9223372036854775807 := by
      have := grownCap_le_maxLen w n 0 35 (by unfold maxLen; omega)
      rw [← hG] at this
      unfold maxLen at this
      omega
     clear hold hG hi hz0 hz1 hz2
     have HG := Lib.hid hGn
     have H0 := Lib.hid h0
     have HG63 := Lib.hid hG63
     have hn63 : (n : Int) ≤ 9223372036854775807 := by omega
     have hw0 : wrap64 ((n : Int) - 0) = (n : Int) := by unfold wrap64; omega
     have q4c : decide (0 < n) = true := decide_eq_true (by omega)
     clear hGn h0 hG63 h3 q1 q4
     go_enter Try.func60, Try.ntmps60
     go_wp2_with (at_builtin; refine Lib.wpList_append_run _ rfl _ _ _ _ rfl _ _ rfl rfl _ _ (hrz _) ?_)
     go_ret
     refine ⟨_, rfl, ⟨fun _ _ => trivial, [], ?_, ?_⟩, (Below.refl _ _).drew.alloc (by simp) _⟩
     ·refine ⟨by simp, .inr ⟨w.heap.size, G, (Builtin.zeroCells #[Value.int .i64 0, Value.int .i64 0] n ++ Builtin.zeroCells #[Value.int .i64 0, Value.int .i64 0] (G - n)), rfl, Nat.le_refl _, ?_, Nat.zero_le _, by unfold maxLen; exact HG63.out, ?_, by simp⟩⟩
      ·exact Array.getElem?_push_size
      ·have := HG.out
       show (Builtin.zeroCells #[Value.int .i64 0, Value.int .i64 0] n ++ Builtin.zeroCells #[Value.int .i64 0, Value.int .i64 0] (G - n)).size = G * 2
       simp [Builtin.zeroCells]
       omega
     ·exact Reps.none _ _
   ·rw [if_neg h3] at h
    exact absurd h (by simp)
  ·rw [if_neg h2] at h
   exact absurd h (by simp)
 ·rw [if_neg h1] at h
  exact absurd h (by simp)

end Go.Proofs.Ytkaafmnfcbgafaa.QFnHandsAsSets
