-- WRITTEN BY A PROGRAM OF THIS CLAIM'S AUTHOR (wprint.py)
import Derived.Test.YtgcnlhebfnaaoaaQFnExactHintOfx0
namespace Go.Proofs.Ytgcnlhebfnaaoaa.QFnExactHintOf
open Go.RowKit Go.Proofs.YtgcnlhebfnaaoaaW.PrintWords Go.Proofs.YtgcnlhebfnaaoaaW.PrintLast Go.Proofs.YtgcnlhebfnaaoaaW.PrintMore
attribute [local go_sem] max2_int min2_int max_two min_two max_three min_three max_four min_four   -- for this text's walks alone
set_option linter.unusedVariables false
set_option linter.unusedSimpArgs false

/-! ### impl_tile: function 96 -/
def impl_tile.f (a0 : Int) (a1 : Int) : Option (Int × Int) := some (mn a0 a1, mx a0 a1)
set_option maxHeartbeats 8000000 in
set_option maxRecDepth 100000 in
theorem impl_tile.calls (a0 : Int) (a1 : Int) (r1 : Int) (r2 : Int) (w : World) (h : impl_tile.f a0 a1 = some (r1, r2)) :
    Calls Try.prog 96 #[.int .i64 a0, .int .i64 a1] w fun e w' => e = .returned (.agg #[.int .i64 r1, .int .i64 r2]) ∧ Below w.heap.size w w' := by
  have hu25 := Try.underlying25
  have HB := Aside0.mk (Below.refl w.heap.size w)
  have H : (some (mn a0 a1, mx a0 a1)) = some (r1, r2) := h
  clear h
  obtain ⟨ji3, hji3⟩ : ∃ j_ : Int, (mn a0 a1) = j_ := ⟨_, rfl⟩
  replace H : (some (ji3, mx a0 a1)) = some (r1, r2) := by first | (rw [hji3] at H; exact H) | (simp only [hji3] at H ⊢; exact H)
  have hji3_ : (if a1 < a0 then a1 else a0) = ji3 := hji3
  obtain ⟨ji4, hji4⟩ : ∃ j_ : Int, (mx a0 a1) = j_ := ⟨_, rfl⟩
  replace H : (some (ji3, ji4)) = some (r1, r2) := by first | (rw [hji4] at H; exact H) | (simp only [hji4] at H ⊢; exact H)
  have hji4_ : (if a0 < a1 then a1 else a0) = ji4 := hji4
  simp only [Option.some.injEq, Prod.mk.injEq] at H
  obtain ⟨rfl, rfl⟩ := H
  go_enter Try.func96, Try.ntmps96
  go_wp2_with (first | ((with_reducible refine gate_dst (N := 4) rfl ?_); refine box_event ?hg (N := 4) ?hd (cs := #[.int .i64 0, .int .i64 0]) (t := 25) ?hr ?_; (case hd => rfl); (case hg => rfl); (case hr => first | (go_simp; done) | (go_simp; rfl)); intro gb240 hg w5 hbox hb; have BK240 := Aside0.mk (hbox); have GW240 := Aside0.mk ((by rw [hg]; exact (below_size (by repeat (first | (with_reducible first | exact HB.out | apply below_alloc | apply pw_below_drewN | apply below_drew1) | exact HB.out))) : w.heap.size ≤ gb240)); have GE240 := Aside0.mk ((by rw [hg]; exact (below_size (by repeat (first | (with_reducible first | exact HB.out | apply below_alloc | apply pw_below_drewN | apply below_drew1) | exact HB.out))) : w.heap.size ≤ gb240)); replace HB := Aside0.mk (below_step (by repeat (first | (with_reducible first | exact HB.out | apply below_alloc | apply pw_below_drewN | apply below_drew1) | exact HB.out)) hb); clear hb hbox hg; have hcz6_0 : w5.cell? ⟨gb240, 0, none⟩ = some (.int .i64 0) := (blk_cell BK240.out 0).trans rfl; have hcz6_1 : w5.cell? ⟨gb240, 1, none⟩ = some (.int .i64 0) := (blk_cell BK240.out 1).trans rfl; have hfz6_0 := blk_frozen BK240.out 0; have hfz6_1 := blk_frozen BK240.out 1))
  refine bodyPost_ret (results_cell_row rfl _ _ gb240 25 #[.int .i64 ji3, .int .i64 ji4] (0, 0) _ rfl (by (with_reducible repeat (first | refine blk_drewN ?_ _ | refine blk_drew ?_ | refine blk_alloc ?_ _)); refine blk_put (cs := #[.int .i64 ji3, .int .i64 0]) ?_ 1 _ rfl; (with_reducible repeat (first | refine blk_drewN ?_ _ | refine blk_drew ?_ | refine blk_alloc ?_ _)); refine blk_put (cs := #[.int .i64 0, .int .i64 0]) ?_ 0 _ rfl; (with_reducible repeat (first | refine blk_drewN ?_ _ | refine blk_drew ?_ | refine blk_alloc ?_ _)); exact BK240.out) Try.underlying25 rfl (by kernel_rfl)) rfl ?_
  exact ⟨by first | rfl | (simp [errW_none, errW_some] <;> rfl) | (simp only [← hji3, ← hji4]; first | rfl | (simp [errW_none, errW_some] <;> rfl)) | (simp [*, errW_none, errW_some] <;> rfl), by repeat (first | (with_reducible first | exact HB.out | apply below_alloc | apply pw_below_drewN | apply below_drew1 | refine below_set ?_ GE240.out) | exact HB.out)⟩

/-! ### slices_Clone_impl_Tile_impl_Tile: function 114, by hand -/
theorem slices_Clone_impl_Tile_impl_Tile.info : (Try.prog.info? 25).map (fun i => (i.zero, i.size, i.bytes)) = some (some (.agg #[(.int .i64 0), (.int .i64 0)]), k25.sz, 16) := by kernel_rfl
/-- A copy in memory of its own (nil of nil). -/
def slices_Clone_impl_Tile_impl_Tile.f (l0 : List (S25)) : Option (List (S25)) := if l0.length < 8796093022208 then some l0 else none
set_option maxHeartbeats 1000000 in
theorem slices_Clone_impl_Tile_impl_Tile.calls (A0 : Option Addr) (c0 : Nat) (l0 : List (S25)) (r : List (S25)) (w : World) (hr0 : Kd.C k25 w A0 l0.length l0) (_hc0 : l0.length ≤ c0) (h : slices_Clone_impl_Tile_impl_Tile.f l0 = some r) :
    Calls Try.prog 114 #[.slice A0 l0.length c0] w fun e w' => ∃ v0_ : Value, e = .returned (v0_) ∧ Kd.R k25 25 w' w.heap.size (fun _ => True) v0_ r ∧ Below w.heap.size w w' := by
  unfold slices_Clone_impl_Tile_impl_Tile.f at h
  by_cases hl : l0.length < 8796093022208
  · rw [if_pos hl] at h
    obtain rfl := Option.some.inj h
    clear h
    cases A0 with
    | none =>
      have hz : l0 = [] := by
        cases l0 with
        | nil => rfl
        | cons x xs =>
          obtain ⟨ad, e, _⟩ := hr0.2.2 (by simp)
          cases e
      subst hz
      clear hr0 hl
      have hq := fun (W : World) => Lib.run_eql_slice_nil (P := Try.prog) W 36 25 none 0 c0 0 0 Try.underlying36
      go_enter Try.func114, Try.ntmps114
      go_wp2
      go_ret
      exact ⟨_, rfl, Kd.R_nil _ _ _ _ _, Below.refl _ _⟩
    | some ad =>
      have hq := fun (W : World) => Lib.run_eql_slice_nil (P := Try.prog) W 36 25 (some ad) l0.length c0 0 0 Try.underlying36
      have HR := Lib.hid hr0
      clear hr0
      go_enter Try.func114, Try.ntmps114
      go_wp2_with (first
        | ((with_reducible refine gate_dst (N := 5) rfl ?_); refine Kd.R_lit k25 _ 25 ?hg (N := 5) ?hd (xs := ([] : List (S25))) (inner := []) (ok := fun _ => True) (okp := fun _ => True) ?hr ?hp (fun _ hk => hk) trivial (Below.refl _ _) (Nat.le_refl _) (by simp) ?_; (case hd => rfl); (case hg => rfl); (case hr => first | (go_simp; done) | (go_simp; rfl)); (case hp => exact (Reps.none _ _)); intro v1 w1 ho1 hb1 hg_ hnew_; clear hg_ hnew_)
        | ((with_reducible refine gate_builtin (b := .append) (xs := #[.tmp 5, .tmp 6]) rfl ?_); at_builtin; refine Kd.R_append_rows k25 (w0 := w) w.heap.size rfl (.tmp 5) (.tmp 6) 36 25 (.agg #[(.int .i64 0), (.int .i64 0)]) 16 rfl Try.underlying36 slices_Clone_impl_Tile_impl_Tile.info rfl (by decide) (by omega) v1 [] l0 _ _ _ (fun _ => True) (fun _ => False) rfl rfl ?aO ?aR (fun _ _ h => h) (fun _ h => h.elim) ?aF ?aB ?aS ?aL ?_; (case aR => exact Kd.C_below HR.out hb1); (case aB => exact hb1); (case aF => exact (fun _ _ => trivial)); (case aO => exact ho1); (case aS => exact hb1.size); (case aL => simp; omega); intro v2 w2 ho2 hb2 hg hat))
      go_ret
      exact ⟨_, rfl, ho2, hb2⟩
  · rw [if_neg hl] at h
    exact absurd h (by simp)


/-! ### slices_Clone_int_int: function 144, by hand -/
theorem slices_Clone_int_int.info : (Try.prog.info? 3).map (fun i => (i.zero, i.size, i.bytes)) = some (some (.int .i64 0), (Kd.int .i64).sz, 8) := by kernel_rfl
/-- A copy in memory of its own (nil of nil). -/
def slices_Clone_int_int.f (l0 : List (Int)) : Option (List (Int)) := if l0.length < 17592186044416 then some l0 else none
set_option maxHeartbeats 1000000 in
theorem slices_Clone_int_int.calls (A0 : Option Addr) (c0 : Nat) (l0 : List (Int)) (r : List (Int)) (w : World) (hr0 : Kd.C (Kd.int .i64) w A0 l0.length l0) (_hc0 : l0.length ≤ c0) (h : slices_Clone_int_int.f l0 = some r) :
    Calls Try.prog 144 #[.slice A0 l0.length c0] w fun e w' => ∃ v0_ : Value, e = .returned (v0_) ∧ Kd.R (Kd.int .i64) 3 w' w.heap.size (fun _ => True) v0_ r ∧ Below w.heap.size w w' := by
  unfold slices_Clone_int_int.f at h
  by_cases hl : l0.length < 17592186044416
  · rw [if_pos hl] at h
    obtain rfl := Option.some.inj h
    clear h
    cases A0 with
    | none =>
      have hz : l0 = [] := by
        cases l0 with
        | nil => rfl
        | cons x xs =>
          obtain ⟨ad, e, _⟩ := hr0.2.2 (by simp)
          cases e
      subst hz
      clear hr0 hl
      have hq := fun (W : World) => Lib.run_eql_slice_nil (P := Try.prog) W 49 3 none 0 c0 0 0 Try.underlying49
      go_enter Try.func144, Try.ntmps144
      go_wp2
      go_ret
      exact ⟨_, rfl, Kd.R_nil _ _ _ _ _, Below.refl _ _⟩
    | some ad =>
      have hq := fun (W : World) => Lib.run_eql_slice_nil (P := Try.prog) W 49 3 (some ad) l0.length c0 0 0 Try.underlying49
      have HR := Lib.hid hr0
      clear hr0
      go_enter Try.func144, Try.ntmps144
      go_wp2_with (first
        | ((with_reducible refine gate_dst (N := 5) rfl ?_); refine Kd.R_lit (Kd.int .i64) _ 3 ?hg (N := 5) ?hd (xs := ([] : List (Int))) (inner := []) (ok := fun _ => True) (okp := fun _ => True) ?hr ?hp (fun _ hk => hk) trivial (Below.refl _ _) (Nat.le_refl _) (by simp) ?_; (case hd => rfl); (case hg => rfl); (case hr => first | (go_simp; done) | (go_simp; rfl)); (case hp => exact (Reps.none _ _)); intro v1 w1 ho1 hb1 hg_ hnew_; clear hg_ hnew_)
        | ((with_reducible refine gate_builtin (b := .append) (xs := #[.tmp 5, .tmp 6]) rfl ?_); at_builtin; refine Kd.R_append_rows (Kd.int .i64) (w0 := w) w.heap.size rfl (.tmp 5) (.tmp 6) 49 3 (.int .i64 0) 8 rfl Try.underlying49 slices_Clone_int_int.info rfl (by decide) (by omega) v1 [] l0 _ _ _ (fun _ => True) (fun _ => False) rfl rfl ?aO ?aR (fun _ _ h => h) (fun _ h => h.elim) ?aF ?aB ?aS ?aL ?_; (case aR => exact Kd.C_below HR.out hb1); (case aB => exact hb1); (case aF => exact (fun _ _ => trivial)); (case aO => exact ho1); (case aS => exact hb1.size); (case aL => simp; omega); intro v2 w2 ho2 hb2 hg hat))
      go_ret
      exact ⟨_, rfl, ho2, hb2⟩
  · rw [if_neg hl] at h
    exact absurd h (by simp)


/-! ### impl_Puzzle_fits: function 175 -/
def impl_Puzzle_fits.f (l0_0 : List (S25)) (l0_1 : List Int) (a1 : Int) (a2 : Int) : Option (Bool) := if 0 ≤ a1 then (if a1 < (l0_1.length : Int) then (if (rd l0_1 a1) = (-1) then (some true) else (some ((rd l0_1 a1) == a2))) else (none)) else (none)
set_option maxHeartbeats 8000000 in
set_option maxRecDepth 100000 in
theorem impl_Puzzle_fits.calls (A0_0 : Option Addr) (c0_0 : Nat) (l0_0 : List (S25)) (A0_1 : Option Addr) (c0_1 : Nat) (l0_1 : List Int) (a1 : Int) (a2 : Int) (r : Bool) (w : World) (hr0_0 : Kd.C k25 w A0_0 l0_0.length l0_0) (hc0_0 : l0_0.length ≤ c0_0) (hr0_1 : Kd.C (Kd.int .i64) w A0_1 l0_1.length l0_1) (hc0_1 : l0_1.length ≤ c0_1) (h : impl_Puzzle_fits.f l0_0 l0_1 a1 a2 = some r) :
    Calls Try.prog 175 #[.agg #[.slice A0_0 l0_0.length c0_0, .slice A0_1 l0_1.length c0_1], .int .i64 a1, .int .i64 a2] w fun e w' => e = .returned (.bool r) ∧ Below w.heap.size w w' := by
  have hu54 := Try.underlying54
  have HR0_0 := Aside0.mk hr0_0
  have HC0_0 := Aside0.mk hc0_0
  clear hr0_0 hc0_0
  have HR0_1 := Aside0.mk hr0_1
  have HC0_1 := Aside0.mk hc0_1
  clear hr0_1 hc0_1
  have HB := Aside0.mk (Below.refl w.heap.size w)
  have H : (if 0 ≤ a1 then (if a1 < (l0_1.length : Int) then (if (rd l0_1 a1) = (-1) then (some true) else (some ((rd l0_1 a1) == a2))) else (none)) else (none)) = some r := h
  clear h
  by_cases c4 : 0 ≤ a1
  · rw [if_pos c4] at H
    have c4b0 : decide (0 ≤ a1) = true := decide_eq_true c4
    clear c4
    by_cases c5 : a1 < (l0_1.length : Int)
    · rw [if_pos c5] at H
      have c5b0 : decide (a1 < (l0_1.length : Int)) = true := decide_eq_true c5
      clear c5
      by_cases c6 : (rd l0_1 a1) = (-1)
      · rw [if_pos c6] at H
        have c6b0 : ((rd l0_1 a1) == (-1)) = true := beq_iff_eq.mpr c6
        have c6b1 : ((rd l0_1 a1) != (-1)) = false := bne_eq_false_iff_eq.mpr c6
        clear c6
        obtain rfl := Option.some.inj H
        go_enter Try.func175, Try.ntmps175
        go_wp2_with (first | ((with_reducible refine gate_dst (N := 3) rfl ?_); refine box_event ?hg (N := 3) ?hd (cs := #[.slice A0_0 l0_0.length c0_0, .slice A0_1 l0_1.length c0_1]) (t := 54) ?hr ?_; (case hd => rfl); (case hg => rfl); (case hr => first | (go_simp; done) | (go_simp; rfl)); intro gb241 hg w7 hbox hb; have BK241 := Aside0.mk (hbox); have GW241 := Aside0.mk ((by rw [hg]; exact (below_size (by repeat (first | (with_reducible first | exact HB.out | apply below_alloc | apply pw_below_drewN | apply below_drew1) | exact HB.out))) : w.heap.size ≤ gb241)); have GE241 := Aside0.mk ((by rw [hg]; exact (below_size (by repeat (first | (with_reducible first | exact HB.out | apply below_alloc | apply pw_below_drewN | apply below_drew1) | exact HB.out))) : w.heap.size ≤ gb241)); replace HB := Aside0.mk (below_step (by repeat (first | (with_reducible first | exact HB.out | apply below_alloc | apply pw_below_drewN | apply below_drew1) | exact HB.out)) hb); clear hb hbox hg; have hcz8_0 : w7.cell? ⟨gb241, 0, none⟩ = some (.slice A0_0 l0_0.length c0_0) := (blk_cell BK241.out 0).trans rfl; have hcz8_1 : w7.cell? ⟨gb241, 1, none⟩ = some (.slice A0_1 l0_1.length c0_1) := (blk_cell BK241.out 1).trans rfl; have hfz8_0 := blk_frozen BK241.out 0; have hfz8_1 := blk_frozen BK241.out 1; have p242 : 0 ≤ (a1 : Int) := of_decide_eq_true (by first | (with_reducible assumption) | assumption); have q242 : a1 < (l0_1.length : Int) := of_decide_eq_true (by first | (with_reducible assumption) | assumption); obtain ⟨ad242, e242, hx242_0⟩ := Kd.at_int HR0_1.out a1 p242 q242; cases e242; replace hx242_0 := (HB.out.cell (World.block_lt_of_cell? w _ hx242_0)).trans hx242_0; replace p242 := eq_true p242; replace q242 := eq_true q242))
        go_ret
        exact ⟨by first | rfl | (simp [errW_none, errW_some] <;> rfl) | (simp [*, errW_none, errW_some] <;> rfl), by repeat (first | (with_reducible first | exact HB.out | apply below_alloc | apply pw_below_drewN | apply below_drew1 | refine below_set ?_ GE241.out) | exact HB.out)⟩
      · rw [if_neg c6] at H
        have c6b0 : ((rd l0_1 a1) == (-1)) = false := beq_eq_false_iff_ne.mpr c6
        have c6b1 : ((rd l0_1 a1) != (-1)) = true := bne_iff_ne.mpr c6
        obtain rfl := Option.some.inj H
        go_enter Try.func175, Try.ntmps175
        go_wp2_with (first | ((with_reducible refine gate_dst (N := 3) rfl ?_); refine box_event ?hg (N := 3) ?hd (cs := #[.slice A0_0 l0_0.length c0_0, .slice A0_1 l0_1.length c0_1]) (t := 54) ?hr ?_; (case hd => rfl); (case hg => rfl); (case hr => first | (go_simp; done) | (go_simp; rfl)); intro gb241 hg w9 hbox hb; have BK241 := Aside0.mk (hbox); have GW241 := Aside0.mk ((by rw [hg]; exact (below_size (by repeat (first | (with_reducible first | exact HB.out | apply below_alloc | apply pw_below_drewN | apply below_drew1) | exact HB.out))) : w.heap.size ≤ gb241)); have GE241 := Aside0.mk ((by rw [hg]; exact (below_size (by repeat (first | (with_reducible first | exact HB.out | apply below_alloc | apply pw_below_drewN | apply below_drew1) | exact HB.out))) : w.heap.size ≤ gb241)); replace HB := Aside0.mk (below_step (by repeat (first | (with_reducible first | exact HB.out | apply below_alloc | apply pw_below_drewN | apply below_drew1) | exact HB.out)) hb); clear hb hbox hg; have hcz10_0 : w9.cell? ⟨gb241, 0, none⟩ = some (.slice A0_0 l0_0.length c0_0) := (blk_cell BK241.out 0).trans rfl; have hcz10_1 : w9.cell? ⟨gb241, 1, none⟩ = some (.slice A0_1 l0_1.length c0_1) := (blk_cell BK241.out 1).trans rfl; have hfz10_0 := blk_frozen BK241.out 0; have hfz10_1 := blk_frozen BK241.out 1; have p242 : 0 ≤ (a1 : Int) := of_decide_eq_true (by first | (with_reducible assumption) | assumption); have q242 : a1 < (l0_1.length : Int) := of_decide_eq_true (by first | (with_reducible assumption) | assumption); obtain ⟨ad242, e242, hx242_0⟩ := Kd.at_int HR0_1.out a1 p242 q242; cases e242; replace hx242_0 := (HB.out.cell (World.block_lt_of_cell? w _ hx242_0)).trans hx242_0; replace p242 := eq_true p242; replace q242 := eq_true q242; have p243 : 0 ≤ (a1 : Int) := of_decide_eq_true (by first | (with_reducible assumption) | assumption); have q243 : a1 < (l0_1.length : Int) := of_decide_eq_true (by first | (with_reducible assumption) | assumption); obtain ⟨ad243, e243, hx243_0⟩ := Kd.at_int HR0_1.out a1 p243 q243; obtain rfl : ad242 = ad243 := (by injection e243); replace hx243_0 := (HB.out.cell (World.block_lt_of_cell? w _ hx243_0)).trans hx243_0; replace p243 := eq_true p243; replace q243 := eq_true q243))
        go_ret
        exact ⟨by first | rfl | (simp [errW_none, errW_some] <;> rfl) | (simp [*, errW_none, errW_some] <;> rfl), by repeat (first | (with_reducible first | exact HB.out | apply below_alloc | apply pw_below_drewN | apply below_drew1 | refine below_set ?_ GE241.out) | exact HB.out)⟩
    · rw [if_neg c5] at H
      exact absurd H (by simp)
  · rw [if_neg c4] at H
    exact absurd H (by simp)

/-! ### slices_Delete_impl_Tile_impl_Tile: function 176, by hand -/
/-! ### slices.Delete of one element, at a row of the call's own -/
theorem R_past {α : Type} {d : Kd α} {e base n cap g j : Nat} {ok : Nat → Prop} {W : World} {xs : List α} (h : d.R e W base ok (.slice (some ⟨g, 0, none⟩) n cap) xs) (hj : n * d.sz ≤ j) (u : Value) :
    d.R e (W.setCell ⟨g, j, none⟩ u) base ok (.slice (some ⟨g, 0, none⟩) n cap) xs := by
  obtain ⟨hok, inner, ⟨hl, hown⟩, hr⟩ := h
  have hne : ∀ k, (ok k ∧ some k ≠ (Value.slice (some ⟨g, 0, none⟩) n cap).ownBlock) → k ≠ g := by
    rintro k ⟨_, hk⟩ rfl
    exact hk rfl
  rcases hown with ⟨hv, _⟩ | ⟨g', cap', cur, hv, hb, hh, hn, hm, hs, ht⟩
  · cases hv
  · injection hv with h1 h2 h3
    injection h1 with h1
    injection h1 with h1
    subst h1
    subst h3
    subst h2
    refine ⟨hok, inner, ⟨hl, .inr ⟨g, cap, cur.setIfInBounds j u, rfl, hb, blk_set hh j u, hn, hm, by rw [Array.size_setIfInBounds]; exact hs, ?_⟩⟩, hr.imp_ (fun p c hp => ?_)⟩
    · rw [← ht, Array.toList_setIfInBounds, List.take_set_of_le (by omega)]
    · exact Kd.M_far (p := ⟨g, j, none⟩) hp hne u
theorem R_past2 {α : Type} {d : Kd α} {e base n cap g j : Nat} {ok : Nat → Prop} {W : World} {xs : List α} (h : d.R e W base ok (.slice (some ⟨g, 0, none⟩) n cap) xs) (hj : n * d.sz ≤ j) (us : List Value) :
    d.R e (W.setCells g j us) base ok (.slice (some ⟨g, 0, none⟩) n cap) xs := by
  induction us generalizing W j with
  | nil => exact h
  | cons u us ih => exact ih (R_past h hj u) (by omega)
theorem below_cells {base g j : Nat} {w W : World} (h : Below base w W) (hg : base ≤ g) (us : List Value) : Below base w (W.setCells g j us) := by
  induction us generalizing W j with
  | nil => exact h
  | cons u us ih => exact ih (h.setCell hg _)
theorem delT_info : (Try.prog.info? 25).map (·.size) = some k25.sz := by kernel_rfl
theorem grown_cell {g j : Nat} {w W : World} (h : w.grownBy W (some g)) (u : Value) : w.grownBy (W.setCell ⟨g, j, none⟩ u) (some g) :=
  ⟨h.os, h.tape, h.output, by rw [World.size_setCell]; exact h.size, fun i hi hr => (Below.heap_setCell W ⟨g, j, none⟩ u i (fun e => hr (by rw [e]))).trans (h.block i hi hr)⟩
theorem grown_cells {g j : Nat} {w W : World} (h : w.grownBy W (some g)) (us : List Value) : w.grownBy (W.setCells g j us) (some g) := by
  induction us generalizing W j with
  | nil => exact h
  | cons u us ih => exact ih (grown_cell h u)
theorem zeroT_ (w : World) : (zeroValue 25).run Try.prog w = .ok (.agg #[.int .i64 0, .int .i64 0]) w := by kernel_rfl
theorem clearT_ {w : World} {g o c : Nat} {cur : Array Value} (hh : w.heap[g]? = some (.cells cur 25 (0, 0))) (hs : o + 2 ≤ cur.size) (ty : TypeId) :
    (Builtin.clear_ #[36] ty #[.slice (some ⟨g, o, none⟩) 1 c]).run Try.prog w = .ok (.tuple #[]) (w.setCells g o [.int .i64 0, .int .i64 0]) := by
  have hst := run_storeCells_cells (P := Try.prog) g o [.int .i64 0, .int .i64 0] 0 w
    (fun j hj => by
      rw [blk_cell hh]
      have : o + 0 + j < cur.size := by simp at hj; omega
      rw [Array.getElem?_eq_getElem this]
      rfl)
    (fun j hj => blk_frozen hh _) (fun v hv => by simp at hv; subst hv; rfl)
  simp only [Nat.add_zero] at hst
  have hzc : (Builtin.zeroCells (Value.agg #[.int .i64 0, .int .i64 0]).cells 1).toList = [.int .i64 0, .int .i64 0] := by kernel_rfl
  simp [Builtin.clear_, run_underlying Try.underlying36, zeroT_, hzc, hst]
set_option maxHeartbeats 4000000 in
set_option maxRecDepth 1000000 in
theorem delT (w : World) (base g cap k m : Nat) (ok : Nat → Prop) (l : List S25) (hb : base ≤ w.heap.size) (hl : l.length = m + 1) (hk : k ≤ m) (hR : Kd.R k25 25 w base ok (.slice (some ⟨g, 0, none⟩) (m + 1) cap) l) :
    Calls Try.prog 176 #[.slice (some ⟨g, 0, none⟩) (m + 1) cap, .int .i64 k, .int .i64 ((k : Int) + 1)] w fun e w' => e = .returned (.slice (some ⟨g, 0, none⟩) m cap) ∧ Kd.R k25 25 w' base ok (.slice (some ⟨g, 0, none⟩) m cap) (l.eraseIdx k) ∧ Below base w w' ∧ w.grownBy w' (some g) := by
  obtain ⟨cur, hok, hbg, hh, hn, hm, hs⟩ : ∃ cur, (∀ k, some g = some k → ok k) ∧ base ≤ g ∧ w.heap[g]? = some (.cells cur 25 (0, 0)) ∧ m + 1 ≤ cap ∧ cap ≤ maxLen ∧ cur.size = cap * 2 := by
    obtain ⟨hok, inner, ⟨hlen, hown⟩, hrep⟩ := hR
    rcases hown with ⟨hv, _⟩ | ⟨g', cap', cur, hv, hb, hh, hn, hm, hs, ht⟩
    · cases hv
    · injection hv with h1 h2 h3
      injection h1 with h1
      injection h1 with h1
      subst h1
      subst h3
      exact ⟨cur, hok, hb, hh, by omega, hm, hs⟩
  have HR := Lib.hid hR
  have HL := Lib.hid hl
  unfold maxLen at hm
  have huel := Try.underlying25
  have hkc : k ≤ cap := by omega
  have hkd : k + 1 ≤ cap := by omega
  have hkl : k + 1 ≤ m + 1 := by omega
  have hi0 : 0 ≤ (k : Int) + 1 := by omega
  have hi1 : (k : Int) + 1 ≤ ((m + 1 : Nat) : Int) := by omega
  have hi2 : (k : Int) + 1 ≤ ((m : Nat) : Int) + 1 := by omega
  have hcm : ¬ cap = m := by omega
  have hA : (if cap = k + 1 then (some ⟨g, 0, none⟩ : Option Addr) else some ⟨g, (k + 1) * 2, none⟩) = if cap = k + 1 then some ⟨g, 0, none⟩ else (some (⟨g, 0, none⟩ : Addr)).map (·.add ((k + 1) * k25.sz)) := by
    by_cases h : cap = k + 1
    · rw [if_pos h, if_pos h]
    · rw [if_neg h, if_neg h, Option.map_some, add_plain]
      rfl
  have HA := Lib.hid hA
  clear hR hh hs hok hl hA
  go_enter Try.func176, Try.ntmps176
  go_wp2_with fail
  go_region_law (refine Kd.R_delete_step k25 (w0 := w) (g := g) (n := m + 1) (c := cap) (k := k) (m := m + 1 - (k + 1)) (c2 := cap - (k + 1)) (A := if cap = k + 1 then (some ⟨g, 0, none⟩ : Option Addr) else some ⟨g, (k + 1) * 2, none⟩) (xs := l) (ok := ok) base rfl (.tmp 22) (.tmp 25) 36 25 rfl Try.underlying36 delT_info (by rfl) (by first | rfl | (simp [Act.eval, Act.put]; done)) HA.out rfl (Kd.R_drewN HR.out 1) (by omega) (below_drew1 (Below.refl _ _)) hb ?_; intro w1 hr1 hb1 hg1)
  have HR1 := Lib.hid hr1
  have HG1 := Lib.hid hg1
  have hcl : ∀ ty, (Builtin.clear_ #[36] ty #[.slice (some ⟨g, m * 2, none⟩) 1 (cap - m)]).run Try.prog w1 = .ok (.tuple #[]) (w1.setCells g (m * 2) [.int .i64 0, .int .i64 0]) := by
    intro ty
    obtain ⟨cur, hh, hs⟩ : ∃ cur, w1.heap[g]? = some (.cells cur 25 (0, 0)) ∧ cur.size = cap * 2 := by
      obtain ⟨hok, inner, ⟨hlen, hown⟩, hrep⟩ := hr1
      rcases hown with ⟨hv, _⟩ | ⟨g', cap', cur, hv, hb, hh, hn, hm, hs, ht⟩
      · cases hv
      · injection hv with h1 h2 h3
        injection h1 with h1
        injection h1 with h1
        subst h1
        subst h3
        exact ⟨cur, hh, hs⟩
    exact clearT_ hh (by omega) ty
  clear hr1 hg1
  go_wp2
  all_goals
    have hr2 : Kd.R k25 25 w1 base ok (.slice (some ⟨g, 0, none⟩) m cap) (l.eraseIdx k) := HR1.out
    have hg2 : w.grownBy w1 (some g) := ⟨HG1.out.os, HG1.out.tape, HG1.out.output, HG1.out.size, HG1.out.block⟩
    go_ret
    first
      | exact ⟨rfl, R_past2 hr2 (Nat.le_refl _) _, below_cells hb1 hbg _, grown_cells hg2 _⟩
      | (have hq : cap = k + 1 := by assumption
         rw [hq] at hr2
         exact ⟨rfl, R_past2 hr2 (Nat.le_refl _) _, below_cells hb1 hbg _, grown_cells hg2 _⟩)

/-! ### impl_Puzzle_solutions_1: function 174, by hand -/
-- with its caller

end Go.Proofs.Ytgcnlhebfnaaoaa.QFnExactHintOf
