-- WRITTEN BY A PROGRAM OF THIS CLAIM'S AUTHOR (wprint.py)
import Derived.Test.YtgcnlhebfnaaoaaQFnExactSolutionsx0
import Derived.Test.YtgcnlhebfnaaoaaQFnExactSolutionsx8
namespace Go.Proofs.Ytgcnlhebfnaaoaa.QFnExactSolutions
open Go.RowKit Go.Proofs.YtgcnlhebfnaaoaaW.PrintWords Go.Proofs.YtgcnlhebfnaaoaaW.PrintLast Go.Proofs.YtgcnlhebfnaaoaaW.PrintMore
attribute [local go_sem] max2_int min2_int max_two min_two max_three min_three max_four min_four   -- for this text's walks alone
set_option linter.unusedVariables false
set_option linter.unusedSimpArgs false

/-! ### impl_IsHand: function 103, by hand -/
/-- Is it no tile? -/
def noTile (x : S25) : Bool := !(decide (0 ≤ x.f0) && (decide (x.f0 ≤ x.f1) && decide (x.f1 ≤ 9)))
theorem noTile_f (x : S25) : impl_IsHand_1.f x.f0 x.f1 = some (noTile x) := by
  unfold impl_IsHand_1.f impl_IsTile.f impl_within.f noTile
  by_cases h1 : 0 ≤ x.f0
  · rw [if_pos h1]
    by_cases h2 : x.f0 ≤ x.f1
    · simp [h1, h2]
    · simp [h1, h2]
  · simp [h1]

/-- IsHand: few tiles, tiles all, and no two the same. -/
def impl_IsHand.f (k : Nat) (l0 : List S25) : Option Bool := if (l0.length : Int) ≤ 55 then (if l0.any noTile = true then some false else impl_areDifferent_impl_Tile.f k l0) else some false
theorem impl_IsHand.mono : ∀ a0 k, LeO (impl_IsHand.f k a0) (impl_IsHand.f (k + 1) a0) := by
  intro a0 k
  unfold impl_IsHand.f
  exact LeO.ite (LeO.ite (LeO.refl _) (impl_areDifferent_impl_Tile.mono _ _)) (LeO.refl _)
set_option maxHeartbeats 1000000 in
set_option maxRecDepth 100000 in
theorem impl_IsHand.calls (k : Nat) (A0 : Option Addr) (c0 : Nat) (l0 : List (S25)) (r : Bool) (w : World) (hr0 : Kd.C k25 w A0 l0.length l0) (hc0 : l0.length ≤ c0) (h : impl_IsHand.f k l0 = some r) :
    Calls Try.prog 103 #[.slice A0 l0.length c0] w fun e w' => e = .returned (.bool r) ∧ Below w.heap.size w w' := by
  have hcon := conT 153 #[] noTile A0 c0 l0 w hr0 (enters_of' Try.func153 (by kernel_rfl) rfl) (fun x W _ => impl_IsHand_1.calls x.f0 x.f1 (noTile x) W (noTile_f x))
  have HR := Lib.hid hr0
  clear hr0
  unfold impl_IsHand.f at h
  by_cases h1 : (l0.length : Int) ≤ 55
  · rw [if_pos h1] at h
    have d1 : decide ((l0.length : Int) ≤ 55) = true := decide_eq_true h1
    have d2 : decide (l0.length ≤ 55) = true := decide_eq_true (by omega)
    by_cases h2 : l0.any noTile = true
    · rw [if_pos h2] at h
      obtain rfl := Option.some.inj h
      rw [h2] at hcon
      clear h h2 h1
      go_enter Try.func103, Try.ntmps103
      go_wp2_with (go_at_call 152; refine hcon.mono ?_; rintro e w' ⟨rfl, hb⟩)
      go_ret
      exact ⟨rfl, hb⟩
    · rw [if_neg h2] at h
      have h3 := Bool.eq_false_iff.mpr h2
      rw [h3] at hcon
      have HK := Lib.hid h
      clear h h2 h3 h1
      go_enter Try.func103, Try.ntmps103
      go_wp2_with (first | (go_at_call 152; refine hcon.mono ?_; rintro e w1 ⟨rfl, hb⟩) | (go_at_call 154; refine (impl_areDifferent_impl_Tile.calls k A0 c0 l0 r _ (Kd.C_below HR.out hb) hc0 HK.out).mono ?_; rintro e w2 ⟨rfl, hb2⟩))
      go_ret
      exact ⟨rfl, hb.trans (hb2.mono hb.size)⟩
  · rw [if_neg h1] at h
    obtain rfl := Option.some.inj h
    have d1 : decide ((l0.length : Int) ≤ 55) = false := decide_eq_false h1
    have d2 : decide (l0.length ≤ 55) = false := decide_eq_false (by omega)
    clear h h1
    go_enter Try.func103, Try.ntmps103
    go_wp2
    go_ret
    exact ⟨rfl, Below.refl _ _⟩

/-! ### impl_compareTiles: function 166 -/
def impl_compareTiles.f (a0_0 : Int) (a0_1 : Int) (a1_0 : Int) (a1_1 : Int) : Option (Int) := if a0_0 = a1_0 then (some (wrap64 (a0_1 - a1_1))) else (some (wrap64 (a0_0 - a1_0)))
set_option maxHeartbeats 8000000 in
set_option maxRecDepth 100000 in
theorem impl_compareTiles.calls (a0_0 : Int) (a0_1 : Int) (a1_0 : Int) (a1_1 : Int) (r : Int) (w : World) (h : impl_compareTiles.f a0_0 a0_1 a1_0 a1_1 = some r) :
    Calls Try.prog 166 #[.agg #[.int .i64 a0_0, .int .i64 a0_1], .agg #[.int .i64 a1_0, .int .i64 a1_1]] w fun e w' => e = .returned (.int .i64 r) ∧ Below w.heap.size w w' := by
  have hu25 := Try.underlying25
  have HB := Aside0.mk (Below.refl w.heap.size w)
  have H : (if a0_0 = a1_0 then (some (wrap64 (a0_1 - a1_1))) else (some (wrap64 (a0_0 - a1_0)))) = some r := h
  clear h
  by_cases c3 : a0_0 = a1_0
  · rw [if_pos c3] at H
    have c3b0 : (a0_0 == a1_0) = true := beq_iff_eq.mpr c3
    have c3b1 : (a0_0 != a1_0) = false := bne_eq_false_iff_eq.mpr c3
    clear c3
    obtain rfl := Option.some.inj H
    go_enter Try.func166, Try.ntmps166
    go_wp2_with (first | ((with_reducible refine gate_dst (N := 2) rfl ?_); refine box_event ?hg (N := 2) ?hd (cs := #[.int .i64 a0_0, .int .i64 a0_1]) (t := 25) ?hr ?_; (case hd => rfl); (case hg => rfl); (case hr => first | (go_simp; done) | (go_simp; rfl)); intro gb233 hg w4 hbox hb; have BK233 := Aside0.mk (hbox); have GW233 := Aside0.mk ((by rw [hg]; exact (below_size (by repeat (first | (with_reducible first | exact HB.out | apply below_alloc | apply pw_below_drewN | apply below_drew1) | exact HB.out))) : w.heap.size ≤ gb233)); have GE233 := Aside0.mk ((by rw [hg]; exact (below_size (by repeat (first | (with_reducible first | exact HB.out | apply below_alloc | apply pw_below_drewN | apply below_drew1) | exact HB.out))) : w.heap.size ≤ gb233)); replace HB := Aside0.mk (below_step (by repeat (first | (with_reducible first | exact HB.out | apply below_alloc | apply pw_below_drewN | apply below_drew1) | exact HB.out)) hb); clear hb hbox hg) | ((with_reducible refine gate_dst (N := 3) rfl ?_); refine box_event ?hg (N := 3) ?hd (cs := #[.int .i64 a1_0, .int .i64 a1_1]) (t := 25) ?hr ?_; (case hd => rfl); (case hg => rfl); (case hr => first | (go_simp; done) | (go_simp; rfl)); intro gb234 hg w5 hbox hb; have BK234 := Aside0.mk (hbox); have GW234 := Aside0.mk ((by rw [hg]; exact (below_size (by repeat (first | (with_reducible first | exact HB.out | apply below_alloc | apply pw_below_drewN | apply below_drew1 | refine below_set ?_ GE233.out) | exact HB.out))) : w.heap.size ≤ gb234)); have GE234 := Aside0.mk ((by rw [hg]; exact (below_size (by repeat (first | (with_reducible first | exact HB.out | apply below_alloc | apply pw_below_drewN | apply below_drew1 | refine below_set ?_ GE233.out) | exact HB.out))) : w.heap.size ≤ gb234)); replace HB := Aside0.mk (below_step (by repeat (first | (with_reducible first | exact HB.out | apply below_alloc | apply pw_below_drewN | apply below_drew1 | refine below_set ?_ GE233.out) | exact HB.out)) hb); have NB233_234 := Aside0.mk ((by rw [hg]; exact Nat.ne_of_lt (blk_lt (g := gb233) (o := .cells #[.int .i64 a0_0, .int .i64 a0_1] 25 (0, 0)) (by (with_reducible repeat (first | refine blk_drewN ?_ _ | refine blk_drew ?_ | refine blk_alloc ?_ _)); exact BK233.out)) : gb233 ≠ gb234)); have NB234_233 := Aside0.mk ((by rw [hg]; exact Nat.ne_of_gt (blk_lt (g := gb233) (o := .cells #[.int .i64 a0_0, .int .i64 a0_1] 25 (0, 0)) (by (with_reducible repeat (first | refine blk_drewN ?_ _ | refine blk_drew ?_ | refine blk_alloc ?_ _)); exact BK233.out)) : gb234 ≠ gb233)); replace BK233 := Aside0.mk (blk_below (g := gb233) (o := .cells #[.int .i64 a0_0, .int .i64 a0_1] 25 (0, 0)) (by (with_reducible repeat (first | refine blk_drewN ?_ _ | refine blk_drew ?_ | refine blk_alloc ?_ _)); exact BK233.out) hb); clear hb hbox hg; have hnb6 := NB233_234.out; have hnc6 := NB234_233.out; have hcz7_0 : w5.cell? ⟨gb233, 0, none⟩ = some (.int .i64 a0_0) := (blk_cell BK233.out 0).trans rfl; have hcz7_1 : w5.cell? ⟨gb233, 1, none⟩ = some (.int .i64 a0_1) := (blk_cell BK233.out 1).trans rfl; have hfz7_0 := blk_frozen BK233.out 0; have hfz7_1 := blk_frozen BK233.out 1; have hcz8_0 : w5.cell? ⟨gb234, 0, none⟩ = some (.int .i64 a1_0) := (blk_cell BK234.out 0).trans rfl; have hcz8_1 : w5.cell? ⟨gb234, 1, none⟩ = some (.int .i64 a1_1) := (blk_cell BK234.out 1).trans rfl; have hfz8_0 := blk_frozen BK234.out 0; have hfz8_1 := blk_frozen BK234.out 1))
    go_ret
    exact ⟨by first | rfl | (simp [errW_none, errW_some] <;> rfl) | (simp [*, errW_none, errW_some] <;> rfl), by repeat (first | (with_reducible first | exact HB.out | apply below_alloc | apply pw_below_drewN | apply below_drew1 | refine below_set ?_ GE233.out | refine below_set ?_ GE234.out) | exact HB.out)⟩
  · rw [if_neg c3] at H
    have c3b0 : (a0_0 == a1_0) = false := beq_eq_false_iff_ne.mpr c3
    have c3b1 : (a0_0 != a1_0) = true := bne_iff_ne.mpr c3
    obtain rfl := Option.some.inj H
    go_enter Try.func166, Try.ntmps166
    go_wp2_with (first | ((with_reducible refine gate_dst (N := 2) rfl ?_); refine box_event ?hg (N := 2) ?hd (cs := #[.int .i64 a0_0, .int .i64 a0_1]) (t := 25) ?hr ?_; (case hd => rfl); (case hg => rfl); (case hr => first | (go_simp; done) | (go_simp; rfl)); intro gb233 hg w9 hbox hb; have BK233 := Aside0.mk (hbox); have GW233 := Aside0.mk ((by rw [hg]; exact (below_size (by repeat (first | (with_reducible first | exact HB.out | apply below_alloc | apply pw_below_drewN | apply below_drew1) | exact HB.out))) : w.heap.size ≤ gb233)); have GE233 := Aside0.mk ((by rw [hg]; exact (below_size (by repeat (first | (with_reducible first | exact HB.out | apply below_alloc | apply pw_below_drewN | apply below_drew1) | exact HB.out))) : w.heap.size ≤ gb233)); replace HB := Aside0.mk (below_step (by repeat (first | (with_reducible first | exact HB.out | apply below_alloc | apply pw_below_drewN | apply below_drew1) | exact HB.out)) hb); clear hb hbox hg) | ((with_reducible refine gate_dst (N := 3) rfl ?_); refine box_event ?hg (N := 3) ?hd (cs := #[.int .i64 a1_0, .int .i64 a1_1]) (t := 25) ?hr ?_; (case hd => rfl); (case hg => rfl); (case hr => first | (go_simp; done) | (go_simp; rfl)); intro gb234 hg w10 hbox hb; have BK234 := Aside0.mk (hbox); have GW234 := Aside0.mk ((by rw [hg]; exact (below_size (by repeat (first | (with_reducible first | exact HB.out | apply below_alloc | apply pw_below_drewN | apply below_drew1 | refine below_set ?_ GE233.out) | exact HB.out))) : w.heap.size ≤ gb234)); have GE234 := Aside0.mk ((by rw [hg]; exact (below_size (by repeat (first | (with_reducible first | exact HB.out | apply below_alloc | apply pw_below_drewN | apply below_drew1 | refine below_set ?_ GE233.out) | exact HB.out))) : w.heap.size ≤ gb234)); replace HB := Aside0.mk (below_step (by repeat (first | (with_reducible first | exact HB.out | apply below_alloc | apply pw_below_drewN | apply below_drew1 | refine below_set ?_ GE233.out) | exact HB.out)) hb); have NB233_234 := Aside0.mk ((by rw [hg]; exact Nat.ne_of_lt (blk_lt (g := gb233) (o := .cells #[.int .i64 a0_0, .int .i64 a0_1] 25 (0, 0)) (by (with_reducible repeat (first | refine blk_drewN ?_ _ | refine blk_drew ?_ | refine blk_alloc ?_ _)); exact BK233.out)) : gb233 ≠ gb234)); have NB234_233 := Aside0.mk ((by rw [hg]; exact Nat.ne_of_gt (blk_lt (g := gb233) (o := .cells #[.int .i64 a0_0, .int .i64 a0_1] 25 (0, 0)) (by (with_reducible repeat (first | refine blk_drewN ?_ _ | refine blk_drew ?_ | refine blk_alloc ?_ _)); exact BK233.out)) : gb234 ≠ gb233)); replace BK233 := Aside0.mk (blk_below (g := gb233) (o := .cells #[.int .i64 a0_0, .int .i64 a0_1] 25 (0, 0)) (by (with_reducible repeat (first | refine blk_drewN ?_ _ | refine blk_drew ?_ | refine blk_alloc ?_ _)); exact BK233.out) hb); clear hb hbox hg; have hnb11 := NB233_234.out; have hnc11 := NB234_233.out; have hcz12_0 : w10.cell? ⟨gb233, 0, none⟩ = some (.int .i64 a0_0) := (blk_cell BK233.out 0).trans rfl; have hcz12_1 : w10.cell? ⟨gb233, 1, none⟩ = some (.int .i64 a0_1) := (blk_cell BK233.out 1).trans rfl; have hfz12_0 := blk_frozen BK233.out 0; have hfz12_1 := blk_frozen BK233.out 1; have hcz13_0 : w10.cell? ⟨gb234, 0, none⟩ = some (.int .i64 a1_0) := (blk_cell BK234.out 0).trans rfl; have hcz13_1 : w10.cell? ⟨gb234, 1, none⟩ = some (.int .i64 a1_1) := (blk_cell BK234.out 1).trans rfl; have hfz13_0 := blk_frozen BK234.out 0; have hfz13_1 := blk_frozen BK234.out 1))
    go_ret
    exact ⟨by first | rfl | (simp [errW_none, errW_some] <;> rfl) | (simp [*, errW_none, errW_some] <;> rfl), by repeat (first | (with_reducible first | exact HB.out | apply below_alloc | apply pw_below_drewN | apply below_drew1 | refine below_set ?_ GE233.out | refine below_set ?_ GE234.out) | exact HB.out)⟩

/-! ### slices_IsSortedFunc_impl_Tile_impl_Tile: function 165, by hand -/
def cmpT (x y : S25) : Int := if x.f0 = y.f0 then wrap64 (x.f1 - y.f1) else wrap64 (x.f0 - y.f0)
theorem cmpT_f (x y : S25) : impl_compareTiles.f x.f0 x.f1 y.f0 y.f1 = some (cmpT x y) := by
  unfold impl_compareTiles.f cmpT
  by_cases h : x.f0 = y.f0
  · rw [if_pos h, if_pos h]
  · rw [if_neg h, if_neg h]
def sortedT : List S25 → Bool
  | [] => true
  | x :: xs => (match xs with | [] => true | y :: _ => !decide (cmpT y x < 0)) && sortedT xs
theorem sortedT_no : ∀ (l : List S25) (j : Nat), j + 1 < l.length → cmpT (l.getD (j + 1) z25) (l.getD j z25) < 0 → sortedT l = false := by
  intro l
  induction l with
  | nil => intro j h; simp at h
  | cons x xs ih =>
    intro j hj h
    unfold sortedT
    cases j with
    | zero =>
      cases xs with
      | nil => simp at hj
      | cons y ys =>
        simp at h
        simp [h]
    | succ j =>
      have := ih j (by simpa using hj) (by simpa using h)
      rw [this, Bool.and_false]
theorem sortedT_yes : ∀ (l : List S25), (∀ j, j + 1 < l.length → ¬ cmpT (l.getD (j + 1) z25) (l.getD j z25) < 0) → sortedT l = true := by
  intro l
  induction l with
  | nil => intro _; rfl
  | cons x xs ih =>
    intro h
    unfold sortedT
    have h1 := ih (fun j hj => by have := h (j + 1) (by simpa using hj); simpa using this)
    rw [h1, Bool.and_true]
    cases xs with
    | nil => rfl
    | cons y ys =>
      have := h 0 (by simp)
      simp at this
      simp
      omega

set_option maxHeartbeats 2000000 in
set_option maxRecDepth 100000 in
theorem isSortedT (A0 : Option Addr) (c0 : Nat) (l0 : List S25) (w : World) (hr0 : Kd.C k25 w A0 l0.length l0) :
    Calls Try.prog 165 #[.slice A0 l0.length c0, .func (.func 166) #[] #[]] w fun e w' => e = .returned (.bool (sortedT l0)) ∧ Below w.heap.size w w' := by
  have hlen := hr0.2.1
  have HR := Lib.hid hr0
  clear hr0
  have eg := enters_of' Try.func166 (by kernel_rfl) rfl
  go_enter Try.func165, Try.ntmps165
  go_wp2
  go_loopw [5] (fun i wr => ∃ m : Int, -1 ≤ m ∧ m < l0.length ∧ i = .int .i64 m ∧ Hid (∀ j : Nat, m ≤ j → j + 1 < l0.length → ¬ cmpT (l0.getD (j + 1) z25) (l0.getD j z25) < 0) ∧ Below w.heap.size w wr) (fun i _ => (intOf i + 1).toNat)
  case atStart => exact ⟨(l0.length : Int) - 1, by omega, by omega, rfl, Lib.hid (fun j h1 h2 => by omega), Below.refl _ _⟩
  case round =>
    obtain ⟨m, hm1, hm2, rfl, hnone, hbel⟩ := hrel
    by_cases hlt : 0 < m
    · obtain ⟨q, rfl⟩ : ∃ q : Nat, m = (q : Int) + 1 := ⟨(m - 1).toNat, by omega⟩
      have hC := Kd.C_below HR.out hbel
      obtain ⟨ad, rfl, hx0, hx1⟩ := at_T25 hC ((q : Int) + 1) (by omega) (by omega)
      obtain ⟨ad', e', hy0, hy1⟩ := at_T25 hC (q : Int) (by omega) (by omega)
      obtain rfl : ad = ad' := by injection e'
      clear e'
      rw [show ((q : Int)).toNat = q from rfl] at hy0 hy1
      rw [show ((q : Int) + 1).toNat = q + 1 from by omega] at hx0 hx1
      have hb0 : q + 1 < l0.length := by omega
      have hi0 : (0 : Int) ≤ (q : Int) + 1 := by omega
      have hi1 : (q : Int) + 1 < (l0.length : Int) := by omega
      have hj0 : (0 : Int) ≤ (q : Int) := by omega
      have hj1 : (q : Int) < (l0.length : Int) := by omega
      have hw1 : IntKind.i64.wrap ((q : Int) + 1 - 1) = (q : Int) := (IntWalk.i64_in _ (by omega)).trans (by omega)
      have hw2 : IntKind.i64.wrap (q : Int) = (q : Int) := IntWalk.i64_in _ (by omega)
      have HC := Lib.hid hC
      clear hC
      have hcall := fun W => impl_compareTiles.calls (rd_T25 l0 ((q : Int) + 1)).f0 (rd_T25 l0 ((q : Int) + 1)).f1 (rd_T25 l0 (q : Int)).f0 (rd_T25 l0 (q : Int)).f1 _ W (cmpT_f _ _)
      generalize hz : cmpT (rd_T25 l0 ((q : Int) + 1)) (rd_T25 l0 (q : Int)) = z at hcall
      have HZ := Lib.hid hz
      clear hz
      have HS := Lib.hid (show ∀ W, Below wr.heap.size wr W → (W.cell? (ad.add ((q + 1) * 2)) = some (.int .i64 (rd_T25 l0 ((q : Int) + 1)).f0) ∧ W.cell? ⟨(ad.add ((q + 1) * 2)).block, (ad.add ((q + 1) * 2)).off + 1, none⟩ = some (.int .i64 (rd_T25 l0 ((q : Int) + 1)).f1) ∧
        W.cell? (ad.add (q * 2)) = some (.int .i64 (rd_T25 l0 (q : Int)).f0) ∧ W.cell? ⟨(ad.add (q * 2)).block, (ad.add (q * 2)).off + 1, none⟩ = some (.int .i64 (rd_T25 l0 (q : Int)).f1) ∧ Below wr.heap.size wr W) from
        fun W h => ⟨(h.cell (World.block_lt_of_cell? wr _ hx0)).trans hx0, (h.cell (World.block_lt_of_cell? wr _ hx1)).trans hx1, (h.cell (World.block_lt_of_cell? wr _ hy0)).trans hy0, (h.cell (World.block_lt_of_cell? wr _ hy1)).trans hy1, h⟩)
      go_wp2_with fail
      go_region_held3 (fun w' => w'.cell? (ad.add ((q + 1) * 2)) = some (.int .i64 (rd_T25 l0 ((q : Int) + 1)).f0) ∧ w'.cell? ⟨(ad.add ((q + 1) * 2)).block, (ad.add ((q + 1) * 2)).off + 1, none⟩ = some (.int .i64 (rd_T25 l0 ((q : Int) + 1)).f1) ∧
        w'.cell? (ad.add (q * 2)) = some (.int .i64 (rd_T25 l0 (q : Int)).f0) ∧ w'.cell? ⟨(ad.add (q * 2)).block, (ad.add (q * 2)).off + 1, none⟩ = some (.int .i64 (rd_T25 l0 (q : Int)).f1) ∧ Below wr.heap.size wr w')
        ((refine HS.out _ ?_; first | exact below_drew (Below.refl _ _) | exact Below.refl _ _ | (go_split_ands; first | exact below_drew (by assumption) | exact below_step (by assumption) hb2)))
        (first | (go_simp; refine (hcall _).mono ?_; rintro e w2 ⟨rfl, hb2⟩))
      rename_i wq hwq
      have HB := Lib.hid hwq.2.2.2.2
      clear hwq hx0 hx1 hy0 hy1
      by_cases hneg : z < 0
      · have dz : decide (z < 0) = true := decide_eq_true hneg
        go_wp2
        go_ret
        exact ⟨by rw [sortedT_no l0 q (by omega) (by have := HZ.out; simpa [rd_T25] using this ▸ hneg)]; rfl, hbel.trans (HB.out.mono hbel.size)⟩
      · have dz : decide (z < 0) = false := decide_eq_false hneg
        go_wp2
        go_roundw
        case rel => exact ⟨(q : Int), by omega, by omega, by go_num, Lib.hid (fun j h1 h2 => by
          by_cases e : j = q
          · subst e
            have := HZ.out
            simp only [rd_T25] at this
            rw [show ((j : Int) + 1).toNat = j + 1 from by omega, show ((j : Int)).toNat = j from rfl] at this
            rw [this]
            exact hneg
          · have := hnone.out j (by omega) h2
            omega), hbel.trans (HB.out.mono hbel.size)⟩
        case measure => simp [intOf]; omega
    · have dm : decide (0 < m) = false := decide_eq_false hlt
      go_wp2
      go_ret
      exact ⟨by rw [sortedT_yes l0 (fun j hj => by have := hnone.out j (by omega) hj; omega)]; rfl, hbel⟩

/-! ### slices_IndexFunc_int_int: function 193, by hand -/
theorem idxI (fi : FuncId) (caps : Array Value) (p : Int → Bool) (A0 : Option Addr) (c0 : Nat) (l0 : List Int) (w : World) (hr0 : Kd.C (Kd.int .i64) w A0 l0.length l0)
    (eg : ∀ args w, (callFunc fi args).run Try.prog w = .ok (.enter fi args) w)
    (hp : ∀ (x : Int) (W : World), Below w.heap.size w W → Calls Try.prog fi (#[.int .i64 x] ++ caps) W fun e w' => e = .returned (.bool (p x)) ∧ Below W.heap.size W w') :
    Calls Try.prog 193 #[.slice A0 l0.length c0, .func (.func fi) #[] caps] w fun e w' => e = .returned (.int .i64 (idxOf p l0)) ∧ Below w.heap.size w w' := by
  have hlen := hr0.2.1
  have HR := Lib.hid hr0
  clear hr0
  go_enter Try.func193, Try.ntmps193
  go_wp2
  go_loopw [8] (fun i wr => ∃ k : Nat, k ≤ l0.length ∧ i = .int .i64 k ∧ Hid (∀ j, j < k → p (l0.getD j 0) = false) ∧ Below w.heap.size w wr) (fun i _ => l0.length - (intOf i).toNat)
  case atStart => exact ⟨0, Nat.zero_le _, rfl, Lib.hid (fun j h => absurd h (Nat.not_lt_zero _)), Below.refl _ _⟩
  case round =>
    obtain ⟨k, hk, rfl, hnone, hbel⟩ := hrel
    by_cases hlt : k < l0.length
    · obtain ⟨ad, rfl, hx0⟩ := Kd.at_int (Kd.C_below HR.out hbel) (k : Int) (by omega) (by omega)
      rw [show ((k : Int)).toNat = k from rfl] at hx0
      have hc := hp (rd l0 k) _ hbel
      cases hpk : p (rd l0 k)
      · rw [hpk] at hc
        have HP := Lib.hid hpk
        clear hpk
        go_wp2_with (refine hc.mono ?_; rintro e w1 ⟨rfl, hb1⟩)
        go_roundw
        case rel => exact ⟨k + 1, by omega, by go_num, Lib.hid (fun j hj => by
          by_cases e : j = k
          · subst e
            exact HP.out
          · exact hnone.out j (by omega)), hbel.trans (hb1.mono hbel.size)⟩
        case measure => simp [intOf]; omega
      · rw [hpk] at hc
        have HP := Lib.hid hpk
        clear hpk
        go_wp2_with (refine hc.mono ?_; rintro e w1 ⟨rfl, hb1⟩)
        go_ret
        exact ⟨by rw [idxOf_at p 0 l0 k hlt hnone.out HP.out]; rfl, hbel.trans (hb1.mono hbel.size)⟩
    · go_wp2
      go_ret
      have e : k = l0.length := by omega
      subst e
      exact ⟨by rw [idxOf_none p 0 l0 hnone.out]; rfl, hbel⟩


/-! ### slices_ContainsFunc_int_int: function 187, by hand -/
theorem conI (fi : FuncId) (caps : Array Value) (p : Int → Bool) (A0 : Option Addr) (c0 : Nat) (l0 : List Int) (w : World) (hr0 : Kd.C (Kd.int .i64) w A0 l0.length l0)
    (eg : ∀ args w, (callFunc fi args).run Try.prog w = .ok (.enter fi args) w)
    (hp : ∀ (x : Int) (W : World), Below w.heap.size w W → Calls Try.prog fi (#[.int .i64 x] ++ caps) W fun e w' => e = .returned (.bool (p x)) ∧ Below W.heap.size W w') :
    Calls Try.prog 187 #[.slice A0 l0.length c0, .func (.func fi) #[] caps] w fun e w' => e = .returned (.bool (l0.any p)) ∧ Below w.heap.size w w' := by
  have hi := idxI fi caps p A0 c0 l0 w hr0 eg hp
  have HA := Lib.hid (idxOf_any p l0)
  clear hp eg hr0
  generalize idxOf p l0 = z at hi HA
  generalize l0.any p = b at HA ⊢
  go_enter Try.func187, Try.ntmps187
  go_wp2_with (go_at_call 193; refine hi.mono ?_; rintro e w' ⟨rfl, hb⟩)
  go_ret
  have h := HA.out
  subst h
  exact ⟨rfl, hb⟩


-- NOT PRINTED: function 188 (impl_areWithin_1)

/-! ### impl_areWithin: function 167, by hand -/
def inB (lo hi n : Int) : Bool := decide (lo ≤ n) && decide (n ≤ hi)
theorem within_f (n lo hi : Int) : impl_within.f n lo hi = some (inB lo hi n) := by
  unfold impl_within.f inB
  by_cases h1 : lo ≤ n
  · simp [h1]
  · simp [h1]

theorem areWithin_1 (n lo hi : Int) (g1 g2 : Nat) (w : World) (h1 : w.cell? ⟨g1, 0, none⟩ = some (.int .i64 lo)) (h2 : w.cell? ⟨g2, 0, none⟩ = some (.int .i64 hi)) :
    Calls Try.prog 188 #[.int .i64 n, .pointer (some ⟨g1, 0, none⟩), .pointer (some ⟨g2, 0, none⟩)] w fun e w' => e = .returned (.bool (!inB lo hi n)) ∧ Below w.heap.size w w' := by
  go_enter Try.func188, Try.ntmps188
  go_wp2_with (go_at_call 93; refine (impl_within.calls n lo hi _ _ (within_f n lo hi)).mono ?_; rintro e w' ⟨rfl, ⟨nd, rfl⟩⟩)
  go_ret
  exact ⟨rfl, pw_below_drewN (Below.refl _ _) _⟩

/-- areWithin: no number lies outside. -/
def impl_areWithin.f (l0 : List Int) (a1 a2 : Int) : Option Bool := some (!(l0.any fun n => !inB a1 a2 n))
set_option maxHeartbeats 1000000 in
theorem impl_areWithin.calls (A0 : Option Addr) (c0 : Nat) (l0 : List Int) (a1 : Int) (a2 : Int) (r : Bool) (w : World) (hr0 : Kd.C (Kd.int .i64) w A0 l0.length l0) (_hc0 : l0.length ≤ c0) (h : impl_areWithin.f l0 a1 a2 = some r) :
    Calls Try.prog 167 #[.slice A0 l0.length c0, .int .i64 a1, .int .i64 a2] w fun e w' => e = .returned (.bool r) ∧ Below w.heap.size w w' := by
  have hmf : ∀ (fn : Fn) (first cap : Array Value) (w : World), (Instr.makeFunc fn first cap).run Try.prog w = .ok (.func fn first cap) w := fun _ _ _ _ => rfl
  obtain rfl := Option.some.inj h
  have hb0 : Below w.heap.size w ((w.alloc (.cells #[.int .i64 a1] 3)).alloc (.cells #[.int .i64 a2] 3)) := ((Below.refl _ _).alloc (Nat.le_refl _) _).alloc (by simp) _
  have hcon := conI 188 #[.pointer (some ⟨w.heap.size, 0, none⟩), .pointer (some ⟨w.heap.size + 1, 0, none⟩)] (fun n => !inB a1 a2 n) A0 c0 l0 ((w.alloc (.cells #[.int .i64 a1] 3)).alloc (.cells #[.int .i64 a2] 3)) (Kd.C_below hr0 hb0)
    (enters_of' Try.func188 (by kernel_rfl) rfl) (fun x W hW => areWithin_1 x a1 a2 _ _ W
      ((hW.cell (p := ⟨w.heap.size, 0, none⟩) (by simp; omega)).trans (by rw [World.cell?_alloc_past _ _ _ (by simp), World.cell?_alloc_at _ _ _ _ rfl]; rfl))
      ((hW.cell (p := ⟨w.heap.size + 1, 0, none⟩) (by simp)).trans (by rw [World.cell?_alloc_at _ _ _ _ (by simp)]; rfl)))
  generalize (l0.any fun n => !inB a1 a2 n) = b at hcon ⊢
  clear h hr0
  go_enter Try.func167, Try.ntmps167
  go_wp2_with (go_at_call 187; refine hcon.mono ?_; rintro e w' ⟨rfl, hb⟩)
  go_ret
  exact ⟨rfl, hb0.trans (hb.mono (by simp; omega))⟩

/-! ### impl_IsPuzzle: function 137, by hand -/
def impl_IsPuzzle.f (k : Nat) (l0_0 : List S25) (l0_1 : List Int) : Option Bool :=
  (impl_IsHand.f k l0_0).bind fun b1 => if b1 = true then (if inB 1 9 (l0_0.length : Int) = true then (if sortedT l0_0 = true then (if (l0_1.length : Int) = (l0_0.length : Int) + 1 then impl_areWithin.f l0_1 (-1) 9 else some false) else some false) else some false) else some false
theorem impl_IsPuzzle.mono : ∀ a0 a1 k, LeO (impl_IsPuzzle.f k a0 a1) (impl_IsPuzzle.f (k + 1) a0 a1) := by
  intro a0 a1 k
  unfold impl_IsPuzzle.f
  exact LeO.bind (impl_IsHand.mono _ _) (fun _ => LeO.refl _)
set_option maxHeartbeats 4000000 in
set_option maxRecDepth 100000 in
theorem impl_IsPuzzle.calls (k : Nat) (A0_0 : Option Addr) (c0_0 : Nat) (l0_0 : List (S25)) (A0_1 : Option Addr) (c0_1 : Nat) (l0_1 : List Int) (r : Bool) (w : World) (hr0_0 : Kd.C k25 w A0_0 l0_0.length l0_0) (hc0_0 : l0_0.length ≤ c0_0) (hr0_1 : Kd.C (Kd.int .i64) w A0_1 l0_1.length l0_1) (hc0_1 : l0_1.length ≤ c0_1) (h : impl_IsPuzzle.f k l0_0 l0_1 = some r) :
    Calls Try.prog 137 #[.agg #[.slice A0_0 l0_0.length c0_0, .slice A0_1 l0_1.length c0_1]] w fun e w' => e = .returned (.bool r) ∧ Below w.heap.size w w' := by
  have hb0 : Below w.heap.size w (w.alloc (.cells #[.slice A0_0 l0_0.length c0_0, .slice A0_1 l0_1.length c0_1] 54)) := (Below.refl _ _).alloc (Nat.le_refl _) _
  have c00 : (w.alloc (.cells #[.slice A0_0 l0_0.length c0_0, .slice A0_1 l0_1.length c0_1] 54)).cell? ⟨w.heap.size, 0, none⟩ = some (.slice A0_0 l0_0.length c0_0) := by rw [World.cell?_alloc_at _ _ _ _ rfl]; rfl
  have c01 : (w.alloc (.cells #[.slice A0_0 l0_0.length c0_0, .slice A0_1 l0_1.length c0_1] 54)).cell? ⟨w.heap.size, 1, none⟩ = some (.slice A0_1 l0_1.length c0_1) := by rw [World.cell?_alloc_at _ _ _ _ rfl]; rfl
  have hl0 := hr0_0.2.1
  have hl1 := hr0_1.2.1
  have HR0 := Lib.hid hr0_0
  have HR1 := Lib.hid hr0_1
  clear hr0_0 hr0_1
  unfold impl_IsPuzzle.f at h
  obtain ⟨b1, h1, h⟩ := Option.bind_eq_some_iff.1 h
  have H1 := Lib.hid h1
  clear h1
  cases b1
  · obtain rfl := Option.some.inj h
    clear h
    go_enter Try.func137, Try.ntmps137
    go_wp2_with (go_at_call 103; refine (impl_IsHand.calls k A0_0 c0_0 l0_0 false _ (Kd.C_below HR0.out hb0) hc0_0 H1.out).mono ?_; rintro e w1 ⟨rfl, hb1⟩; have x0 := (hb1.cell (p := ⟨w.heap.size, 0, none⟩) (by simp)).trans c00; have x1 := (hb1.cell (p := ⟨w.heap.size, 1, none⟩) (by simp)).trans c01)
    go_ret
    exact ⟨rfl, hb0.trans (hb1.mono (by simp))⟩
  · rw [if_pos rfl] at h
    by_cases h2 : inB 1 9 (l0_0.length : Int) = true
    · rw [if_pos h2] at h
      have H2 := Lib.hid ((within_f (l0_0.length : Int) 1 9).trans (by rw [h2]) : impl_within.f (l0_0.length : Int) 1 9 = some true)
      have hsmall : l0_0.length ≤ 9 := by
        unfold inB at h2
        simp at h2
        omega
      clear h2
      by_cases h3 : sortedT l0_0 = true
      · rw [if_pos h3] at h
        have H3 := Lib.hid h3
        clear h3
        by_cases h4 : (l0_1.length : Int) = (l0_0.length : Int) + 1
        · rw [if_pos h4] at h
          have H5 := Lib.hid h
          have e4 : ((l0_1.length : Int) == (l0_0.length : Int) + 1) = true := by simpa using h4
          clear h h4
          go_enter Try.func137, Try.ntmps137
          go_wp2_with (first | (go_at_call 103; refine (impl_IsHand.calls k A0_0 c0_0 l0_0 true _ (Kd.C_below HR0.out hb0) hc0_0 H1.out).mono ?_; rintro e w1 ⟨rfl, hb1⟩; have x0 := (hb1.cell (p := ⟨w.heap.size, 0, none⟩) (by simp)).trans c00; have x1 := (hb1.cell (p := ⟨w.heap.size, 1, none⟩) (by simp)).trans c01) | (go_at_call 93; refine (impl_within.calls (l0_0.length : Int) 1 9 true _ H2.out).mono ?_; rintro e w2 ⟨rfl, ⟨nd, rfl⟩⟩) | (go_at_call 165; refine (isSortedT A0_0 c0_0 l0_0 _ (Kd.C_drewN (Kd.C_below (Kd.C_below HR0.out hb0) hb1) _)).mono ?_; rw [H3.out]; rintro e w3 ⟨rfl, hb3⟩; have y0 := (hb3.cell (p := ⟨w.heap.size, 0, none⟩) (World.block_lt_of_cell? _ _ x0)).trans x0; have y1 := (hb3.cell (p := ⟨w.heap.size, 1, none⟩) (World.block_lt_of_cell? _ _ x1)).trans x1) | (go_at_call 167; refine (impl_areWithin.calls A0_1 c0_1 l0_1 (-1) 9 r _ (Kd.C_below (Kd.C_drewN (Kd.C_below (Kd.C_below HR1.out hb0) hb1) _) hb3) hc0_1 H5.out).mono ?_; rintro e w5 ⟨rfl, hb5⟩))
          go_ret
          exact ⟨rfl, hb0.trans ((below_step (below_step (pw_below_drewN hb1 _) hb3) hb5).mono (by simp))⟩
        · rw [if_neg h4] at h
          obtain rfl := Option.some.inj h
          have e4 : ((l0_1.length : Int) == (l0_0.length : Int) + 1) = false := by simpa using h4
          clear h h4
          go_enter Try.func137, Try.ntmps137
          go_wp2_with (first | (go_at_call 103; refine (impl_IsHand.calls k A0_0 c0_0 l0_0 true _ (Kd.C_below HR0.out hb0) hc0_0 H1.out).mono ?_; rintro e w1 ⟨rfl, hb1⟩; have x0 := (hb1.cell (p := ⟨w.heap.size, 0, none⟩) (by simp)).trans c00; have x1 := (hb1.cell (p := ⟨w.heap.size, 1, none⟩) (by simp)).trans c01) | (go_at_call 93; refine (impl_within.calls (l0_0.length : Int) 1 9 true _ H2.out).mono ?_; rintro e w2 ⟨rfl, ⟨nd, rfl⟩⟩) | (go_at_call 165; refine (isSortedT A0_0 c0_0 l0_0 _ (Kd.C_drewN (Kd.C_below (Kd.C_below HR0.out hb0) hb1) _)).mono ?_; rw [H3.out]; rintro e w3 ⟨rfl, hb3⟩; have y0 := (hb3.cell (p := ⟨w.heap.size, 0, none⟩) (World.block_lt_of_cell? _ _ x0)).trans x0; have y1 := (hb3.cell (p := ⟨w.heap.size, 1, none⟩) (World.block_lt_of_cell? _ _ x1)).trans x1))
          go_ret
          exact ⟨rfl, hb0.trans ((below_step (pw_below_drewN hb1 _) hb3).mono (by simp))⟩
      · rw [if_neg h3] at h
        obtain rfl := Option.some.inj h
        have H3 := Lib.hid (Bool.eq_false_iff.mpr h3)
        clear h3 h
        go_enter Try.func137, Try.ntmps137
        go_wp2_with (first | (go_at_call 103; refine (impl_IsHand.calls k A0_0 c0_0 l0_0 true _ (Kd.C_below HR0.out hb0) hc0_0 H1.out).mono ?_; rintro e w1 ⟨rfl, hb1⟩; have x0 := (hb1.cell (p := ⟨w.heap.size, 0, none⟩) (by simp)).trans c00; have x1 := (hb1.cell (p := ⟨w.heap.size, 1, none⟩) (by simp)).trans c01) | (go_at_call 93; refine (impl_within.calls (l0_0.length : Int) 1 9 true _ H2.out).mono ?_; rintro e w2 ⟨rfl, ⟨nd, rfl⟩⟩) | (go_at_call 165; refine (isSortedT A0_0 c0_0 l0_0 _ (Kd.C_drewN (Kd.C_below (Kd.C_below HR0.out hb0) hb1) _)).mono ?_; rw [H3.out]; rintro e w3 ⟨rfl, hb3⟩; have y0 := (hb3.cell (p := ⟨w.heap.size, 0, none⟩) (World.block_lt_of_cell? _ _ x0)).trans x0; have y1 := (hb3.cell (p := ⟨w.heap.size, 1, none⟩) (World.block_lt_of_cell? _ _ x1)).trans x1))
        go_ret
        exact ⟨rfl, hb0.trans ((below_step (pw_below_drewN hb1 _) hb3).mono (by simp))⟩
    · rw [if_neg h2] at h
      obtain rfl := Option.some.inj h
      have H2 := Lib.hid ((within_f (l0_0.length : Int) 1 9).trans (by rw [Bool.eq_false_iff.mpr h2]) : impl_within.f (l0_0.length : Int) 1 9 = some false)
      clear h2 h
      go_enter Try.func137, Try.ntmps137
      go_wp2_with (first | (go_at_call 103; refine (impl_IsHand.calls k A0_0 c0_0 l0_0 true _ (Kd.C_below HR0.out hb0) hc0_0 H1.out).mono ?_; rintro e w1 ⟨rfl, hb1⟩; have x0 := (hb1.cell (p := ⟨w.heap.size, 0, none⟩) (by simp)).trans c00; have x1 := (hb1.cell (p := ⟨w.heap.size, 1, none⟩) (by simp)).trans c01) | (go_at_call 93; refine (impl_within.calls (l0_0.length : Int) 1 9 false _ H2.out).mono ?_; rintro e w2 ⟨rfl, ⟨nd, rfl⟩⟩))
      go_ret
      exact ⟨rfl, hb0.trans ((pw_below_drewN hb1 _).mono (by simp))⟩

/-! ### impl_tile: function 96 -/
def impl_tile.f (a0 : Int) (a1 : Int) : Option (Int × Int) := some (mn a0 a1, mx a0 a1)
set_option maxHeartbeats 8000000 in
set_option maxRecDepth 100000 in
theorem impl_tile.calls (a0 : Int) (a1 : Int) (r1 : Int) (r2 : Int) (w : World) (h : impl_tile.f a0 a1 = some (r1, r2)) :
    Calls Try.prog 96 #[.int .i64 a0, .int .i64 a1] w fun e w' => e = .returned (.agg #[.int .i64 r1, .int .i64 r2]) ∧ Below w.heap.size w w' := by
  have hu25 := Try.underlying25
  have HB := Aside0.mk (Below.refl w.heap.size w)
  have H : (some (mn a0 a1, mx a0 a1)) = some (r1, r2) := h
  clear h
  obtain ⟨ji3, hji3⟩ : ∃ j_ : Int, (mn a0 a1) = j_ := ⟨_, rfl⟩
  replace H : (some (ji3, mx a0 a1)) = some (r1, r2) := by first | (rw [hji3] at H; exact H) | (simp only [hji3] at H ⊢; exact H)
  have hji3_ : (if a1 < a0 then a1 else a0) = ji3 := hji3
  obtain ⟨ji4, hji4⟩ : ∃ j_ : Int, (mx a0 a1) = j_ := ⟨_, rfl⟩
  replace H : (some (ji3, ji4)) = some (r1, r2) := by first | (rw [hji4] at H; exact H) | (simp only [hji4] at H ⊢; exact H)
  have hji4_ : (if a0 < a1 then a1 else a0) = ji4 := hji4
  simp only [Option.some.injEq, Prod.mk.injEq] at H
  obtain ⟨rfl, rfl⟩ := H
  go_enter Try.func96, Try.ntmps96
  go_wp2_with (first | ((with_reducible refine gate_dst (N := 4) rfl ?_); refine box_event ?hg (N := 4) ?hd (cs := #[.int .i64 0, .int .i64 0]) (t := 25) ?hr ?_; (case hd => rfl); (case hg => rfl); (case hr => first | (go_simp; done) | (go_simp; rfl)); intro gb235 hg w5 hbox hb; have BK235 := Aside0.mk (hbox); have GW235 := Aside0.mk ((by rw [hg]; exact (below_size (by repeat (first | (with_reducible first | exact HB.out | apply below_alloc | apply pw_below_drewN | apply below_drew1) | exact HB.out))) : w.heap.size ≤ gb235)); have GE235 := Aside0.mk ((by rw [hg]; exact (below_size (by repeat (first | (with_reducible first | exact HB.out | apply below_alloc | apply pw_below_drewN | apply below_drew1) | exact HB.out))) : w.heap.size ≤ gb235)); replace HB := Aside0.mk (below_step (by repeat (first | (with_reducible first | exact HB.out | apply below_alloc | apply pw_below_drewN | apply below_drew1) | exact HB.out)) hb); clear hb hbox hg; have hcz6_0 : w5.cell? ⟨gb235, 0, none⟩ = some (.int .i64 0) := (blk_cell BK235.out 0).trans rfl; have hcz6_1 : w5.cell? ⟨gb235, 1, none⟩ = some (.int .i64 0) := (blk_cell BK235.out 1).trans rfl; have hfz6_0 := blk_frozen BK235.out 0; have hfz6_1 := blk_frozen BK235.out 1))
  refine bodyPost_ret (results_cell_row rfl _ _ gb235 25 #[.int .i64 ji3, .int .i64 ji4] (0, 0) _ rfl (by (with_reducible repeat (first | refine blk_drewN ?_ _ | refine blk_drew ?_ | refine blk_alloc ?_ _)); refine blk_put (cs := #[.int .i64 ji3, .int .i64 0]) ?_ 1 _ rfl; (with_reducible repeat (first | refine blk_drewN ?_ _ | refine blk_drew ?_ | refine blk_alloc ?_ _)); refine blk_put (cs := #[.int .i64 0, .int .i64 0]) ?_ 0 _ rfl; (with_reducible repeat (first | refine blk_drewN ?_ _ | refine blk_drew ?_ | refine blk_alloc ?_ _)); exact BK235.out) Try.underlying25 rfl (by kernel_rfl)) rfl ?_
  exact ⟨by first | rfl | (simp [errW_none, errW_some] <;> rfl) | (simp only [← hji3, ← hji4]; first | rfl | (simp [errW_none, errW_some] <;> rfl)) | (simp [*, errW_none, errW_some] <;> rfl), by repeat (first | (with_reducible first | exact HB.out | apply below_alloc | apply pw_below_drewN | apply below_drew1 | refine below_set ?_ GE235.out) | exact HB.out)⟩

/-! ### slices_Clone_impl_Tile_impl_Tile: function 114, by hand -/
theorem slices_Clone_impl_Tile_impl_Tile.info : (Try.prog.info? 25).map (fun i => (i.zero, i.size, i.bytes)) = some (some (.agg #[(.int .i64 0), (.int .i64 0)]), k25.sz, 16) := by kernel_rfl
/-- A copy in memory of its own (nil of nil). -/
def slices_Clone_impl_Tile_impl_Tile.f (l0 : List (S25)) : Option (List (S25)) := if l0.length < 8796093022208 then some l0 else none
set_option maxHeartbeats 1000000 in
theorem slices_Clone_impl_Tile_impl_Tile.calls (A0 : Option Addr) (c0 : Nat) (l0 : List (S25)) (r : List (S25)) (w : World) (hr0 : Kd.C k25 w A0 l0.length l0) (_hc0 : l0.length ≤ c0) (h : slices_Clone_impl_Tile_impl_Tile.f l0 = some r) :
    Calls Try.prog 114 #[.slice A0 l0.length c0] w fun e w' => ∃ v0_ : Value, e = .returned (v0_) ∧ Kd.R k25 25 w' w.heap.size (fun _ => True) v0_ r ∧ Below w.heap.size w w' := by
  unfold slices_Clone_impl_Tile_impl_Tile.f at h
  by_cases hl : l0.length < 8796093022208
  · rw [if_pos hl] at h
    obtain rfl := Option.some.inj h
    clear h
    cases A0 with
    | none =>
      have hz : l0 = [] := by
        cases l0 with
        | nil => rfl
        | cons x xs =>
          obtain ⟨ad, e, _⟩ := hr0.2.2 (by simp)
          cases e
      subst hz
      clear hr0 hl
      have hq := fun (W : World) => Lib.run_eql_slice_nil (P := Try.prog) W 36 25 none 0 c0 0 0 Try.underlying36
      go_enter Try.func114, Try.ntmps114
      go_wp2
      go_ret
      exact ⟨_, rfl, Kd.R_nil _ _ _ _ _, Below.refl _ _⟩
    | some ad =>
      have hq := fun (W : World) => Lib.run_eql_slice_nil (P := Try.prog) W 36 25 (some ad) l0.length c0 0 0 Try.underlying36
      have HR := Lib.hid hr0
      clear hr0
      go_enter Try.func114, Try.ntmps114
      go_wp2_with (first
        | ((with_reducible refine gate_dst (N := 5) rfl ?_); refine Kd.R_lit k25 _ 25 ?hg (N := 5) ?hd (xs := ([] : List (S25))) (inner := []) (ok := fun _ => True) (okp := fun _ => True) ?hr ?hp (fun _ hk => hk) trivial (Below.refl _ _) (Nat.le_refl _) (by simp) ?_; (case hd => rfl); (case hg => rfl); (case hr => first | (go_simp; done) | (go_simp; rfl)); (case hp => exact (Reps.none _ _)); intro v1 w1 ho1 hb1 hg_ hnew_; clear hg_ hnew_)
        | ((with_reducible refine gate_builtin (b := .append) (xs := #[.tmp 5, .tmp 6]) rfl ?_); at_builtin; refine Kd.R_append_rows k25 (w0 := w) w.heap.size rfl (.tmp 5) (.tmp 6) 36 25 (.agg #[(.int .i64 0), (.int .i64 0)]) 16 rfl Try.underlying36 slices_Clone_impl_Tile_impl_Tile.info rfl (by decide) (by omega) v1 [] l0 _ _ _ (fun _ => True) (fun _ => False) rfl rfl ?aO ?aR (fun _ _ h => h) (fun _ h => h.elim) ?aF ?aB ?aS ?aL ?_; (case aR => exact Kd.C_below HR.out hb1); (case aB => exact hb1); (case aF => exact (fun _ _ => trivial)); (case aO => exact ho1); (case aS => exact hb1.size); (case aL => simp; omega); intro v2 w2 ho2 hb2 hg hat))
      go_ret
      exact ⟨_, rfl, ho2, hb2⟩
  · rw [if_neg hl] at h
    exact absurd h (by simp)


/-! ### slices_Clone_int_int: function 144, by hand -/
theorem slices_Clone_int_int.info : (Try.prog.info? 3).map (fun i => (i.zero, i.size, i.bytes)) = some (some (.int .i64 0), (Kd.int .i64).sz, 8) := by kernel_rfl
/-- A copy in memory of its own (nil of nil). -/
def slices_Clone_int_int.f (l0 : List (Int)) : Option (List (Int)) := if l0.length < 17592186044416 then some l0 else none
set_option maxHeartbeats 1000000 in
theorem slices_Clone_int_int.calls (A0 : Option Addr) (c0 : Nat) (l0 : List (Int)) (r : List (Int)) (w : World) (hr0 : Kd.C (Kd.int .i64) w A0 l0.length l0) (_hc0 : l0.length ≤ c0) (h : slices_Clone_int_int.f l0 = some r) :
    Calls Try.prog 144 #[.slice A0 l0.length c0] w fun e w' => ∃ v0_ : Value, e = .returned (v0_) ∧ Kd.R (Kd.int .i64) 3 w' w.heap.size (fun _ => True) v0_ r ∧ Below w.heap.size w w' := by
  unfold slices_Clone_int_int.f at h
  by_cases hl : l0.length < 17592186044416
  · rw [if_pos hl] at h
    obtain rfl := Option.some.inj h
    clear h
    cases A0 with
    | none =>
      have hz : l0 = [] := by
        cases l0 with
        | nil => rfl
        | cons x xs =>
          obtain ⟨ad, e, _⟩ := hr0.2.2 (by simp)
          cases e
      subst hz
      clear hr0 hl
      have hq := fun (W : World) => Lib.run_eql_slice_nil (P := Try.prog) W 49 3 none 0 c0 0 0 Try.underlying49
      go_enter Try.func144, Try.ntmps144
      go_wp2
      go_ret
      exact ⟨_, rfl, Kd.R_nil _ _ _ _ _, Below.refl _ _⟩
    | some ad =>
      have hq := fun (W : World) => Lib.run_eql_slice_nil (P := Try.prog) W 49 3 (some ad) l0.length c0 0 0 Try.underlying49
      have HR := Lib.hid hr0
      clear hr0
      go_enter Try.func144, Try.ntmps144
      go_wp2_with (first
        | ((with_reducible refine gate_dst (N := 5) rfl ?_); refine Kd.R_lit (Kd.int .i64) _ 3 ?hg (N := 5) ?hd (xs := ([] : List (Int))) (inner := []) (ok := fun _ => True) (okp := fun _ => True) ?hr ?hp (fun _ hk => hk) trivial (Below.refl _ _) (Nat.le_refl _) (by simp) ?_; (case hd => rfl); (case hg => rfl); (case hr => first | (go_simp; done) | (go_simp; rfl)); (case hp => exact (Reps.none _ _)); intro v1 w1 ho1 hb1 hg_ hnew_; clear hg_ hnew_)
        | ((with_reducible refine gate_builtin (b := .append) (xs := #[.tmp 5, .tmp 6]) rfl ?_); at_builtin; refine Kd.R_append_rows (Kd.int .i64) (w0 := w) w.heap.size rfl (.tmp 5) (.tmp 6) 49 3 (.int .i64 0) 8 rfl Try.underlying49 slices_Clone_int_int.info rfl (by decide) (by omega) v1 [] l0 _ _ _ (fun _ => True) (fun _ => False) rfl rfl ?aO ?aR (fun _ _ h => h) (fun _ h => h.elim) ?aF ?aB ?aS ?aL ?_; (case aR => exact Kd.C_below HR.out hb1); (case aB => exact hb1); (case aF => exact (fun _ _ => trivial)); (case aO => exact ho1); (case aS => exact hb1.size); (case aL => simp; omega); intro v2 w2 ho2 hb2 hg hat))
      go_ret
      exact ⟨_, rfl, ho2, hb2⟩
  · rw [if_neg hl] at h
    exact absurd h (by simp)


/-! ### impl_Puzzle_fits: function 175 -/
def impl_Puzzle_fits.f (l0_0 : List (S25)) (l0_1 : List Int) (a1 : Int) (a2 : Int) : Option (Bool) := if 0 ≤ a1 then (if a1 < (l0_1.length : Int) then (if (rd l0_1 a1) = (-1) then (some true) else (some ((rd l0_1 a1) == a2))) else (none)) else (none)
set_option maxHeartbeats 8000000 in
set_option maxRecDepth 100000 in
theorem impl_Puzzle_fits.calls (A0_0 : Option Addr) (c0_0 : Nat) (l0_0 : List (S25)) (A0_1 : Option Addr) (c0_1 : Nat) (l0_1 : List Int) (a1 : Int) (a2 : Int) (r : Bool) (w : World) (hr0_0 : Kd.C k25 w A0_0 l0_0.length l0_0) (hc0_0 : l0_0.length ≤ c0_0) (hr0_1 : Kd.C (Kd.int .i64) w A0_1 l0_1.length l0_1) (hc0_1 : l0_1.length ≤ c0_1) (h : impl_Puzzle_fits.f l0_0 l0_1 a1 a2 = some r) :
    Calls Try.prog 175 #[.agg #[.slice A0_0 l0_0.length c0_0, .slice A0_1 l0_1.length c0_1], .int .i64 a1, .int .i64 a2] w fun e w' => e = .returned (.bool r) ∧ Below w.heap.size w w' := by
  have hu54 := Try.underlying54
  have HR0_0 := Aside0.mk hr0_0
  have HC0_0 := Aside0.mk hc0_0
  clear hr0_0 hc0_0
  have HR0_1 := Aside0.mk hr0_1
  have HC0_1 := Aside0.mk hc0_1
  clear hr0_1 hc0_1
  have HB := Aside0.mk (Below.refl w.heap.size w)
  have H : (if 0 ≤ a1 then (if a1 < (l0_1.length : Int) then (if (rd l0_1 a1) = (-1) then (some true) else (some ((rd l0_1 a1) == a2))) else (none)) else (none)) = some r := h
  clear h
  by_cases c4 : 0 ≤ a1
  · rw [if_pos c4] at H
    have c4b0 : decide (0 ≤ a1) = true := decide_eq_true c4
    clear c4
    by_cases c5 : a1 < (l0_1.length : Int)
    · rw [if_pos c5] at H
      have c5b0 : decide (a1 < (l0_1.length : Int)) = true := decide_eq_true c5
      clear c5
      by_cases c6 : (rd l0_1 a1) = (-1)
      · rw [if_pos c6] at H
        have c6b0 : ((rd l0_1 a1) == (-1)) = true := beq_iff_eq.mpr c6
        have c6b1 : ((rd l0_1 a1) != (-1)) = false := bne_eq_false_iff_eq.mpr c6
        clear c6
        obtain rfl := Option.some.inj H
        go_enter Try.func175, Try.ntmps175
        go_wp2_with (first | ((with_reducible refine gate_dst (N := 3) rfl ?_); refine box_event ?hg (N := 3) ?hd (cs := #[.slice A0_0 l0_0.length c0_0, .slice A0_1 l0_1.length c0_1]) (t := 54) ?hr ?_; (case hd => rfl); (case hg => rfl); (case hr => first | (go_simp; done) | (go_simp; rfl)); intro gb236 hg w7 hbox hb; have BK236 := Aside0.mk (hbox); have GW236 := Aside0.mk ((by rw [hg]; exact (below_size (by repeat (first | (with_reducible first | exact HB.out | apply below_alloc | apply pw_below_drewN | apply below_drew1) | exact HB.out))) : w.heap.size ≤ gb236)); have GE236 := Aside0.mk ((by rw [hg]; exact (below_size (by repeat (first | (with_reducible first | exact HB.out | apply below_alloc | apply pw_below_drewN | apply below_drew1) | exact HB.out))) : w.heap.size ≤ gb236)); replace HB := Aside0.mk (below_step (by repeat (first | (with_reducible first | exact HB.out | apply below_alloc | apply pw_below_drewN | apply below_drew1) | exact HB.out)) hb); clear hb hbox hg; have hcz8_0 : w7.cell? ⟨gb236, 0, none⟩ = some (.slice A0_0 l0_0.length c0_0) := (blk_cell BK236.out 0).trans rfl; have hcz8_1 : w7.cell? ⟨gb236, 1, none⟩ = some (.slice A0_1 l0_1.length c0_1) := (blk_cell BK236.out 1).trans rfl; have hfz8_0 := blk_frozen BK236.out 0; have hfz8_1 := blk_frozen BK236.out 1; have p237 : 0 ≤ (a1 : Int) := of_decide_eq_true (by first | (with_reducible assumption) | assumption); have q237 : a1 < (l0_1.length : Int) := of_decide_eq_true (by first | (with_reducible assumption) | assumption); obtain ⟨ad237, e237, hx237_0⟩ := Kd.at_int HR0_1.out a1 p237 q237; cases e237; replace hx237_0 := (HB.out.cell (World.block_lt_of_cell? w _ hx237_0)).trans hx237_0; replace p237 := eq_true p237; replace q237 := eq_true q237))
        go_ret
        exact ⟨by first | rfl | (simp [errW_none, errW_some] <;> rfl) | (simp [*, errW_none, errW_some] <;> rfl), by repeat (first | (with_reducible first | exact HB.out | apply below_alloc | apply pw_below_drewN | apply below_drew1 | refine below_set ?_ GE236.out) | exact HB.out)⟩
      · rw [if_neg c6] at H
        have c6b0 : ((rd l0_1 a1) == (-1)) = false := beq_eq_false_iff_ne.mpr c6
        have c6b1 : ((rd l0_1 a1) != (-1)) = true := bne_iff_ne.mpr c6
        obtain rfl := Option.some.inj H
        go_enter Try.func175, Try.ntmps175
        go_wp2_with (first | ((with_reducible refine gate_dst (N := 3) rfl ?_); refine box_event ?hg (N := 3) ?hd (cs := #[.slice A0_0 l0_0.length c0_0, .slice A0_1 l0_1.length c0_1]) (t := 54) ?hr ?_; (case hd => rfl); (case hg => rfl); (case hr => first | (go_simp; done) | (go_simp; rfl)); intro gb236 hg w9 hbox hb; have BK236 := Aside0.mk (hbox); have GW236 := Aside0.mk ((by rw [hg]; exact (below_size (by repeat (first | (with_reducible first | exact HB.out | apply below_alloc | apply pw_below_drewN | apply below_drew1) | exact HB.out))) : w.heap.size ≤ gb236)); have GE236 := Aside0.mk ((by rw [hg]; exact (below_size (by repeat (first | (with_reducible first | exact HB.out | apply below_alloc | apply pw_below_drewN | apply below_drew1) | exact HB.out))) : w.heap.size ≤ gb236)); replace HB := Aside0.mk (below_step (by repeat (first | (with_reducible first | exact HB.out | apply below_alloc | apply pw_below_drewN | apply below_drew1) | exact HB.out)) hb); clear hb hbox hg; have hcz10_0 : w9.cell? ⟨gb236, 0, none⟩ = some (.slice A0_0 l0_0.length c0_0) := (blk_cell BK236.out 0).trans rfl; have hcz10_1 : w9.cell? ⟨gb236, 1, none⟩ = some (.slice A0_1 l0_1.length c0_1) := (blk_cell BK236.out 1).trans rfl; have hfz10_0 := blk_frozen BK236.out 0; have hfz10_1 := blk_frozen BK236.out 1; have p237 : 0 ≤ (a1 : Int) := of_decide_eq_true (by first | (with_reducible assumption) | assumption); have q237 : a1 < (l0_1.length : Int) := of_decide_eq_true (by first | (with_reducible assumption) | assumption); obtain ⟨ad237, e237, hx237_0⟩ := Kd.at_int HR0_1.out a1 p237 q237; cases e237; replace hx237_0 := (HB.out.cell (World.block_lt_of_cell? w _ hx237_0)).trans hx237_0; replace p237 := eq_true p237; replace q237 := eq_true q237; have p238 : 0 ≤ (a1 : Int) := of_decide_eq_true (by first | (with_reducible assumption) | assumption); have q238 : a1 < (l0_1.length : Int) := of_decide_eq_true (by first | (with_reducible assumption) | assumption); obtain ⟨ad238, e238, hx238_0⟩ := Kd.at_int HR0_1.out a1 p238 q238; obtain rfl : ad237 = ad238 := (by injection e238); replace hx238_0 := (HB.out.cell (World.block_lt_of_cell? w _ hx238_0)).trans hx238_0; replace p238 := eq_true p238; replace q238 := eq_true q238))
        go_ret
        exact ⟨by first | rfl | (simp [errW_none, errW_some] <;> rfl) | (simp [*, errW_none, errW_some] <;> rfl), by repeat (first | (with_reducible first | exact HB.out | apply below_alloc | apply pw_below_drewN | apply below_drew1 | refine below_set ?_ GE236.out) | exact HB.out)⟩
    · rw [if_neg c5] at H
      exact absurd H (by simp)
  · rw [if_neg c4] at H
    exact absurd H (by simp)

/-! ### slices_Delete_impl_Tile_impl_Tile: function 176, by hand -/
/-! ### slices.Delete of one element, at a row of the call's own -/
theorem R_past {α : Type} {d : Kd α} {e base n cap g j : Nat} {ok : Nat → Prop} {W : World} {xs : List α} (h : d.R e W base ok (.slice (some ⟨g, 0, none⟩) n cap) xs) (hj : n * d.sz ≤ j) (u : Value) :
    d.R e (W.setCell ⟨g, j, none⟩ u) base ok (.slice (some ⟨g, 0, none⟩) n cap) xs := by
  obtain ⟨hok, inner, ⟨hl, hown⟩, hr⟩ := h
  have hne : ∀ k, (ok k ∧ some k ≠ (Value.slice (some ⟨g, 0, none⟩) n cap).ownBlock) → k ≠ g := by
    rintro k ⟨_, hk⟩ rfl
    exact hk rfl
  rcases hown with ⟨hv, _⟩ | ⟨g', cap', cur, hv, hb, hh, hn, hm, hs, ht⟩
  · cases hv
  · injection hv with h1 h2 h3
    injection h1 with h1
    injection h1 with h1
    subst h1
    subst h3
    subst h2
    refine ⟨hok, inner, ⟨hl, .inr ⟨g, cap, cur.setIfInBounds j u, rfl, hb, blk_set hh j u, hn, hm, by rw [Array.size_setIfInBounds]; exact hs, ?_⟩⟩, hr.imp_ (fun p c hp => ?_)⟩
    · rw [← ht, Array.toList_setIfInBounds, List.take_set_of_le (by omega)]
    · exact Kd.M_far (p := ⟨g, j, none⟩) hp hne u
theorem R_past2 {α : Type} {d : Kd α} {e base n cap g j : Nat} {ok : Nat → Prop} {W : World} {xs : List α} (h : d.R e W base ok (.slice (some ⟨g, 0, none⟩) n cap) xs) (hj : n * d.sz ≤ j) (us : List Value) :
    d.R e (W.setCells g j us) base ok (.slice (some ⟨g, 0, none⟩) n cap) xs := by
  induction us generalizing W j with
  | nil => exact h
  | cons u us ih => exact ih (R_past h hj u) (by omega)
theorem below_cells {base g j : Nat} {w W : World} (h : Below base w W) (hg : base ≤ g) (us : List Value) : Below base w (W.setCells g j us) := by
  induction us generalizing W j with
  | nil => exact h
  | cons u us ih => exact ih (h.setCell hg _)
theorem delT_info : (Try.prog.info? 25).map (·.size) = some k25.sz := by kernel_rfl
theorem grown_cell {g j : Nat} {w W : World} (h : w.grownBy W (some g)) (u : Value) : w.grownBy (W.setCell ⟨g, j, none⟩ u) (some g) :=
  ⟨h.os, h.tape, h.output, by rw [World.size_setCell]; exact h.size, fun i hi hr => (Below.heap_setCell W ⟨g, j, none⟩ u i (fun e => hr (by rw [e]))).trans (h.block i hi hr)⟩
theorem grown_cells {g j : Nat} {w W : World} (h : w.grownBy W (some g)) (us : List Value) : w.grownBy (W.setCells g j us) (some g) := by
  induction us generalizing W j with
  | nil => exact h
  | cons u us ih => exact ih (grown_cell h u)
theorem zeroT_ (w : World) : (zeroValue 25).run Try.prog w = .ok (.agg #[.int .i64 0, .int .i64 0]) w := by kernel_rfl
theorem clearT_ {w : World} {g o c : Nat} {cur : Array Value} (hh : w.heap[g]? = some (.cells cur 25 (0, 0))) (hs : o + 2 ≤ cur.size) (ty : TypeId) :
    (Builtin.clear_ #[36] ty #[.slice (some ⟨g, o, none⟩) 1 c]).run Try.prog w = .ok (.tuple #[]) (w.setCells g o [.int .i64 0, .int .i64 0]) := by
  have hst := run_storeCells_cells (P := Try.prog) g o [.int .i64 0, .int .i64 0] 0 w
    (fun j hj => by
      rw [blk_cell hh]
      have : o + 0 + j < cur.size := by simp at hj; omega
      rw [Array.getElem?_eq_getElem this]
      rfl)
    (fun j hj => blk_frozen hh _) (fun v hv => by simp at hv; subst hv; rfl)
  simp only [Nat.add_zero] at hst
  have hzc : (Builtin.zeroCells (Value.agg #[.int .i64 0, .int .i64 0]).cells 1).toList = [.int .i64 0, .int .i64 0] := by kernel_rfl
  simp [Builtin.clear_, run_underlying Try.underlying36, zeroT_, hzc, hst]
set_option maxHeartbeats 4000000 in
set_option maxRecDepth 1000000 in
theorem delT (w : World) (base g cap k m : Nat) (ok : Nat → Prop) (l : List S25) (hb : base ≤ w.heap.size) (hl : l.length = m + 1) (hk : k ≤ m) (hR : Kd.R k25 25 w base ok (.slice (some ⟨g, 0, none⟩) (m + 1) cap) l) :
    Calls Try.prog 176 #[.slice (some ⟨g, 0, none⟩) (m + 1) cap, .int .i64 k, .int .i64 ((k : Int) + 1)] w fun e w' => e = .returned (.slice (some ⟨g, 0, none⟩) m cap) ∧ Kd.R k25 25 w' base ok (.slice (some ⟨g, 0, none⟩) m cap) (l.eraseIdx k) ∧ Below base w w' ∧ w.grownBy w' (some g) := by
  obtain ⟨cur, hok, hbg, hh, hn, hm, hs⟩ : ∃ cur, (∀ k, some g = some k → ok k) ∧ base ≤ g ∧ w.heap[g]? = some (.cells cur 25 (0, 0)) ∧ m + 1 ≤ cap ∧ cap ≤ maxLen ∧ cur.size = cap * 2 := by
    obtain ⟨hok, inner, ⟨hlen, hown⟩, hrep⟩ := hR
    rcases hown with ⟨hv, _⟩ | ⟨g', cap', cur, hv, hb, hh, hn, hm, hs, ht⟩
    · cases hv
    · injection hv with h1 h2 h3
      injection h1 with h1
      injection h1 with h1
      subst h1
      subst h3
      exact ⟨cur, hok, hb, hh, by omega, hm, hs⟩
  have HR := Lib.hid hR
  have HL := Lib.hid hl
  unfold maxLen at hm
  have huel := Try.underlying25
  have hkc : k ≤ cap := by omega
  have hkd : k + 1 ≤ cap := by omega
  have hkl : k + 1 ≤ m + 1 := by omega
  have hi0 : 0 ≤ (k : Int) + 1 := by omega
  have hi1 : (k : Int) + 1 ≤ ((m + 1 : Nat) : Int) := by omega
  have hi2 : (k : Int) + 1 ≤ ((m : Nat) : Int) + 1 := by omega
  have hcm : ¬ cap = m := by omega
  have hA : (if cap = k + 1 then (some ⟨g, 0, none⟩ : Option Addr) else some ⟨g, (k + 1) * 2, none⟩) = if cap = k + 1 then some ⟨g, 0, none⟩ else (some (⟨g, 0, none⟩ : Addr)).map (·.add ((k + 1) * k25.sz)) := by
    by_cases h : cap = k + 1
    · rw [if_pos h, if_pos h]
    · rw [if_neg h, if_neg h, Option.map_some, add_plain]
      rfl
  have HA := Lib.hid hA
  clear hR hh hs hok hl hA
  go_enter Try.func176, Try.ntmps176
  go_wp2_with fail
  go_region_law (refine Kd.R_delete_step k25 (w0 := w) (g := g) (n := m + 1) (c := cap) (k := k) (m := m + 1 - (k + 1)) (c2 := cap - (k + 1)) (A := if cap = k + 1 then (some ⟨g, 0, none⟩ : Option Addr) else some ⟨g, (k + 1) * 2, none⟩) (xs := l) (ok := ok) base rfl (.tmp 22) (.tmp 25) 36 25 rfl Try.underlying36 delT_info (by rfl) (by first | rfl | (simp [Act.eval, Act.put]; done)) HA.out rfl (Kd.R_drewN HR.out 1) (by omega) (below_drew1 (Below.refl _ _)) hb ?_; intro w1 hr1 hb1 hg1)
  have HR1 := Lib.hid hr1
  have HG1 := Lib.hid hg1
  have hcl : ∀ ty, (Builtin.clear_ #[36] ty #[.slice (some ⟨g, m * 2, none⟩) 1 (cap - m)]).run Try.prog w1 = .ok (.tuple #[]) (w1.setCells g (m * 2) [.int .i64 0, .int .i64 0]) := by
    intro ty
    obtain ⟨cur, hh, hs⟩ : ∃ cur, w1.heap[g]? = some (.cells cur 25 (0, 0)) ∧ cur.size = cap * 2 := by
      obtain ⟨hok, inner, ⟨hlen, hown⟩, hrep⟩ := hr1
      rcases hown with ⟨hv, _⟩ | ⟨g', cap', cur, hv, hb, hh, hn, hm, hs, ht⟩
      · cases hv
      · injection hv with h1 h2 h3
        injection h1 with h1
        injection h1 with h1
        subst h1
        subst h3
        exact ⟨cur, hh, hs⟩
    exact clearT_ hh (by omega) ty
  clear hr1 hg1
  go_wp2
  all_goals
    have hr2 : Kd.R k25 25 w1 base ok (.slice (some ⟨g, 0, none⟩) m cap) (l.eraseIdx k) := HR1.out
    have hg2 : w.grownBy w1 (some g) := ⟨HG1.out.os, HG1.out.tape, HG1.out.output, HG1.out.size, HG1.out.block⟩
    go_ret
    first
      | exact ⟨rfl, R_past2 hr2 (Nat.le_refl _) _, below_cells hb1 hbg _, grown_cells hg2 _⟩
      | (have hq : cap = k + 1 := by assumption
         rw [hq] at hr2
         exact ⟨rfl, R_past2 hr2 (Nat.le_refl _) _, below_cells hb1 hbg _, grown_cells hg2 _⟩)

/-! ### impl_Puzzle_solutions_1: function 174, by hand -/
-- with its caller

end Go.Proofs.Ytgcnlhebfnaaoaa.QFnExactSolutions
