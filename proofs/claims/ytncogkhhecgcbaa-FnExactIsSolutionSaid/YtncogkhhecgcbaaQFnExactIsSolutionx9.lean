-- WRITTEN BY A PROGRAM OF THIS CLAIM'S AUTHOR (wprint.py)
import Derived.Test.YtncogkhhecgcbaaQFnExactIsSolutionx0
import Derived.Test.YtncogkhhecgcbaaQFnExactIsSolutionx1
import Derived.Test.YtncogkhhecgcbaaQFnExactIsSolutionx7
import Derived.Test.YtncogkhhecgcbaaQFnExactIsSolutionx8
namespace Go.Proofs.Ytncogkhhecgcbaa.QFnExactIsSolution
open Go.RowKit Go.Proofs.YtncogkhhecgcbaaW.PrintWords Go.Proofs.YtncogkhhecgcbaaW.PrintLast Go.Proofs.YtncogkhhecgcbaaW.PrintMore
attribute [local go_sem] max2_int min2_int max_two min_two max_three min_three max_four min_four   -- for this text's walks alone
set_option linter.unusedVariables false
set_option linter.unusedSimpArgs false

attribute [local go_sem high] eqA55
/-! ### impl_IsHand: function 66, by hand -/
/-- Is it no tile? -/
def noTile (x : S55) : Bool := !(decide (0 ≤ x.f0) && (decide (x.f0 ≤ x.f1) && decide (x.f1 ≤ 9)))
theorem noTile_f (x : S55) : impl_IsHand_1.f x.f0 x.f1 = some (noTile x) := by
  unfold impl_IsHand_1.f impl_IsTile.f impl_within.f noTile
  by_cases h1 : 0 ≤ x.f0
  · rw [if_pos h1]
    by_cases h2 : x.f0 ≤ x.f1
    · simp [h1, h2]
    · simp [h1, h2]
  · simp [h1]

/-- IsHand: few tiles, tiles all, and no two the same. -/
def impl_IsHand.f (k : Nat) (l0 : List S55) : Option Bool := if (l0.length : Int) ≤ 55 then (if l0.any noTile = true then some false else impl_areDifferent_impl_Tile.f k l0) else some false
theorem impl_IsHand.mono : ∀ a0 k, LeO (impl_IsHand.f k a0) (impl_IsHand.f (k + 1) a0) := by
  intro a0 k
  unfold impl_IsHand.f
  exact LeO.ite (LeO.ite (LeO.refl _) (impl_areDifferent_impl_Tile.mono _ _)) (LeO.refl _)
set_option maxHeartbeats 1000000 in
set_option maxRecDepth 100000 in
theorem impl_IsHand.calls (k : Nat) (A0 : Option Addr) (c0 : Nat) (l0 : List (S55)) (r : Bool) (w : World) (hr0 : Kd.C k55 w A0 l0.length l0) (hc0 : l0.length ≤ c0) (h : impl_IsHand.f k l0 = some r) :
    Calls Try.prog 66 #[.slice A0 l0.length c0] w fun e w' => e = .returned (.bool r) ∧ Below w.heap.size w w' := by
  have hcon := conT 82 #[] noTile A0 c0 l0 w hr0 (enters_of' Try.func82 (by kernel_rfl) rfl) (fun x W _ => impl_IsHand_1.calls x.f0 x.f1 (noTile x) W (noTile_f x))
  have HR := Lib.hid hr0
  clear hr0
  unfold impl_IsHand.f at h
  by_cases h1 : (l0.length : Int) ≤ 55
  · rw [if_pos h1] at h
    have d1 : decide ((l0.length : Int) ≤ 55) = true := decide_eq_true h1
    have d2 : decide (l0.length ≤ 55) = true := decide_eq_true (by omega)
    by_cases h2 : l0.any noTile = true
    · rw [if_pos h2] at h
      obtain rfl := Option.some.inj h
      rw [h2] at hcon
      clear h h2 h1
      go_enter Try.func66, Try.ntmps66
      go_wp2_with (go_at_call 81; refine hcon.mono ?_; rintro e w' ⟨rfl, hb⟩)
      go_ret
      exact ⟨rfl, hb⟩
    · rw [if_neg h2] at h
      have h3 := Bool.eq_false_iff.mpr h2
      rw [h3] at hcon
      have HK := Lib.hid h
      clear h h2 h3 h1
      go_enter Try.func66, Try.ntmps66
      go_wp2_with (first | (go_at_call 81; refine hcon.mono ?_; rintro e w1 ⟨rfl, hb⟩) | (go_at_call 60; refine (impl_areDifferent_impl_Tile.calls k A0 c0 l0 r _ (Kd.C_below HR.out hb) hc0 HK.out).mono ?_; rintro e w2 ⟨rfl, hb2⟩))
      go_ret
      exact ⟨rfl, hb.trans (hb2.mono hb.size)⟩
  · rw [if_neg h1] at h
    obtain rfl := Option.some.inj h
    have d1 : decide ((l0.length : Int) ≤ 55) = false := decide_eq_false h1
    have d2 : decide (l0.length ≤ 55) = false := decide_eq_false (by omega)
    clear h h1
    go_enter Try.func66, Try.ntmps66
    go_wp2
    go_ret
    exact ⟨rfl, Below.refl _ _⟩

/-! ### slices_IsSortedFunc_impl_Tile_impl_Tile: function 67, by hand -/
set_option maxHeartbeats 2000000 in
set_option maxRecDepth 100000 in
theorem isSortedT (A0 : Option Addr) (c0 : Nat) (l0 : List S55) (w : World) (hr0 : Kd.C k55 w A0 l0.length l0) :
    Calls Try.prog 67 #[.slice A0 l0.length c0, .func (.func 62) #[] #[]] w fun e w' => e = .returned (.bool (sortedT l0)) ∧ Below w.heap.size w w' := by
  have hlen := hr0.2.1
  have HR := Lib.hid hr0
  clear hr0
  have eg := enters_of' Try.func62 (by kernel_rfl) rfl
  go_enter Try.func67, Try.ntmps67
  go_wp2
  go_loopw [5] (fun i wr => ∃ m : Int, -1 ≤ m ∧ m < l0.length ∧ i = .int .i64 m ∧ Hid (∀ j : Nat, m ≤ j → j + 1 < l0.length → ¬ cmpT (l0.getD (j + 1) z55) (l0.getD j z55) < 0) ∧ Below w.heap.size w wr) (fun i _ => (intOf i + 1).toNat)
  case atStart => exact ⟨(l0.length : Int) - 1, by omega, by omega, rfl, Lib.hid (fun j h1 h2 => by omega), Below.refl _ _⟩
  case round =>
    obtain ⟨m, hm1, hm2, rfl, hnone, hbel⟩ := hrel
    by_cases hlt : 0 < m
    · obtain ⟨q, rfl⟩ : ∃ q : Nat, m = (q : Int) + 1 := ⟨(m - 1).toNat, by omega⟩
      have hC := Kd.C_below HR.out hbel
      obtain ⟨ad, rfl, hx0, hx1⟩ := at_T55 hC ((q : Int) + 1) (by omega) (by omega)
      obtain ⟨ad', e', hy0, hy1⟩ := at_T55 hC (q : Int) (by omega) (by omega)
      obtain rfl : ad = ad' := by injection e'
      clear e'
      rw [show ((q : Int)).toNat = q from rfl] at hy0 hy1
      rw [show ((q : Int) + 1).toNat = q + 1 from by omega] at hx0 hx1
      have hb0 : q + 1 < l0.length := by omega
      have hi0 : (0 : Int) ≤ (q : Int) + 1 := by omega
      have hi1 : (q : Int) + 1 < (l0.length : Int) := by omega
      have hj0 : (0 : Int) ≤ (q : Int) := by omega
      have hj1 : (q : Int) < (l0.length : Int) := by omega
      have hw1 : IntKind.i64.wrap ((q : Int) + 1 - 1) = (q : Int) := (IntWalk.i64_in _ (by omega)).trans (by omega)
      have hw2 : IntKind.i64.wrap (q : Int) = (q : Int) := IntWalk.i64_in _ (by omega)
      have HC := Lib.hid hC
      clear hC
      have hcall := fun W => impl_compareTiles.calls (rd_T55 l0 ((q : Int) + 1)).f0 (rd_T55 l0 ((q : Int) + 1)).f1 (rd_T55 l0 (q : Int)).f0 (rd_T55 l0 (q : Int)).f1 _ W (cmpT_f _ _)
      generalize hz : cmpT (rd_T55 l0 ((q : Int) + 1)) (rd_T55 l0 (q : Int)) = z at hcall
      have HZ := Lib.hid hz
      clear hz
      have HS := Lib.hid (show ∀ W, Below wr.heap.size wr W → (W.cell? (ad.add ((q + 1) * 2)) = some (.int .i64 (rd_T55 l0 ((q : Int) + 1)).f0) ∧ W.cell? ⟨(ad.add ((q + 1) * 2)).block, (ad.add ((q + 1) * 2)).off + 1, none⟩ = some (.int .i64 (rd_T55 l0 ((q : Int) + 1)).f1) ∧
        W.cell? (ad.add (q * 2)) = some (.int .i64 (rd_T55 l0 (q : Int)).f0) ∧ W.cell? ⟨(ad.add (q * 2)).block, (ad.add (q * 2)).off + 1, none⟩ = some (.int .i64 (rd_T55 l0 (q : Int)).f1) ∧ Below wr.heap.size wr W) from
        fun W h => ⟨(h.cell (World.block_lt_of_cell? wr _ hx0)).trans hx0, (h.cell (World.block_lt_of_cell? wr _ hx1)).trans hx1, (h.cell (World.block_lt_of_cell? wr _ hy0)).trans hy0, (h.cell (World.block_lt_of_cell? wr _ hy1)).trans hy1, h⟩)
      go_wp2_with fail
      go_region_held3 (fun w' => w'.cell? (ad.add ((q + 1) * 2)) = some (.int .i64 (rd_T55 l0 ((q : Int) + 1)).f0) ∧ w'.cell? ⟨(ad.add ((q + 1) * 2)).block, (ad.add ((q + 1) * 2)).off + 1, none⟩ = some (.int .i64 (rd_T55 l0 ((q : Int) + 1)).f1) ∧
        w'.cell? (ad.add (q * 2)) = some (.int .i64 (rd_T55 l0 (q : Int)).f0) ∧ w'.cell? ⟨(ad.add (q * 2)).block, (ad.add (q * 2)).off + 1, none⟩ = some (.int .i64 (rd_T55 l0 (q : Int)).f1) ∧ Below wr.heap.size wr w')
        ((refine HS.out _ ?_; first | exact below_drew (Below.refl _ _) | exact Below.refl _ _ | (go_split_ands; first | exact below_drew (by assumption) | exact below_step (by assumption) hb2)))
        (first | (go_simp; refine (hcall _).mono ?_; rintro e w2 ⟨rfl, hb2⟩))
      rename_i wq hwq
      have HB := Lib.hid hwq.2.2.2.2
      clear hwq hx0 hx1 hy0 hy1
      by_cases hneg : z < 0
      · have dz : decide (z < 0) = true := decide_eq_true hneg
        go_wp2
        go_ret
        exact ⟨by rw [sortedT_no l0 q (by omega) (by have := HZ.out; simpa [rd_T55] using this ▸ hneg)]; rfl, hbel.trans (HB.out.mono hbel.size)⟩
      · have dz : decide (z < 0) = false := decide_eq_false hneg
        go_wp2
        go_roundw
        case rel => exact ⟨(q : Int), by omega, by omega, by go_num, Lib.hid (fun j h1 h2 => by
          by_cases e : j = q
          · subst e
            have := HZ.out
            simp only [rd_T55] at this
            rw [show ((j : Int) + 1).toNat = j + 1 from by omega, show ((j : Int)).toNat = j from rfl] at this
            rw [this]
            exact hneg
          · have := hnone.out j (by omega) h2
            omega), hbel.trans (HB.out.mono hbel.size)⟩
        case measure => simp [intOf]; omega
    · have dm : decide (0 < m) = false := decide_eq_false hlt
      go_wp2
      go_ret
      exact ⟨by rw [sortedT_yes l0 (fun j hj => by have := hnone.out j (by omega) hj; omega)]; rfl, hbel⟩

/-! ### impl_IsPuzzle: function 42, by hand -/
def impl_IsPuzzle.f (k : Nat) (l0_0 : List S55) (l0_1 : List Int) : Option Bool :=
  (impl_IsHand.f k l0_0).bind fun b1 => if b1 = true then (if inB 1 9 (l0_0.length : Int) = true then (if sortedT l0_0 = true then (if (l0_1.length : Int) = (l0_0.length : Int) + 1 then impl_areWithin.f l0_1 (-1) 9 else some false) else some false) else some false) else some false
theorem impl_IsPuzzle.mono : ∀ a0 a1 k, LeO (impl_IsPuzzle.f k a0 a1) (impl_IsPuzzle.f (k + 1) a0 a1) := by
  intro a0 a1 k
  unfold impl_IsPuzzle.f
  exact LeO.bind (impl_IsHand.mono _ _) (fun _ => LeO.refl _)
set_option maxHeartbeats 4000000 in
set_option maxRecDepth 100000 in
theorem impl_IsPuzzle.calls (k : Nat) (A0_0 : Option Addr) (c0_0 : Nat) (l0_0 : List (S55)) (A0_1 : Option Addr) (c0_1 : Nat) (l0_1 : List Int) (r : Bool) (w : World) (hr0_0 : Kd.C k55 w A0_0 l0_0.length l0_0) (hc0_0 : l0_0.length ≤ c0_0) (hr0_1 : Kd.C (Kd.int .i64) w A0_1 l0_1.length l0_1) (hc0_1 : l0_1.length ≤ c0_1) (h : impl_IsPuzzle.f k l0_0 l0_1 = some r) :
    Calls Try.prog 42 #[.agg #[.slice A0_0 l0_0.length c0_0, .slice A0_1 l0_1.length c0_1]] w fun e w' => e = .returned (.bool r) ∧ Below w.heap.size w w' := by
  have hb0 : Below w.heap.size w (w.alloc (.cells #[.slice A0_0 l0_0.length c0_0, .slice A0_1 l0_1.length c0_1] 25)) := (Below.refl _ _).alloc (Nat.le_refl _) _
  have c00 : (w.alloc (.cells #[.slice A0_0 l0_0.length c0_0, .slice A0_1 l0_1.length c0_1] 25)).cell? ⟨w.heap.size, 0, none⟩ = some (.slice A0_0 l0_0.length c0_0) := by rw [World.cell?_alloc_at _ _ _ _ rfl]; rfl
  have c01 : (w.alloc (.cells #[.slice A0_0 l0_0.length c0_0, .slice A0_1 l0_1.length c0_1] 25)).cell? ⟨w.heap.size, 1, none⟩ = some (.slice A0_1 l0_1.length c0_1) := by rw [World.cell?_alloc_at _ _ _ _ rfl]; rfl
  have hl0 := hr0_0.2.1
  have hl1 := hr0_1.2.1
  have HR0 := Lib.hid hr0_0
  have HR1 := Lib.hid hr0_1
  clear hr0_0 hr0_1
  unfold impl_IsPuzzle.f at h
  obtain ⟨b1, h1, h⟩ := Option.bind_eq_some_iff.1 h
  have H1 := Lib.hid h1
  clear h1
  cases b1
  · obtain rfl := Option.some.inj h
    clear h
    go_enter Try.func42, Try.ntmps42
    go_wp2_with (go_at_call 66; refine (impl_IsHand.calls k A0_0 c0_0 l0_0 false _ (Kd.C_below HR0.out hb0) hc0_0 H1.out).mono ?_; rintro e w1 ⟨rfl, hb1⟩; have x0 := (hb1.cell (p := ⟨w.heap.size, 0, none⟩) (by simp)).trans c00; have x1 := (hb1.cell (p := ⟨w.heap.size, 1, none⟩) (by simp)).trans c01)
    go_ret
    exact ⟨rfl, hb0.trans (hb1.mono (by simp))⟩
  · rw [if_pos rfl] at h
    by_cases h2 : inB 1 9 (l0_0.length : Int) = true
    · rw [if_pos h2] at h
      have H2 := Lib.hid ((within_f (l0_0.length : Int) 1 9).trans (by rw [h2]) : impl_within.f (l0_0.length : Int) 1 9 = some true)
      have hsmall : l0_0.length ≤ 9 := by
        unfold inB at h2
        simp at h2
        omega
      clear h2
      by_cases h3 : sortedT l0_0 = true
      · rw [if_pos h3] at h
        have H3 := Lib.hid h3
        clear h3
        by_cases h4 : (l0_1.length : Int) = (l0_0.length : Int) + 1
        · rw [if_pos h4] at h
          have H5 := Lib.hid h
          have e4 : ((l0_1.length : Int) == (l0_0.length : Int) + 1) = true := by simpa using h4
          clear h h4
          go_enter Try.func42, Try.ntmps42
          go_wp2_with (first | (go_at_call 66; refine (impl_IsHand.calls k A0_0 c0_0 l0_0 true _ (Kd.C_below HR0.out hb0) hc0_0 H1.out).mono ?_; rintro e w1 ⟨rfl, hb1⟩; have x0 := (hb1.cell (p := ⟨w.heap.size, 0, none⟩) (by simp)).trans c00; have x1 := (hb1.cell (p := ⟨w.heap.size, 1, none⟩) (by simp)).trans c01) | (go_at_call 28; refine (impl_within.calls (l0_0.length : Int) 1 9 true _ H2.out).mono ?_; rintro e w2 ⟨rfl, ⟨nd, rfl⟩⟩) | (go_at_call 67; refine (isSortedT A0_0 c0_0 l0_0 _ (Kd.C_drewN (Kd.C_below (Kd.C_below HR0.out hb0) hb1) _)).mono ?_; rw [H3.out]; rintro e w3 ⟨rfl, hb3⟩; have y0 := (hb3.cell (p := ⟨w.heap.size, 0, none⟩) (World.block_lt_of_cell? _ _ x0)).trans x0; have y1 := (hb3.cell (p := ⟨w.heap.size, 1, none⟩) (World.block_lt_of_cell? _ _ x1)).trans x1) | (go_at_call 59; refine (impl_areWithin.calls A0_1 c0_1 l0_1 (-1) 9 r _ (Kd.C_below (Kd.C_drewN (Kd.C_below (Kd.C_below HR1.out hb0) hb1) _) hb3) hc0_1 H5.out).mono ?_; rintro e w5 ⟨rfl, hb5⟩))
          go_ret
          exact ⟨rfl, hb0.trans ((below_step (below_step (pw_below_drewN hb1 _) hb3) hb5).mono (by simp))⟩
        · rw [if_neg h4] at h
          obtain rfl := Option.some.inj h
          have e4 : ((l0_1.length : Int) == (l0_0.length : Int) + 1) = false := by simpa using h4
          clear h h4
          go_enter Try.func42, Try.ntmps42
          go_wp2_with (first | (go_at_call 66; refine (impl_IsHand.calls k A0_0 c0_0 l0_0 true _ (Kd.C_below HR0.out hb0) hc0_0 H1.out).mono ?_; rintro e w1 ⟨rfl, hb1⟩; have x0 := (hb1.cell (p := ⟨w.heap.size, 0, none⟩) (by simp)).trans c00; have x1 := (hb1.cell (p := ⟨w.heap.size, 1, none⟩) (by simp)).trans c01) | (go_at_call 28; refine (impl_within.calls (l0_0.length : Int) 1 9 true _ H2.out).mono ?_; rintro e w2 ⟨rfl, ⟨nd, rfl⟩⟩) | (go_at_call 67; refine (isSortedT A0_0 c0_0 l0_0 _ (Kd.C_drewN (Kd.C_below (Kd.C_below HR0.out hb0) hb1) _)).mono ?_; rw [H3.out]; rintro e w3 ⟨rfl, hb3⟩; have y0 := (hb3.cell (p := ⟨w.heap.size, 0, none⟩) (World.block_lt_of_cell? _ _ x0)).trans x0; have y1 := (hb3.cell (p := ⟨w.heap.size, 1, none⟩) (World.block_lt_of_cell? _ _ x1)).trans x1))
          go_ret
          exact ⟨rfl, hb0.trans ((below_step (pw_below_drewN hb1 _) hb3).mono (by simp))⟩
      · rw [if_neg h3] at h
        obtain rfl := Option.some.inj h
        have H3 := Lib.hid (Bool.eq_false_iff.mpr h3)
        clear h3 h
        go_enter Try.func42, Try.ntmps42
        go_wp2_with (first | (go_at_call 66; refine (impl_IsHand.calls k A0_0 c0_0 l0_0 true _ (Kd.C_below HR0.out hb0) hc0_0 H1.out).mono ?_; rintro e w1 ⟨rfl, hb1⟩; have x0 := (hb1.cell (p := ⟨w.heap.size, 0, none⟩) (by simp)).trans c00; have x1 := (hb1.cell (p := ⟨w.heap.size, 1, none⟩) (by simp)).trans c01) | (go_at_call 28; refine (impl_within.calls (l0_0.length : Int) 1 9 true _ H2.out).mono ?_; rintro e w2 ⟨rfl, ⟨nd, rfl⟩⟩) | (go_at_call 67; refine (isSortedT A0_0 c0_0 l0_0 _ (Kd.C_drewN (Kd.C_below (Kd.C_below HR0.out hb0) hb1) _)).mono ?_; rw [H3.out]; rintro e w3 ⟨rfl, hb3⟩; have y0 := (hb3.cell (p := ⟨w.heap.size, 0, none⟩) (World.block_lt_of_cell? _ _ x0)).trans x0; have y1 := (hb3.cell (p := ⟨w.heap.size, 1, none⟩) (World.block_lt_of_cell? _ _ x1)).trans x1))
        go_ret
        exact ⟨rfl, hb0.trans ((below_step (pw_below_drewN hb1 _) hb3).mono (by simp))⟩
    · rw [if_neg h2] at h
      obtain rfl := Option.some.inj h
      have H2 := Lib.hid ((within_f (l0_0.length : Int) 1 9).trans (by rw [Bool.eq_false_iff.mpr h2]) : impl_within.f (l0_0.length : Int) 1 9 = some false)
      clear h2 h
      go_enter Try.func42, Try.ntmps42
      go_wp2_with (first | (go_at_call 66; refine (impl_IsHand.calls k A0_0 c0_0 l0_0 true _ (Kd.C_below HR0.out hb0) hc0_0 H1.out).mono ?_; rintro e w1 ⟨rfl, hb1⟩; have x0 := (hb1.cell (p := ⟨w.heap.size, 0, none⟩) (by simp)).trans c00; have x1 := (hb1.cell (p := ⟨w.heap.size, 1, none⟩) (by simp)).trans c01) | (go_at_call 28; refine (impl_within.calls (l0_0.length : Int) 1 9 false _ H2.out).mono ?_; rintro e w2 ⟨rfl, ⟨nd, rfl⟩⟩))
      go_ret
      exact ⟨rfl, hb0.trans ((pw_below_drewN hb1 _).mono (by simp))⟩

/-! ### slices_Equal_impl_Tile_impl_Tile: function 43 -/
def slices_Equal_impl_Tile_impl_Tile.l0 : Nat → List (S55) → List (S55) → Int → Int → Option (Bool)
  | 0, _, _, _, _ => none
  | k + 1, x0, x1, x12, x13 => if x13 < x12 then (if 0 ≤ x13 then (if x13 < (x0.length : Int) then (if x13 < (x1.length : Int) then (if (!(((rd_T55 x0 x13).f0) == ((rd_T55 x1 x13).f0)) || (!(((rd_T55 x0 x13).f1) == ((rd_T55 x1 x13).f1)))) = true then (some false) else (slices_Equal_impl_Tile_impl_Tile.l0 k x0 x1 x12 (wrap64 (x13 + 1)))) else (none)) else (none)) else (none)) else (some true)
def slices_Equal_impl_Tile_impl_Tile.f (k : Nat) (l0 : List (S55)) (l1 : List (S55)) : Option (Bool) := if (l0.length : Int) = (l1.length : Int) then (slices_Equal_impl_Tile_impl_Tile.l0 k l0 l1 (l0.length : Int) 0) else (some false)
theorem slices_Equal_impl_Tile_impl_Tile.mono_l : ∀ k, (∀ y0 y1 y2 y3, LeO (slices_Equal_impl_Tile_impl_Tile.l0 k y0 y1 y2 y3) (slices_Equal_impl_Tile_impl_Tile.l0 (k + 1) y0 y1 y2 y3))
  | 0 => fun _ _ _ _ r h => by simp [slices_Equal_impl_Tile_impl_Tile.l0] at h
  | k + 1 => by
    have ih0 := slices_Equal_impl_Tile_impl_Tile.mono_l k
    · intro y0 y1 y2 y3
      unfold slices_Equal_impl_Tile_impl_Tile.l0
      repeat' first
      | (with_reducible exact ih0 _ _ _ _)
      | (with_reducible exact LeO.refl _)
      | (with_reducible exact LeO.none _)
      | (with_reducible refine LeO.ite ?_ ?_)
      | (with_reducible refine LeO.bind ?_ (fun _ => ?_))
      | exact ih0 _ _ _ _
      | exact LeO.none _
      | refine LeO.ite ?_ ?_
      | refine LeO.bind ?_ (fun _ => ?_)
theorem slices_Equal_impl_Tile_impl_Tile.mono : ∀ a0 a1 k, LeO (slices_Equal_impl_Tile_impl_Tile.f k a0 a1) (slices_Equal_impl_Tile_impl_Tile.f (k + 1) a0 a1) := by
  intro a0 a1 k
  have ih0 := slices_Equal_impl_Tile_impl_Tile.mono_l k
  unfold slices_Equal_impl_Tile_impl_Tile.f
  repeat' first
      | (with_reducible exact ih0 _ _ _ _)
      | (with_reducible exact LeO.refl _)
      | (with_reducible exact LeO.none _)
      | (with_reducible refine LeO.ite ?_ ?_)
      | (with_reducible refine LeO.bind ?_ (fun _ => ?_))
      | exact ih0 _ _ _ _
      | exact LeO.none _
      | refine LeO.ite ?_ ?_
      | refine LeO.bind ?_ (fun _ => ?_)
set_option maxHeartbeats 8000000 in
set_option maxRecDepth 100000 in
theorem slices_Equal_impl_Tile_impl_Tile.calls (k : Nat) (A0 : Option Addr) (c0 : Nat) (l0 : List (S55)) (A1 : Option Addr) (c1 : Nat) (l1 : List (S55)) (r : Bool) (w : World) (hr0 : Kd.C k55 w A0 l0.length l0) (hc0 : l0.length ≤ c0) (hr1 : Kd.C k55 w A1 l1.length l1) (hc1 : l1.length ≤ c1) (h : slices_Equal_impl_Tile_impl_Tile.f k l0 l1 = some r) :
    Calls Try.prog 43 #[.slice A0 l0.length c0, .slice A1 l1.length c1] w fun e w' => e = .returned (.bool r) ∧ Drawn0 w w' := by
  have hu55 := Try.underlying55
  have HR0 := Aside0.mk hr0
  have HC0 := Aside0.mk hc0
  clear hr0 hc0
  have HR1 := Aside0.mk hr1
  have HC1 := Aside0.mk hc1
  clear hr1 hc1
  have H : (if (l0.length : Int) = (l1.length : Int) then (slices_Equal_impl_Tile_impl_Tile.l0 k l0 l1 (l0.length : Int) 0) else (some false)) = some r := h
  clear h
  by_cases c3 : (l0.length : Int) = (l1.length : Int)
  · rw [if_pos c3] at H
    have c3b0 : ((l0.length : Int) == (l1.length : Int)) = true := beq_iff_eq.mpr c3
    have c3b1 : ((l0.length : Int) != (l1.length : Int)) = false := bne_eq_false_iff_eq.mpr c3
    have c3b2 : (l0.length == l1.length) = true := by first | simpa using c3 | (simp at c3 ⊢; omega)
    clear c3
    have H' := Aside0.mk H
    clear H
    go_enter Try.func43, Try.ntmps43
    go_wp2
    repeat (go_quiet (fail); try go_wp2)
    go_loopg [13] k (fun kq v13 w' => ∃ (x13_1 : Int), v13 = .int .i64 x13_1 ∧ Aside0 (slices_Equal_impl_Tile_impl_Tile.l0 kq l0 l1 (l0.length : Int) x13_1 = some r) ∧ Aside0 (kq ≤ k) ∧ Drawn0 w w')
    case atStart => exact ⟨(0), (by first | rfl | (simp; done) | (simp [*]; done)), H', ⟨Nat.le_refl _⟩, by repeat (first | exact Drawn0.refl _ | apply Drawn0.step)⟩
    case round =>
      clear H'
      try clear c1
      try clear p2
      try clear c3
      try clear c3b0
      try clear c3b1
      try clear c3b2
      obtain ⟨x13_1, rfl, HA, HK1, ⟨m1, rfl⟩⟩ := hrel
      cases gk with
      | zero => exact absurd HA.out (by simp [slices_Equal_impl_Tile_impl_Tile.l0])
      | succ k1 =>
        have H := HA.out
        clear HA
        simp only [slices_Equal_impl_Tile_impl_Tile.l0] at H
        by_cases c4 : x13_1 < (l0.length : Int)
        · rw [if_pos c4] at H
          have c4b0 : decide (x13_1 < (l0.length : Int)) = true := decide_eq_true c4
          clear c4
          by_cases c5 : 0 ≤ x13_1
          · rw [if_pos c5] at H
            have c5b0 : decide (0 ≤ x13_1) = true := decide_eq_true c5
            clear c5
            by_cases c6 : x13_1 < (l0.length : Int)
            · rw [if_pos c6] at H
              have c6b0 : decide (x13_1 < (l0.length : Int)) = true := decide_eq_true c6
              clear c6
              by_cases c7 : x13_1 < (l1.length : Int)
              · rw [if_pos c7] at H
                have c7b0 : decide (x13_1 < (l1.length : Int)) = true := decide_eq_true c7
                clear c7
                by_cases c8 : (!(((rd_T55 l0 x13_1).f0) == ((rd_T55 l1 x13_1).f0)) || (!(((rd_T55 l0 x13_1).f1) == ((rd_T55 l1 x13_1).f1)))) = true
                · rw [if_pos c8] at H
                  have c8b0 : (!(((rd_T55 l0 x13_1).f0) == ((rd_T55 l1 x13_1).f0)) || (!(((rd_T55 l0 x13_1).f1) == ((rd_T55 l1 x13_1).f1)))) = true := c8
                  clear c8
                  obtain rfl := Option.some.inj H
                  have p242 : 0 ≤ (x13_1 : Int) := of_decide_eq_true (by first | (with_reducible assumption) | assumption)
                  have q242 : x13_1 < (l0.length : Int) := of_decide_eq_true (by first | (with_reducible assumption) | assumption)
                  obtain ⟨ad242, e242, hx242_0, hx242_1⟩ := at_T55 HR0.out x13_1 p242 q242
                  cases e242
                  replace p242 := eq_true p242
                  replace q242 := eq_true q242
                  have p243 : 0 ≤ (x13_1 : Int) := of_decide_eq_true (by first | (with_reducible assumption) | assumption)
                  have q243 : x13_1 < (l1.length : Int) := of_decide_eq_true (by first | (with_reducible assumption) | assumption)
                  obtain ⟨ad243, e243, hx243_0, hx243_1⟩ := at_T55 HR1.out x13_1 p243 q243
                  cases e243
                  replace p243 := eq_true p243
                  replace q243 := eq_true q243
                  go_wp2
                  repeat (go_quiet (fail); try go_wp2)
                  go_ret
                  exact ⟨by first | rfl | (simp; done) | (simp [*]; done), by repeat (first | exact Drawn0.refl _ | apply Drawn0.step)⟩
                · rw [if_neg c8] at H
                  have c8b0 : (!(((rd_T55 l0 x13_1).f0) == ((rd_T55 l1 x13_1).f0)) || (!(((rd_T55 l0 x13_1).f1) == ((rd_T55 l1 x13_1).f1)))) = false := by simpa using c8
                  clear c8
                  have H' := Aside0.mk H
                  clear H
                  have p242 : 0 ≤ (x13_1 : Int) := of_decide_eq_true (by first | (with_reducible assumption) | assumption)
                  have q242 : x13_1 < (l0.length : Int) := of_decide_eq_true (by first | (with_reducible assumption) | assumption)
                  obtain ⟨ad242, e242, hx242_0, hx242_1⟩ := at_T55 HR0.out x13_1 p242 q242
                  cases e242
                  replace p242 := eq_true p242
                  replace q242 := eq_true q242
                  have p243 : 0 ≤ (x13_1 : Int) := of_decide_eq_true (by first | (with_reducible assumption) | assumption)
                  have q243 : x13_1 < (l1.length : Int) := of_decide_eq_true (by first | (with_reducible assumption) | assumption)
                  obtain ⟨ad243, e243, hx243_0, hx243_1⟩ := at_T55 HR1.out x13_1 p243 q243
                  cases e243
                  replace p243 := eq_true p243
                  replace q243 := eq_true q243
                  go_wp2
                  repeat (go_quiet (fail); try go_wp2)
                  go_roundg k1
                  case measure => have := HK1.out; omega
                  case rel => exact ⟨(wrap64 (x13_1 + 1)), (by first | rfl | (simp; done) | (simp [*]; done)), H', ⟨by have := HK1.out; omega⟩, by repeat (first | exact Drawn0.refl _ | apply Drawn0.step)⟩
              · rw [if_neg c7] at H
                exact absurd H (by simp)
            · rw [if_neg c6] at H
              exact absurd H (by simp)
          · rw [if_neg c5] at H
            exact absurd H (by simp)
        · rw [if_neg c4] at H
          have c4b0 : decide (x13_1 < (l0.length : Int)) = false := decide_eq_false c4
          clear c4
          obtain rfl := Option.some.inj H
          go_wp2
          repeat (go_quiet (fail); try go_wp2)
          go_ret
          exact ⟨by first | rfl | (simp; done) | (simp [*]; done), by repeat (first | exact Drawn0.refl _ | apply Drawn0.step)⟩
  · rw [if_neg c3] at H
    have c3b0 : ((l0.length : Int) == (l1.length : Int)) = false := beq_eq_false_iff_ne.mpr c3
    have c3b1 : ((l0.length : Int) != (l1.length : Int)) = true := bne_iff_ne.mpr c3
    have c3b2 : (l0.length == l1.length) = false := by first | simpa using c3 | (simp at c3 ⊢; omega)
    obtain rfl := Option.some.inj H
    go_enter Try.func43, Try.ntmps43
    go_wp2
    repeat (go_quiet (fail); try go_wp2)
    go_ret
    exact ⟨by first | rfl | (simp; done) | (simp [*]; done), by repeat (first | exact Drawn0.refl _ | apply Drawn0.step)⟩

/-! ### impl_Puzzle_fits: function 44 -/
def impl_Puzzle_fits.f (l0_0 : List (S55)) (l0_1 : List Int) (a1 : Int) (a2 : Int) : Option (Bool) := if 0 ≤ a1 then (if a1 < (l0_1.length : Int) then (if (rd l0_1 a1) = (-1) then (some true) else (some ((rd l0_1 a1) == a2))) else (none)) else (none)
set_option maxHeartbeats 8000000 in
set_option maxRecDepth 100000 in
theorem impl_Puzzle_fits.calls (A0_0 : Option Addr) (c0_0 : Nat) (l0_0 : List (S55)) (A0_1 : Option Addr) (c0_1 : Nat) (l0_1 : List Int) (a1 : Int) (a2 : Int) (r : Bool) (w : World) (hr0_0 : Kd.C k55 w A0_0 l0_0.length l0_0) (hc0_0 : l0_0.length ≤ c0_0) (hr0_1 : Kd.C (Kd.int .i64) w A0_1 l0_1.length l0_1) (hc0_1 : l0_1.length ≤ c0_1) (h : impl_Puzzle_fits.f l0_0 l0_1 a1 a2 = some r) :
    Calls Try.prog 44 #[.agg #[.slice A0_0 l0_0.length c0_0, .slice A0_1 l0_1.length c0_1], .int .i64 a1, .int .i64 a2] w fun e w' => e = .returned (.bool r) ∧ Below w.heap.size w w' := by
  have hu25 := Try.underlying25
  have HR0_0 := Aside0.mk hr0_0
  have HC0_0 := Aside0.mk hc0_0
  clear hr0_0 hc0_0
  have HR0_1 := Aside0.mk hr0_1
  have HC0_1 := Aside0.mk hc0_1
  clear hr0_1 hc0_1
  have HB := Aside0.mk (Below.refl w.heap.size w)
  have H : (if 0 ≤ a1 then (if a1 < (l0_1.length : Int) then (if (rd l0_1 a1) = (-1) then (some true) else (some ((rd l0_1 a1) == a2))) else (none)) else (none)) = some r := h
  clear h
  by_cases c4 : 0 ≤ a1
  · rw [if_pos c4] at H
    have c4b0 : decide (0 ≤ a1) = true := decide_eq_true c4
    clear c4
    by_cases c5 : a1 < (l0_1.length : Int)
    · rw [if_pos c5] at H
      have c5b0 : decide (a1 < (l0_1.length : Int)) = true := decide_eq_true c5
      clear c5
      by_cases c6 : (rd l0_1 a1) = (-1)
      · rw [if_pos c6] at H
        have c6b0 : ((rd l0_1 a1) == (-1)) = true := beq_iff_eq.mpr c6
        have c6b1 : ((rd l0_1 a1) != (-1)) = false := bne_eq_false_iff_eq.mpr c6
        clear c6
        obtain rfl := Option.some.inj H
        go_enter Try.func44, Try.ntmps44
        go_wp2_with (first | ((with_reducible refine gate_dst (N := 3) rfl ?_); refine box_event ?hg (N := 3) ?hd (cs := #[.slice A0_0 l0_0.length c0_0, .slice A0_1 l0_1.length c0_1]) (t := 25) ?hr ?_; (case hd => rfl); (case hg => rfl); (case hr => first | (go_simp; done) | (go_simp; rfl)); intro gb244 hg w7 hbox hb; have BK244 := Aside0.mk (hbox); have GW244 := Aside0.mk ((by rw [hg]; exact (below_size (by repeat (first | (with_reducible first | exact HB.out | apply below_alloc | apply pw_below_drewN | apply below_drew1) | exact HB.out))) : w.heap.size ≤ gb244)); have GE244 := Aside0.mk ((by rw [hg]; exact (below_size (by repeat (first | (with_reducible first | exact HB.out | apply below_alloc | apply pw_below_drewN | apply below_drew1) | exact HB.out))) : w.heap.size ≤ gb244)); replace HB := Aside0.mk (below_step (by repeat (first | (with_reducible first | exact HB.out | apply below_alloc | apply pw_below_drewN | apply below_drew1) | exact HB.out)) hb); clear hb hbox hg; have hcz8_0 : w7.cell? ⟨gb244, 0, none⟩ = some (.slice A0_0 l0_0.length c0_0) := (blk_cell BK244.out 0).trans rfl; have hcz8_1 : w7.cell? ⟨gb244, 1, none⟩ = some (.slice A0_1 l0_1.length c0_1) := (blk_cell BK244.out 1).trans rfl; have hfz8_0 := blk_frozen BK244.out 0; have hfz8_1 := blk_frozen BK244.out 1; have p245 : 0 ≤ (a1 : Int) := of_decide_eq_true (by first | (with_reducible assumption) | assumption); have q245 : a1 < (l0_1.length : Int) := of_decide_eq_true (by first | (with_reducible assumption) | assumption); obtain ⟨ad245, e245, hx245_0⟩ := Kd.at_int HR0_1.out a1 p245 q245; cases e245; replace hx245_0 := (HB.out.cell (World.block_lt_of_cell? w _ hx245_0)).trans hx245_0; replace p245 := eq_true p245; replace q245 := eq_true q245))
        go_ret
        exact ⟨by first | rfl | (simp [errW_none, errW_some] <;> rfl) | (simp [*, errW_none, errW_some] <;> rfl), by repeat (first | (with_reducible first | exact HB.out | apply below_alloc | apply pw_below_drewN | apply below_drew1 | refine below_set ?_ GE244.out) | exact HB.out)⟩
      · rw [if_neg c6] at H
        have c6b0 : ((rd l0_1 a1) == (-1)) = false := beq_eq_false_iff_ne.mpr c6
        have c6b1 : ((rd l0_1 a1) != (-1)) = true := bne_iff_ne.mpr c6
        obtain rfl := Option.some.inj H
        go_enter Try.func44, Try.ntmps44
        go_wp2_with (first | ((with_reducible refine gate_dst (N := 3) rfl ?_); refine box_event ?hg (N := 3) ?hd (cs := #[.slice A0_0 l0_0.length c0_0, .slice A0_1 l0_1.length c0_1]) (t := 25) ?hr ?_; (case hd => rfl); (case hg => rfl); (case hr => first | (go_simp; done) | (go_simp; rfl)); intro gb244 hg w9 hbox hb; have BK244 := Aside0.mk (hbox); have GW244 := Aside0.mk ((by rw [hg]; exact (below_size (by repeat (first | (with_reducible first | exact HB.out | apply below_alloc | apply pw_below_drewN | apply below_drew1) | exact HB.out))) : w.heap.size ≤ gb244)); have GE244 := Aside0.mk ((by rw [hg]; exact (below_size (by repeat (first | (with_reducible first | exact HB.out | apply below_alloc | apply pw_below_drewN | apply below_drew1) | exact HB.out))) : w.heap.size ≤ gb244)); replace HB := Aside0.mk (below_step (by repeat (first | (with_reducible first | exact HB.out | apply below_alloc | apply pw_below_drewN | apply below_drew1) | exact HB.out)) hb); clear hb hbox hg; have hcz10_0 : w9.cell? ⟨gb244, 0, none⟩ = some (.slice A0_0 l0_0.length c0_0) := (blk_cell BK244.out 0).trans rfl; have hcz10_1 : w9.cell? ⟨gb244, 1, none⟩ = some (.slice A0_1 l0_1.length c0_1) := (blk_cell BK244.out 1).trans rfl; have hfz10_0 := blk_frozen BK244.out 0; have hfz10_1 := blk_frozen BK244.out 1; have p245 : 0 ≤ (a1 : Int) := of_decide_eq_true (by first | (with_reducible assumption) | assumption); have q245 : a1 < (l0_1.length : Int) := of_decide_eq_true (by first | (with_reducible assumption) | assumption); obtain ⟨ad245, e245, hx245_0⟩ := Kd.at_int HR0_1.out a1 p245 q245; cases e245; replace hx245_0 := (HB.out.cell (World.block_lt_of_cell? w _ hx245_0)).trans hx245_0; replace p245 := eq_true p245; replace q245 := eq_true q245; have p246 : 0 ≤ (a1 : Int) := of_decide_eq_true (by first | (with_reducible assumption) | assumption); have q246 : a1 < (l0_1.length : Int) := of_decide_eq_true (by first | (with_reducible assumption) | assumption); obtain ⟨ad246, e246, hx246_0⟩ := Kd.at_int HR0_1.out a1 p246 q246; obtain rfl : ad245 = ad246 := (by injection e246); replace hx246_0 := (HB.out.cell (World.block_lt_of_cell? w _ hx246_0)).trans hx246_0; replace p246 := eq_true p246; replace q246 := eq_true q246))
        go_ret
        exact ⟨by first | rfl | (simp [errW_none, errW_some] <;> rfl) | (simp [*, errW_none, errW_some] <;> rfl), by repeat (first | (with_reducible first | exact HB.out | apply below_alloc | apply pw_below_drewN | apply below_drew1 | refine below_set ?_ GE244.out) | exact HB.out)⟩
    · rw [if_neg c5] at H
      exact absurd H (by simp)
  · rw [if_neg c4] at H
    exact absurd H (by simp)

end Go.Proofs.Ytncogkhhecgcbaa.QFnExactIsSolution
