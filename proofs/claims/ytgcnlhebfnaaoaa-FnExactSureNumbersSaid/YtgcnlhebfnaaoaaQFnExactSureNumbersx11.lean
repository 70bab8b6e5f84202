-- WRITTEN BY A PROGRAM OF THIS CLAIM'S AUTHOR (wprint.py)
import Derived.Test.YtgcnlhebfnaaoaaQFnExactSureNumbersx0
import Derived.Test.YtgcnlhebfnaaoaaQFnExactSureNumbersx9
import Derived.Test.YtgcnlhebfnaaoaaQFnExactSureNumbersx10
namespace Go.Proofs.Ytgcnlhebfnaaoaa.QFnExactSureNumbers
open Go.RowKit Go.Proofs.YtgcnlhebfnaaoaaW.PrintWords Go.Proofs.YtgcnlhebfnaaoaaW.PrintLast Go.Proofs.YtgcnlhebfnaaoaaW.PrintMore
attribute [local go_sem] max2_int min2_int max_two min_two max_three min_three max_four min_four   -- for this text's walks alone
set_option linter.unusedVariables false
set_option linter.unusedSimpArgs false

/-! ### impl_Solutions: function 84 -/
def impl_Solutions.f (k : Nat) (l0_0 : List (S25)) (l0_1 : List Int) : Option ((List (List Int)) × Bool) := (impl_IsPuzzle.f k l0_0 l0_1).bind fun t252 => (if t252 = true then ((impl_Puzzle_solutions.f k l0_0 l0_1).bind fun bt253 => (some (bt253.1, bt253.2))) else (some (([] : List (List Int)), false)))
theorem impl_Solutions.mono : ∀ a0 a1 k, LeO (impl_Solutions.f k a0 a1) (impl_Solutions.f (k + 1) a0 a1) := by
 intro a0 a1 k
 unfold impl_Solutions.f
 repeat' first
   | (with_reducible exact impl_IsPuzzle.mono _ _ _)
   | (with_reducible exact impl_Puzzle_solutions.mono _ _ _)
   | (with_reducible exact LeO.refl _)
   | (with_reducible exact LeO.none _)
   | (with_reducible refine LeO.ite ?_ ?_)
   | (with_reducible refine LeO.bind ?_ (fun _ => ?_))
   | exact impl_IsPuzzle.mono _ _ _
   | exact impl_Puzzle_solutions.mono _ _ _
   | exact LeO.none _
   | refine LeO.ite ?_ ?_
   | refine LeO.bind ?_ (fun _ => ?_)
set_option maxHeartbeats 8000000 in
set_option maxRecDepth 100000 in
theorem impl_Solutions.calls (k : Nat) (A0_0 : Option Addr) (c0_0 : Nat) (l0_0 : List (S25)) (A0_1 : Option Addr) (c0_1 : Nat) (l0_1 : List Int) (r1 : List (List Int)) (r2 : Bool) (w : World) (hr0_0 : Kd.C k25 w A0_0 l0_0.length l0_0) (hc0_0 : l0_0.length ≤ c0_0) (hr0_1 : Kd.C (Kd.int .i64) w A0_1 l0_1.length l0_1) (hc0_1 : l0_1.length ≤ c0_1) (h : impl_Solutions.f k l0_0 l0_1 = some (r1, r2)) :
  Calls Try.prog 84 #[.agg #[.slice A0_0 l0_0.length c0_0, .slice A0_1 l0_1.length c0_1]] w fun e w' => ∃ v0_ : Value, e = .returned (.tuple #[v0_, .bool r2]) ∧ Kd.S (Kd.slice 3 (Kd.int .i64)) 49 w' w.heap.size (fun _ => True) v0_ r1 ∧ Below w.heap.size w w' := by
 have hu54 := Try.underlying54
 have HR0_0 := Aside0.mk hr0_0
 have HC0_0 := Aside0.mk hc0_0
 clear hr0_0 hc0_0
 have HR0_1 := Aside0.mk hr0_1
 have HC0_1 := Aside0.mk hc0_1
 clear hr0_1 hc0_1
 have HB := Aside0.mk (Below.refl w.heap.size w)
 have H : ((impl_IsPuzzle.f k l0_0 l0_1).bind fun t252 => (if t252 = true then ((impl_Puzzle_solutions.f k l0_0 l0_1).bind fun bt253 => (some (bt253.1, bt253.2))) else (some (([] : List (List Int)), false)))) = some (r1, r2) := h
 clear h
 replace H := Option.bind_eq_some_iff.mp H
 obtain ⟨t252, A20, H⟩ := H
 replace H : (if t252 = true then ((impl_Puzzle_solutions.f k l0_0 l0_1).bind fun bt253 => (some (bt253.1, bt253.2))) else (some (([] : List (List Int)), false))) = some (r1, r2) := H
 have A2 := Aside0.mk A20
 clear A20
 by_cases c3 : t252 = true
 ·subst c3
  have H1 : ((impl_Puzzle_solutions.f k l0_0 l0_1).bind fun bt253 => (some (bt253.1, bt253.2))) = some (r1, r2) := by rw [if_pos rfl] at H; exact H
  clear H
  have H := H1
  clear H1
  replace H := Option.bind_eq_some_iff.mp H
  obtain ⟨⟨t253, t256⟩, A40, H⟩ := H
  replace H : (some (t253, t256)) = some (r1, r2) := H
  have A4 := Aside0.mk A40
  clear A40
  simp only [Option.some.injEq, Prod.mk.injEq] at H
  obtain ⟨rfl, rfl⟩ := H
  go_enter Try.func84, Try.ntmps84
  go_wp2_with (first | ((with_reducible refine gate_dst (N := 1) rfl ?_); refine box_event ?hg (N := 1) ?hd (cs := #[.slice A0_0 l0_0.length c0_0, .slice A0_1 l0_1.length c0_1]) (t := 54) ?hr ?_; (case hd => rfl); (case hg => rfl); (case hr => first | (go_simp; done) | (go_simp; rfl)); intro gb251 hg w5 hbox hb; have BK251 := Aside0.mk (hbox); have GW251 := Aside0.mk ((by rw [hg]; exact (below_size HB.out) : w.heap.size ≤ gb251)); have GE251 := Aside0.mk ((by rw [hg]; exact (below_size HB.out) : w.heap.size ≤ gb251)); replace HB := Aside0.mk (below_step HB.out hb); clear hb hbox hg; have hcz6_0 : w5.cell? ⟨gb251, 0, none⟩ = some (.slice A0_0 l0_0.length c0_0) := (blk_cell BK251.out 0).trans rfl; have hcz6_1 : w5.cell? ⟨gb251, 1, none⟩ = some (.slice A0_1 l0_1.length c0_1) := (blk_cell BK251.out 1).trans rfl; have hfz6_0 := blk_frozen BK251.out 0; have hfz6_1 := blk_frozen BK251.out 1) | ((with_reducible refine gate_callee (f := 137) rfl ?_); refine goesL_ (some 5) rfl rfl Try.func137 (by kernel_rfl) rfl #[.agg #[.slice A0_0 l0_0.length c0_0, .slice A0_1 l0_1.length c0_1]] rfl (by (try simp only [List.map_toArray, List.map_cons, List.map_nil]); first | done | rfl | (simp only [List.length_drop, List.length_take]; rfl)) ?_; (with_reducible refine (impl_IsPuzzle.calls k _ _ l0_0 _ _ l0_1 true _ ?side1 ?side2 ?side3 ?side4 A2.out).mono ?_); (case side1 => repeat (first | exact (Kd.C_below HR0_0.out HB.out) | (with_reducible refine Kd.C_alloc ?_ _) | (with_reducible refine Kd.C_drewN ?_ _) | (with_reducible refine Kd.C_drew ?_))); (case side2 => exact HC0_0.out); (case side3 => repeat (first | exact (Kd.C_below HR0_1.out HB.out) | (with_reducible refine Kd.C_alloc ?_ _) | (with_reducible refine Kd.C_drewN ?_ _) | (with_reducible refine Kd.C_drew ?_))); (case side4 => exact HC0_1.out); rintro e w7 ⟨rfl, hb⟩; refine ⟨_, rfl, ?_⟩; replace BK251 := Aside0.mk (blk_below (g := gb251) (o := .cells #[.slice A0_0 l0_0.length c0_0, .slice A0_1 l0_1.length c0_1] 54 (0, 0)) (BK251.out) hb); replace HB := Aside0.mk (below_step HB.out hb); (try clear hb); (try clear hb2); (try clear hk); (try clear hi); have hcz8_0 : w7.cell? ⟨gb251, 0, none⟩ = some (.slice A0_0 l0_0.length c0_0) := (blk_cell BK251.out 0).trans rfl; have hcz8_1 : w7.cell? ⟨gb251, 1, none⟩ = some (.slice A0_1 l0_1.length c0_1) := (blk_cell BK251.out 1).trans rfl; have hfz8_0 := blk_frozen BK251.out 0; have hfz8_1 := blk_frozen BK251.out 1) | ((with_reducible refine gate_callee (f := 145) rfl ?_); refine goesL_ (some 8) rfl rfl Try.func145 (by kernel_rfl) rfl #[.agg #[.slice A0_0 l0_0.length c0_0, .slice A0_1 l0_1.length c0_1]] rfl (by (try simp only [List.map_toArray, List.map_cons, List.map_nil]); first | done | rfl | (simp only [List.length_drop, List.length_take]; rfl)) ?_; (with_reducible refine (impl_Puzzle_solutions.calls k _ _ l0_0 _ _ l0_1 t253 t256 _ ?side1 ?side2 ?side3 ?side4 A4.out).mono ?_); (case side1 => repeat (first | exact (Kd.C_below HR0_0.out HB.out) | (with_reducible refine Kd.C_alloc ?_ _) | (with_reducible refine Kd.C_drewN ?_ _) | (with_reducible refine Kd.C_drew ?_))); (case side2 => exact HC0_0.out); (case side3 => repeat (first | exact (Kd.C_below HR0_1.out HB.out) | (with_reducible refine Kd.C_alloc ?_ _) | (with_reducible refine Kd.C_drewN ?_ _) | (with_reducible refine Kd.C_drew ?_))); (case side4 => exact HC0_1.out); rintro e w9 ⟨v254, rfl, ho0, hb⟩; refine ⟨_, rfl, ?_⟩; have HO255 := Aside0.mk (Kd.S_lower ho0 (below_size HB.out)); replace BK251 := Aside0.mk (blk_below (g := gb251) (o := .cells #[.slice A0_0 l0_0.length c0_0, .slice A0_1 l0_1.length c0_1] 54 (0, 0)) (BK251.out) hb); replace HB := Aside0.mk (below_step HB.out hb); (try clear hb); (try clear hb2); (try clear hk); (try clear hi); (try clear ho0)))
  go_ret2
  exact ⟨_, by rfl, by exact HO255.out, HB.out⟩
 ·replace c3 := Bool.eq_false_iff.mpr c3
  subst c3
  have H1 : (some (([] : List (List Int)), false)) = some (r1, r2) := by rw [if_neg (show ¬ (false = true) by decide)] at H; exact H
  clear H
  have H := H1
  clear H1
  simp only [Option.some.injEq, Prod.mk.injEq] at H
  obtain ⟨rfl, rfl⟩ := H
  go_enter Try.func84, Try.ntmps84
  go_wp2_with (first | ((with_reducible refine gate_dst (N := 1) rfl ?_); refine box_event ?hg (N := 1) ?hd (cs := #[.slice A0_0 l0_0.length c0_0, .slice A0_1 l0_1.length c0_1]) (t := 54) ?hr ?_; (case hd => rfl); (case hg => rfl); (case hr => first | (go_simp; done) | (go_simp; rfl)); intro gb251 hg w10 hbox hb; have BK251 := Aside0.mk (hbox); have GW251 := Aside0.mk ((by rw [hg]; exact (below_size HB.out) : w.heap.size ≤ gb251)); have GE251 := Aside0.mk ((by rw [hg]; exact (below_size HB.out) : w.heap.size ≤ gb251)); replace HB := Aside0.mk (below_step HB.out hb); clear hb hbox hg; have hcz11_0 : w10.cell? ⟨gb251, 0, none⟩ = some (.slice A0_0 l0_0.length c0_0) := (blk_cell BK251.out 0).trans rfl; have hcz11_1 : w10.cell? ⟨gb251, 1, none⟩ = some (.slice A0_1 l0_1.length c0_1) := (blk_cell BK251.out 1).trans rfl; have hfz11_0 := blk_frozen BK251.out 0; have hfz11_1 := blk_frozen BK251.out 1) | ((with_reducible refine gate_callee (f := 137) rfl ?_); refine goesL_ (some 5) rfl rfl Try.func137 (by kernel_rfl) rfl #[.agg #[.slice A0_0 l0_0.length c0_0, .slice A0_1 l0_1.length c0_1]] rfl (by (try simp only [List.map_toArray, List.map_cons, List.map_nil]); first | done | rfl | (simp only [List.length_drop, List.length_take]; rfl)) ?_; (with_reducible refine (impl_IsPuzzle.calls k _ _ l0_0 _ _ l0_1 false _ ?side1 ?side2 ?side3 ?side4 A2.out).mono ?_); (case side1 => repeat (first | exact (Kd.C_below HR0_0.out HB.out) | (with_reducible refine Kd.C_alloc ?_ _) | (with_reducible refine Kd.C_drewN ?_ _) | (with_reducible refine Kd.C_drew ?_))); (case side2 => exact HC0_0.out); (case side3 => repeat (first | exact (Kd.C_below HR0_1.out HB.out) | (with_reducible refine Kd.C_alloc ?_ _) | (with_reducible refine Kd.C_drewN ?_ _) | (with_reducible refine Kd.C_drew ?_))); (case side4 => exact HC0_1.out); rintro e w12 ⟨rfl, hb⟩; refine ⟨_, rfl, ?_⟩; replace BK251 := Aside0.mk (blk_below (g := gb251) (o := .cells #[.slice A0_0 l0_0.length c0_0, .slice A0_1 l0_1.length c0_1] 54 (0, 0)) (BK251.out) hb); replace HB := Aside0.mk (below_step HB.out hb); (try clear hb); (try clear hb2); (try clear hk); (try clear hi)))
  go_ret2
  exact ⟨_, by rfl, by first | exact Kd.S_nil _ _ _ _ _ | exact Kd.N_nil _ _ _ _ _ | exact Kd.V_nil _ _ _ _ _ | exact Kd.Q_nil _ _ _ _ _ | exact Kd.R_nil _ _ _ _ _, HB.out⟩

/-! ### impl_SureNumbers: function 82 -/
mutual
def impl_SureNumbers.l0 : Nat → List (List Int) → List Int → List (List Int) → Int → Int → Option (List Int × Bool)
 | 0, _, _, _, _, _ => none
 | k + 1, x4, x6, x23, x24, x25 => if x25 < x24 then (if 0 ≤ x25 then (if x25 < (x23.length : Int) then (impl_SureNumbers.l1 k x4 x6 x23 x24 x25 (rd_L4 x23 x25) ((rd_L4 x23 x25).length : Int) 0) else (none)) else (none)) else (some (x6, true))
def impl_SureNumbers.l1 : Nat → List (List Int) → List Int → List (List Int) → Int → Int → List Int → Int → Int → Option (List Int × Bool)
 | 0, _, _, _, _, _, _, _, _ => none
 | k + 1, x4, x6, x23, x24, x25, x29, x30, x31 => if x31 < x30 then (if 0 ≤ x31 then (if x31 < (x29.length : Int) then (if 0 < (x4.length : Int) then (if x31 < ((rd_L4 x4 0).length : Int) then (if (rd x29 x31) = (rd (rd_L4 x4 0) x31) then (impl_SureNumbers.l1 k x4 x6 x23 x24 x25 x29 x30 (wrap64 (x31 + 1))) else (if x31 < (x6.length : Int) then (impl_SureNumbers.l1 k x4 (x6.set (x31 : Int).toNat (-1)) x23 x24 x25 x29 x30 (wrap64 (x31 + 1))) else (none))) else (none)) else (none)) else (none)) else (none)) else (impl_SureNumbers.l0 k x4 x6 x23 x24 (wrap64 (x25 + 1)))
end
def impl_SureNumbers.f (k : Nat) (l0_0 : List (S25)) (l0_1 : List Int) : Option (List Int × Bool) := (impl_Solutions.f k l0_0 l0_1).bind fun bt258 => (if (bt258.1.length : Int) = 0 then (some (([] : List Int), false)) else (if 0 < (bt258.1.length : Int) then ((slices_Clone_int_int.f (rd_L4 bt258.1 0)).bind fun t263 => (impl_SureNumbers.l0 k bt258.1 t263 bt258.1 (bt258.1.length : Int) 0)) else (none)))
theorem impl_SureNumbers.mono_l : ∀ k, (∀ y0 y1 y2 y3 y4, LeO (impl_SureNumbers.l0 k y0 y1 y2 y3 y4) (impl_SureNumbers.l0 (k + 1) y0 y1 y2 y3 y4)) ∧ (∀ y0 y1 y2 y3 y4 y5 y6 y7, LeO (impl_SureNumbers.l1 k y0 y1 y2 y3 y4 y5 y6 y7) (impl_SureNumbers.l1 (k + 1) y0 y1 y2 y3 y4 y5 y6 y7))
 | 0 => ⟨fun _ _ _ _ _ r h => by simp [impl_SureNumbers.l0] at h, fun _ _ _ _ _ _ _ _ r h => by simp [impl_SureNumbers.l1] at h⟩
 | k + 1 => by
  obtain ⟨ih0, ih1⟩ := impl_SureNumbers.mono_l k
  refine ⟨?_, ?_⟩
  ·intro y0 y1 y2 y3 y4
   unfold impl_SureNumbers.l0
   repeat' first
   | (with_reducible exact ih0 _ _ _ _ _)
   | (with_reducible exact ih1 _ _ _ _ _ _ _ _)
   | (with_reducible exact impl_Solutions.mono _ _ _)
   | (with_reducible exact LeO.refl _)
   | (with_reducible exact LeO.none _)
   | (with_reducible refine LeO.ite ?_ ?_)
   | (with_reducible refine LeO.bind ?_ (fun _ => ?_))
   | exact ih0 _ _ _ _ _
   | exact ih1 _ _ _ _ _ _ _ _
   | exact impl_Solutions.mono _ _ _
   | exact LeO.none _
   | refine LeO.ite ?_ ?_
   | refine LeO.bind ?_ (fun _ => ?_)
  ·intro y0 y1 y2 y3 y4 y5 y6 y7
   unfold impl_SureNumbers.l1
   repeat' first
   | (with_reducible exact ih0 _ _ _ _ _)
   | (with_reducible exact ih1 _ _ _ _ _ _ _ _)
   | (with_reducible exact impl_Solutions.mono _ _ _)
   | (with_reducible exact LeO.refl _)
   | (with_reducible exact LeO.none _)
   | (with_reducible refine LeO.ite ?_ ?_)
   | (with_reducible refine LeO.bind ?_ (fun _ => ?_))
   | exact ih0 _ _ _ _ _
   | exact ih1 _ _ _ _ _ _ _ _
   | exact impl_Solutions.mono _ _ _
   | exact LeO.none _
   | refine LeO.ite ?_ ?_
   | refine LeO.bind ?_ (fun _ => ?_)
theorem impl_SureNumbers.mono : ∀ a0 a1 k, LeO (impl_SureNumbers.f k a0 a1) (impl_SureNumbers.f (k + 1) a0 a1) := by
 intro a0 a1 k
 obtain ⟨ih0, ih1⟩ := impl_SureNumbers.mono_l k
 unfold impl_SureNumbers.f
 repeat' first
   | (with_reducible exact ih0 _ _ _ _ _)
   | (with_reducible exact ih1 _ _ _ _ _ _ _ _)
   | (with_reducible exact impl_Solutions.mono _ _ _)
   | (with_reducible exact LeO.refl _)
   | (with_reducible exact LeO.none _)
   | (with_reducible refine LeO.ite ?_ ?_)
   | (with_reducible refine LeO.bind ?_ (fun _ => ?_))
   | exact ih0 _ _ _ _ _
   | exact ih1 _ _ _ _ _ _ _ _
   | exact impl_Solutions.mono _ _ _
   | exact LeO.none _
   | refine LeO.ite ?_ ?_
   | refine LeO.bind ?_ (fun _ => ?_)
set_option maxHeartbeats 8000000 in
set_option maxRecDepth 100000 in
theorem impl_SureNumbers.calls (k : Nat) (A0_0 : Option Addr) (c0_0 : Nat) (l0_0 : List (S25)) (A0_1 : Option Addr) (c0_1 : Nat) (l0_1 : List Int) (r1 : List Int) (r2 : Bool) (w : World) (hr0_0 : Kd.C k25 w A0_0 l0_0.length l0_0) (hc0_0 : l0_0.length ≤ c0_0) (hr0_1 : Kd.C (Kd.int .i64) w A0_1 l0_1.length l0_1) (hc0_1 : l0_1.length ≤ c0_1) (h : impl_SureNumbers.f k l0_0 l0_1 = some (r1, r2)) :
  Calls Try.prog 82 #[.agg #[.slice A0_0 l0_0.length c0_0, .slice A0_1 l0_1.length c0_1]] w fun e w' => ∃ v0_ : Value, e = .returned (.tuple #[v0_, .bool r2]) ∧ Kd.R (Kd.int .i64) 3 w' w.heap.size (fun _ => True) v0_ r1 ∧ Below w.heap.size w w' := by
 have hu54 := Try.underlying54
 have HR0_0 := Aside0.mk hr0_0
 have HC0_0 := Aside0.mk hc0_0
 clear hr0_0 hc0_0
 have HR0_1 := Aside0.mk hr0_1
 have HC0_1 := Aside0.mk hc0_1
 clear hr0_1 hc0_1
 have HB := Aside0.mk (Below.refl w.heap.size w)
 have H : ((impl_Solutions.f k l0_0 l0_1).bind fun bt258 => (if (bt258.1.length : Int) = 0 then (some (([] : List Int), false)) else (if 0 < (bt258.1.length : Int) then ((slices_Clone_int_int.f (rd_L4 bt258.1 0)).bind fun t263 => (impl_SureNumbers.l0 k bt258.1 t263 bt258.1 (bt258.1.length : Int) 0)) else (none)))) = some (r1, r2) := h
 clear h
 replace H := Option.bind_eq_some_iff.mp H
 obtain ⟨⟨t258, t261⟩, A20, H⟩ := H
 replace H : (if (t258.length : Int) = 0 then (some (([] : List Int), false)) else (if 0 < (t258.length : Int) then ((slices_Clone_int_int.f (rd_L4 t258 0)).bind fun t263 => (impl_SureNumbers.l0 k t258 t263 t258 (t258.length : Int) 0)) else (none))) = some (r1, r2) := H
 have A2 := Aside0.mk A20
 clear A20
 by_cases c3 : (t258.length : Int) = 0
 ·rw [if_pos c3] at H
  have c3b0 : ((t258.length : Int) == 0) = true := beq_iff_eq.mpr c3
  have c3b1 : ((t258.length : Int) != 0) = false := bne_eq_false_iff_eq.mpr c3
  clear c3
  simp only [Option.some.injEq, Prod.mk.injEq] at H
  obtain ⟨rfl, rfl⟩ := H
  go_enter Try.func82, Try.ntmps82
  go_wp2_with (first | ((with_reducible refine gate_dst (N := 1) rfl ?_); refine box_event ?hg (N := 1) ?hd (cs := #[.slice A0_0 l0_0.length c0_0, .slice A0_1 l0_1.length c0_1]) (t := 54) ?hr ?_; (case hd => rfl); (case hg => rfl); (case hr => first | (go_simp; done) | (go_simp; rfl)); intro gb257 hg w4 hbox hb; have BK257 := Aside0.mk (hbox); have GW257 := Aside0.mk ((by rw [hg]; exact (below_size HB.out) : w.heap.size ≤ gb257)); have GE257 := Aside0.mk ((by rw [hg]; exact (below_size HB.out) : w.heap.size ≤ gb257)); replace HB := Aside0.mk (below_step HB.out hb); clear hb hbox hg; have hcz5_0 : w4.cell? ⟨gb257, 0, none⟩ = some (.slice A0_0 l0_0.length c0_0) := (blk_cell BK257.out 0).trans rfl; have hcz5_1 : w4.cell? ⟨gb257, 1, none⟩ = some (.slice A0_1 l0_1.length c0_1) := (blk_cell BK257.out 1).trans rfl; have hfz5_0 := blk_frozen BK257.out 0; have hfz5_1 := blk_frozen BK257.out 1) | ((with_reducible refine gate_callee (f := 84) rfl ?_); refine goesL_ (some 13) rfl rfl Try.func84 (by kernel_rfl) rfl #[.agg #[.slice A0_0 l0_0.length c0_0, .slice A0_1 l0_1.length c0_1]] rfl (by (try simp only [List.map_toArray, List.map_cons, List.map_nil]); first | done | rfl | (simp only [List.length_drop, List.length_take]; rfl)) ?_; (with_reducible refine (impl_Solutions.calls k _ _ l0_0 _ _ l0_1 t258 t261 _ ?side1 ?side2 ?side3 ?side4 A2.out).mono ?_); (case side1 => repeat (first | exact (Kd.C_below HR0_0.out HB.out) | (with_reducible refine Kd.C_alloc ?_ _) | (with_reducible refine Kd.C_drewN ?_ _) | (with_reducible refine Kd.C_drew ?_))); (case side2 => exact HC0_0.out); (case side3 => repeat (first | exact (Kd.C_below HR0_1.out HB.out) | (with_reducible refine Kd.C_alloc ?_ _) | (with_reducible refine Kd.C_drewN ?_ _) | (with_reducible refine Kd.C_drew ?_))); (case side4 => exact HC0_1.out); rintro e w6 ⟨v259, rfl, ho0, hb⟩; refine ⟨_, rfl, ?_⟩; have HO260 := Aside0.mk (Kd.S_lower ho0 (below_size HB.out)); replace BK257 := Aside0.mk (blk_below (g := gb257) (o := .cells #[.slice A0_0 l0_0.length c0_0, .slice A0_1 l0_1.length c0_1] 54 (0, 0)) (BK257.out) hb); replace HB := Aside0.mk (below_step HB.out hb); (try clear hb); (try clear hb2); (try clear hk); (try clear hi); (try clear ho0); obtain ⟨Ao7, co7, eo7⟩ := Kd.S_slice HO260.out; subst eo7))
  go_ret2
  exact ⟨_, by rfl, by first | exact Kd.R_nil _ _ _ _ _ | exact Kd.N_nil _ _ _ _ _ | exact Kd.V_nil _ _ _ _ _ | exact Kd.Q_nil _ _ _ _ _ | exact Kd.S_nil _ _ _ _ _, HB.out⟩
 ·rw [if_neg c3] at H
  have c3b0 : ((t258.length : Int) == 0) = false := beq_eq_false_iff_ne.mpr c3
  have c3b1 : ((t258.length : Int) != 0) = true := bne_iff_ne.mpr c3
  have c3b2 : ¬ (t258 = []) := fun h_ => c3 (by rw [h_]; rfl)
  by_cases c8 : 0 < (t258.length : Int)
  ·rw [if_pos c8] at H
   have c8b0 : decide (0 < (t258.length : Int)) = true := decide_eq_true c8
   have c8b1 : decide (0 < t258.length) = true := decide_eq_true (by omega)
   clear c8
   replace H := Option.bind_eq_some_iff.mp H
   obtain ⟨t263, A90, H⟩ := H
   replace H : (impl_SureNumbers.l0 k t258 t263 t258 (t258.length : Int) 0) = some (r1, r2) := H
   have A9 := Aside0.mk A90
   clear A90
   have H' := Aside0.mk H
   clear H
   go_enter Try.func82, Try.ntmps82
   go_wp2_with (first | ((with_reducible refine gate_dst (N := 1) rfl ?_); refine box_event ?hg (N := 1) ?hd (cs := #[.slice A0_0 l0_0.length c0_0, .slice A0_1 l0_1.length c0_1]) (t := 54) ?hr ?_; (case hd => rfl); (case hg => rfl); (case hr => first | (go_simp; done) | (go_simp; rfl)); intro gb257 hg w10 hbox hb; have BK257 := Aside0.mk (hbox); have GW257 := Aside0.mk ((by rw [hg]; exact (below_size HB.out) : w.heap.size ≤ gb257)); have GE257 := Aside0.mk ((by rw [hg]; exact (below_size HB.out) : w.heap.size ≤ gb257)); replace HB := Aside0.mk (below_step HB.out hb); clear hb hbox hg; have hcz11_0 : w10.cell? ⟨gb257, 0, none⟩ = some (.slice A0_0 l0_0.length c0_0) := (blk_cell BK257.out 0).trans rfl; have hcz11_1 : w10.cell? ⟨gb257, 1, none⟩ = some (.slice A0_1 l0_1.length c0_1) := (blk_cell BK257.out 1).trans rfl; have hfz11_0 := blk_frozen BK257.out 0; have hfz11_1 := blk_frozen BK257.out 1) | ((with_reducible refine gate_callee (f := 84) rfl ?_); refine goesL_ (some 13) rfl rfl Try.func84 (by kernel_rfl) rfl #[.agg #[.slice A0_0 l0_0.length c0_0, .slice A0_1 l0_1.length c0_1]] rfl (by (try simp only [List.map_toArray, List.map_cons, List.map_nil]); first | done | rfl | (simp only [List.length_drop, List.length_take]; rfl)) ?_; (with_reducible refine (impl_Solutions.calls k _ _ l0_0 _ _ l0_1 t258 t261 _ ?side1 ?side2 ?side3 ?side4 A2.out).mono ?_); (case side1 => repeat (first | exact (Kd.C_below HR0_0.out HB.out) | (with_reducible refine Kd.C_alloc ?_ _) | (with_reducible refine Kd.C_drewN ?_ _) | (with_reducible refine Kd.C_drew ?_))); (case side2 => exact HC0_0.out); (case side3 => repeat (first | exact (Kd.C_below HR0_1.out HB.out) | (with_reducible refine Kd.C_alloc ?_ _) | (with_reducible refine Kd.C_drewN ?_ _) | (with_reducible refine Kd.C_drew ?_))); (case side4 => exact HC0_1.out); rintro e w12 ⟨v259, rfl, ho0, hb⟩; refine ⟨_, rfl, ?_⟩; have HO260 := Aside0.mk (Kd.S_lower ho0 (below_size HB.out)); replace BK257 := Aside0.mk (blk_below (g := gb257) (o := .cells #[.slice A0_0 l0_0.length c0_0, .slice A0_1 l0_1.length c0_1] 54 (0, 0)) (BK257.out) hb); replace HB := Aside0.mk (below_step HB.out hb); (try clear hb); (try clear hb2); (try clear hk); (try clear hi); (try clear ho0); obtain ⟨Ao13, co13, eo13⟩ := Kd.S_slice HO260.out; subst eo13; have p262 : 0 ≤ (0 : Int) := (by omega); have q262 : 0 < (t258.length : Int) := of_decide_eq_true (by assumption); obtain ⟨ad262, A262_0, c262_0, e262, hx262_0, hl262_0, hi262_0⟩ := at_L4 (Kd.S_reads' HO260.out).2.2 0 p262 q262; cases e262; obtain ⟨ce262, hce262, hMe262, hcc262⟩ := Kd.S_get HO260.out [] 0 p262 (by first | exact q262 | exact of_decide_eq_true (by assumption) | (have e_ := (Kd.S_reads' HO260.out).1; omega)); obtain ⟨ve262_0, rfl, ge262_0⟩ := hMe262; have hv262_0 := hcc262 0 _ rfl; rw [Nat.add_zero, show ((Kd.slice 3 (Kd.int .i64))).sz = 1 from rfl, Nat.mul_one] at hv262_0; replace hv262_0 := Option.some.inj (hv262_0.symm.trans hx262_0); rw [hv262_0] at ge262_0; have HL262_0 := Aside0.mk (show Kd.R (Kd.int .i64) 3 _ _ _ _ (rd_L4 t258 0) from ge262_0); clear hv262_0 ge262_0; clear hcc262 hce262; have qi262 : (0 < t258.length) = True := eq_true (by omega); (try rw [show ((0 : Int)).toNat = 0 from rfl] at hx262_0); (try rw [Addr.add_zero'] at hx262_0); have HR262_0 := Aside0.mk hi262_0; have HC262_0 := Aside0.mk hl262_0; clear hi262_0 hl262_0; replace p262 := eq_true p262; replace q262 := eq_true q262) | ((with_reducible refine gate_callee (f := 144) rfl ?_); refine goesL_ (some 22) rfl rfl Try.func144 (by kernel_rfl) rfl #[.slice A262_0 (rd_L4 t258 0).length c262_0] rfl (by (try simp only [List.map_toArray, List.map_cons, List.map_nil]); first | done | rfl | (simp only [List.length_drop, List.length_take]; rfl)) ?_; (with_reducible refine (slices_Clone_int_int.calls _ _ (rd_L4 t258 0) t263 _ ?side1 ?side2 A9.out).mono ?_); (case side1 => repeat (first | exact (by repeat (first | (with_reducible exact HR262_0.out) | (with_reducible refine Kd.C_alloc ?_ _) | (with_reducible refine Kd.C_drewN ?_ _) | (with_reducible refine Kd.C_drew ?_) | exact HR262_0.out)) | (with_reducible refine Kd.C_alloc ?_ _) | (with_reducible refine Kd.C_drewN ?_ _) | (with_reducible refine Kd.C_drew ?_))); (case side2 => exact HC262_0.out); rintro e w14 ⟨v264, rfl, ho0, hb⟩; refine ⟨_, rfl, ?_⟩; replace HO260 := Aside0.mk (Kd.S_elder' (HO260.out) (Kd.R_base ho0) hb); have HO265 := Aside0.mk (Kd.R_lower (Kd.R_new' ho0 (Kd.R_lt (HL262_0.out))) (below_size HB.out)); replace HL262_0 := Aside0.mk (Kd.R_elder' (HL262_0.out) (Kd.R_base ho0) hb); replace BK257 := Aside0.mk (blk_below (g := gb257) (o := .cells #[.slice A0_0 l0_0.length c0_0, .slice A0_1 l0_1.length c0_1] 54 (0, 0)) (BK257.out) hb); replace HR262_0 := Aside0.mk (Kd.C_below (by repeat (first | (with_reducible exact HR262_0.out) | (with_reducible refine Kd.C_alloc ?_ _) | (with_reducible refine Kd.C_drewN ?_ _) | (with_reducible refine Kd.C_drew ?_) | exact HR262_0.out)) hb); replace HB := Aside0.mk (below_step HB.out hb); (try clear hb); (try clear hb2); (try clear hk); (try clear hi); (try clear ho0)))
   go_loopg [25] k (fun kq v25 w' => ∃ (x6_1 : List Int) (x25_1 : Int), v25 = .int .i64 x25_1 ∧ Aside0 (impl_SureNumbers.l0 kq t258 x6_1 t258 (t258.length : Int) x25_1 = some (r1, r2)) ∧ Aside0 (kq ≤ k) ∧ Aside0 (Kd.S (Kd.slice 3 (Kd.int .i64)) 49 w' w.heap.size (fun k_ => some k_ ≠ (v264 : Value).ownBlock) (.slice (some ad262) t258.length co13) t258) ∧ Aside0 (Kd.R (Kd.int .i64) 3 w' w.heap.size (fun _ => True) v264 x6_1) ∧ Aside0 (Kd.S (Kd.slice 3 (Kd.int .i64)) 49 w' w.heap.size (fun k_ => some k_ ≠ (v264 : Value).ownBlock) (.slice (some ad262) t258.length co13) t258) ∧ Aside0 (w'.heap[gb257]? = some (.cells #[(.slice A0_0 l0_0.length c0_0), (.slice A0_1 l0_1.length c0_1)] 54 (0, 0))) ∧ Aside0 (Below w.heap.size w w'))
   case atStart => exact ⟨(t263), (0), (by first | rfl | (simp; done) | (simp [*]; done)), H', ⟨Nat.le_refl _⟩, ⟨Kd.S_mono HO260.out (fun _ hk => hk.2)⟩, ⟨Kd.R_mono HO265.out (fun _ hk => trivial)⟩, ⟨Kd.S_mono HO260.out (fun _ hk => hk.2)⟩, ⟨by exact BK257.out⟩, ⟨HB.out⟩⟩
   case round =>
    clear H'
    try clear c1
    try clear c2
    try clear p2
    try clear q2
    try clear hx2
    try clear qi2
    try clear c3
    try clear c3b0
    try clear c3b1
    try clear c3b2
    try clear c8
    try clear c8b0
    try clear c8b1
    try clear c14
    try clear hcz11_0
    try clear hcz11_1
    try clear hcz5_0
    try clear hcz5_1
    try clear hfz11_0
    try clear hfz11_1
    try clear hfz5_0
    try clear hfz5_1
    try clear hx262_0
    try clear p262
    try clear q262
    obtain ⟨x6_1, x25_1, rfl, HA, HK1, HO_4, HO_6, HO_23, BK257, HB⟩ := hrel
    cases gk with
    | zero => exact absurd HA.out (by simp [impl_SureNumbers.l0])
    | succ k1 =>
     have H := HA.out
     clear HA
     simp only [impl_SureNumbers.l0] at H
     by_cases c15 : x25_1 < (t258.length : Int)
     ·rw [if_pos c15] at H
      have c15b0 : decide (x25_1 < (t258.length : Int)) = true := decide_eq_true c15
      clear c15
      by_cases c16 : 0 ≤ x25_1
      ·rw [if_pos c16] at H
       have c16b0 : decide (0 ≤ x25_1) = true := decide_eq_true c16
       clear c16
       by_cases c17 : x25_1 < (t258.length : Int)
       ·rw [if_pos c17] at H
        have c17b0 : decide (x25_1 < (t258.length : Int)) = true := decide_eq_true c17
        clear c17
        have H' := Aside0.mk H
        clear H
        have p266 : 0 ≤ (x25_1 : Int) := of_decide_eq_true (by assumption)
        have q266 : x25_1 < (t258.length : Int) := of_decide_eq_true (by assumption)
        obtain ⟨ad266, A266_0, c266_0, e266, hx266_0, hl266_0, hi266_0⟩ := at_L4 (Kd.S_reads' HO_23.out).2.2 x25_1 p266 q266
        obtain rfl : ad262 = ad266 := (by injection e266)
        obtain ⟨ce266, hce266, hMe266, hcc266⟩ := Kd.S_get HO_23.out [] x25_1 p266 (by first | exact q266 | exact of_decide_eq_true (by assumption) | (have e_ := (Kd.S_reads' HO_23.out).1; omega))
        obtain ⟨ve266_0, rfl, ge266_0⟩ := hMe266
        have hv266_0 := hcc266 0 _ rfl
        rw [Nat.add_zero, show ((Kd.slice 3 (Kd.int .i64))).sz = 1 from rfl, Nat.mul_one] at hv266_0
        replace hv266_0 := Option.some.inj (hv266_0.symm.trans hx266_0)
        rw [hv266_0] at ge266_0
        have HL266_0 := Aside0.mk (show Kd.R (Kd.int .i64) 3 _ _ _ _ (rd_L4 t258 x25_1) from ge266_0)
        have HI_ := Aside0.mk (show Kd.R (Kd.int .i64) 3 _ w.heap.size (fun k_ => some k_ ≠ (v264 : Value).ownBlock) (.slice A266_0 (rd_L4 t258 x25_1).length c266_0) (rd_L4 t258 x25_1) from Kd.R_mono ge266_0 (fun k_ hk => by first | exact hk.1 | exact hk.1.1 | exact hk.1.1.1))
        clear hv266_0 ge266_0
        clear hcc266 hce266
        have HR266_0 := Aside0.mk hi266_0
        have HC266_0 := Aside0.mk hl266_0
        clear hi266_0 hl266_0
        replace p266 := eq_true p266
        replace q266 := eq_true q266
        go_wp2
        go_loopg [31] k1 (fun kq v31 w' => ∃ (x6_2 : List Int) (x31_2 : Int), v31 = .int .i64 x31_2 ∧ Aside0 (impl_SureNumbers.l1 kq t258 x6_2 t258 (t258.length : Int) x25_1 (rd_L4 t258 x25_1) ((rd_L4 t258 x25_1).length : Int) x31_2 = some (r1, r2)) ∧ Aside0 (kq ≤ k1) ∧ Aside0 (Kd.R (Kd.int .i64) 3 w' w.heap.size (fun k_ => some k_ ≠ (v264 : Value).ownBlock) (.slice A266_0 (rd_L4 t258 x25_1).length c266_0) (rd_L4 t258 x25_1)) ∧ Aside0 (Kd.S (Kd.slice 3 (Kd.int .i64)) 49 w' w.heap.size (fun k_ => some k_ ≠ (v264 : Value).ownBlock) (.slice (some ad262) t258.length co13) t258) ∧ Aside0 (Kd.R (Kd.int .i64) 3 w' w.heap.size (fun _ => True) v264 x6_2) ∧ Aside0 (Kd.S (Kd.slice 3 (Kd.int .i64)) 49 w' w.heap.size (fun k_ => some k_ ≠ (v264 : Value).ownBlock) (.slice (some ad262) t258.length co13) t258) ∧ Aside0 (w'.heap[gb257]? = some (.cells #[(.slice A0_0 l0_0.length c0_0), (.slice A0_1 l0_1.length c0_1)] 54 (0, 0))) ∧ Aside0 (Below w.heap.size w w'))
        case atStart => exact ⟨(x6_1), (0), (by first | rfl | (simp; done) | (simp [*]; done)), H', ⟨Nat.le_refl _⟩, HI_, ⟨HO_4.out⟩, ⟨HO_6.out⟩, ⟨HO_23.out⟩, ⟨by exact BK257.out⟩, ⟨HB.out⟩⟩
        case round =>
         clear H'
         try clear c1
         try clear c2
         try clear p2
         try clear q2
         try clear hx2
         try clear qi2
         try clear c3
         try clear c3b0
         try clear c3b1
         try clear c3b2
         try clear c8
         try clear c8b0
         try clear c8b1
         try clear c14
         try clear c15
         try clear c15b0
         try clear c16
         try clear c16b0
         try clear c17
         try clear c17b0
         try clear hcz11_0
         try clear hcz11_1
         try clear hcz5_0
         try clear hcz5_1
         try clear hfz11_0
         try clear hfz11_1
         try clear hfz5_0
         try clear hfz5_1
         try clear hx262_0
         try clear hx266_0
         try clear p2
         try clear p262
         try clear p266
         try clear q2
         try clear q262
         try clear q266
         obtain ⟨x6_2, x31_2, rfl, HA, HK2, HI_, HO_4, HO_6, HO_23, BK257, HB⟩ := hrel
         cases gk with
         | zero => exact absurd HA.out (by simp [impl_SureNumbers.l1])
         | succ k2 =>
          have H := HA.out
          clear HA
          simp only [impl_SureNumbers.l1] at H
          by_cases c18 : x31_2 < ((rd_L4 t258 x25_1).length : Int)
          ·rw [if_pos c18] at H
           have c18b0 : decide (x31_2 < ((rd_L4 t258 x25_1).length : Int)) = true := decide_eq_true c18
           clear c18
           by_cases c19 : 0 ≤ x31_2
           ·rw [if_pos c19] at H
            have c19b0 : decide (0 ≤ x31_2) = true := decide_eq_true c19
            clear c19
            by_cases c20 : x31_2 < ((rd_L4 t258 x25_1).length : Int)
            ·rw [if_pos c20] at H
             have c20b0 : decide (x31_2 < ((rd_L4 t258 x25_1).length : Int)) = true := decide_eq_true c20
             clear c20
             by_cases c21 : 0 < (t258.length : Int)
             ·rw [if_pos c21] at H
              have c21b0 : decide (0 < (t258.length : Int)) = true := decide_eq_true c21
              have c21b1 : decide (0 < t258.length) = true := decide_eq_true (by omega)
              clear c21
              by_cases c22 : x31_2 < ((rd_L4 t258 0).length : Int)
              ·rw [if_pos c22] at H
               have c22b0 : decide (x31_2 < ((rd_L4 t258 0).length : Int)) = true := decide_eq_true c22
               clear c22
               by_cases c23 : (rd (rd_L4 t258 x25_1) x31_2) = (rd (rd_L4 t258 0) x31_2)
               ·rw [if_pos c23] at H
                have c23b0 : ((rd (rd_L4 t258 x25_1) x31_2) == (rd (rd_L4 t258 0) x31_2)) = true := beq_iff_eq.mpr c23
                have c23b1 : ((rd (rd_L4 t258 x25_1) x31_2) != (rd (rd_L4 t258 0) x31_2)) = false := bne_eq_false_iff_eq.mpr c23
                clear c23
                have H' := Aside0.mk H
                clear H
                have p267 : 0 ≤ (x31_2 : Int) := of_decide_eq_true (by assumption)
                have q267 : x31_2 < ((rd_L4 t258 x25_1).length : Int) := of_decide_eq_true (by assumption)
                obtain ⟨ad267, e267, hx267_0⟩ := Kd.at_int (Kd.R_reads' HI_.out).2.2 x31_2 p267 q267
                cases e267
                replace p267 := eq_true p267
                replace q267 := eq_true q267
                have p268 : 0 ≤ (0 : Int) := (by omega)
                have q268 : 0 < (t258.length : Int) := of_decide_eq_true (by assumption)
                obtain ⟨ad268, A268_0, c268_0, e268, hx268_0, hl268_0, hi268_0⟩ := at_L4 (Kd.S_reads' HO_4.out).2.2 0 p268 q268
                obtain rfl : ad262 = ad268 := (by injection e268)
                obtain ⟨ce268, hce268, hMe268, hcc268⟩ := Kd.S_get HO_4.out [] 0 p268 (by first | exact q268 | exact of_decide_eq_true (by assumption) | (have e_ := (Kd.S_reads' HO_4.out).1; omega))
                obtain ⟨ve268_0, rfl, ge268_0⟩ := hMe268
                have hv268_0 := hcc268 0 _ rfl
                rw [Nat.add_zero, show ((Kd.slice 3 (Kd.int .i64))).sz = 1 from rfl, Nat.mul_one] at hv268_0
                replace hv268_0 := Option.some.inj (hv268_0.symm.trans hx268_0)
                rw [hv268_0] at ge268_0
                have HL268_0 := Aside0.mk (show Kd.R (Kd.int .i64) 3 _ _ _ _ (rd_L4 t258 0) from ge268_0)
                clear hv268_0 ge268_0
                clear hcc268 hce268
                have qi268 : (0 < t258.length) = True := eq_true (by omega)
                (try rw [show ((0 : Int)).toNat = 0 from rfl] at hx268_0)
                (try rw [Addr.add_zero'] at hx268_0)
                have HR268_0 := Aside0.mk hi268_0
                have HC268_0 := Aside0.mk hl268_0
                clear hi268_0 hl268_0
                replace p268 := eq_true p268
                replace q268 := eq_true q268
                have p269 : 0 ≤ (x31_2 : Int) := of_decide_eq_true (by assumption)
                have q269 : x31_2 < ((rd_L4 t258 0).length : Int) := of_decide_eq_true (by assumption)
                obtain ⟨ad269, e269, hx269_0⟩ := Kd.at_int (by repeat (first | (with_reducible exact HR268_0.out) | (with_reducible refine Kd.C_alloc ?_ _) | (with_reducible refine Kd.C_drewN ?_ _) | (with_reducible refine Kd.C_drew ?_) | exact HR268_0.out)) x31_2 p269 q269
                cases e269
                replace p269 := eq_true p269
                replace q269 := eq_true q269
                go_wp2
                go_roundg k2
                case measure => have := HK1.out; have := HK2.out; omega
                case rel => exact ⟨(x6_2), (wrap64 (x31_2 + 1)), (by first | rfl | (simp; done) | (simp [*]; done)), H', ⟨by have := HK1.out; have := HK2.out; omega⟩, HI_, ⟨HO_4.out⟩, ⟨HO_6.out⟩, ⟨HO_23.out⟩, ⟨by exact BK257.out⟩, ⟨HB.out⟩⟩
               ·rw [if_neg c23] at H
                have c23b0 : ((rd (rd_L4 t258 x25_1) x31_2) == (rd (rd_L4 t258 0) x31_2)) = false := beq_eq_false_iff_ne.mpr c23
                have c23b1 : ((rd (rd_L4 t258 x25_1) x31_2) != (rd (rd_L4 t258 0) x31_2)) = true := bne_iff_ne.mpr c23
                by_cases c24 : x31_2 < (x6_2.length : Int)
                ·rw [if_pos c24] at H
                 have c24b0 : decide (x31_2 < (x6_2.length : Int)) = true := decide_eq_true c24
                 clear c24
                 obtain ⟨y270, hy270⟩ : ∃ y_ : List Int, y_ = (x6_2.set (x31_2 : Int).toNat (-1)) := ⟨_, rfl⟩
                 replace H : (impl_SureNumbers.l1 k2 t258 y270 t258 (t258.length : Int) x25_1 (rd_L4 t258 x25_1) ((rd_L4 t258 x25_1).length : Int) (wrap64 (x31_2 + 1))) = some (r1, r2) := by first | (rw [hy270]; with_reducible exact H) | (have H2_ := (Option.bind_some _ _).symm.trans H; rw [hy270]; with_reducible exact H2_) | (have H2_ := (Option.bind_some _ _).symm.trans H; with_reducible exact H2_) | with_reducible exact H | (rw [hy270]; exact H) | exact H
                 have Ny270 := Aside0.mk hy270
                 clear hy270
                 have H' := Aside0.mk H
                 clear H
                 have p267 : 0 ≤ (x31_2 : Int) := of_decide_eq_true (by assumption)
                 have q267 : x31_2 < ((rd_L4 t258 x25_1).length : Int) := of_decide_eq_true (by assumption)
                 obtain ⟨ad267, e267, hx267_0⟩ := Kd.at_int (Kd.R_reads' HI_.out).2.2 x31_2 p267 q267
                 cases e267
                 replace p267 := eq_true p267
                 replace q267 := eq_true q267
                 have p268 : 0 ≤ (0 : Int) := (by omega)
                 have q268 : 0 < (t258.length : Int) := of_decide_eq_true (by assumption)
                 obtain ⟨ad268, A268_0, c268_0, e268, hx268_0, hl268_0, hi268_0⟩ := at_L4 (Kd.S_reads' HO_4.out).2.2 0 p268 q268
                 obtain rfl : ad262 = ad268 := (by injection e268)
                 obtain ⟨ce268, hce268, hMe268, hcc268⟩ := Kd.S_get HO_4.out [] 0 p268 (by first | exact q268 | exact of_decide_eq_true (by assumption) | (have e_ := (Kd.S_reads' HO_4.out).1; omega))
                 obtain ⟨ve268_0, rfl, ge268_0⟩ := hMe268
                 have hv268_0 := hcc268 0 _ rfl
                 rw [Nat.add_zero, show ((Kd.slice 3 (Kd.int .i64))).sz = 1 from rfl, Nat.mul_one] at hv268_0
                 replace hv268_0 := Option.some.inj (hv268_0.symm.trans hx268_0)
                 rw [hv268_0] at ge268_0
                 have HL268_0 := Aside0.mk (show Kd.R (Kd.int .i64) 3 _ _ _ _ (rd_L4 t258 0) from ge268_0)
                 clear hv268_0 ge268_0
                 clear hcc268 hce268
                 have qi268 : (0 < t258.length) = True := eq_true (by omega)
                 (try rw [show ((0 : Int)).toNat = 0 from rfl] at hx268_0)
                 (try rw [Addr.add_zero'] at hx268_0)
                 have HR268_0 := Aside0.mk hi268_0
                 have HC268_0 := Aside0.mk hl268_0
                 clear hi268_0 hl268_0
                 replace p268 := eq_true p268
                 replace q268 := eq_true q268
                 have p269 : 0 ≤ (x31_2 : Int) := of_decide_eq_true (by assumption)
                 have q269 : x31_2 < ((rd_L4 t258 0).length : Int) := of_decide_eq_true (by assumption)
                 obtain ⟨ad269, e269, hx269_0⟩ := Kd.at_int (by repeat (first | (with_reducible exact HR268_0.out) | (with_reducible refine Kd.C_alloc ?_ _) | (with_reducible refine Kd.C_drewN ?_ _) | (with_reducible refine Kd.C_drew ?_) | exact HR268_0.out)) x31_2 p269 q269
                 cases e269
                 replace p269 := eq_true p269
                 replace q269 := eq_true q269
                 have p25 : 0 ≤ (x31_2 : Int) := of_decide_eq_true (by assumption)
                 have q25 : (x31_2 : Int) < ((x6_2.length : Int) : Int) := of_decide_eq_true (by assumption)
                 obtain ⟨go25, co25, eo25, gb25, gl25, cl25, HG25⟩ := Kd.R_form HO_6.out (by omega)
                 (first | cases eo25 | (injection eo25 with ea_ en_ ec_; (first | subst ea_ | (injection ea_ with ea_; subst ea_)); subst ec_; clear en_))
                 have GB25 := Aside0.mk gb25
                 have GG25 := Aside0.mk HG25
                 clear gb25 gl25 HG25
                 obtain ⟨hx25_0, hf25_0⟩ := Kd.R_celln 0 HO_6.out (x31_2 : Int) p25 q25
                 replace p25 := eq_true p25
                 replace q25 := eq_true q25
                 have HP26 := Kd.R_putg HO_6.out (x31_2 : Int) (-1)
                 go_wp2_with (first | ((with_reducible refine gate_store (t := 3) (p := 46) rfl ?_); refine store_event (t := 3) (p := 46) (v := ?vo_w27) (w1 := (wr.setCell ⟨go25, (x31_2 : Int).toNat, none⟩ (.int .i64 (-1)))) ?hg ?ho ?hn ?hr ?_; (case ho => rfl); (case hg => rfl); (case hn => rfl); (case hr => first | (go_simp; done) | (go_simp; rfl)); intro w27 hw; have hg : wr.grownBy w27 (some go25) := (by rw [hw]; exact HP26.2); replace HI_ := Aside0.mk (Kd.R_grown HI_.out hg (fun _ hk => hk)); have hp_ : Kd.R (Kd.int .i64) 3 w27 w.heap.size (fun _ => True) (.slice (some ⟨go25, 0, none⟩) x6_2.length co25) y270 := (by rw [hw, Ny270.out]; exact HP26.1); clear HP26; replace HO_4 := Aside0.mk (Kd.S_after (v := (.slice (some ⟨go25, 0, none⟩) x6_2.length co25)) (v1 := (.slice (some ⟨go25, 0, none⟩) x6_2.length co25)) (ok := (fun _ => True)) (Kd.S_mono HO_4.out (fun _ hk => ⟨trivial, hk⟩)) hg (.inl rfl)); replace HO_23 := Aside0.mk (Kd.S_after (v := (.slice (some ⟨go25, 0, none⟩) x6_2.length co25)) (v1 := (.slice (some ⟨go25, 0, none⟩) x6_2.length co25)) (ok := (fun _ => True)) (Kd.S_mono HO_23.out (fun _ hk => ⟨trivial, hk⟩)) hg (.inl rfl)); replace BK257 := Aside0.mk (blk_grown (g := gb257) (o := .cells #[.slice A0_0 l0_0.length c0_0, .slice A0_1 l0_1.length c0_1] 54 (0, 0)) (BK257.out) hg (Kd.R_ne HO_6.out BK257.out (by decide))); replace HO_6 := Aside0.mk (hp_); replace HL268_0 := Aside0.mk (Kd.R_after (v := (.slice (some ⟨go25, 0, none⟩) x6_2.length co25)) (v1 := (.slice (some ⟨go25, 0, none⟩) x6_2.length co25)) (ok := (fun k_ => some k_ ≠ (.slice (some ad262) t258.length co13 : Value).ownBlock)) (Kd.R_mono HL268_0.out (fun _ hk => ⟨hk.2, hk.1⟩)) hg (.inl rfl)); replace HB := Aside0.mk ((by rw [hw]; exact below_set (HB.out) GB25.out : Below w.heap.size w w27)); clear hg hw hp_))
                 go_roundg k2
                 case measure => have := HK1.out; have := HK2.out; omega
                 case rel => exact ⟨(y270), (wrap64 (x31_2 + 1)), (by first | rfl | (simp; done) | (simp [*]; done)), H', ⟨by have := HK1.out; have := HK2.out; omega⟩, HI_, ⟨Kd.S_mono HO_4.out (fun _ hk => hk.2)⟩, ⟨HO_6.out⟩, ⟨Kd.S_mono HO_23.out (fun _ hk => hk.2)⟩, ⟨by exact BK257.out⟩, ⟨HB.out⟩⟩
                ·rw [if_neg c24] at H
                 exact absurd H (by simp)
              ·rw [if_neg c22] at H
               exact absurd H (by simp)
             ·rw [if_neg c21] at H
              exact absurd H (by simp)
            ·rw [if_neg c20] at H
             exact absurd H (by simp)
           ·rw [if_neg c19] at H
            exact absurd H (by simp)
          ·rw [if_neg c18] at H
           have c18b0 : decide (x31_2 < ((rd_L4 t258 x25_1).length : Int)) = false := decide_eq_false c18
           clear c18
           have H' := Aside0.mk H
           clear H
           go_wp2
           go_roundg k2
           case measure => have := HK1.out; have := HK2.out; omega
           case rel => exact ⟨(x6_2), (wrap64 (x25_1 + 1)), (by first | rfl | (simp; done) | (simp [*]; done)), H', ⟨by have := HK1.out; have := HK2.out; omega⟩, ⟨HO_4.out⟩, ⟨HO_6.out⟩, ⟨HO_23.out⟩, ⟨by exact BK257.out⟩, ⟨HB.out⟩⟩
       ·rw [if_neg c17] at H
        exact absurd H (by simp)
      ·rw [if_neg c16] at H
       exact absurd H (by simp)
     ·rw [if_neg c15] at H
      have c15b0 : decide (x25_1 < (t258.length : Int)) = false := decide_eq_false c15
      clear c15
      simp only [Option.some.injEq, Prod.mk.injEq] at H
      obtain ⟨rfl, rfl⟩ := H
      go_wp2
      go_ret2
      exact ⟨_, by rfl, by exact HO_6.out, HB.out⟩
  ·rw [if_neg c8] at H
   exact absurd H (by simp)

end Go.Proofs.Ytgcnlhebfnaaoaa.QFnExactSureNumbers
