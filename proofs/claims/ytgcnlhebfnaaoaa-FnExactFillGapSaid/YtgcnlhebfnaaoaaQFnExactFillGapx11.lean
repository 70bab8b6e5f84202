-- WRITTEN BY A PROGRAM OF THIS CLAIM'S AUTHOR (wprint.py)
import Derived.Test.YtgcnlhebfnaaoaaQFnExactFillGapx0
import Derived.Test.YtgcnlhebfnaaoaaQFnExactFillGapx2
import Derived.Test.YtgcnlhebfnaaoaaQFnExactFillGapx3
import Derived.Test.YtgcnlhebfnaaoaaQFnExactFillGapx4
import Derived.Test.YtgcnlhebfnaaoaaQFnExactFillGapx7
import Derived.Test.YtgcnlhebfnaaoaaQFnExactFillGapx10
namespace Go.Proofs.Ytgcnlhebfnaaoaa.QFnExactFillGap
open Go.RowKit Go.Proofs.YtgcnlhebfnaaoaaW.PrintWords Go.Proofs.YtgcnlhebfnaaoaaW.PrintLast Go.Proofs.YtgcnlhebfnaaoaaW.PrintMore
attribute [local go_sem] max2_int min2_int max_two min_two max_three min_three max_four min_four   -- for this text's walks alone
set_option linter.unusedVariables false
set_option linter.unusedSimpArgs false

/-! ### laws_FnExactFillGap: function 7 -/
mutual
def laws_FnExactFillGap.j0 : Nat → Int → Int → Bool → Bool → Bool → List (S131) → List Int → List (S25) → List Int → List (S25) → List Int → List (S25) → List Int → Option (Bool)
 | 0, _, _, _, _, _, _, _, _, _, _, _, _, _ => none
 | k + 1, x1, x2, x9, x12, x48, x270000, x270001, x285000, x285001, x292000, x292001, x300000, x300001 => if x48 = true then (none) else ((laws_toPuzzle.f k x270000 x270001).bind fun bt301 => ((laws_eqPuzzle.f k x292000 x292001 bt301.1 bt301.2).bind fun t307 => (if t307 = true then ((laws_markPuzzle.f k x292000 x292001 1).bind fun bt308 => (if bt308.1 < 0 then (laws_FnExactFillGap.j1 k x1 x2 x9 true x270000 x270001 x285000 x285001 x300000 x300001) else ((laws_eqPuzzle.f k x300000 x300001 x285000 x285001).bind fun t311 => (if t311 = true then (laws_FnExactFillGap.j1 k x1 x2 x9 (x12 != x9) x270000 x270001 x285000 x285001 x300000 x300001) else (laws_FnExactFillGap.j1 k x1 x2 x9 true x270000 x270001 x285000 x285001 x300000 x300001))))) else (none))))
def laws_FnExactFillGap.j1 : Nat → Int → Int → Bool → Bool → List (S131) → List Int → List (S25) → List Int → List (S25) → List Int → Option (Bool)
 | 0, _, _, _, _, _, _, _, _, _, _ => none
 | k + 1, x1, x2, x9, x69, x270000, x270001, x285000, x285001, x300000, x300001 => if x69 = true then (none) else ((laws_markPuzzle.f k x300000 x300001 1).bind fun bt312 => ((laws_heldPuzzle.f k bt312.2.1 bt312.2.2 1).bind fun t315 => (if t315 < 0 then (none) else (if t315 = bt312.1 then ((laws_toPuzzle.f k x270000 x270001).bind fun bt316 => ((impl_FillGap.f k bt316.1 bt316.2 x1 x2).bind fun bt322 => ((laws_eqPuzzle.f k bt322.1 bt322.2.1 x285000 x285001).bind fun t330 => (if t330 = true then (laws_FnExactFillGap.j2 k bt312.1 (bt322.2.2 != x9) bt312.2.1 bt312.2.2) else (laws_FnExactFillGap.j2 k bt312.1 true bt312.2.1 bt312.2.2))))) else (none)))))
def laws_FnExactFillGap.j2 : Nat → Int → Bool → List (S25) → List Int → Option (Bool)
 | 0, _, _, _, _ => none
 | k + 1, x14, x97, x300000, x300001 => if x97 = true then (none) else ((laws_heldPuzzle.f k x300000 x300001 1).bind fun t331 => (if t331 < 0 then (none) else (if t331 = x14 then (some true) else (none))))
end
def laws_FnExactFillGap.f (k : Nat) (l0_0 : List (S131)) (l0_1 : List Int) (a1 : Int) (a2 : Int) : Option (Bool) := (laws_szPuzzle.f l0_0 l0_1 1048576).bind fun t270 => (if t270 < 0 then (some true) else ((laws_toPuzzle.f k l0_0 l0_1).bind fun bt271 => ((spec_FillGap.f k bt271.1 bt271.2 a1 a2).bind fun bt277 => ((laws_toPuzzle.f k l0_0 l0_1).bind fun bt285 => ((impl_FillGap.f k bt285.1 bt285.2 a1 a2).bind fun bt292 => ((laws_eqPuzzle.f k bt292.1 bt292.2.1 bt277.1 bt277.2.1).bind fun t300 => (if t300 = true then (laws_FnExactFillGap.j0 k a1 a2 bt277.2.2 bt292.2.2 (bt292.2.2 != bt277.2.2) l0_0 l0_1 bt277.1 bt277.2.1 bt285.1 bt285.2 bt292.1 bt292.2.1) else (laws_FnExactFillGap.j0 k a1 a2 bt277.2.2 bt292.2.2 true l0_0 l0_1 bt277.1 bt277.2.1 bt285.1 bt285.2 bt292.1 bt292.2.1))))))))
theorem laws_FnExactFillGap.mono_l : ∀ k, (∀ y0 y1 y2 y3 y4 y5 y6 y7 y8 y9 y10 y11 y12, LeO (laws_FnExactFillGap.j0 k y0 y1 y2 y3 y4 y5 y6 y7 y8 y9 y10 y11 y12) (laws_FnExactFillGap.j0 (k + 1) y0 y1 y2 y3 y4 y5 y6 y7 y8 y9 y10 y11 y12)) ∧ (∀ y0 y1 y2 y3 y4 y5 y6 y7 y8 y9, LeO (laws_FnExactFillGap.j1 k y0 y1 y2 y3 y4 y5 y6 y7 y8 y9) (laws_FnExactFillGap.j1 (k + 1) y0 y1 y2 y3 y4 y5 y6 y7 y8 y9)) ∧ (∀ y0 y1 y2 y3, LeO (laws_FnExactFillGap.j2 k y0 y1 y2 y3) (laws_FnExactFillGap.j2 (k + 1) y0 y1 y2 y3))
 | 0 => ⟨fun _ _ _ _ _ _ _ _ _ _ _ _ _ r h => by simp [laws_FnExactFillGap.j0] at h, fun _ _ _ _ _ _ _ _ _ _ r h => by simp [laws_FnExactFillGap.j1] at h, fun _ _ _ _ r h => by simp [laws_FnExactFillGap.j2] at h⟩
 | k + 1 => by
  obtain ⟨ih0, ih1, ih2⟩ := laws_FnExactFillGap.mono_l k
  refine ⟨?_, ?_, ?_⟩
  ·intro y0 y1 y2 y3 y4 y5 y6 y7 y8 y9 y10 y11 y12
   unfold laws_FnExactFillGap.j0
   repeat' first
   | (with_reducible exact ih0 _ _ _ _ _ _ _ _ _ _ _ _ _)
   | (with_reducible exact ih1 _ _ _ _ _ _ _ _ _ _)
   | (with_reducible exact ih2 _ _ _ _)
   | (with_reducible exact impl_FillGap.mono _ _ _ _ _)
   | (with_reducible exact laws_eqPuzzle.mono _ _ _ _ _)
   | (with_reducible exact laws_heldPuzzle.mono _ _ _ _)
   | (with_reducible exact laws_markPuzzle.mono _ _ _ _)
   | (with_reducible exact laws_toPuzzle.mono _ _ _)
   | (with_reducible exact spec_FillGap.mono _ _ _ _ _)
   | (with_reducible exact LeO.refl _)
   | (with_reducible exact LeO.none _)
   | (with_reducible refine LeO.ite ?_ ?_)
   | (with_reducible refine LeO.bind ?_ (fun _ => ?_))
   | exact ih0 _ _ _ _ _ _ _ _ _ _ _ _ _
   | exact ih1 _ _ _ _ _ _ _ _ _ _
   | exact ih2 _ _ _ _
   | exact impl_FillGap.mono _ _ _ _ _
   | exact laws_eqPuzzle.mono _ _ _ _ _
   | exact laws_heldPuzzle.mono _ _ _ _
   | exact laws_markPuzzle.mono _ _ _ _
   | exact laws_toPuzzle.mono _ _ _
   | exact spec_FillGap.mono _ _ _ _ _
   | exact LeO.none _
   | refine LeO.ite ?_ ?_
   | refine LeO.bind ?_ (fun _ => ?_)
  ·intro y0 y1 y2 y3 y4 y5 y6 y7 y8 y9
   unfold laws_FnExactFillGap.j1
   repeat' first
   | (with_reducible exact ih0 _ _ _ _ _ _ _ _ _ _ _ _ _)
   | (with_reducible exact ih1 _ _ _ _ _ _ _ _ _ _)
   | (with_reducible exact ih2 _ _ _ _)
   | (with_reducible exact impl_FillGap.mono _ _ _ _ _)
   | (with_reducible exact laws_eqPuzzle.mono _ _ _ _ _)
   | (with_reducible exact laws_heldPuzzle.mono _ _ _ _)
   | (with_reducible exact laws_markPuzzle.mono _ _ _ _)
   | (with_reducible exact laws_toPuzzle.mono _ _ _)
   | (with_reducible exact spec_FillGap.mono _ _ _ _ _)
   | (with_reducible exact LeO.refl _)
   | (with_reducible exact LeO.none _)
   | (with_reducible refine LeO.ite ?_ ?_)
   | (with_reducible refine LeO.bind ?_ (fun _ => ?_))
   | exact ih0 _ _ _ _ _ _ _ _ _ _ _ _ _
   | exact ih1 _ _ _ _ _ _ _ _ _ _
   | exact ih2 _ _ _ _
   | exact impl_FillGap.mono _ _ _ _ _
   | exact laws_eqPuzzle.mono _ _ _ _ _
   | exact laws_heldPuzzle.mono _ _ _ _
   | exact laws_markPuzzle.mono _ _ _ _
   | exact laws_toPuzzle.mono _ _ _
   | exact spec_FillGap.mono _ _ _ _ _
   | exact LeO.none _
   | refine LeO.ite ?_ ?_
   | refine LeO.bind ?_ (fun _ => ?_)
  ·intro y0 y1 y2 y3
   unfold laws_FnExactFillGap.j2
   repeat' first
   | (with_reducible exact ih0 _ _ _ _ _ _ _ _ _ _ _ _ _)
   | (with_reducible exact ih1 _ _ _ _ _ _ _ _ _ _)
   | (with_reducible exact ih2 _ _ _ _)
   | (with_reducible exact impl_FillGap.mono _ _ _ _ _)
   | (with_reducible exact laws_eqPuzzle.mono _ _ _ _ _)
   | (with_reducible exact laws_heldPuzzle.mono _ _ _ _)
   | (with_reducible exact laws_markPuzzle.mono _ _ _ _)
   | (with_reducible exact laws_toPuzzle.mono _ _ _)
   | (with_reducible exact spec_FillGap.mono _ _ _ _ _)
   | (with_reducible exact LeO.refl _)
   | (with_reducible exact LeO.none _)
   | (with_reducible refine LeO.ite ?_ ?_)
   | (with_reducible refine LeO.bind ?_ (fun _ => ?_))
   | exact ih0 _ _ _ _ _ _ _ _ _ _ _ _ _
   | exact ih1 _ _ _ _ _ _ _ _ _ _
   | exact ih2 _ _ _ _
   | exact impl_FillGap.mono _ _ _ _ _
   | exact laws_eqPuzzle.mono _ _ _ _ _
   | exact laws_heldPuzzle.mono _ _ _ _
   | exact laws_markPuzzle.mono _ _ _ _
   | exact laws_toPuzzle.mono _ _ _
   | exact spec_FillGap.mono _ _ _ _ _
   | exact LeO.none _
   | refine LeO.ite ?_ ?_
   | refine LeO.bind ?_ (fun _ => ?_)
theorem laws_FnExactFillGap.mono : ∀ a0 a1 a2 a3 k, LeO (laws_FnExactFillGap.f k a0 a1 a2 a3) (laws_FnExactFillGap.f (k + 1) a0 a1 a2 a3) := by
 intro a0 a1 a2 a3 k
 obtain ⟨ih0, ih1, ih2⟩ := laws_FnExactFillGap.mono_l k
 unfold laws_FnExactFillGap.f
 repeat' first
   | (with_reducible exact ih0 _ _ _ _ _ _ _ _ _ _ _ _ _)
   | (with_reducible exact ih1 _ _ _ _ _ _ _ _ _ _)
   | (with_reducible exact ih2 _ _ _ _)
   | (with_reducible exact impl_FillGap.mono _ _ _ _ _)
   | (with_reducible exact laws_eqPuzzle.mono _ _ _ _ _)
   | (with_reducible exact laws_heldPuzzle.mono _ _ _ _)
   | (with_reducible exact laws_markPuzzle.mono _ _ _ _)
   | (with_reducible exact laws_toPuzzle.mono _ _ _)
   | (with_reducible exact spec_FillGap.mono _ _ _ _ _)
   | (with_reducible exact LeO.refl _)
   | (with_reducible exact LeO.none _)
   | (with_reducible refine LeO.ite ?_ ?_)
   | (with_reducible refine LeO.bind ?_ (fun _ => ?_))
   | exact ih0 _ _ _ _ _ _ _ _ _ _ _ _ _
   | exact ih1 _ _ _ _ _ _ _ _ _ _
   | exact ih2 _ _ _ _
   | exact impl_FillGap.mono _ _ _ _ _
   | exact laws_eqPuzzle.mono _ _ _ _ _
   | exact laws_heldPuzzle.mono _ _ _ _
   | exact laws_markPuzzle.mono _ _ _ _
   | exact laws_toPuzzle.mono _ _ _
   | exact spec_FillGap.mono _ _ _ _ _
   | exact LeO.none _
   | refine LeO.ite ?_ ?_
   | refine LeO.bind ?_ (fun _ => ?_)
set_option maxHeartbeats 8000000 in
set_option maxRecDepth 100000 in
theorem laws_FnExactFillGap.calls (k : Nat) (A0_0 : Option Addr) (c0_0 : Nat) (l0_0 : List (S131)) (A0_1 : Option Addr) (c0_1 : Nat) (l0_1 : List Int) (a1 : Int) (a2 : Int) (r : Bool) (w : World) (hr0_0 : Kd.C k131 w A0_0 l0_0.length l0_0) (hc0_0 : l0_0.length ≤ c0_0) (hr0_1 : Kd.C (Kd.int .i64) w A0_1 l0_1.length l0_1) (hc0_1 : l0_1.length ≤ c0_1) (h : laws_FnExactFillGap.f k l0_0 l0_1 a1 a2 = some r) :
  Calls Try.prog 7 #[.agg #[.slice A0_0 l0_0.length c0_0, .slice A0_1 l0_1.length c0_1], .int .i64 a1, .int .i64 a2] w fun e w' => e = .returned (.bool r) ∧ Below w.heap.size w w' := by
 have hu51 := Try.underlying51
 have hu54 := Try.underlying54
 have HR0_0 := Aside0.mk hr0_0
 have HC0_0 := Aside0.mk hc0_0
 clear hr0_0 hc0_0
 have HR0_1 := Aside0.mk hr0_1
 have HC0_1 := Aside0.mk hc0_1
 clear hr0_1 hc0_1
 have HB := Aside0.mk (Below.refl w.heap.size w)
 have H : ((laws_szPuzzle.f l0_0 l0_1 1048576).bind fun t270 => (if t270 < 0 then (some true) else ((laws_toPuzzle.f k l0_0 l0_1).bind fun bt271 => ((spec_FillGap.f k bt271.1 bt271.2 a1 a2).bind fun bt277 => ((laws_toPuzzle.f k l0_0 l0_1).bind fun bt285 => ((impl_FillGap.f k bt285.1 bt285.2 a1 a2).bind fun bt292 => ((laws_eqPuzzle.f k bt292.1 bt292.2.1 bt277.1 bt277.2.1).bind fun t300 => (if t300 = true then (laws_FnExactFillGap.j0 k a1 a2 bt277.2.2 bt292.2.2 (bt292.2.2 != bt277.2.2) l0_0 l0_1 bt277.1 bt277.2.1 bt285.1 bt285.2 bt292.1 bt292.2.1) else (laws_FnExactFillGap.j0 k a1 a2 bt277.2.2 bt292.2.2 true l0_0 l0_1 bt277.1 bt277.2.1 bt285.1 bt285.2 bt292.1 bt292.2.1))))))))) = some r := h
 clear h
 replace H := Option.bind_eq_some_iff.mp H
 obtain ⟨t270, A40, H⟩ := H
 replace H : (if t270 < 0 then (some true) else ((laws_toPuzzle.f k l0_0 l0_1).bind fun bt271 => ((spec_FillGap.f k bt271.1 bt271.2 a1 a2).bind fun bt277 => ((laws_toPuzzle.f k l0_0 l0_1).bind fun bt285 => ((impl_FillGap.f k bt285.1 bt285.2 a1 a2).bind fun bt292 => ((laws_eqPuzzle.f k bt292.1 bt292.2.1 bt277.1 bt277.2.1).bind fun t300 => (if t300 = true then (laws_FnExactFillGap.j0 k a1 a2 bt277.2.2 bt292.2.2 (bt292.2.2 != bt277.2.2) l0_0 l0_1 bt277.1 bt277.2.1 bt285.1 bt285.2 bt292.1 bt292.2.1) else (laws_FnExactFillGap.j0 k a1 a2 bt277.2.2 bt292.2.2 true l0_0 l0_1 bt277.1 bt277.2.1 bt285.1 bt285.2 bt292.1 bt292.2.1)))))))) = some r := H
 have A4 := Aside0.mk A40
 clear A40
 by_cases c5 : t270 < 0
 ·rw [if_pos c5] at H
  have c5b0 : decide (t270 < 0) = true := decide_eq_true c5
  clear c5
  obtain rfl := Option.some.inj H
  go_enter Try.func7, Try.ntmps7
  go_wp2_with (first | ((with_reducible refine gate_dst (N := 3) rfl ?_); refine box_event ?hg (N := 3) ?hd (cs := #[.slice A0_0 l0_0.length c0_0, .slice A0_1 l0_1.length c0_1]) (t := 51) ?hr ?_; (case hd => rfl); (case hg => rfl); (case hr => first | (go_simp; done) | (go_simp; rfl)); intro gb269 hg w6 hbox hb; have BK269 := Aside0.mk (hbox); have GW269 := Aside0.mk ((by rw [hg]; exact (below_size (by repeat (first | (with_reducible first | exact HB.out | apply below_alloc | apply pw_below_drewN | apply below_drew1) | exact HB.out))) : w.heap.size ≤ gb269)); have GE269 := Aside0.mk ((by rw [hg]; exact (below_size (by repeat (first | (with_reducible first | exact HB.out | apply below_alloc | apply pw_below_drewN | apply below_drew1) | exact HB.out))) : w.heap.size ≤ gb269)); replace HB := Aside0.mk (below_step (by repeat (first | (with_reducible first | exact HB.out | apply below_alloc | apply pw_below_drewN | apply below_drew1) | exact HB.out)) hb); clear hb hbox hg; have hcz7_0 : w6.cell? ⟨gb269, 0, none⟩ = some (.slice A0_0 l0_0.length c0_0) := (blk_cell BK269.out 0).trans rfl; have hcz7_1 : w6.cell? ⟨gb269, 1, none⟩ = some (.slice A0_1 l0_1.length c0_1) := (blk_cell BK269.out 1).trans rfl; have hfz7_0 := blk_frozen BK269.out 0; have hfz7_1 := blk_frozen BK269.out 1) | ((with_reducible refine gate_callee (f := 37) rfl ?_); refine goesL_ (some 20) rfl rfl Try.func37 (by kernel_rfl) rfl #[.agg #[.slice A0_0 l0_0.length c0_0, .slice A0_1 l0_1.length c0_1], .int .i64 1048576] rfl (by (try simp only [List.map_toArray, List.map_cons, List.map_nil]); first | done | rfl | (simp only [List.length_drop, List.length_take]; rfl)) ?_; (with_reducible refine (laws_szPuzzle.calls _ _ l0_0 _ _ l0_1 1048576 t270 _ ?side1 ?side2 ?side3 ?side4 A4.out).mono ?_); (case side1 => repeat (first | exact (Kd.C_below HR0_0.out HB.out) | (with_reducible refine Kd.C_alloc ?_ _) | (with_reducible refine Kd.C_drewN ?_ _) | (with_reducible refine Kd.C_drew ?_))); (case side2 => exact HC0_0.out); (case side3 => repeat (first | exact (Kd.C_below HR0_1.out HB.out) | (with_reducible refine Kd.C_alloc ?_ _) | (with_reducible refine Kd.C_drewN ?_ _) | (with_reducible refine Kd.C_drew ?_))); (case side4 => exact HC0_1.out); rintro e w8 ⟨rfl, hb⟩; refine ⟨_, rfl, ?_⟩; replace BK269 := Aside0.mk (blk_below (g := gb269) (o := .cells #[.slice A0_0 l0_0.length c0_0, .slice A0_1 l0_1.length c0_1] 51 (0, 0)) (by (with_reducible repeat (first | refine blk_drewN ?_ _ | refine blk_drew ?_ | refine blk_alloc ?_ _)); exact BK269.out) hb); replace HB := Aside0.mk (below_step (by repeat (first | (with_reducible first | exact HB.out | apply below_alloc | apply pw_below_drewN | apply below_drew1 | refine below_set ?_ GE269.out) | exact HB.out)) hb); (try clear hb); (try clear hb2); (try clear hk); (try clear hi)))
  go_ret
  exact ⟨by first | rfl | (simp [errW_none, errW_some] <;> rfl) | (simp [*, errW_none, errW_some] <;> rfl), by repeat (first | (with_reducible first | exact HB.out | apply below_alloc | apply pw_below_drewN | apply below_drew1 | refine below_set ?_ GE269.out) | exact HB.out)⟩
 ·rw [if_neg c5] at H
  have c5b0 : decide (t270 < 0) = false := decide_eq_false c5
  clear c5
  replace H := Option.bind_eq_some_iff.mp H
  obtain ⟨⟨t271, t274⟩, A90, H⟩ := H
  replace H : ((spec_FillGap.f k t271 t274 a1 a2).bind fun bt277 => ((laws_toPuzzle.f k l0_0 l0_1).bind fun bt285 => ((impl_FillGap.f k bt285.1 bt285.2 a1 a2).bind fun bt292 => ((laws_eqPuzzle.f k bt292.1 bt292.2.1 bt277.1 bt277.2.1).bind fun t300 => (if t300 = true then (laws_FnExactFillGap.j0 k a1 a2 bt277.2.2 bt292.2.2 (bt292.2.2 != bt277.2.2) l0_0 l0_1 bt277.1 bt277.2.1 bt285.1 bt285.2 bt292.1 bt292.2.1) else (laws_FnExactFillGap.j0 k a1 a2 bt277.2.2 bt292.2.2 true l0_0 l0_1 bt277.1 bt277.2.1 bt285.1 bt285.2 bt292.1 bt292.2.1)))))) = some r := H
  have A9 := Aside0.mk A90
  clear A90
  replace H := Option.bind_eq_some_iff.mp H
  obtain ⟨⟨t277, t280, t283⟩, A100, H⟩ := H
  replace H : ((laws_toPuzzle.f k l0_0 l0_1).bind fun bt285 => ((impl_FillGap.f k bt285.1 bt285.2 a1 a2).bind fun bt292 => ((laws_eqPuzzle.f k bt292.1 bt292.2.1 t277 t280).bind fun t300 => (if t300 = true then (laws_FnExactFillGap.j0 k a1 a2 t283 bt292.2.2 (bt292.2.2 != t283) l0_0 l0_1 t277 t280 bt285.1 bt285.2 bt292.1 bt292.2.1) else (laws_FnExactFillGap.j0 k a1 a2 t283 bt292.2.2 true l0_0 l0_1 t277 t280 bt285.1 bt285.2 bt292.1 bt292.2.1))))) = some r := H
  have A10 := Aside0.mk A100
  clear A100
  replace H := Option.bind_eq_some_iff.mp H
  obtain ⟨⟨t285, t288⟩, A110, H⟩ := H
  replace H : ((impl_FillGap.f k t285 t288 a1 a2).bind fun bt292 => ((laws_eqPuzzle.f k bt292.1 bt292.2.1 t277 t280).bind fun t300 => (if t300 = true then (laws_FnExactFillGap.j0 k a1 a2 t283 bt292.2.2 (bt292.2.2 != t283) l0_0 l0_1 t277 t280 t285 t288 bt292.1 bt292.2.1) else (laws_FnExactFillGap.j0 k a1 a2 t283 bt292.2.2 true l0_0 l0_1 t277 t280 t285 t288 bt292.1 bt292.2.1)))) = some r := H
  have A11 := Aside0.mk A110
  clear A110
  replace H := Option.bind_eq_some_iff.mp H
  obtain ⟨⟨t292, t295, t298⟩, A120, H⟩ := H
  replace H : ((laws_eqPuzzle.f k t292 t295 t277 t280).bind fun t300 => (if t300 = true then (laws_FnExactFillGap.j0 k a1 a2 t283 t298 (t298 != t283) l0_0 l0_1 t277 t280 t285 t288 t292 t295) else (laws_FnExactFillGap.j0 k a1 a2 t283 t298 true l0_0 l0_1 t277 t280 t285 t288 t292 t295))) = some r := H
  have A12 := Aside0.mk A120
  clear A120
  have HC13 := Aside0.mk H
  clear H
  go_enter Try.func7, Try.ntmps7
  go_upto_region 8 with (first | ((with_reducible refine gate_dst (N := 3) rfl ?_); refine box_event ?hg (N := 3) ?hd (cs := #[.slice A0_0 l0_0.length c0_0, .slice A0_1 l0_1.length c0_1]) (t := 51) ?hr ?_; (case hd => rfl); (case hg => rfl); (case hr => first | (go_simp; done) | (go_simp; rfl)); intro gb269 hg w14 hbox hb; have BK269 := Aside0.mk (hbox); have GW269 := Aside0.mk ((by rw [hg]; exact (below_size (by repeat (first | (with_reducible first | exact HB.out | apply below_alloc | apply pw_below_drewN | apply below_drew1) | exact HB.out))) : w.heap.size ≤ gb269)); have GE269 := Aside0.mk ((by rw [hg]; exact (below_size (by repeat (first | (with_reducible first | exact HB.out | apply below_alloc | apply pw_below_drewN | apply below_drew1) | exact HB.out))) : w.heap.size ≤ gb269)); replace HB := Aside0.mk (below_step (by repeat (first | (with_reducible first | exact HB.out | apply below_alloc | apply pw_below_drewN | apply below_drew1) | exact HB.out)) hb); clear hb hbox hg; have hcz15_0 : w14.cell? ⟨gb269, 0, none⟩ = some (.slice A0_0 l0_0.length c0_0) := (blk_cell BK269.out 0).trans rfl; have hcz15_1 : w14.cell? ⟨gb269, 1, none⟩ = some (.slice A0_1 l0_1.length c0_1) := (blk_cell BK269.out 1).trans rfl; have hfz15_0 := blk_frozen BK269.out 0; have hfz15_1 := blk_frozen BK269.out 1) | ((with_reducible refine gate_callee (f := 37) rfl ?_); refine goesL_ (some 20) rfl rfl Try.func37 (by kernel_rfl) rfl #[.agg #[.slice A0_0 l0_0.length c0_0, .slice A0_1 l0_1.length c0_1], .int .i64 1048576] rfl (by (try simp only [List.map_toArray, List.map_cons, List.map_nil]); first | done | rfl | (simp only [List.length_drop, List.length_take]; rfl)) ?_; (with_reducible refine (laws_szPuzzle.calls _ _ l0_0 _ _ l0_1 1048576 t270 _ ?side1 ?side2 ?side3 ?side4 A4.out).mono ?_); (case side1 => repeat (first | exact (Kd.C_below HR0_0.out HB.out) | (with_reducible refine Kd.C_alloc ?_ _) | (with_reducible refine Kd.C_drewN ?_ _) | (with_reducible refine Kd.C_drew ?_))); (case side2 => exact HC0_0.out); (case side3 => repeat (first | exact (Kd.C_below HR0_1.out HB.out) | (with_reducible refine Kd.C_alloc ?_ _) | (with_reducible refine Kd.C_drewN ?_ _) | (with_reducible refine Kd.C_drew ?_))); (case side4 => exact HC0_1.out); rintro e w16 ⟨rfl, hb⟩; refine ⟨_, rfl, ?_⟩; replace BK269 := Aside0.mk (blk_below (g := gb269) (o := .cells #[.slice A0_0 l0_0.length c0_0, .slice A0_1 l0_1.length c0_1] 51 (0, 0)) (by (with_reducible repeat (first | refine blk_drewN ?_ _ | refine blk_drew ?_ | refine blk_alloc ?_ _)); exact BK269.out) hb); replace HB := Aside0.mk (below_step (by repeat (first | (with_reducible first | exact HB.out | apply below_alloc | apply pw_below_drewN | apply below_drew1 | refine below_set ?_ GE269.out) | exact HB.out)) hb); (try clear hb); (try clear hb2); (try clear hk); (try clear hi); have hcz17_0 : w16.cell? ⟨gb269, 0, none⟩ = some (.slice A0_0 l0_0.length c0_0) := (blk_cell BK269.out 0).trans rfl; have hcz17_1 : w16.cell? ⟨gb269, 1, none⟩ = some (.slice A0_1 l0_1.length c0_1) := (blk_cell BK269.out 1).trans rfl; have hfz17_0 := blk_frozen BK269.out 0; have hfz17_1 := blk_frozen BK269.out 1) | ((with_reducible refine gate_callee (f := 39) rfl ?_); refine goesL_ (some 25) rfl rfl Try.func39 (by kernel_rfl) rfl #[.agg #[.slice A0_0 l0_0.length c0_0, .slice A0_1 l0_1.length c0_1]] rfl (by (try simp only [List.map_toArray, List.map_cons, List.map_nil]); first | done | rfl | (simp only [List.length_drop, List.length_take]; rfl)) ?_; (with_reducible refine (laws_toPuzzle.calls k _ _ l0_0 _ _ l0_1 t271 t274 _ ?side1 ?side2 ?side3 ?side4 A9.out).mono ?_); (case side1 => repeat (first | exact (Kd.C_below HR0_0.out HB.out) | (with_reducible refine Kd.C_alloc ?_ _) | (with_reducible refine Kd.C_drewN ?_ _) | (with_reducible refine Kd.C_drew ?_))); (case side2 => exact HC0_0.out); (case side3 => repeat (first | exact (Kd.C_below HR0_1.out HB.out) | (with_reducible refine Kd.C_alloc ?_ _) | (with_reducible refine Kd.C_drewN ?_ _) | (with_reducible refine Kd.C_drew ?_))); (case side4 => exact HC0_1.out); rintro e w18 ⟨v272, v275, rfl, ho0, ho1, hb⟩; refine ⟨_, rfl, ?_⟩; have HO273 := Aside0.mk (Kd.R_lower ho0 (below_size (by repeat (first | (with_reducible first | exact HB.out | apply below_alloc | apply pw_below_drewN | apply below_drew1 | refine below_set ?_ GE269.out) | exact HB.out)))); have HO276 := Aside0.mk (Kd.R_lower ho1 (below_size (by repeat (first | (with_reducible first | exact HB.out | apply below_alloc | apply pw_below_drewN | apply below_drew1 | refine below_set ?_ GE269.out) | exact HB.out)))); replace BK269 := Aside0.mk (blk_below (g := gb269) (o := .cells #[.slice A0_0 l0_0.length c0_0, .slice A0_1 l0_1.length c0_1] 51 (0, 0)) (by (with_reducible repeat (first | refine blk_drewN ?_ _ | refine blk_drew ?_ | refine blk_alloc ?_ _)); exact BK269.out) hb); replace HB := Aside0.mk (below_step (by repeat (first | (with_reducible first | exact HB.out | apply below_alloc | apply pw_below_drewN | apply below_drew1 | refine below_set ?_ GE269.out) | exact HB.out)) hb); (try clear hb); (try clear hb2); (try clear hk); (try clear hi); (try clear ho0); (try clear ho1); obtain ⟨Ao19, co19, eo19⟩ := Kd.R_slice HO273.out; subst eo19; obtain ⟨Ao20, co20, eo20⟩ := Kd.R_slice HO276.out; subst eo20) | ((with_reducible refine gate_callee (f := 66) rfl ?_); refine goesL_ (some 28) rfl rfl Try.func66 (by kernel_rfl) rfl #[.agg #[.slice Ao19 t271.length co19, .slice Ao20 t274.length co20], .int .i64 a1, .int .i64 a2] rfl (by (try simp only [List.map_toArray, List.map_cons, List.map_nil]); first | done | rfl | (simp only [List.length_drop, List.length_take]; rfl)) ?_; (with_reducible refine (spec_FillGap.calls k _ _ t271 _ _ t274 a1 a2 t277 t280 t283 _ ?side1 ?side2 ?side3 ?side4 A10.out).mono ?_); (case side1 => repeat (first | exact (Kd.R_reads' HO273.out).2.2 | (with_reducible refine Kd.C_alloc ?_ _) | (with_reducible refine Kd.C_drewN ?_ _) | (with_reducible refine Kd.C_drew ?_))); (case side2 => exact (Kd.R_reads' HO273.out).2.1); (case side3 => repeat (first | exact (Kd.R_reads' HO276.out).2.2 | (with_reducible refine Kd.C_alloc ?_ _) | (with_reducible refine Kd.C_drewN ?_ _) | (with_reducible refine Kd.C_drew ?_))); (case side4 => exact (Kd.R_reads' HO276.out).2.1); rintro e w21 ⟨v278, v281, rfl, ho0, ho1, hb⟩; refine ⟨_, rfl, ?_⟩; have HO279 := Aside0.mk (Kd.R_lower (Kd.R_new' ho0 (Kd.R_lt (by (with_reducible repeat (first | apply Kd.R_alloc | apply Kd.R_drewN | apply Kd.R_drew)); exact HO273.out))) (below_size (by repeat (first | (with_reducible first | exact HB.out | apply below_alloc | apply pw_below_drewN | apply below_drew1 | refine below_set ?_ GE269.out) | exact HB.out)))); replace HO273 := Aside0.mk (Kd.R_elder' (by (with_reducible repeat (first | apply Kd.R_alloc | apply Kd.R_drewN | apply Kd.R_drew)); exact HO273.out) (Kd.R_base ho0) hb); have HO282 := Aside0.mk (Kd.R_lower (Kd.R_new' ho1 (Kd.R_lt (by (with_reducible repeat (first | apply Kd.R_alloc | apply Kd.R_drewN | apply Kd.R_drew)); exact HO276.out))) (below_size (by repeat (first | (with_reducible first | exact HB.out | apply below_alloc | apply pw_below_drewN | apply below_drew1 | refine below_set ?_ GE269.out) | exact HB.out)))); replace HO276 := Aside0.mk (Kd.R_elder' (by (with_reducible repeat (first | apply Kd.R_alloc | apply Kd.R_drewN | apply Kd.R_drew)); exact HO276.out) (Kd.R_base ho1) hb); replace BK269 := Aside0.mk (blk_below (g := gb269) (o := .cells #[.slice A0_0 l0_0.length c0_0, .slice A0_1 l0_1.length c0_1] 51 (0, 0)) (by (with_reducible repeat (first | refine blk_drewN ?_ _ | refine blk_drew ?_ | refine blk_alloc ?_ _)); exact BK269.out) hb); replace HB := Aside0.mk (below_step (by repeat (first | (with_reducible first | exact HB.out | apply below_alloc | apply pw_below_drewN | apply below_drew1 | refine below_set ?_ GE269.out) | exact HB.out)) hb); (try clear hb); (try clear hb2); (try clear hk); (try clear hi); (try clear ho0); (try clear ho1)) | ((with_reducible refine gate_dst (N := 8) rfl ?_); refine box_event ?hg (N := 8) ?hd (cs := #[.slice none 0 0, .slice none 0 0]) (t := 54) ?hr ?_; (case hd => rfl); (case hg => rfl); (case hr => first | (go_simp; done) | (go_simp; rfl)); intro gb284 hg w22 hbox hb; replace HO273 := Aside0.mk (Kd.R_below (by (with_reducible repeat (first | apply Kd.R_alloc | apply Kd.R_drewN | apply Kd.R_drew)); exact HO273.out) hb); replace HO276 := Aside0.mk (Kd.R_below (by (with_reducible repeat (first | apply Kd.R_alloc | apply Kd.R_drewN | apply Kd.R_drew)); exact HO276.out) hb); replace HO279 := Aside0.mk (Kd.R_below (by (with_reducible repeat (first | apply Kd.R_alloc | apply Kd.R_drewN | apply Kd.R_drew)); exact HO279.out) hb); replace HO282 := Aside0.mk (Kd.R_below (by (with_reducible repeat (first | apply Kd.R_alloc | apply Kd.R_drewN | apply Kd.R_drew)); exact HO282.out) hb); have BK284 := Aside0.mk (hbox); have GW284 := Aside0.mk ((by rw [hg]; exact (below_size (by repeat (first | (with_reducible first | exact HB.out | apply below_alloc | apply pw_below_drewN | apply below_drew1 | refine below_set ?_ GE269.out) | exact HB.out))) : w.heap.size ≤ gb284)); have GE284 := Aside0.mk ((by rw [hg]; exact (below_size (by repeat (first | (with_reducible first | exact HB.out | apply below_alloc | apply pw_below_drewN | apply below_drew1 | refine below_set ?_ GE269.out) | exact HB.out))) : w.heap.size ≤ gb284)); replace HB := Aside0.mk (below_step (by repeat (first | (with_reducible first | exact HB.out | apply below_alloc | apply pw_below_drewN | apply below_drew1 | refine below_set ?_ GE269.out) | exact HB.out)) hb); have NB269_284 := Aside0.mk ((by rw [hg]; exact Nat.ne_of_lt (blk_lt (g := gb269) (o := .cells #[.slice A0_0 l0_0.length c0_0, .slice A0_1 l0_1.length c0_1] 51 (0, 0)) (by (with_reducible repeat (first | refine blk_drewN ?_ _ | refine blk_drew ?_ | refine blk_alloc ?_ _)); exact BK269.out)) : gb269 ≠ gb284)); have NB284_269 := Aside0.mk ((by rw [hg]; exact Nat.ne_of_gt (blk_lt (g := gb269) (o := .cells #[.slice A0_0 l0_0.length c0_0, .slice A0_1 l0_1.length c0_1] 51 (0, 0)) (by (with_reducible repeat (first | refine blk_drewN ?_ _ | refine blk_drew ?_ | refine blk_alloc ?_ _)); exact BK269.out)) : gb284 ≠ gb269)); replace BK269 := Aside0.mk (blk_below (g := gb269) (o := .cells #[.slice A0_0 l0_0.length c0_0, .slice A0_1 l0_1.length c0_1] 51 (0, 0)) (by (with_reducible repeat (first | refine blk_drewN ?_ _ | refine blk_drew ?_ | refine blk_alloc ?_ _)); exact BK269.out) hb); clear hb hbox hg; obtain ⟨Ao23, co23, eo23⟩ := Kd.R_slice HO279.out; subst eo23; have hnb24 := NB284_269.out; have hnc24 := NB269_284.out; have hcz25_0 : w22.cell? ⟨gb284, 0, none⟩ = some (.slice none 0 0) := (blk_cell BK284.out 0).trans rfl; have hcz25_1 : w22.cell? ⟨gb284, 1, none⟩ = some (.slice none 0 0) := (blk_cell BK284.out 1).trans rfl; have hfz25_0 := blk_frozen BK284.out 0; have hfz25_1 := blk_frozen BK284.out 1; obtain ⟨Ao26, co26, eo26⟩ := Kd.R_slice HO282.out; subst eo26; have hcz27_0 : w22.cell? ⟨gb269, 0, none⟩ = some (.slice A0_0 l0_0.length c0_0) := (blk_cell BK269.out 0).trans rfl; have hcz27_1 : w22.cell? ⟨gb269, 1, none⟩ = some (.slice A0_1 l0_1.length c0_1) := (blk_cell BK269.out 1).trans rfl; have hfz27_0 := blk_frozen BK269.out 0; have hfz27_1 := blk_frozen BK269.out 1) | ((with_reducible refine gate_callee (f := 39) rfl ?_); refine goesL_ (some 32) rfl rfl Try.func39 (by kernel_rfl) rfl #[.agg #[.slice A0_0 l0_0.length c0_0, .slice A0_1 l0_1.length c0_1]] rfl (by (try simp only [List.map_toArray, List.map_cons, List.map_nil]); first | done | rfl | (simp only [List.length_drop, List.length_take]; rfl)) ?_; (with_reducible refine (laws_toPuzzle.calls k _ _ l0_0 _ _ l0_1 t285 t288 _ ?side1 ?side2 ?side3 ?side4 A11.out).mono ?_); (case side1 => exact Kd.C_below HR0_0.out (by repeat (first | (with_reducible first | exact HB.out | apply below_alloc | apply pw_below_drewN | apply below_drew1 | refine below_set ?_ GE269.out | refine below_set ?_ GE284.out) | exact HB.out))); (case side2 => exact HC0_0.out); (case side3 => exact Kd.C_below HR0_1.out (by repeat (first | (with_reducible first | exact HB.out | apply below_alloc | apply pw_below_drewN | apply below_drew1 | refine below_set ?_ GE269.out | refine below_set ?_ GE284.out) | exact HB.out))); (case side4 => exact HC0_1.out); rintro e w28 ⟨v286, v289, rfl, ho0, ho1, hb⟩; refine ⟨_, rfl, ?_⟩; have HO287 := Aside0.mk (Kd.R_lower (Kd.R_new' (Kd.R_new' ho0 (Kd.R_lt (by (with_reducible repeat (first | apply Kd.R_alloc | apply Kd.R_drewN | apply Kd.R_drew)); exact (Kd.R_mono (Kd.R_far (p := ⟨gb284, 1, none⟩) (Kd.R_far (p := ⟨gb284, 0, none⟩) (Kd.R_types HO273.out BK284.out (by decide)) (fun _ hk => hk.2) (.slice Ao23 t277.length co23)) (fun _ hk => hk.2) (.slice Ao26 t280.length co26)) (fun _ h_ => h_.1))))) (Kd.R_lt (by (with_reducible repeat (first | apply Kd.R_alloc | apply Kd.R_drewN | apply Kd.R_drew)); exact (Kd.R_mono (Kd.R_far (p := ⟨gb284, 1, none⟩) (Kd.R_far (p := ⟨gb284, 0, none⟩) (Kd.R_types HO279.out BK284.out (by decide)) (fun _ hk => hk.2) (.slice Ao23 t277.length co23)) (fun _ hk => hk.2) (.slice Ao26 t280.length co26)) (fun _ h_ => h_.1))))) (below_size (by repeat (first | (with_reducible first | exact HB.out | apply below_alloc | apply pw_below_drewN | apply below_drew1 | refine below_set ?_ GE269.out | refine below_set ?_ GE284.out) | exact HB.out)))); replace HO273 := Aside0.mk (Kd.R_elder' (by (with_reducible repeat (first | apply Kd.R_alloc | apply Kd.R_drewN | apply Kd.R_drew)); exact (Kd.R_mono (Kd.R_far (p := ⟨gb284, 1, none⟩) (Kd.R_far (p := ⟨gb284, 0, none⟩) (Kd.R_types HO273.out BK284.out (by decide)) (fun _ hk => hk.2) (.slice Ao23 t277.length co23)) (fun _ hk => hk.2) (.slice Ao26 t280.length co26)) (fun _ h_ => h_.1))) (Kd.R_base ho0) hb); replace HO279 := Aside0.mk (Kd.R_elder' (by (with_reducible repeat (first | apply Kd.R_alloc | apply Kd.R_drewN | apply Kd.R_drew)); exact (Kd.R_mono (Kd.R_far (p := ⟨gb284, 1, none⟩) (Kd.R_far (p := ⟨gb284, 0, none⟩) (Kd.R_types HO279.out BK284.out (by decide)) (fun _ hk => hk.2) (.slice Ao23 t277.length co23)) (fun _ hk => hk.2) (.slice Ao26 t280.length co26)) (fun _ h_ => h_.1))) (Kd.R_base ho0) hb); have HO290 := Aside0.mk (Kd.R_lower (Kd.R_new' (Kd.R_new' ho1 (Kd.R_lt (by (with_reducible repeat (first | apply Kd.R_alloc | apply Kd.R_drewN | apply Kd.R_drew)); exact (Kd.R_mono (Kd.R_far (p := ⟨gb284, 1, none⟩) (Kd.R_far (p := ⟨gb284, 0, none⟩) (Kd.R_types HO276.out BK284.out (by decide)) (fun _ hk => hk.2) (.slice Ao23 t277.length co23)) (fun _ hk => hk.2) (.slice Ao26 t280.length co26)) (fun _ h_ => h_.1))))) (Kd.R_lt (by (with_reducible repeat (first | apply Kd.R_alloc | apply Kd.R_drewN | apply Kd.R_drew)); exact (Kd.R_mono (Kd.R_far (p := ⟨gb284, 1, none⟩) (Kd.R_far (p := ⟨gb284, 0, none⟩) (Kd.R_types HO282.out BK284.out (by decide)) (fun _ hk => hk.2) (.slice Ao23 t277.length co23)) (fun _ hk => hk.2) (.slice Ao26 t280.length co26)) (fun _ h_ => h_.1))))) (below_size (by repeat (first | (with_reducible first | exact HB.out | apply below_alloc | apply pw_below_drewN | apply below_drew1 | refine below_set ?_ GE269.out | refine below_set ?_ GE284.out) | exact HB.out)))); replace HO276 := Aside0.mk (Kd.R_elder' (by (with_reducible repeat (first | apply Kd.R_alloc | apply Kd.R_drewN | apply Kd.R_drew)); exact (Kd.R_mono (Kd.R_far (p := ⟨gb284, 1, none⟩) (Kd.R_far (p := ⟨gb284, 0, none⟩) (Kd.R_types HO276.out BK284.out (by decide)) (fun _ hk => hk.2) (.slice Ao23 t277.length co23)) (fun _ hk => hk.2) (.slice Ao26 t280.length co26)) (fun _ h_ => h_.1))) (Kd.R_base ho1) hb); replace HO282 := Aside0.mk (Kd.R_elder' (by (with_reducible repeat (first | apply Kd.R_alloc | apply Kd.R_drewN | apply Kd.R_drew)); exact (Kd.R_mono (Kd.R_far (p := ⟨gb284, 1, none⟩) (Kd.R_far (p := ⟨gb284, 0, none⟩) (Kd.R_types HO282.out BK284.out (by decide)) (fun _ hk => hk.2) (.slice Ao23 t277.length co23)) (fun _ hk => hk.2) (.slice Ao26 t280.length co26)) (fun _ h_ => h_.1))) (Kd.R_base ho1) hb); replace BK269 := Aside0.mk (blk_below (g := gb269) (o := .cells #[.slice A0_0 l0_0.length c0_0, .slice A0_1 l0_1.length c0_1] 51 (0, 0)) (by (with_reducible repeat (first | refine blk_drewN ?_ _ | refine blk_drew ?_ | refine blk_alloc ?_ _)); refine blk_far ?_ NB269_284.out _; (with_reducible repeat (first | refine blk_drewN ?_ _ | refine blk_drew ?_ | refine blk_alloc ?_ _)); refine blk_far ?_ NB269_284.out _; (with_reducible repeat (first | refine blk_drewN ?_ _ | refine blk_drew ?_ | refine blk_alloc ?_ _)); exact BK269.out) hb); replace BK284 := Aside0.mk (blk_below (g := gb284) (o := .cells #[.slice Ao23 t277.length co23, .slice Ao26 t280.length co26] 54 (0, 0)) (by (with_reducible repeat (first | refine blk_drewN ?_ _ | refine blk_drew ?_ | refine blk_alloc ?_ _)); refine blk_put (cs := #[.slice Ao23 t277.length co23, .slice none 0 0]) ?_ 1 _ rfl; (with_reducible repeat (first | refine blk_drewN ?_ _ | refine blk_drew ?_ | refine blk_alloc ?_ _)); refine blk_put (cs := #[.slice none 0 0, .slice none 0 0]) ?_ 0 _ rfl; (with_reducible repeat (first | refine blk_drewN ?_ _ | refine blk_drew ?_ | refine blk_alloc ?_ _)); exact BK284.out) hb); replace HB := Aside0.mk (below_step (by repeat (first | (with_reducible first | exact HB.out | apply below_alloc | apply pw_below_drewN | apply below_drew1 | refine below_set ?_ GE269.out | refine below_set ?_ GE284.out) | exact HB.out)) hb); (try clear hb); (try clear hb2); (try clear hk); (try clear hi); (try clear ho0); (try clear ho1)) | ((with_reducible refine gate_dst (N := 10) rfl ?_); refine box_event ?hg (N := 10) ?hd (cs := #[.slice none 0 0, .slice none 0 0]) (t := 54) ?hr ?_; (case hd => rfl); (case hg => rfl); (case hr => first | (go_simp; done) | (go_simp; rfl)); intro gb291 hg w29 hbox hb; replace HO273 := Aside0.mk (Kd.R_below (by (with_reducible repeat (first | apply Kd.R_alloc | apply Kd.R_drewN | apply Kd.R_drew)); exact HO273.out) hb); replace HO276 := Aside0.mk (Kd.R_below (by (with_reducible repeat (first | apply Kd.R_alloc | apply Kd.R_drewN | apply Kd.R_drew)); exact HO276.out) hb); replace HO279 := Aside0.mk (Kd.R_below (by (with_reducible repeat (first | apply Kd.R_alloc | apply Kd.R_drewN | apply Kd.R_drew)); exact HO279.out) hb); replace HO282 := Aside0.mk (Kd.R_below (by (with_reducible repeat (first | apply Kd.R_alloc | apply Kd.R_drewN | apply Kd.R_drew)); exact HO282.out) hb); replace HO287 := Aside0.mk (Kd.R_below (by (with_reducible repeat (first | apply Kd.R_alloc | apply Kd.R_drewN | apply Kd.R_drew)); exact HO287.out) hb); replace HO290 := Aside0.mk (Kd.R_below (by (with_reducible repeat (first | apply Kd.R_alloc | apply Kd.R_drewN | apply Kd.R_drew)); exact HO290.out) hb); have BK291 := Aside0.mk (hbox); have GW291 := Aside0.mk ((by rw [hg]; exact (below_size (by repeat (first | (with_reducible first | exact HB.out | apply below_alloc | apply pw_below_drewN | apply below_drew1 | refine below_set ?_ GE269.out | refine below_set ?_ GE284.out) | exact HB.out))) : w.heap.size ≤ gb291)); have GE291 := Aside0.mk ((by rw [hg]; exact (below_size (by repeat (first | (with_reducible first | exact HB.out | apply below_alloc | apply pw_below_drewN | apply below_drew1 | refine below_set ?_ GE269.out | refine below_set ?_ GE284.out) | exact HB.out))) : w.heap.size ≤ gb291)); replace HB := Aside0.mk (below_step (by repeat (first | (with_reducible first | exact HB.out | apply below_alloc | apply pw_below_drewN | apply below_drew1 | refine below_set ?_ GE269.out | refine below_set ?_ GE284.out) | exact HB.out)) hb); have NB269_291 := Aside0.mk ((by rw [hg]; exact Nat.ne_of_lt (blk_lt (g := gb269) (o := .cells #[.slice A0_0 l0_0.length c0_0, .slice A0_1 l0_1.length c0_1] 51 (0, 0)) (by (with_reducible repeat (first | refine blk_drewN ?_ _ | refine blk_drew ?_ | refine blk_alloc ?_ _)); exact BK269.out)) : gb269 ≠ gb291)); have NB291_269 := Aside0.mk ((by rw [hg]; exact Nat.ne_of_gt (blk_lt (g := gb269) (o := .cells #[.slice A0_0 l0_0.length c0_0, .slice A0_1 l0_1.length c0_1] 51 (0, 0)) (by (with_reducible repeat (first | refine blk_drewN ?_ _ | refine blk_drew ?_ | refine blk_alloc ?_ _)); exact BK269.out)) : gb291 ≠ gb269)); replace BK269 := Aside0.mk (blk_below (g := gb269) (o := .cells #[.slice A0_0 l0_0.length c0_0, .slice A0_1 l0_1.length c0_1] 51 (0, 0)) (by (with_reducible repeat (first | refine blk_drewN ?_ _ | refine blk_drew ?_ | refine blk_alloc ?_ _)); exact BK269.out) hb); have NB284_291 := Aside0.mk ((by rw [hg]; exact Nat.ne_of_lt (blk_lt (g := gb284) (o := .cells #[.slice Ao23 t277.length co23, .slice Ao26 t280.length co26] 54 (0, 0)) (by (with_reducible repeat (first | refine blk_drewN ?_ _ | refine blk_drew ?_ | refine blk_alloc ?_ _)); exact BK284.out)) : gb284 ≠ gb291)); have NB291_284 := Aside0.mk ((by rw [hg]; exact Nat.ne_of_gt (blk_lt (g := gb284) (o := .cells #[.slice Ao23 t277.length co23, .slice Ao26 t280.length co26] 54 (0, 0)) (by (with_reducible repeat (first | refine blk_drewN ?_ _ | refine blk_drew ?_ | refine blk_alloc ?_ _)); exact BK284.out)) : gb291 ≠ gb284)); replace BK284 := Aside0.mk (blk_below (g := gb284) (o := .cells #[.slice Ao23 t277.length co23, .slice Ao26 t280.length co26] 54 (0, 0)) (by (with_reducible repeat (first | refine blk_drewN ?_ _ | refine blk_drew ?_ | refine blk_alloc ?_ _)); exact BK284.out) hb); clear hb hbox hg; obtain ⟨Ao30, co30, eo30⟩ := Kd.R_slice HO287.out; subst eo30; have hnb31 := NB291_269.out; have hnc31 := NB269_291.out; have hnb32 := NB291_284.out; have hnc32 := NB284_291.out; have hcz33_0 : w29.cell? ⟨gb291, 0, none⟩ = some (.slice none 0 0) := (blk_cell BK291.out 0).trans rfl; have hcz33_1 : w29.cell? ⟨gb291, 1, none⟩ = some (.slice none 0 0) := (blk_cell BK291.out 1).trans rfl; have hfz33_0 := blk_frozen BK291.out 0; have hfz33_1 := blk_frozen BK291.out 1; obtain ⟨Ao34, co34, eo34⟩ := Kd.R_slice HO290.out; subst eo34) | ((with_reducible refine gate_callee (f := 67) rfl ?_); refine goesL_ (some 37) rfl rfl Try.func67 (by kernel_rfl) rfl #[.agg #[.slice Ao30 t285.length co30, .slice Ao34 t288.length co34], .int .i64 a1, .int .i64 a2] rfl (by (try simp only [List.map_toArray, List.map_cons, List.map_nil]); first | done | rfl | (simp only [List.length_drop, List.length_take]; rfl)) ?_; (with_reducible refine (impl_FillGap.calls k _ _ t285 _ _ t288 a1 a2 t292 t295 t298 _ ?side1 ?side2 ?side3 ?side4 A12.out).mono ?_); (case side1 => refine (Kd.R_reads' (e := 25) (base := w.heap.size) (ok := fun k_ => ((True ∧ some k_ ≠ (.slice Ao19 t271.length co19 : Value).ownBlock) ∧ some k_ ≠ (.slice Ao23 t277.length co23 : Value).ownBlock)) (n := t285.length) (c := co30) ?_).2.2; exact (by (with_reducible repeat (first | apply Kd.R_alloc | apply Kd.R_drewN | apply Kd.R_drew)); exact (Kd.R_mono (Kd.R_far (p := ⟨gb291, 1, none⟩) (Kd.R_far (p := ⟨gb291, 0, none⟩) (Kd.R_types HO287.out BK291.out (by decide)) (fun _ hk => hk.2) (.slice Ao30 t285.length co30)) (fun _ hk => hk.2) (.slice Ao34 t288.length co34)) (fun _ h_ => h_.1)))); (case side2 => exact (Kd.R_reads' HO287.out).2.1); (case side3 => refine (Kd.R_reads' (e := 3) (base := w.heap.size) (ok := fun k_ => ((True ∧ some k_ ≠ (.slice Ao20 t274.length co20 : Value).ownBlock) ∧ some k_ ≠ (.slice Ao26 t280.length co26 : Value).ownBlock)) (n := t288.length) (c := co34) ?_).2.2; exact (by (with_reducible repeat (first | apply Kd.R_alloc | apply Kd.R_drewN | apply Kd.R_drew)); exact (Kd.R_mono (Kd.R_far (p := ⟨gb291, 1, none⟩) (Kd.R_far (p := ⟨gb291, 0, none⟩) (Kd.R_types HO290.out BK291.out (by decide)) (fun _ hk => hk.2) (.slice Ao30 t285.length co30)) (fun _ hk => hk.2) (.slice Ao34 t288.length co34)) (fun _ h_ => h_.1)))); (case side4 => exact (Kd.R_reads' HO290.out).2.1); rintro e w35 ⟨v293, v296, rfl, ho0, ho1, hb⟩; refine ⟨_, rfl, ?_⟩; have HO294 := Aside0.mk (Kd.R_lower (Kd.R_new' (Kd.R_new' (Kd.R_new' ho0 (Kd.R_lt (by (with_reducible repeat (first | apply Kd.R_alloc | apply Kd.R_drewN | apply Kd.R_drew)); exact (Kd.R_mono (Kd.R_far (p := ⟨gb291, 1, none⟩) (Kd.R_far (p := ⟨gb291, 0, none⟩) (Kd.R_types HO273.out BK291.out (by decide)) (fun _ hk => hk.2) (.slice Ao30 t285.length co30)) (fun _ hk => hk.2) (.slice Ao34 t288.length co34)) (fun _ h_ => h_.1))))) (Kd.R_lt (by (with_reducible repeat (first | apply Kd.R_alloc | apply Kd.R_drewN | apply Kd.R_drew)); exact (Kd.R_mono (Kd.R_far (p := ⟨gb291, 1, none⟩) (Kd.R_far (p := ⟨gb291, 0, none⟩) (Kd.R_types HO279.out BK291.out (by decide)) (fun _ hk => hk.2) (.slice Ao30 t285.length co30)) (fun _ hk => hk.2) (.slice Ao34 t288.length co34)) (fun _ h_ => h_.1))))) (Kd.R_lt (by (with_reducible repeat (first | apply Kd.R_alloc | apply Kd.R_drewN | apply Kd.R_drew)); exact (Kd.R_mono (Kd.R_far (p := ⟨gb291, 1, none⟩) (Kd.R_far (p := ⟨gb291, 0, none⟩) (Kd.R_types HO287.out BK291.out (by decide)) (fun _ hk => hk.2) (.slice Ao30 t285.length co30)) (fun _ hk => hk.2) (.slice Ao34 t288.length co34)) (fun _ h_ => h_.1))))) (below_size (by repeat (first | (with_reducible first | exact HB.out | apply below_alloc | apply pw_below_drewN | apply below_drew1 | refine below_set ?_ GE269.out | refine below_set ?_ GE284.out | refine below_set ?_ GE291.out) | exact HB.out)))); replace HO273 := Aside0.mk (Kd.R_elder' (by (with_reducible repeat (first | apply Kd.R_alloc | apply Kd.R_drewN | apply Kd.R_drew)); exact (Kd.R_mono (Kd.R_far (p := ⟨gb291, 1, none⟩) (Kd.R_far (p := ⟨gb291, 0, none⟩) (Kd.R_types HO273.out BK291.out (by decide)) (fun _ hk => hk.2) (.slice Ao30 t285.length co30)) (fun _ hk => hk.2) (.slice Ao34 t288.length co34)) (fun _ h_ => h_.1))) (Kd.R_base ho0) hb); replace HO279 := Aside0.mk (Kd.R_elder' (by (with_reducible repeat (first | apply Kd.R_alloc | apply Kd.R_drewN | apply Kd.R_drew)); exact (Kd.R_mono (Kd.R_far (p := ⟨gb291, 1, none⟩) (Kd.R_far (p := ⟨gb291, 0, none⟩) (Kd.R_types HO279.out BK291.out (by decide)) (fun _ hk => hk.2) (.slice Ao30 t285.length co30)) (fun _ hk => hk.2) (.slice Ao34 t288.length co34)) (fun _ h_ => h_.1))) (Kd.R_base ho0) hb); replace HO287 := Aside0.mk (Kd.R_elder' (by (with_reducible repeat (first | apply Kd.R_alloc | apply Kd.R_drewN | apply Kd.R_drew)); exact (Kd.R_mono (Kd.R_far (p := ⟨gb291, 1, none⟩) (Kd.R_far (p := ⟨gb291, 0, none⟩) (Kd.R_types HO287.out BK291.out (by decide)) (fun _ hk => hk.2) (.slice Ao30 t285.length co30)) (fun _ hk => hk.2) (.slice Ao34 t288.length co34)) (fun _ h_ => h_.1))) (Kd.R_base ho0) hb); have HO297 := Aside0.mk (Kd.R_lower (Kd.R_new' (Kd.R_new' (Kd.R_new' ho1 (Kd.R_lt (by (with_reducible repeat (first | apply Kd.R_alloc | apply Kd.R_drewN | apply Kd.R_drew)); exact (Kd.R_mono (Kd.R_far (p := ⟨gb291, 1, none⟩) (Kd.R_far (p := ⟨gb291, 0, none⟩) (Kd.R_types HO276.out BK291.out (by decide)) (fun _ hk => hk.2) (.slice Ao30 t285.length co30)) (fun _ hk => hk.2) (.slice Ao34 t288.length co34)) (fun _ h_ => h_.1))))) (Kd.R_lt (by (with_reducible repeat (first | apply Kd.R_alloc | apply Kd.R_drewN | apply Kd.R_drew)); exact (Kd.R_mono (Kd.R_far (p := ⟨gb291, 1, none⟩) (Kd.R_far (p := ⟨gb291, 0, none⟩) (Kd.R_types HO282.out BK291.out (by decide)) (fun _ hk => hk.2) (.slice Ao30 t285.length co30)) (fun _ hk => hk.2) (.slice Ao34 t288.length co34)) (fun _ h_ => h_.1))))) (Kd.R_lt (by (with_reducible repeat (first | apply Kd.R_alloc | apply Kd.R_drewN | apply Kd.R_drew)); exact (Kd.R_mono (Kd.R_far (p := ⟨gb291, 1, none⟩) (Kd.R_far (p := ⟨gb291, 0, none⟩) (Kd.R_types HO290.out BK291.out (by decide)) (fun _ hk => hk.2) (.slice Ao30 t285.length co30)) (fun _ hk => hk.2) (.slice Ao34 t288.length co34)) (fun _ h_ => h_.1))))) (below_size (by repeat (first | (with_reducible first | exact HB.out | apply below_alloc | apply pw_below_drewN | apply below_drew1 | refine below_set ?_ GE269.out | refine below_set ?_ GE284.out | refine below_set ?_ GE291.out) | exact HB.out)))); replace HO276 := Aside0.mk (Kd.R_elder' (by (with_reducible repeat (first | apply Kd.R_alloc | apply Kd.R_drewN | apply Kd.R_drew)); exact (Kd.R_mono (Kd.R_far (p := ⟨gb291, 1, none⟩) (Kd.R_far (p := ⟨gb291, 0, none⟩) (Kd.R_types HO276.out BK291.out (by decide)) (fun _ hk => hk.2) (.slice Ao30 t285.length co30)) (fun _ hk => hk.2) (.slice Ao34 t288.length co34)) (fun _ h_ => h_.1))) (Kd.R_base ho1) hb); replace HO282 := Aside0.mk (Kd.R_elder' (by (with_reducible repeat (first | apply Kd.R_alloc | apply Kd.R_drewN | apply Kd.R_drew)); exact (Kd.R_mono (Kd.R_far (p := ⟨gb291, 1, none⟩) (Kd.R_far (p := ⟨gb291, 0, none⟩) (Kd.R_types HO282.out BK291.out (by decide)) (fun _ hk => hk.2) (.slice Ao30 t285.length co30)) (fun _ hk => hk.2) (.slice Ao34 t288.length co34)) (fun _ h_ => h_.1))) (Kd.R_base ho1) hb); replace HO290 := Aside0.mk (Kd.R_elder' (by (with_reducible repeat (first | apply Kd.R_alloc | apply Kd.R_drewN | apply Kd.R_drew)); exact (Kd.R_mono (Kd.R_far (p := ⟨gb291, 1, none⟩) (Kd.R_far (p := ⟨gb291, 0, none⟩) (Kd.R_types HO290.out BK291.out (by decide)) (fun _ hk => hk.2) (.slice Ao30 t285.length co30)) (fun _ hk => hk.2) (.slice Ao34 t288.length co34)) (fun _ h_ => h_.1))) (Kd.R_base ho1) hb); replace BK269 := Aside0.mk (blk_below (g := gb269) (o := .cells #[.slice A0_0 l0_0.length c0_0, .slice A0_1 l0_1.length c0_1] 51 (0, 0)) (by (with_reducible repeat (first | refine blk_drewN ?_ _ | refine blk_drew ?_ | refine blk_alloc ?_ _)); refine blk_far ?_ NB269_291.out _; (with_reducible repeat (first | refine blk_drewN ?_ _ | refine blk_drew ?_ | refine blk_alloc ?_ _)); refine blk_far ?_ NB269_291.out _; (with_reducible repeat (first | refine blk_drewN ?_ _ | refine blk_drew ?_ | refine blk_alloc ?_ _)); exact BK269.out) hb); replace BK284 := Aside0.mk (blk_below (g := gb284) (o := .cells #[.slice Ao23 t277.length co23, .slice Ao26 t280.length co26] 54 (0, 0)) (by (with_reducible repeat (first | refine blk_drewN ?_ _ | refine blk_drew ?_ | refine blk_alloc ?_ _)); refine blk_far ?_ NB284_291.out _; (with_reducible repeat (first | refine blk_drewN ?_ _ | refine blk_drew ?_ | refine blk_alloc ?_ _)); refine blk_far ?_ NB284_291.out _; (with_reducible repeat (first | refine blk_drewN ?_ _ | refine blk_drew ?_ | refine blk_alloc ?_ _)); exact BK284.out) hb); replace BK291 := Aside0.mk (blk_below (g := gb291) (o := .cells #[.slice Ao30 t285.length co30, .slice Ao34 t288.length co34] 54 (0, 0)) (by (with_reducible repeat (first | refine blk_drewN ?_ _ | refine blk_drew ?_ | refine blk_alloc ?_ _)); refine blk_put (cs := #[.slice Ao30 t285.length co30, .slice none 0 0]) ?_ 1 _ rfl; (with_reducible repeat (first | refine blk_drewN ?_ _ | refine blk_drew ?_ | refine blk_alloc ?_ _)); refine blk_put (cs := #[.slice none 0 0, .slice none 0 0]) ?_ 0 _ rfl; (with_reducible repeat (first | refine blk_drewN ?_ _ | refine blk_drew ?_ | refine blk_alloc ?_ _)); exact BK291.out) hb); replace HB := Aside0.mk (below_step (by repeat (first | (with_reducible first | exact HB.out | apply below_alloc | apply pw_below_drewN | apply below_drew1 | refine below_set ?_ GE269.out | refine below_set ?_ GE284.out | refine below_set ?_ GE291.out) | exact HB.out)) hb); (try clear hb); (try clear hb2); (try clear hk); (try clear hi); (try clear ho0); (try clear ho1)) | ((with_reducible refine gate_dst (N := 11) rfl ?_); refine box_event ?hg (N := 11) ?hd (cs := #[.slice none 0 0, .slice none 0 0]) (t := 54) ?hr ?_; (case hd => rfl); (case hg => rfl); (case hr => first | (go_simp; done) | (go_simp; rfl)); intro gb299 hg w36 hbox hb; replace HO273 := Aside0.mk (Kd.R_below (by (with_reducible repeat (first | apply Kd.R_alloc | apply Kd.R_drewN | apply Kd.R_drew)); exact HO273.out) hb); replace HO276 := Aside0.mk (Kd.R_below (by (with_reducible repeat (first | apply Kd.R_alloc | apply Kd.R_drewN | apply Kd.R_drew)); exact HO276.out) hb); replace HO279 := Aside0.mk (Kd.R_below (by (with_reducible repeat (first | apply Kd.R_alloc | apply Kd.R_drewN | apply Kd.R_drew)); exact HO279.out) hb); replace HO282 := Aside0.mk (Kd.R_below (by (with_reducible repeat (first | apply Kd.R_alloc | apply Kd.R_drewN | apply Kd.R_drew)); exact HO282.out) hb); replace HO287 := Aside0.mk (Kd.R_below (by (with_reducible repeat (first | apply Kd.R_alloc | apply Kd.R_drewN | apply Kd.R_drew)); exact HO287.out) hb); replace HO290 := Aside0.mk (Kd.R_below (by (with_reducible repeat (first | apply Kd.R_alloc | apply Kd.R_drewN | apply Kd.R_drew)); exact HO290.out) hb); replace HO294 := Aside0.mk (Kd.R_below (by (with_reducible repeat (first | apply Kd.R_alloc | apply Kd.R_drewN | apply Kd.R_drew)); exact HO294.out) hb); replace HO297 := Aside0.mk (Kd.R_below (by (with_reducible repeat (first | apply Kd.R_alloc | apply Kd.R_drewN | apply Kd.R_drew)); exact HO297.out) hb); have BK299 := Aside0.mk (hbox); have GW299 := Aside0.mk ((by rw [hg]; exact (below_size (by repeat (first | (with_reducible first | exact HB.out | apply below_alloc | apply pw_below_drewN | apply below_drew1 | refine below_set ?_ GE269.out | refine below_set ?_ GE284.out | refine below_set ?_ GE291.out) | exact HB.out))) : w.heap.size ≤ gb299)); have GE299 := Aside0.mk ((by rw [hg]; exact (below_size (by repeat (first | (with_reducible first | exact HB.out | apply below_alloc | apply pw_below_drewN | apply below_drew1 | refine below_set ?_ GE269.out | refine below_set ?_ GE284.out | refine below_set ?_ GE291.out) | exact HB.out))) : w.heap.size ≤ gb299)); replace HB := Aside0.mk (below_step (by repeat (first | (with_reducible first | exact HB.out | apply below_alloc | apply pw_below_drewN | apply below_drew1 | refine below_set ?_ GE269.out | refine below_set ?_ GE284.out | refine below_set ?_ GE291.out) | exact HB.out)) hb); have NB269_299 := Aside0.mk ((by rw [hg]; exact Nat.ne_of_lt (blk_lt (g := gb269) (o := .cells #[.slice A0_0 l0_0.length c0_0, .slice A0_1 l0_1.length c0_1] 51 (0, 0)) (by (with_reducible repeat (first | refine blk_drewN ?_ _ | refine blk_drew ?_ | refine blk_alloc ?_ _)); exact BK269.out)) : gb269 ≠ gb299)); have NB299_269 := Aside0.mk ((by rw [hg]; exact Nat.ne_of_gt (blk_lt (g := gb269) (o := .cells #[.slice A0_0 l0_0.length c0_0, .slice A0_1 l0_1.length c0_1] 51 (0, 0)) (by (with_reducible repeat (first | refine blk_drewN ?_ _ | refine blk_drew ?_ | refine blk_alloc ?_ _)); exact BK269.out)) : gb299 ≠ gb269)); replace BK269 := Aside0.mk (blk_below (g := gb269) (o := .cells #[.slice A0_0 l0_0.length c0_0, .slice A0_1 l0_1.length c0_1] 51 (0, 0)) (by (with_reducible repeat (first | refine blk_drewN ?_ _ | refine blk_drew ?_ | refine blk_alloc ?_ _)); exact BK269.out) hb); have NB284_299 := Aside0.mk ((by rw [hg]; exact Nat.ne_of_lt (blk_lt (g := gb284) (o := .cells #[.slice Ao23 t277.length co23, .slice Ao26 t280.length co26] 54 (0, 0)) (by (with_reducible repeat (first | refine blk_drewN ?_ _ | refine blk_drew ?_ | refine blk_alloc ?_ _)); exact BK284.out)) : gb284 ≠ gb299)); have NB299_284 := Aside0.mk ((by rw [hg]; exact Nat.ne_of_gt (blk_lt (g := gb284) (o := .cells #[.slice Ao23 t277.length co23, .slice Ao26 t280.length co26] 54 (0, 0)) (by (with_reducible repeat (first | refine blk_drewN ?_ _ | refine blk_drew ?_ | refine blk_alloc ?_ _)); exact BK284.out)) : gb299 ≠ gb284)); replace BK284 := Aside0.mk (blk_below (g := gb284) (o := .cells #[.slice Ao23 t277.length co23, .slice Ao26 t280.length co26] 54 (0, 0)) (by (with_reducible repeat (first | refine blk_drewN ?_ _ | refine blk_drew ?_ | refine blk_alloc ?_ _)); exact BK284.out) hb); have NB291_299 := Aside0.mk ((by rw [hg]; exact Nat.ne_of_lt (blk_lt (g := gb291) (o := .cells #[.slice Ao30 t285.length co30, .slice Ao34 t288.length co34] 54 (0, 0)) (by (with_reducible repeat (first | refine blk_drewN ?_ _ | refine blk_drew ?_ | refine blk_alloc ?_ _)); exact BK291.out)) : gb291 ≠ gb299)); have NB299_291 := Aside0.mk ((by rw [hg]; exact Nat.ne_of_gt (blk_lt (g := gb291) (o := .cells #[.slice Ao30 t285.length co30, .slice Ao34 t288.length co34] 54 (0, 0)) (by (with_reducible repeat (first | refine blk_drewN ?_ _ | refine blk_drew ?_ | refine blk_alloc ?_ _)); exact BK291.out)) : gb299 ≠ gb291)); replace BK291 := Aside0.mk (blk_below (g := gb291) (o := .cells #[.slice Ao30 t285.length co30, .slice Ao34 t288.length co34] 54 (0, 0)) (by (with_reducible repeat (first | refine blk_drewN ?_ _ | refine blk_drew ?_ | refine blk_alloc ?_ _)); exact BK291.out) hb); clear hb hbox hg; obtain ⟨Ao37, co37, eo37⟩ := Kd.R_slice HO294.out; subst eo37; have hnb38 := NB299_269.out; have hnc38 := NB269_299.out; have hnb39 := NB299_284.out; have hnc39 := NB284_299.out; have hnb40 := NB299_291.out; have hnc40 := NB291_299.out; have hcz41_0 : w36.cell? ⟨gb299, 0, none⟩ = some (.slice none 0 0) := (blk_cell BK299.out 0).trans rfl; have hcz41_1 : w36.cell? ⟨gb299, 1, none⟩ = some (.slice none 0 0) := (blk_cell BK299.out 1).trans rfl; have hfz41_0 := blk_frozen BK299.out 0; have hfz41_1 := blk_frozen BK299.out 1; obtain ⟨Ao42, co42, eo42⟩ := Kd.R_slice HO297.out; subst eo42))
  (try simp only [Act.put, List.setIfInBounds_toArray, List.set_cons_zero, List.set_cons_succ])
  go_cut [48] (fun v48 wc => ∃ (kq : Nat) (x48_12 : Bool), v48 = .bool x48_12 ∧ Aside0 (laws_FnExactFillGap.j0 kq a1 a2 t283 t298 x48_12 l0_0 l0_1 t277 t280 t285 t288 t292 t295 = some r) ∧ Aside0 (kq ≤ k) ∧ Aside0 (Kd.R k25 25 wc w.heap.size (fun k_ => some k_ ≠ ((.slice Ao30 t285.length co30) : Value).ownBlock ∧ some k_ ≠ ((.slice Ao37 t292.length co37) : Value).ownBlock) (.slice Ao23 t277.length co23) t277) ∧ Aside0 (Kd.R (Kd.int .i64) 3 wc w.heap.size (fun k_ => some k_ ≠ ((.slice Ao34 t288.length co34) : Value).ownBlock ∧ some k_ ≠ ((.slice Ao42 t295.length co42) : Value).ownBlock) (.slice Ao26 t280.length co26) t280) ∧ Aside0 (Kd.R k25 25 wc w.heap.size (fun k_ => some k_ ≠ ((.slice Ao23 t277.length co23) : Value).ownBlock ∧ some k_ ≠ ((.slice Ao37 t292.length co37) : Value).ownBlock) (.slice Ao30 t285.length co30) t285) ∧ Aside0 (Kd.R (Kd.int .i64) 3 wc w.heap.size (fun k_ => some k_ ≠ ((.slice Ao26 t280.length co26) : Value).ownBlock ∧ some k_ ≠ ((.slice Ao42 t295.length co42) : Value).ownBlock) (.slice Ao34 t288.length co34) t288) ∧ Aside0 (Kd.R k25 25 wc w.heap.size (fun k_ => some k_ ≠ ((.slice Ao23 t277.length co23) : Value).ownBlock ∧ some k_ ≠ ((.slice Ao30 t285.length co30) : Value).ownBlock) (.slice Ao37 t292.length co37) t292) ∧ Aside0 (Kd.R (Kd.int .i64) 3 wc w.heap.size (fun k_ => some k_ ≠ ((.slice Ao26 t280.length co26) : Value).ownBlock ∧ some k_ ≠ ((.slice Ao34 t288.length co34) : Value).ownBlock) (.slice Ao42 t295.length co42) t295) ∧ Aside0 (wc.heap[gb269]? = some (.cells #[(.slice A0_0 l0_0.length c0_0), (.slice A0_1 l0_1.length c0_1)] 51 (0, 0))) ∧ Aside0 (wc.heap[gb284]? = some (.cells #[(.slice Ao23 t277.length co23), (.slice Ao26 t280.length co26)] 54 (0, 0))) ∧ Aside0 (wc.heap[gb291]? = some (.cells #[(.slice Ao30 t285.length co30), (.slice Ao34 t288.length co34)] 54 (0, 0))) ∧ Aside0 (wc.heap[gb299]? = some (.cells #[(.slice Ao37 t292.length co37), (.slice Ao42 t295.length co42)] 54 (0, 0))) ∧ Aside0 (Below w.heap.size w wc))
  case first =>
   have H := HC13.out
   clear HC13
   replace H := Option.bind_eq_some_iff.mp H
   obtain ⟨t300, A430, H⟩ := H
   replace H : (if t300 = true then (laws_FnExactFillGap.j0 k a1 a2 t283 t298 (t298 != t283) l0_0 l0_1 t277 t280 t285 t288 t292 t295) else (laws_FnExactFillGap.j0 k a1 a2 t283 t298 true l0_0 l0_1 t277 t280 t285 t288 t292 t295)) = some r := H
   have A43 := Aside0.mk A430
   clear A430
   by_cases c44 : t300 = true
   ·subst c44
    have H1 : (laws_FnExactFillGap.j0 k a1 a2 t283 t298 (t298 != t283) l0_0 l0_1 t277 t280 t285 t288 t292 t295) = some r := by rw [if_pos rfl] at H; exact H
    clear H
    have H := H1
    clear H1
    have H' := Aside0.mk H
    clear H
    have hnb45 := NB299_269.out
    have hnc45 := NB269_299.out
    have hnb46 := NB299_284.out
    have hnc46 := NB284_299.out
    have hnb47 := NB299_291.out
    have hnc47 := NB291_299.out
    have hcz48_0 : w36.cell? ⟨gb299, 0, none⟩ = some (.slice none 0 0) := (blk_cell BK299.out 0).trans rfl
    have hcz48_1 : w36.cell? ⟨gb299, 1, none⟩ = some (.slice none 0 0) := (blk_cell BK299.out 1).trans rfl
    have hfz48_0 := blk_frozen BK299.out 0
    have hfz48_1 := blk_frozen BK299.out 1
    have hnb49 := NB284_269.out
    have hnc49 := NB269_284.out
    have hnb50 := NB284_291.out
    have hnc50 := NB291_284.out
    have hcz51_0 : w36.cell? ⟨gb284, 0, none⟩ = some (.slice Ao23 t277.length co23) := (blk_cell BK284.out 0).trans rfl
    have hcz51_1 : w36.cell? ⟨gb284, 1, none⟩ = some (.slice Ao26 t280.length co26) := (blk_cell BK284.out 1).trans rfl
    have hfz51_0 := blk_frozen BK284.out 0
    have hfz51_1 := blk_frozen BK284.out 1
    go_wp2_with (first | ((with_reducible refine gate_callee (f := 41) rfl ?_); refine goesL_ (some 42) rfl rfl Try.func41 (by kernel_rfl) rfl #[.agg #[.slice Ao37 t292.length co37, .slice Ao42 t295.length co42], .agg #[.slice Ao23 t277.length co23, .slice Ao26 t280.length co26]] rfl (by (try simp only [List.map_toArray, List.map_cons, List.map_nil]); first | done | rfl | (simp only [List.length_drop, List.length_take]; rfl)) ?_; (with_reducible refine (laws_eqPuzzle.calls k _ _ t292 _ _ t295 _ _ t277 _ _ t280 true _ ?side1 ?side2 ?side3 ?side4 ?side5 ?side6 ?side7 ?side8 A43.out).mono ?_); (case side1 => refine (Kd.R_reads' (e := 25) (base := w.heap.size) (ok := fun k_ => (((True ∧ some k_ ≠ (.slice Ao19 t271.length co19 : Value).ownBlock) ∧ some k_ ≠ (.slice Ao23 t277.length co23 : Value).ownBlock) ∧ some k_ ≠ (.slice Ao30 t285.length co30 : Value).ownBlock)) (n := t292.length) (c := co37) ?_).2.2; exact (by (with_reducible repeat (first | apply Kd.R_alloc | apply Kd.R_drewN | apply Kd.R_drew)); exact (Kd.R_mono (Kd.R_far (p := ⟨gb299, 1, none⟩) (Kd.R_far (p := ⟨gb299, 0, none⟩) (Kd.R_types HO294.out BK299.out (by decide)) (fun _ hk => hk.2) (.slice Ao37 t292.length co37)) (fun _ hk => hk.2) (.slice Ao42 t295.length co42)) (fun _ h_ => h_.1)))); (case side2 => exact (Kd.R_reads' HO294.out).2.1); (case side3 => refine (Kd.R_reads' (e := 3) (base := w.heap.size) (ok := fun k_ => (((True ∧ some k_ ≠ (.slice Ao20 t274.length co20 : Value).ownBlock) ∧ some k_ ≠ (.slice Ao26 t280.length co26 : Value).ownBlock) ∧ some k_ ≠ (.slice Ao34 t288.length co34 : Value).ownBlock)) (n := t295.length) (c := co42) ?_).2.2; exact (by (with_reducible repeat (first | apply Kd.R_alloc | apply Kd.R_drewN | apply Kd.R_drew)); exact (Kd.R_mono (Kd.R_far (p := ⟨gb299, 1, none⟩) (Kd.R_far (p := ⟨gb299, 0, none⟩) (Kd.R_types HO297.out BK299.out (by decide)) (fun _ hk => hk.2) (.slice Ao37 t292.length co37)) (fun _ hk => hk.2) (.slice Ao42 t295.length co42)) (fun _ h_ => h_.1)))); (case side4 => exact (Kd.R_reads' HO297.out).2.1); (case side5 => refine (Kd.R_reads' (e := 25) (base := w.heap.size) (ok := fun k_ => (((True ∧ some k_ ≠ (.slice Ao19 t271.length co19 : Value).ownBlock) ∧ some k_ ≠ (.slice Ao30 t285.length co30 : Value).ownBlock) ∧ some k_ ≠ (.slice Ao37 t292.length co37 : Value).ownBlock)) (n := t277.length) (c := co23) ?_).2.2; exact (by (with_reducible repeat (first | apply Kd.R_alloc | apply Kd.R_drewN | apply Kd.R_drew)); exact (Kd.R_mono (Kd.R_far (p := ⟨gb299, 1, none⟩) (Kd.R_far (p := ⟨gb299, 0, none⟩) (Kd.R_types HO279.out BK299.out (by decide)) (fun _ hk => hk.2) (.slice Ao37 t292.length co37)) (fun _ hk => hk.2) (.slice Ao42 t295.length co42)) (fun _ h_ => h_.1)))); (case side6 => exact (Kd.R_reads' HO279.out).2.1); (case side7 => refine (Kd.R_reads' (e := 3) (base := w.heap.size) (ok := fun k_ => (((True ∧ some k_ ≠ (.slice Ao20 t274.length co20 : Value).ownBlock) ∧ some k_ ≠ (.slice Ao34 t288.length co34 : Value).ownBlock) ∧ some k_ ≠ (.slice Ao42 t295.length co42 : Value).ownBlock)) (n := t280.length) (c := co26) ?_).2.2; exact (by (with_reducible repeat (first | apply Kd.R_alloc | apply Kd.R_drewN | apply Kd.R_drew)); exact (Kd.R_mono (Kd.R_far (p := ⟨gb299, 1, none⟩) (Kd.R_far (p := ⟨gb299, 0, none⟩) (Kd.R_types HO282.out BK299.out (by decide)) (fun _ hk => hk.2) (.slice Ao37 t292.length co37)) (fun _ hk => hk.2) (.slice Ao42 t295.length co42)) (fun _ h_ => h_.1)))); (case side8 => exact (Kd.R_reads' HO282.out).2.1); rintro e w52 ⟨rfl, hb⟩; refine ⟨_, rfl, ?_⟩; replace HO273 := Aside0.mk (Kd.R_below (by (with_reducible repeat (first | apply Kd.R_alloc | apply Kd.R_drewN | apply Kd.R_drew)); exact (Kd.R_mono (Kd.R_far (p := ⟨gb299, 1, none⟩) (Kd.R_far (p := ⟨gb299, 0, none⟩) (Kd.R_types HO273.out BK299.out (by decide)) (fun _ hk => hk.2) (.slice Ao37 t292.length co37)) (fun _ hk => hk.2) (.slice Ao42 t295.length co42)) (fun _ h_ => h_.1))) hb); replace HO276 := Aside0.mk (Kd.R_below (by (with_reducible repeat (first | apply Kd.R_alloc | apply Kd.R_drewN | apply Kd.R_drew)); exact (Kd.R_mono (Kd.R_far (p := ⟨gb299, 1, none⟩) (Kd.R_far (p := ⟨gb299, 0, none⟩) (Kd.R_types HO276.out BK299.out (by decide)) (fun _ hk => hk.2) (.slice Ao37 t292.length co37)) (fun _ hk => hk.2) (.slice Ao42 t295.length co42)) (fun _ h_ => h_.1))) hb); replace HO279 := Aside0.mk (Kd.R_below (by (with_reducible repeat (first | apply Kd.R_alloc | apply Kd.R_drewN | apply Kd.R_drew)); exact (Kd.R_mono (Kd.R_far (p := ⟨gb299, 1, none⟩) (Kd.R_far (p := ⟨gb299, 0, none⟩) (Kd.R_types HO279.out BK299.out (by decide)) (fun _ hk => hk.2) (.slice Ao37 t292.length co37)) (fun _ hk => hk.2) (.slice Ao42 t295.length co42)) (fun _ h_ => h_.1))) hb); replace HO282 := Aside0.mk (Kd.R_below (by (with_reducible repeat (first | apply Kd.R_alloc | apply Kd.R_drewN | apply Kd.R_drew)); exact (Kd.R_mono (Kd.R_far (p := ⟨gb299, 1, none⟩) (Kd.R_far (p := ⟨gb299, 0, none⟩) (Kd.R_types HO282.out BK299.out (by decide)) (fun _ hk => hk.2) (.slice Ao37 t292.length co37)) (fun _ hk => hk.2) (.slice Ao42 t295.length co42)) (fun _ h_ => h_.1))) hb); replace HO287 := Aside0.mk (Kd.R_below (by (with_reducible repeat (first | apply Kd.R_alloc | apply Kd.R_drewN | apply Kd.R_drew)); exact (Kd.R_mono (Kd.R_far (p := ⟨gb299, 1, none⟩) (Kd.R_far (p := ⟨gb299, 0, none⟩) (Kd.R_types HO287.out BK299.out (by decide)) (fun _ hk => hk.2) (.slice Ao37 t292.length co37)) (fun _ hk => hk.2) (.slice Ao42 t295.length co42)) (fun _ h_ => h_.1))) hb); replace HO290 := Aside0.mk (Kd.R_below (by (with_reducible repeat (first | apply Kd.R_alloc | apply Kd.R_drewN | apply Kd.R_drew)); exact (Kd.R_mono (Kd.R_far (p := ⟨gb299, 1, none⟩) (Kd.R_far (p := ⟨gb299, 0, none⟩) (Kd.R_types HO290.out BK299.out (by decide)) (fun _ hk => hk.2) (.slice Ao37 t292.length co37)) (fun _ hk => hk.2) (.slice Ao42 t295.length co42)) (fun _ h_ => h_.1))) hb); replace HO294 := Aside0.mk (Kd.R_below (by (with_reducible repeat (first | apply Kd.R_alloc | apply Kd.R_drewN | apply Kd.R_drew)); exact (Kd.R_mono (Kd.R_far (p := ⟨gb299, 1, none⟩) (Kd.R_far (p := ⟨gb299, 0, none⟩) (Kd.R_types HO294.out BK299.out (by decide)) (fun _ hk => hk.2) (.slice Ao37 t292.length co37)) (fun _ hk => hk.2) (.slice Ao42 t295.length co42)) (fun _ h_ => h_.1))) hb); replace HO297 := Aside0.mk (Kd.R_below (by (with_reducible repeat (first | apply Kd.R_alloc | apply Kd.R_drewN | apply Kd.R_drew)); exact (Kd.R_mono (Kd.R_far (p := ⟨gb299, 1, none⟩) (Kd.R_far (p := ⟨gb299, 0, none⟩) (Kd.R_types HO297.out BK299.out (by decide)) (fun _ hk => hk.2) (.slice Ao37 t292.length co37)) (fun _ hk => hk.2) (.slice Ao42 t295.length co42)) (fun _ h_ => h_.1))) hb); replace BK269 := Aside0.mk (blk_below (g := gb269) (o := .cells #[.slice A0_0 l0_0.length c0_0, .slice A0_1 l0_1.length c0_1] 51 (0, 0)) (by (with_reducible repeat (first | refine blk_drewN ?_ _ | refine blk_drew ?_ | refine blk_alloc ?_ _)); refine blk_far ?_ NB269_299.out _; (with_reducible repeat (first | refine blk_drewN ?_ _ | refine blk_drew ?_ | refine blk_alloc ?_ _)); refine blk_far ?_ NB269_299.out _; (with_reducible repeat (first | refine blk_drewN ?_ _ | refine blk_drew ?_ | refine blk_alloc ?_ _)); exact BK269.out) hb); replace BK284 := Aside0.mk (blk_below (g := gb284) (o := .cells #[.slice Ao23 t277.length co23, .slice Ao26 t280.length co26] 54 (0, 0)) (by (with_reducible repeat (first | refine blk_drewN ?_ _ | refine blk_drew ?_ | refine blk_alloc ?_ _)); refine blk_far ?_ NB284_299.out _; (with_reducible repeat (first | refine blk_drewN ?_ _ | refine blk_drew ?_ | refine blk_alloc ?_ _)); refine blk_far ?_ NB284_299.out _; (with_reducible repeat (first | refine blk_drewN ?_ _ | refine blk_drew ?_ | refine blk_alloc ?_ _)); exact BK284.out) hb); replace BK291 := Aside0.mk (blk_below (g := gb291) (o := .cells #[.slice Ao30 t285.length co30, .slice Ao34 t288.length co34] 54 (0, 0)) (by (with_reducible repeat (first | refine blk_drewN ?_ _ | refine blk_drew ?_ | refine blk_alloc ?_ _)); refine blk_far ?_ NB291_299.out _; (with_reducible repeat (first | refine blk_drewN ?_ _ | refine blk_drew ?_ | refine blk_alloc ?_ _)); refine blk_far ?_ NB291_299.out _; (with_reducible repeat (first | refine blk_drewN ?_ _ | refine blk_drew ?_ | refine blk_alloc ?_ _)); exact BK291.out) hb); replace BK299 := Aside0.mk (blk_below (g := gb299) (o := .cells #[.slice Ao37 t292.length co37, .slice Ao42 t295.length co42] 54 (0, 0)) (by (with_reducible repeat (first | refine blk_drewN ?_ _ | refine blk_drew ?_ | refine blk_alloc ?_ _)); refine blk_put (cs := #[.slice Ao37 t292.length co37, .slice none 0 0]) ?_ 1 _ rfl; (with_reducible repeat (first | refine blk_drewN ?_ _ | refine blk_drew ?_ | refine blk_alloc ?_ _)); refine blk_put (cs := #[.slice none 0 0, .slice none 0 0]) ?_ 0 _ rfl; (with_reducible repeat (first | refine blk_drewN ?_ _ | refine blk_drew ?_ | refine blk_alloc ?_ _)); exact BK299.out) hb); replace HB := Aside0.mk (below_step (by repeat (first | (with_reducible first | exact HB.out | apply below_alloc | apply pw_below_drewN | apply below_drew1 | refine below_set ?_ GE269.out | refine below_set ?_ GE284.out | refine below_set ?_ GE291.out | refine below_set ?_ GE299.out) | exact HB.out)) hb); (try clear hb); (try clear hb2); (try clear hk); (try clear hi)))
    go_meet
    case rel => exact ⟨_, ((t298 != t283)), (by first | rfl | (simp; done) | (simp [*]; done)), H', ⟨by first | omega | exact Nat.le_refl _⟩, ⟨by (with_reducible repeat (first | apply Kd.R_alloc | apply Kd.R_drewN | apply Kd.R_drew)); exact Kd.R_mono HO279.out (fun _ hk => ⟨hk.1.2, hk.2⟩)⟩, ⟨by (with_reducible repeat (first | apply Kd.R_alloc | apply Kd.R_drewN | apply Kd.R_drew)); exact Kd.R_mono HO282.out (fun _ hk => ⟨hk.1.2, hk.2⟩)⟩, ⟨by (with_reducible repeat (first | apply Kd.R_alloc | apply Kd.R_drewN | apply Kd.R_drew)); exact Kd.R_mono HO287.out (fun _ hk => ⟨hk.1.2, hk.2⟩)⟩, ⟨by (with_reducible repeat (first | apply Kd.R_alloc | apply Kd.R_drewN | apply Kd.R_drew)); exact Kd.R_mono HO290.out (fun _ hk => ⟨hk.1.2, hk.2⟩)⟩, ⟨by (with_reducible repeat (first | apply Kd.R_alloc | apply Kd.R_drewN | apply Kd.R_drew)); exact Kd.R_mono HO294.out (fun _ hk => ⟨hk.1.2, hk.2⟩)⟩, ⟨by (with_reducible repeat (first | apply Kd.R_alloc | apply Kd.R_drewN | apply Kd.R_drew)); exact Kd.R_mono HO297.out (fun _ hk => ⟨hk.1.2, hk.2⟩)⟩, ⟨by (with_reducible repeat (first | refine blk_drewN ?_ _ | refine blk_drew ?_ | refine blk_alloc ?_ _)); exact BK269.out⟩, ⟨by (with_reducible repeat (first | refine blk_drewN ?_ _ | refine blk_drew ?_ | refine blk_alloc ?_ _)); exact BK284.out⟩, ⟨by (with_reducible repeat (first | refine blk_drewN ?_ _ | refine blk_drew ?_ | refine blk_alloc ?_ _)); exact BK291.out⟩, ⟨by (with_reducible repeat (first | refine blk_drewN ?_ _ | refine blk_drew ?_ | refine blk_alloc ?_ _)); exact BK299.out⟩, ⟨by repeat (first | (with_reducible first | exact HB.out | apply below_alloc | apply pw_below_drewN | apply below_drew1 | refine below_set ?_ GE269.out | refine below_set ?_ GE284.out | refine below_set ?_ GE291.out | refine below_set ?_ GE299.out) | exact HB.out)⟩⟩
   ·replace c44 := Bool.eq_false_iff.mpr c44
    subst c44
    have H1 : (laws_FnExactFillGap.j0 k a1 a2 t283 t298 true l0_0 l0_1 t277 t280 t285 t288 t292 t295) = some r := by rw [if_neg (show ¬ (false = true) by decide)] at H; exact H
    clear H
    have H := H1
    clear H1
    have H' := Aside0.mk H
    clear H
    have hnb53 := NB299_269.out
    have hnc53 := NB269_299.out
    have hnb54 := NB299_284.out
    have hnc54 := NB284_299.out
    have hnb55 := NB299_291.out
    have hnc55 := NB291_299.out
    have hcz56_0 : w36.cell? ⟨gb299, 0, none⟩ = some (.slice none 0 0) := (blk_cell BK299.out 0).trans rfl
    have hcz56_1 : w36.cell? ⟨gb299, 1, none⟩ = some (.slice none 0 0) := (blk_cell BK299.out 1).trans rfl
    have hfz56_0 := blk_frozen BK299.out 0
    have hfz56_1 := blk_frozen BK299.out 1
    have hnb57 := NB284_269.out
    have hnc57 := NB269_284.out
    have hnb58 := NB284_291.out
    have hnc58 := NB291_284.out
    have hcz59_0 : w36.cell? ⟨gb284, 0, none⟩ = some (.slice Ao23 t277.length co23) := (blk_cell BK284.out 0).trans rfl
    have hcz59_1 : w36.cell? ⟨gb284, 1, none⟩ = some (.slice Ao26 t280.length co26) := (blk_cell BK284.out 1).trans rfl
    have hfz59_0 := blk_frozen BK284.out 0
    have hfz59_1 := blk_frozen BK284.out 1
    go_wp2_with (first | ((with_reducible refine gate_callee (f := 41) rfl ?_); refine goesL_ (some 42) rfl rfl Try.func41 (by kernel_rfl) rfl #[.agg #[.slice Ao37 t292.length co37, .slice Ao42 t295.length co42], .agg #[.slice Ao23 t277.length co23, .slice Ao26 t280.length co26]] rfl (by (try simp only [List.map_toArray, List.map_cons, List.map_nil]); first | done | rfl | (simp only [List.length_drop, List.length_take]; rfl)) ?_; (with_reducible refine (laws_eqPuzzle.calls k _ _ t292 _ _ t295 _ _ t277 _ _ t280 false _ ?side1 ?side2 ?side3 ?side4 ?side5 ?side6 ?side7 ?side8 A43.out).mono ?_); (case side1 => refine (Kd.R_reads' (e := 25) (base := w.heap.size) (ok := fun k_ => (((True ∧ some k_ ≠ (.slice Ao19 t271.length co19 : Value).ownBlock) ∧ some k_ ≠ (.slice Ao23 t277.length co23 : Value).ownBlock) ∧ some k_ ≠ (.slice Ao30 t285.length co30 : Value).ownBlock)) (n := t292.length) (c := co37) ?_).2.2; exact (by (with_reducible repeat (first | apply Kd.R_alloc | apply Kd.R_drewN | apply Kd.R_drew)); exact (Kd.R_mono (Kd.R_far (p := ⟨gb299, 1, none⟩) (Kd.R_far (p := ⟨gb299, 0, none⟩) (Kd.R_types HO294.out BK299.out (by decide)) (fun _ hk => hk.2) (.slice Ao37 t292.length co37)) (fun _ hk => hk.2) (.slice Ao42 t295.length co42)) (fun _ h_ => h_.1)))); (case side2 => exact (Kd.R_reads' HO294.out).2.1); (case side3 => refine (Kd.R_reads' (e := 3) (base := w.heap.size) (ok := fun k_ => (((True ∧ some k_ ≠ (.slice Ao20 t274.length co20 : Value).ownBlock) ∧ some k_ ≠ (.slice Ao26 t280.length co26 : Value).ownBlock) ∧ some k_ ≠ (.slice Ao34 t288.length co34 : Value).ownBlock)) (n := t295.length) (c := co42) ?_).2.2; exact (by (with_reducible repeat (first | apply Kd.R_alloc | apply Kd.R_drewN | apply Kd.R_drew)); exact (Kd.R_mono (Kd.R_far (p := ⟨gb299, 1, none⟩) (Kd.R_far (p := ⟨gb299, 0, none⟩) (Kd.R_types HO297.out BK299.out (by decide)) (fun _ hk => hk.2) (.slice Ao37 t292.length co37)) (fun _ hk => hk.2) (.slice Ao42 t295.length co42)) (fun _ h_ => h_.1)))); (case side4 => exact (Kd.R_reads' HO297.out).2.1); (case side5 => refine (Kd.R_reads' (e := 25) (base := w.heap.size) (ok := fun k_ => (((True ∧ some k_ ≠ (.slice Ao19 t271.length co19 : Value).ownBlock) ∧ some k_ ≠ (.slice Ao30 t285.length co30 : Value).ownBlock) ∧ some k_ ≠ (.slice Ao37 t292.length co37 : Value).ownBlock)) (n := t277.length) (c := co23) ?_).2.2; exact (by (with_reducible repeat (first | apply Kd.R_alloc | apply Kd.R_drewN | apply Kd.R_drew)); exact (Kd.R_mono (Kd.R_far (p := ⟨gb299, 1, none⟩) (Kd.R_far (p := ⟨gb299, 0, none⟩) (Kd.R_types HO279.out BK299.out (by decide)) (fun _ hk => hk.2) (.slice Ao37 t292.length co37)) (fun _ hk => hk.2) (.slice Ao42 t295.length co42)) (fun _ h_ => h_.1)))); (case side6 => exact (Kd.R_reads' HO279.out).2.1); (case side7 => refine (Kd.R_reads' (e := 3) (base := w.heap.size) (ok := fun k_ => (((True ∧ some k_ ≠ (.slice Ao20 t274.length co20 : Value).ownBlock) ∧ some k_ ≠ (.slice Ao34 t288.length co34 : Value).ownBlock) ∧ some k_ ≠ (.slice Ao42 t295.length co42 : Value).ownBlock)) (n := t280.length) (c := co26) ?_).2.2; exact (by (with_reducible repeat (first | apply Kd.R_alloc | apply Kd.R_drewN | apply Kd.R_drew)); exact (Kd.R_mono (Kd.R_far (p := ⟨gb299, 1, none⟩) (Kd.R_far (p := ⟨gb299, 0, none⟩) (Kd.R_types HO282.out BK299.out (by decide)) (fun _ hk => hk.2) (.slice Ao37 t292.length co37)) (fun _ hk => hk.2) (.slice Ao42 t295.length co42)) (fun _ h_ => h_.1)))); (case side8 => exact (Kd.R_reads' HO282.out).2.1); rintro e w60 ⟨rfl, hb⟩; refine ⟨_, rfl, ?_⟩; replace HO273 := Aside0.mk (Kd.R_below (by (with_reducible repeat (first | apply Kd.R_alloc | apply Kd.R_drewN | apply Kd.R_drew)); exact (Kd.R_mono (Kd.R_far (p := ⟨gb299, 1, none⟩) (Kd.R_far (p := ⟨gb299, 0, none⟩) (Kd.R_types HO273.out BK299.out (by decide)) (fun _ hk => hk.2) (.slice Ao37 t292.length co37)) (fun _ hk => hk.2) (.slice Ao42 t295.length co42)) (fun _ h_ => h_.1))) hb); replace HO276 := Aside0.mk (Kd.R_below (by (with_reducible repeat (first | apply Kd.R_alloc | apply Kd.R_drewN | apply Kd.R_drew)); exact (Kd.R_mono (Kd.R_far (p := ⟨gb299, 1, none⟩) (Kd.R_far (p := ⟨gb299, 0, none⟩) (Kd.R_types HO276.out BK299.out (by decide)) (fun _ hk => hk.2) (.slice Ao37 t292.length co37)) (fun _ hk => hk.2) (.slice Ao42 t295.length co42)) (fun _ h_ => h_.1))) hb); replace HO279 := Aside0.mk (Kd.R_below (by (with_reducible repeat (first | apply Kd.R_alloc | apply Kd.R_drewN | apply Kd.R_drew)); exact (Kd.R_mono (Kd.R_far (p := ⟨gb299, 1, none⟩) (Kd.R_far (p := ⟨gb299, 0, none⟩) (Kd.R_types HO279.out BK299.out (by decide)) (fun _ hk => hk.2) (.slice Ao37 t292.length co37)) (fun _ hk => hk.2) (.slice Ao42 t295.length co42)) (fun _ h_ => h_.1))) hb); replace HO282 := Aside0.mk (Kd.R_below (by (with_reducible repeat (first | apply Kd.R_alloc | apply Kd.R_drewN | apply Kd.R_drew)); exact (Kd.R_mono (Kd.R_far (p := ⟨gb299, 1, none⟩) (Kd.R_far (p := ⟨gb299, 0, none⟩) (Kd.R_types HO282.out BK299.out (by decide)) (fun _ hk => hk.2) (.slice Ao37 t292.length co37)) (fun _ hk => hk.2) (.slice Ao42 t295.length co42)) (fun _ h_ => h_.1))) hb); replace HO287 := Aside0.mk (Kd.R_below (by (with_reducible repeat (first | apply Kd.R_alloc | apply Kd.R_drewN | apply Kd.R_drew)); exact (Kd.R_mono (Kd.R_far (p := ⟨gb299, 1, none⟩) (Kd.R_far (p := ⟨gb299, 0, none⟩) (Kd.R_types HO287.out BK299.out (by decide)) (fun _ hk => hk.2) (.slice Ao37 t292.length co37)) (fun _ hk => hk.2) (.slice Ao42 t295.length co42)) (fun _ h_ => h_.1))) hb); replace HO290 := Aside0.mk (Kd.R_below (by (with_reducible repeat (first | apply Kd.R_alloc | apply Kd.R_drewN | apply Kd.R_drew)); exact (Kd.R_mono (Kd.R_far (p := ⟨gb299, 1, none⟩) (Kd.R_far (p := ⟨gb299, 0, none⟩) (Kd.R_types HO290.out BK299.out (by decide)) (fun _ hk => hk.2) (.slice Ao37 t292.length co37)) (fun _ hk => hk.2) (.slice Ao42 t295.length co42)) (fun _ h_ => h_.1))) hb); replace HO294 := Aside0.mk (Kd.R_below (by (with_reducible repeat (first | apply Kd.R_alloc | apply Kd.R_drewN | apply Kd.R_drew)); exact (Kd.R_mono (Kd.R_far (p := ⟨gb299, 1, none⟩) (Kd.R_far (p := ⟨gb299, 0, none⟩) (Kd.R_types HO294.out BK299.out (by decide)) (fun _ hk => hk.2) (.slice Ao37 t292.length co37)) (fun _ hk => hk.2) (.slice Ao42 t295.length co42)) (fun _ h_ => h_.1))) hb); replace HO297 := Aside0.mk (Kd.R_below (by (with_reducible repeat (first | apply Kd.R_alloc | apply Kd.R_drewN | apply Kd.R_drew)); exact (Kd.R_mono (Kd.R_far (p := ⟨gb299, 1, none⟩) (Kd.R_far (p := ⟨gb299, 0, none⟩) (Kd.R_types HO297.out BK299.out (by decide)) (fun _ hk => hk.2) (.slice Ao37 t292.length co37)) (fun _ hk => hk.2) (.slice Ao42 t295.length co42)) (fun _ h_ => h_.1))) hb); replace BK269 := Aside0.mk (blk_below (g := gb269) (o := .cells #[.slice A0_0 l0_0.length c0_0, .slice A0_1 l0_1.length c0_1] 51 (0, 0)) (by (with_reducible repeat (first | refine blk_drewN ?_ _ | refine blk_drew ?_ | refine blk_alloc ?_ _)); refine blk_far ?_ NB269_299.out _; (with_reducible repeat (first | refine blk_drewN ?_ _ | refine blk_drew ?_ | refine blk_alloc ?_ _)); refine blk_far ?_ NB269_299.out _; (with_reducible repeat (first | refine blk_drewN ?_ _ | refine blk_drew ?_ | refine blk_alloc ?_ _)); exact BK269.out) hb); replace BK284 := Aside0.mk (blk_below (g := gb284) (o := .cells #[.slice Ao23 t277.length co23, .slice Ao26 t280.length co26] 54 (0, 0)) (by (with_reducible repeat (first | refine blk_drewN ?_ _ | refine blk_drew ?_ | refine blk_alloc ?_ _)); refine blk_far ?_ NB284_299.out _; (with_reducible repeat (first | refine blk_drewN ?_ _ | refine blk_drew ?_ | refine blk_alloc ?_ _)); refine blk_far ?_ NB284_299.out _; (with_reducible repeat (first | refine blk_drewN ?_ _ | refine blk_drew ?_ | refine blk_alloc ?_ _)); exact BK284.out) hb); replace BK291 := Aside0.mk (blk_below (g := gb291) (o := .cells #[.slice Ao30 t285.length co30, .slice Ao34 t288.length co34] 54 (0, 0)) (by (with_reducible repeat (first | refine blk_drewN ?_ _ | refine blk_drew ?_ | refine blk_alloc ?_ _)); refine blk_far ?_ NB291_299.out _; (with_reducible repeat (first | refine blk_drewN ?_ _ | refine blk_drew ?_ | refine blk_alloc ?_ _)); refine blk_far ?_ NB291_299.out _; (with_reducible repeat (first | refine blk_drewN ?_ _ | refine blk_drew ?_ | refine blk_alloc ?_ _)); exact BK291.out) hb); replace BK299 := Aside0.mk (blk_below (g := gb299) (o := .cells #[.slice Ao37 t292.length co37, .slice Ao42 t295.length co42] 54 (0, 0)) (by (with_reducible repeat (first | refine blk_drewN ?_ _ | refine blk_drew ?_ | refine blk_alloc ?_ _)); refine blk_put (cs := #[.slice Ao37 t292.length co37, .slice none 0 0]) ?_ 1 _ rfl; (with_reducible repeat (first | refine blk_drewN ?_ _ | refine blk_drew ?_ | refine blk_alloc ?_ _)); refine blk_put (cs := #[.slice none 0 0, .slice none 0 0]) ?_ 0 _ rfl; (with_reducible repeat (first | refine blk_drewN ?_ _ | refine blk_drew ?_ | refine blk_alloc ?_ _)); exact BK299.out) hb); replace HB := Aside0.mk (below_step (by repeat (first | (with_reducible first | exact HB.out | apply below_alloc | apply pw_below_drewN | apply below_drew1 | refine below_set ?_ GE269.out | refine below_set ?_ GE284.out | refine below_set ?_ GE291.out | refine below_set ?_ GE299.out) | exact HB.out)) hb); (try clear hb); (try clear hb2); (try clear hk); (try clear hi)))
    go_meet
    case rel => exact ⟨_, (true), (by first | rfl | (simp; done) | (simp [*]; done)), H', ⟨by first | omega | exact Nat.le_refl _⟩, ⟨by (with_reducible repeat (first | apply Kd.R_alloc | apply Kd.R_drewN | apply Kd.R_drew)); exact Kd.R_mono HO279.out (fun _ hk => ⟨hk.1.2, hk.2⟩)⟩, ⟨by (with_reducible repeat (first | apply Kd.R_alloc | apply Kd.R_drewN | apply Kd.R_drew)); exact Kd.R_mono HO282.out (fun _ hk => ⟨hk.1.2, hk.2⟩)⟩, ⟨by (with_reducible repeat (first | apply Kd.R_alloc | apply Kd.R_drewN | apply Kd.R_drew)); exact Kd.R_mono HO287.out (fun _ hk => ⟨hk.1.2, hk.2⟩)⟩, ⟨by (with_reducible repeat (first | apply Kd.R_alloc | apply Kd.R_drewN | apply Kd.R_drew)); exact Kd.R_mono HO290.out (fun _ hk => ⟨hk.1.2, hk.2⟩)⟩, ⟨by (with_reducible repeat (first | apply Kd.R_alloc | apply Kd.R_drewN | apply Kd.R_drew)); exact Kd.R_mono HO294.out (fun _ hk => ⟨hk.1.2, hk.2⟩)⟩, ⟨by (with_reducible repeat (first | apply Kd.R_alloc | apply Kd.R_drewN | apply Kd.R_drew)); exact Kd.R_mono HO297.out (fun _ hk => ⟨hk.1.2, hk.2⟩)⟩, ⟨by (with_reducible repeat (first | refine blk_drewN ?_ _ | refine blk_drew ?_ | refine blk_alloc ?_ _)); exact BK269.out⟩, ⟨by (with_reducible repeat (first | refine blk_drewN ?_ _ | refine blk_drew ?_ | refine blk_alloc ?_ _)); exact BK284.out⟩, ⟨by (with_reducible repeat (first | refine blk_drewN ?_ _ | refine blk_drew ?_ | refine blk_alloc ?_ _)); exact BK291.out⟩, ⟨by (with_reducible repeat (first | refine blk_drewN ?_ _ | refine blk_drew ?_ | refine blk_alloc ?_ _)); exact BK299.out⟩, ⟨by repeat (first | (with_reducible first | exact HB.out | apply below_alloc | apply pw_below_drewN | apply below_drew1 | refine below_set ?_ GE269.out | refine below_set ?_ GE284.out | refine below_set ?_ GE291.out | refine below_set ?_ GE299.out) | exact HB.out)⟩⟩
  case rest =>
   clear HC13
   try clear c2
   try clear p2
   try clear c3
   try clear c4
   try clear c5
   try clear c5b0
   try clear c6
   try clear c7
   try clear c24
   try clear c31
   try clear c32
   try clear c37
   try clear c38
   try clear c39
   try clear c40
   try clear c41
   try clear c44
   try clear c45
   try clear c46
   try clear c47
   try clear c49
   try clear c50
   try clear c53
   try clear c54
   try clear c55
   try clear c57
   try clear c58
   try clear hcz15_0
   try clear hcz15_1
   try clear hcz17_0
   try clear hcz17_1
   try clear hcz25_0
   try clear hcz25_1
   try clear hcz27_0
   try clear hcz27_1
   try clear hcz33_0
   try clear hcz33_1
   try clear hcz41_0
   try clear hcz41_1
   try clear hcz48_0
   try clear hcz48_1
   try clear hcz51_0
   try clear hcz51_1
   try clear hcz56_0
   try clear hcz56_1
   try clear hcz59_0
   try clear hcz59_1
   try clear hcz7_0
   try clear hcz7_1
   try clear hfz15_0
   try clear hfz15_1
   try clear hfz17_0
   try clear hfz17_1
   try clear hfz25_0
   try clear hfz25_1
   try clear hfz27_0
   try clear hfz27_1
   try clear hfz33_0
   try clear hfz33_1
   try clear hfz41_0
   try clear hfz41_1
   try clear hfz48_0
   try clear hfz48_1
   try clear hfz51_0
   try clear hfz51_1
   try clear hfz56_0
   try clear hfz56_1
   try clear hfz59_0
   try clear hfz59_1
   try clear hfz7_0
   try clear hfz7_1
   obtain ⟨kq, x48_12, rfl, HA, HJ12, HO_285000, HO_285001, HO_292000, HO_292001, HO_300000, HO_300001, BK269, BK284, BK291, BK299, HB⟩ := hcut
   cases kq with
   | zero => exact absurd HA.out (by simp [laws_FnExactFillGap.j0])
   | succ kj12 =>
    have H := HA.out
    clear HA
    simp only [laws_FnExactFillGap.j0] at H
    by_cases c61 : x48_12 = true
    ·subst c61
     have H1 : (none) = some r := by rw [if_pos rfl] at H; exact H
     clear H
     have H := H1
     clear H1
     exact absurd H (by simp)
    ·replace c61 := Bool.eq_false_iff.mpr c61
     subst c61
     have H1 : ((laws_toPuzzle.f kj12 l0_0 l0_1).bind fun bt301 => ((laws_eqPuzzle.f kj12 t285 t288 bt301.1 bt301.2).bind fun t307 => (if t307 = true then ((laws_markPuzzle.f kj12 t285 t288 1).bind fun bt308 => (if bt308.1 < 0 then (laws_FnExactFillGap.j1 kj12 a1 a2 t283 true l0_0 l0_1 t277 t280 t292 t295) else ((laws_eqPuzzle.f kj12 t292 t295 t277 t280).bind fun t311 => (if t311 = true then (laws_FnExactFillGap.j1 kj12 a1 a2 t283 (t298 != t283) l0_0 l0_1 t277 t280 t292 t295) else (laws_FnExactFillGap.j1 kj12 a1 a2 t283 true l0_0 l0_1 t277 t280 t292 t295))))) else (none)))) = some r := by rw [if_neg (show ¬ (false = true) by decide)] at H; exact H
     clear H
     have H := H1
     clear H1
     replace H := Option.bind_eq_some_iff.mp H
     obtain ⟨⟨t301, t304⟩, A620, H⟩ := H
     replace H : ((laws_eqPuzzle.f kj12 t285 t288 t301 t304).bind fun t307 => (if t307 = true then ((laws_markPuzzle.f kj12 t285 t288 1).bind fun bt308 => (if bt308.1 < 0 then (laws_FnExactFillGap.j1 kj12 a1 a2 t283 true l0_0 l0_1 t277 t280 t292 t295) else ((laws_eqPuzzle.f kj12 t292 t295 t277 t280).bind fun t311 => (if t311 = true then (laws_FnExactFillGap.j1 kj12 a1 a2 t283 (t298 != t283) l0_0 l0_1 t277 t280 t292 t295) else (laws_FnExactFillGap.j1 kj12 a1 a2 t283 true l0_0 l0_1 t277 t280 t292 t295))))) else (none))) = some r := H
     have A62 := Aside0.mk A620
     clear A620
     replace H := Option.bind_eq_some_iff.mp H
     obtain ⟨t307, A630, H⟩ := H
     replace H : (if t307 = true then ((laws_markPuzzle.f kj12 t285 t288 1).bind fun bt308 => (if bt308.1 < 0 then (laws_FnExactFillGap.j1 kj12 a1 a2 t283 true l0_0 l0_1 t277 t280 t292 t295) else ((laws_eqPuzzle.f kj12 t292 t295 t277 t280).bind fun t311 => (if t311 = true then (laws_FnExactFillGap.j1 kj12 a1 a2 t283 (t298 != t283) l0_0 l0_1 t277 t280 t292 t295) else (laws_FnExactFillGap.j1 kj12 a1 a2 t283 true l0_0 l0_1 t277 t280 t292 t295))))) else (none)) = some r := H
     have A63 := Aside0.mk A630
     clear A630
     by_cases c64 : t307 = true
     ·subst c64
      have H1 : ((laws_markPuzzle.f kj12 t285 t288 1).bind fun bt308 => (if bt308.1 < 0 then (laws_FnExactFillGap.j1 kj12 a1 a2 t283 true l0_0 l0_1 t277 t280 t292 t295) else ((laws_eqPuzzle.f kj12 t292 t295 t277 t280).bind fun t311 => (if t311 = true then (laws_FnExactFillGap.j1 kj12 a1 a2 t283 (t298 != t283) l0_0 l0_1 t277 t280 t292 t295) else (laws_FnExactFillGap.j1 kj12 a1 a2 t283 true l0_0 l0_1 t277 t280 t292 t295))))) = some r := by rw [if_pos rfl] at H; exact H
      clear H
      have H := H1
      clear H1
      replace H := Option.bind_eq_some_iff.mp H
      obtain ⟨⟨t308, t309, t310⟩, A650, H⟩ := H
      replace H : (if t308 < 0 then (laws_FnExactFillGap.j1 kj12 a1 a2 t283 true l0_0 l0_1 t277 t280 t292 t295) else ((laws_eqPuzzle.f kj12 t292 t295 t277 t280).bind fun t311 => (if t311 = true then (laws_FnExactFillGap.j1 kj12 a1 a2 t283 (t298 != t283) l0_0 l0_1 t277 t280 t292 t295) else (laws_FnExactFillGap.j1 kj12 a1 a2 t283 true l0_0 l0_1 t277 t280 t292 t295)))) = some r := H
      have A65 := Aside0.mk A650
      clear A650
      have HC66 := Aside0.mk H
      clear H
      try go_wp2
      replace HO_285000 := Aside0.mk (Kd.R_drew HO_285000.out)
      replace HO_285001 := Aside0.mk (Kd.R_drew HO_285001.out)
      replace HO_292000 := Aside0.mk (Kd.R_drew HO_292000.out)
      replace HO_292001 := Aside0.mk (Kd.R_drew HO_292001.out)
      replace HO_300000 := Aside0.mk (Kd.R_drew HO_300000.out)
      replace HO_300001 := Aside0.mk (Kd.R_drew HO_300001.out)
      replace BK269 := Aside0.mk (blk_drew BK269.out)
      replace BK284 := Aside0.mk (blk_drew BK284.out)
      replace BK291 := Aside0.mk (blk_drew BK291.out)
      replace BK299 := Aside0.mk (blk_drew BK299.out)
      replace HB := Aside0.mk (below_drew1 HB.out)
      refine start_ (n := 5) (S := fun w' => w'.cell? ⟨gb291, 0, none⟩ = some (.slice Ao30 t285.length co30) ∧ w'.cell? ⟨gb291, 1, none⟩ = some (.slice Ao34 t288.length co34) ∧ w'.cell? ⟨gb269, 0, none⟩ = some (.slice A0_0 l0_0.length c0_0) ∧ w'.cell? ⟨gb269, 1, none⟩ = some (.slice A0_1 l0_1.length c0_1)) (ds := []) #[false, false, false, false, false] (by kernel_rfl) rfl rfl ⟨(blk_cell BK291.out 0).trans rfl, (blk_cell BK291.out 1).trans rfl, (blk_cell BK269.out 0).trans rfl, (blk_cell BK269.out 1).trans rfl⟩ (fun hHeld => ?_)
      generalize wc.drew = w67 at HO_285000 HO_285001 HO_292000 HO_292001 HO_300000 HO_300001 BK269 BK284 BK291 BK299 HB hHeld ⊢
      refine take_ (i := 0) (N := some 49) (v := ?_) (a' := ?_) #[true, false, false, false, false] rfl rfl (by kernel_rfl) (fun _ _ _ h => h) (Or.inl ⟨by rfl, ?_⟩) hHeld ?_ ?_
      rotate_left
      ·rintro w' ⟨s0, s1, s2, s3⟩
       go_simp
       with_reducible rfl
      rotate_left
      ·simp only [Act.put, List.setIfInBounds_toArray, List.set_cons_zero, List.set_cons_succ, i64_w, i32_w]
       rfl
      refine take_ (i := 1) (N := some 50) (v := ?_) (a' := ?_) #[true, true, false, false, false] rfl rfl (by kernel_rfl) (fun _ _ _ h => h) (Or.inl ⟨by rfl, ?_⟩) hHeld ?_ ?_
      rotate_left
      ·rintro w' ⟨s0, s1, s2, s3⟩
       go_simp
       with_reducible rfl
      rotate_left
      ·simp only [Act.put, List.setIfInBounds_toArray, List.set_cons_zero, List.set_cons_succ, i64_w, i32_w]
       rfl
      refine one_ (i := 2) (N := some 51) #[true, true, true, false, false] rfl rfl (by kernel_rfl) (by decide) (fun K hK => ?_)
      refine goes_ Try.func39 (by kernel_rfl) rfl #[.agg #[.slice A0_0 l0_0.length c0_0, .slice A0_1 l0_1.length c0_1]] (by rfl) rfl rfl (by (try simp only [List.map_toArray, List.map_cons, List.map_nil]); first | done | rfl | (simp only [List.length_drop, List.length_take]; rfl)) ?_
      with_reducible refine (laws_toPuzzle.calls kj12 _ _ l0_0 _ _ l0_1 t301 t304 _ ?side1 ?side2 ?side3 ?side4 A62.out).mono ?_
      (case side1 => repeat (first | exact (Kd.C_below HR0_0.out HB.out) | (with_reducible refine Kd.C_alloc ?_ _) | (with_reducible refine Kd.C_drewN ?_ _) | (with_reducible refine Kd.C_drew ?_)))
      (case side2 => exact HC0_0.out)
      (case side3 => repeat (first | exact (Kd.C_below HR0_1.out HB.out) | (with_reducible refine Kd.C_alloc ?_ _) | (with_reducible refine Kd.C_drewN ?_ _) | (with_reducible refine Kd.C_drew ?_)))
      (case side4 => exact HC0_1.out)
      rintro e w68 ⟨v302, v305, rfl, ho0, ho1, hb⟩
      refine ⟨_, rfl, ?_⟩
      have HO303 := Aside0.mk (Kd.R_lower (Kd.R_new' (Kd.R_new' (Kd.R_new' ho0 (Kd.R_lt (by (with_reducible repeat (first | apply Kd.R_alloc | apply Kd.R_drewN | apply Kd.R_drew)); exact HO_285000.out))) (Kd.R_lt (by (with_reducible repeat (first | apply Kd.R_alloc | apply Kd.R_drewN | apply Kd.R_drew)); exact HO_292000.out))) (Kd.R_lt (by (with_reducible repeat (first | apply Kd.R_alloc | apply Kd.R_drewN | apply Kd.R_drew)); exact HO_300000.out))) (below_size (by repeat (first | (with_reducible first | exact HB.out | apply below_alloc | apply pw_below_drewN | apply below_drew1 | refine below_set ?_ GE269.out | refine below_set ?_ GE284.out | refine below_set ?_ GE291.out | refine below_set ?_ GE299.out) | exact HB.out))))
      replace HO_285000 := Aside0.mk (Kd.R_elder' (by (with_reducible repeat (first | apply Kd.R_alloc | apply Kd.R_drewN | apply Kd.R_drew)); exact HO_285000.out) (Kd.R_base ho0) hb)
      replace HO_292000 := Aside0.mk (Kd.R_elder' (by (with_reducible repeat (first | apply Kd.R_alloc | apply Kd.R_drewN | apply Kd.R_drew)); exact HO_292000.out) (Kd.R_base ho0) hb)
      replace HO_300000 := Aside0.mk (Kd.R_elder' (by (with_reducible repeat (first | apply Kd.R_alloc | apply Kd.R_drewN | apply Kd.R_drew)); exact HO_300000.out) (Kd.R_base ho0) hb)
      have HO306 := Aside0.mk (Kd.R_lower (Kd.R_new' (Kd.R_new' (Kd.R_new' ho1 (Kd.R_lt (by (with_reducible repeat (first | apply Kd.R_alloc | apply Kd.R_drewN | apply Kd.R_drew)); exact HO_285001.out))) (Kd.R_lt (by (with_reducible repeat (first | apply Kd.R_alloc | apply Kd.R_drewN | apply Kd.R_drew)); exact HO_292001.out))) (Kd.R_lt (by (with_reducible repeat (first | apply Kd.R_alloc | apply Kd.R_drewN | apply Kd.R_drew)); exact HO_300001.out))) (below_size (by repeat (first | (with_reducible first | exact HB.out | apply below_alloc | apply pw_below_drewN | apply below_drew1 | refine below_set ?_ GE269.out | refine below_set ?_ GE284.out | refine below_set ?_ GE291.out | refine below_set ?_ GE299.out) | exact HB.out))))
      replace HO_285001 := Aside0.mk (Kd.R_elder' (by (with_reducible repeat (first | apply Kd.R_alloc | apply Kd.R_drewN | apply Kd.R_drew)); exact HO_285001.out) (Kd.R_base ho1) hb)
      replace HO_292001 := Aside0.mk (Kd.R_elder' (by (with_reducible repeat (first | apply Kd.R_alloc | apply Kd.R_drewN | apply Kd.R_drew)); exact HO_292001.out) (Kd.R_base ho1) hb)
      replace HO_300001 := Aside0.mk (Kd.R_elder' (by (with_reducible repeat (first | apply Kd.R_alloc | apply Kd.R_drewN | apply Kd.R_drew)); exact HO_300001.out) (Kd.R_base ho1) hb)
      replace BK269 := Aside0.mk (blk_below (g := gb269) (o := .cells #[.slice A0_0 l0_0.length c0_0, .slice A0_1 l0_1.length c0_1] 51 (0, 0)) (by (with_reducible repeat (first | refine blk_drewN ?_ _ | refine blk_drew ?_ | refine blk_alloc ?_ _)); exact BK269.out) hb)
      replace BK284 := Aside0.mk (blk_below (g := gb284) (o := .cells #[.slice Ao23 t277.length co23, .slice Ao26 t280.length co26] 54 (0, 0)) (by (with_reducible repeat (first | refine blk_drewN ?_ _ | refine blk_drew ?_ | refine blk_alloc ?_ _)); exact BK284.out) hb)
      replace BK291 := Aside0.mk (blk_below (g := gb291) (o := .cells #[.slice Ao30 t285.length co30, .slice Ao34 t288.length co34] 54 (0, 0)) (by (with_reducible repeat (first | refine blk_drewN ?_ _ | refine blk_drew ?_ | refine blk_alloc ?_ _)); exact BK291.out) hb)
      replace BK299 := Aside0.mk (blk_below (g := gb299) (o := .cells #[.slice Ao37 t292.length co37, .slice Ao42 t295.length co42] 54 (0, 0)) (by (with_reducible repeat (first | refine blk_drewN ?_ _ | refine blk_drew ?_ | refine blk_alloc ?_ _)); exact BK299.out) hb)
      replace HB := Aside0.mk (below_step (by repeat (first | (with_reducible first | exact HB.out | apply below_alloc | apply pw_below_drewN | apply below_drew1 | refine below_set ?_ GE269.out | refine below_set ?_ GE284.out | refine below_set ?_ GE291.out | refine below_set ?_ GE299.out) | exact HB.out)) hb)
      (try clear hb)
      (try clear hb2)
      (try clear hk)
      (try clear hi)
      (try clear ho0)
      (try clear ho1)
      obtain ⟨Ao69, co69, eo69⟩ := Kd.R_slice HO303.out
      (first | subst eo69 | (injection eo69 with f1_ f2_ f3_; have f4_ := f1_.symm; have f5_ := f3_.symm; clear f1_ f2_ f3_; subst f4_; subst f5_))
      obtain ⟨Ao70, co70, eo70⟩ := Kd.R_slice HO306.out
      (first | subst eo70 | (injection eo70 with f1_ f2_ f3_; have f4_ := f1_.symm; have f5_ := f3_.symm; clear f1_ f2_ f3_; subst f4_; subst f5_))
      refine hK.out _ _ ⟨(blk_cell BK291.out 0).trans rfl, (blk_cell BK291.out 1).trans rfl, (blk_cell BK269.out 0).trans rfl, (blk_cell BK269.out 1).trans rfl⟩ (fun hHeld => ?_)
      clear hK K
      refine norm_ (a' := ?_) ?_ ?_
      rotate_left
      ·show Act.put _ (some 51) _ = _
       simp only [Act.put, List.setIfInBounds_toArray, List.set_cons_zero, List.set_cons_succ, i64_w, i32_w]
       rfl
      refine one_ (i := 3) (N := some 52) #[true, true, true, true, false] rfl rfl (by kernel_rfl) (by decide) (fun K hK => ?_)
      refine goes_ Try.func41 (by kernel_rfl) rfl #[.agg #[.slice Ao30 t285.length co30, .slice Ao34 t288.length co34], .agg #[.slice Ao69 t301.length co69, .slice Ao70 t304.length co70]] (by rfl) rfl rfl (by (try simp only [List.map_toArray, List.map_cons, List.map_nil]); first | done | rfl | (simp only [List.length_drop, List.length_take]; rfl)) ?_
      with_reducible refine (laws_eqPuzzle.calls kj12 _ _ t285 _ _ t288 _ _ t301 _ _ t304 true _ ?side1 ?side2 ?side3 ?side4 ?side5 ?side6 ?side7 ?side8 A63.out).mono ?_
      (case side1 => repeat (first | exact (Kd.R_reads' HO_292000.out).2.2 | (with_reducible refine Kd.C_alloc ?_ _) | (with_reducible refine Kd.C_drewN ?_ _) | (with_reducible refine Kd.C_drew ?_)))
      (case side2 => exact (Kd.R_reads' HO_292000.out).2.1)
      (case side3 => repeat (first | exact (Kd.R_reads' HO_292001.out).2.2 | (with_reducible refine Kd.C_alloc ?_ _) | (with_reducible refine Kd.C_drewN ?_ _) | (with_reducible refine Kd.C_drew ?_)))
      (case side4 => exact (Kd.R_reads' HO_292001.out).2.1)
      (case side5 => repeat (first | exact (Kd.R_reads' HO303.out).2.2 | (with_reducible refine Kd.C_alloc ?_ _) | (with_reducible refine Kd.C_drewN ?_ _) | (with_reducible refine Kd.C_drew ?_)))
      (case side6 => exact (Kd.R_reads' HO303.out).2.1)
      (case side7 => repeat (first | exact (Kd.R_reads' HO306.out).2.2 | (with_reducible refine Kd.C_alloc ?_ _) | (with_reducible refine Kd.C_drewN ?_ _) | (with_reducible refine Kd.C_drew ?_)))
      (case side8 => exact (Kd.R_reads' HO306.out).2.1)
      rintro e w71 ⟨rfl, hb⟩
      refine ⟨_, rfl, ?_⟩
      replace HO_285000 := Aside0.mk (Kd.R_below (by (with_reducible repeat (first | apply Kd.R_alloc | apply Kd.R_drewN | apply Kd.R_drew)); exact HO_285000.out) hb)
      replace HO_285001 := Aside0.mk (Kd.R_below (by (with_reducible repeat (first | apply Kd.R_alloc | apply Kd.R_drewN | apply Kd.R_drew)); exact HO_285001.out) hb)
      replace HO_292000 := Aside0.mk (Kd.R_below (by (with_reducible repeat (first | apply Kd.R_alloc | apply Kd.R_drewN | apply Kd.R_drew)); exact HO_292000.out) hb)
      replace HO_292001 := Aside0.mk (Kd.R_below (by (with_reducible repeat (first | apply Kd.R_alloc | apply Kd.R_drewN | apply Kd.R_drew)); exact HO_292001.out) hb)
      replace HO_300000 := Aside0.mk (Kd.R_below (by (with_reducible repeat (first | apply Kd.R_alloc | apply Kd.R_drewN | apply Kd.R_drew)); exact HO_300000.out) hb)
      replace HO_300001 := Aside0.mk (Kd.R_below (by (with_reducible repeat (first | apply Kd.R_alloc | apply Kd.R_drewN | apply Kd.R_drew)); exact HO_300001.out) hb)
      replace HO303 := Aside0.mk (Kd.R_below (by (with_reducible repeat (first | apply Kd.R_alloc | apply Kd.R_drewN | apply Kd.R_drew)); exact HO303.out) hb)
      replace HO306 := Aside0.mk (Kd.R_below (by (with_reducible repeat (first | apply Kd.R_alloc | apply Kd.R_drewN | apply Kd.R_drew)); exact HO306.out) hb)
      replace BK269 := Aside0.mk (blk_below (g := gb269) (o := .cells #[.slice A0_0 l0_0.length c0_0, .slice A0_1 l0_1.length c0_1] 51 (0, 0)) (by (with_reducible repeat (first | refine blk_drewN ?_ _ | refine blk_drew ?_ | refine blk_alloc ?_ _)); exact BK269.out) hb)
      replace BK284 := Aside0.mk (blk_below (g := gb284) (o := .cells #[.slice Ao23 t277.length co23, .slice Ao26 t280.length co26] 54 (0, 0)) (by (with_reducible repeat (first | refine blk_drewN ?_ _ | refine blk_drew ?_ | refine blk_alloc ?_ _)); exact BK284.out) hb)
      replace BK291 := Aside0.mk (blk_below (g := gb291) (o := .cells #[.slice Ao30 t285.length co30, .slice Ao34 t288.length co34] 54 (0, 0)) (by (with_reducible repeat (first | refine blk_drewN ?_ _ | refine blk_drew ?_ | refine blk_alloc ?_ _)); exact BK291.out) hb)
      replace BK299 := Aside0.mk (blk_below (g := gb299) (o := .cells #[.slice Ao37 t292.length co37, .slice Ao42 t295.length co42] 54 (0, 0)) (by (with_reducible repeat (first | refine blk_drewN ?_ _ | refine blk_drew ?_ | refine blk_alloc ?_ _)); exact BK299.out) hb)
      replace HB := Aside0.mk (below_step (by repeat (first | (with_reducible first | exact HB.out | apply below_alloc | apply pw_below_drewN | apply below_drew1 | refine below_set ?_ GE269.out | refine below_set ?_ GE284.out | refine below_set ?_ GE291.out | refine below_set ?_ GE299.out) | exact HB.out)) hb)
      (try clear hb)
      (try clear hb2)
      (try clear hk)
      (try clear hi)
      refine hK.out _ _ ⟨(blk_cell BK291.out 0).trans rfl, (blk_cell BK291.out 1).trans rfl, (blk_cell BK269.out 0).trans rfl, (blk_cell BK269.out 1).trans rfl⟩ (fun hHeld => ?_)
      clear hK K
      refine norm_ (a' := ?_) ?_ ?_
      rotate_left
      ·show Act.put _ (some 52) _ = _
       simp only [Act.put, List.setIfInBounds_toArray, List.set_cons_zero, List.set_cons_succ, i64_w, i32_w]
       rfl
      refine pure_ (i := 4) (N := some 53) (v := ?_) (a' := ?_) #[true, true, true, true, true] rfl rfl (by kernel_rfl) (fun _ _ _ h => h) (Or.inl ⟨by rfl, ?_⟩) ?_ ?_
      rotate_left
      ·intro w'
       go_simp
       with_reducible rfl
      rotate_left
      ·simp only [Act.put, List.setIfInBounds_toArray, List.set_cons_zero, List.set_cons_succ, i64_w, i32_w]
       rfl
      refine done_ (by kernel_rfl) ?_
      have hnb72 := NB291_269.out
      have hnc72 := NB269_291.out
      have hnb73 := NB291_284.out
      have hnc73 := NB284_291.out
      have hnb74 := NB291_299.out
      have hnc74 := NB299_291.out
      have hcz75_0 : w71.cell? ⟨gb291, 0, none⟩ = some (.slice Ao30 t285.length co30) := (blk_cell BK291.out 0).trans rfl
      have hcz75_1 : w71.cell? ⟨gb291, 1, none⟩ = some (.slice Ao34 t288.length co34) := (blk_cell BK291.out 1).trans rfl
      have hfz75_0 := blk_frozen BK291.out 0
      have hfz75_1 := blk_frozen BK291.out 1
      go_upto_region 14 with (first | ((with_reducible refine gate_callee (f := 42) rfl ?_); refine goesL_ (some 56) rfl rfl Try.func42 (by kernel_rfl) rfl #[.agg #[.slice Ao30 t285.length co30, .slice Ao34 t288.length co34], .int .i64 1] rfl (by (try simp only [List.map_toArray, List.map_cons, List.map_nil]); first | done | rfl | (simp only [List.length_drop, List.length_take]; rfl)) ?_; (with_reducible refine (laws_markPuzzle.calls kj12 (fun k_ => some k_ = (.slice Ao30 t285.length co30 : Value).ownBlock) (.slice Ao30 t285.length co30) t285 (fun k_ => some k_ = (.slice Ao34 t288.length co34 : Value).ownBlock) (.slice Ao34 t288.length co34) t288 1 t308 t309 t310 w _ ?side1 ?side2 ?side3 A65.out).mono ?_); (case side1 => repeat (first | (with_reducible first | exact HB.out | apply below_alloc | apply pw_below_drewN | apply below_drew1 | refine below_set ?_ GE269.out | refine below_set ?_ GE284.out | refine below_set ?_ GE291.out | refine below_set ?_ GE299.out) | exact HB.out)); (case side2 => exact Kd.R_tight rfl HO_292000.out); (case side3 => exact Kd.R_tight rfl HO_292001.out); rintro e w76 ⟨rfl, hy0, hy1, hb, hkp⟩; refine ⟨_, rfl, ?_⟩; replace HO_285000 := Aside0.mk (Kd.R_mono (ok' := fun k_ => some k_ ≠ (.slice Ao30 t285.length co30 : Value).ownBlock ∧ some k_ ≠ (.slice Ao37 t292.length co37 : Value).ownBlock ∧ some k_ ≠ (.slice Ao69 t301.length co69 : Value).ownBlock) (Kd.R_keptB ((Kd.R_apart' HO_285000.out (Kd.R_typed HO_292001.out) (by decide))) hkp (fun k_ hk_ hs_ => Or.elim hs_ (fun e_ => (hk_.1.1.1) e_) (fun e_ => (hk_.2) e_))) (fun k_ hk_ => ⟨hk_.1.1.1.1, hk_.1.1.1.2, hk_.1.1.2⟩)); replace HO_285001 := Aside0.mk (Kd.R_mono (ok' := fun k_ => some k_ ≠ (.slice Ao34 t288.length co34 : Value).ownBlock ∧ some k_ ≠ (.slice Ao42 t295.length co42 : Value).ownBlock ∧ some k_ ≠ (.slice Ao70 t304.length co70 : Value).ownBlock) (Kd.R_keptB ((Kd.R_apart' HO_285001.out (Kd.R_typed HO_292000.out) (by decide))) hkp (fun k_ hk_ hs_ => Or.elim hs_ (fun e_ => (hk_.2) e_) (fun e_ => (hk_.1.1.1) e_))) (fun k_ hk_ => ⟨hk_.1.1.1.1, hk_.1.1.1.2, hk_.1.1.2⟩)); replace HO_300000 := Aside0.mk (Kd.R_mono (ok' := fun k_ => some k_ ≠ (.slice Ao23 t277.length co23 : Value).ownBlock ∧ some k_ ≠ (.slice Ao30 t285.length co30 : Value).ownBlock ∧ some k_ ≠ (.slice Ao69 t301.length co69 : Value).ownBlock) (Kd.R_keptB ((Kd.R_apart' HO_300000.out (Kd.R_typed HO_292001.out) (by decide))) hkp (fun k_ hk_ hs_ => Or.elim hs_ (fun e_ => (hk_.1.1.2) e_) (fun e_ => (hk_.2) e_))) (fun k_ hk_ => ⟨hk_.1.1.1.1, hk_.1.1.1.2, hk_.1.1.2⟩)); replace HO_300001 := Aside0.mk (Kd.R_mono (ok' := fun k_ => some k_ ≠ (.slice Ao26 t280.length co26 : Value).ownBlock ∧ some k_ ≠ (.slice Ao34 t288.length co34 : Value).ownBlock ∧ some k_ ≠ (.slice Ao70 t304.length co70 : Value).ownBlock) (Kd.R_keptB ((Kd.R_apart' HO_300001.out (Kd.R_typed HO_292000.out) (by decide))) hkp (fun k_ hk_ hs_ => Or.elim hs_ (fun e_ => (hk_.2) e_) (fun e_ => (hk_.1.1.2) e_))) (fun k_ hk_ => ⟨hk_.1.1.1.1, hk_.1.1.1.2, hk_.1.1.2⟩)); replace BK269 := Aside0.mk (blk_kept (by (with_reducible repeat (first | refine blk_drewN ?_ _ | refine blk_drew ?_ | refine blk_alloc ?_ _)); exact BK269.out) hkp (fun hs_ => Or.elim hs_ (fun e_ => (fun e_ => (Kd.R_ne HO_292000.out BK269.out (by decide)) e_) e_) (fun e_ => (fun e_ => (Kd.R_ne HO_292001.out BK269.out (by decide)) e_) e_))); replace BK284 := Aside0.mk (blk_kept (by (with_reducible repeat (first | refine blk_drewN ?_ _ | refine blk_drew ?_ | refine blk_alloc ?_ _)); exact BK284.out) hkp (fun hs_ => Or.elim hs_ (fun e_ => (fun e_ => (Kd.R_ne HO_292000.out BK284.out (by decide)) e_) e_) (fun e_ => (fun e_ => (Kd.R_ne HO_292001.out BK284.out (by decide)) e_) e_))); replace BK291 := Aside0.mk (blk_kept (by (with_reducible repeat (first | refine blk_drewN ?_ _ | refine blk_drew ?_ | refine blk_alloc ?_ _)); exact BK291.out) hkp (fun hs_ => Or.elim hs_ (fun e_ => (fun e_ => (Kd.R_ne HO_292000.out BK291.out (by decide)) e_) e_) (fun e_ => (fun e_ => (Kd.R_ne HO_292001.out BK291.out (by decide)) e_) e_))); replace BK299 := Aside0.mk (blk_kept (by (with_reducible repeat (first | refine blk_drewN ?_ _ | refine blk_drew ?_ | refine blk_alloc ?_ _)); exact BK299.out) hkp (fun hs_ => Or.elim hs_ (fun e_ => (fun e_ => (Kd.R_ne HO_292000.out BK299.out (by decide)) e_) e_) (fun e_ => (fun e_ => (Kd.R_ne HO_292001.out BK299.out (by decide)) e_) e_))); replace HO303 := Aside0.mk (Kd.R_mono (ok' := fun k_ => some k_ ≠ (.slice Ao23 t277.length co23 : Value).ownBlock ∧ some k_ ≠ (.slice Ao30 t285.length co30 : Value).ownBlock ∧ some k_ ≠ (.slice Ao37 t292.length co37 : Value).ownBlock) (Kd.R_keptB ((Kd.R_apart' HO303.out (Kd.R_typed HO_292001.out) (by decide))) hkp (fun k_ hk_ hs_ => Or.elim hs_ (fun e_ => (hk_.1.1.2) e_) (fun e_ => (hk_.2) e_))) (fun k_ hk_ => ⟨hk_.1.1.1.1.2, hk_.1.1.1.2, hk_.1.1.2⟩)); replace HO_292001 := Aside0.mk (Kd.R_reok rfl hy1 (fun k_ e_ => HO_292001.out.1 k_ e_)); replace HO306 := Aside0.mk (Kd.R_mono (ok' := fun k_ => some k_ ≠ (.slice Ao26 t280.length co26 : Value).ownBlock ∧ some k_ ≠ (.slice Ao34 t288.length co34 : Value).ownBlock ∧ some k_ ≠ (.slice Ao42 t295.length co42 : Value).ownBlock) (Kd.R_keptB ((Kd.R_apart' HO306.out (Kd.R_typed HO_292000.out) (by decide))) hkp (fun k_ hk_ hs_ => Or.elim hs_ (fun e_ => (hk_.2) e_) (fun e_ => (hk_.1.1.2) e_))) (fun k_ hk_ => ⟨hk_.1.1.1.1.2, hk_.1.1.1.2, hk_.1.1.2⟩)); replace HO_292000 := Aside0.mk (Kd.R_reok rfl hy0 (fun k_ e_ => HO_292000.out.1 k_ e_)); replace HB := Aside0.mk (hb); (try clear hb); (try clear hkp); (try clear hy0); (try clear hy1)))
      (try simp only [Act.put, List.setIfInBounds_toArray, List.set_cons_zero, List.set_cons_succ])
      go_cut [69] (fun v69 wc => ∃ (kq : Nat) (x69_65 : Bool), v69 = .bool x69_65 ∧ Aside0 (laws_FnExactFillGap.j1 kq a1 a2 t283 x69_65 l0_0 l0_1 t277 t280 t292 t295 = some r) ∧ Aside0 (kq ≤ kj12) ∧ Aside0 (Kd.R k25 25 wc w.heap.size (fun k_ => some k_ ≠ ((.slice Ao30 t285.length co30) : Value).ownBlock ∧ some k_ ≠ ((.slice Ao37 t292.length co37) : Value).ownBlock) (.slice Ao23 t277.length co23) t277) ∧ Aside0 (Kd.R (Kd.int .i64) 3 wc w.heap.size (fun k_ => some k_ ≠ ((.slice Ao34 t288.length co34) : Value).ownBlock ∧ some k_ ≠ ((.slice Ao42 t295.length co42) : Value).ownBlock) (.slice Ao26 t280.length co26) t280) ∧ Aside0 (Kd.R k25 25 wc w.heap.size (fun k_ => some k_ ≠ ((.slice Ao23 t277.length co23) : Value).ownBlock ∧ some k_ ≠ ((.slice Ao37 t292.length co37) : Value).ownBlock) (.slice Ao30 t285.length co30) t309) ∧ Aside0 (Kd.R (Kd.int .i64) 3 wc w.heap.size (fun k_ => some k_ ≠ ((.slice Ao26 t280.length co26) : Value).ownBlock ∧ some k_ ≠ ((.slice Ao42 t295.length co42) : Value).ownBlock) (.slice Ao34 t288.length co34) t310) ∧ Aside0 (Kd.R k25 25 wc w.heap.size (fun k_ => some k_ ≠ ((.slice Ao23 t277.length co23) : Value).ownBlock ∧ some k_ ≠ ((.slice Ao30 t285.length co30) : Value).ownBlock) (.slice Ao37 t292.length co37) t292) ∧ Aside0 (Kd.R (Kd.int .i64) 3 wc w.heap.size (fun k_ => some k_ ≠ ((.slice Ao26 t280.length co26) : Value).ownBlock ∧ some k_ ≠ ((.slice Ao34 t288.length co34) : Value).ownBlock) (.slice Ao42 t295.length co42) t295) ∧ Aside0 (wc.heap[gb269]? = some (.cells #[(.slice A0_0 l0_0.length c0_0), (.slice A0_1 l0_1.length c0_1)] 51 (0, 0))) ∧ Aside0 (wc.heap[gb284]? = some (.cells #[(.slice Ao23 t277.length co23), (.slice Ao26 t280.length co26)] 54 (0, 0))) ∧ Aside0 (wc.heap[gb291]? = some (.cells #[(.slice Ao30 t285.length co30), (.slice Ao34 t288.length co34)] 54 (0, 0))) ∧ Aside0 (wc.heap[gb299]? = some (.cells #[(.slice Ao37 t292.length co37), (.slice Ao42 t295.length co42)] 54 (0, 0))) ∧ Aside0 (Below w.heap.size w wc))
      case first =>
       have H := HC66.out
       clear HC66
       by_cases c77 : t308 < 0
       ·rw [if_pos c77] at H
        have c77b0 : decide (t308 < 0) = true := decide_eq_true c77
        clear c77
        (first | rw [c77b0] | (simp only [i64_w, i32_w]; rw [c77b0]) | skip)
        have H' := Aside0.mk H
        clear H
        go_wp2
        go_meet
        case rel => exact ⟨_, (true), (by first | rfl | (simp; done) | (simp [*]; done)), H', ⟨by have := HJ12.out; first | omega | exact Nat.le_refl _⟩, ⟨by (with_reducible repeat (first | apply Kd.R_alloc | apply Kd.R_drewN | apply Kd.R_drew)); exact Kd.R_mono HO_285000.out (fun _ hk => ⟨hk.1, hk.2.1⟩)⟩, ⟨by (with_reducible repeat (first | apply Kd.R_alloc | apply Kd.R_drewN | apply Kd.R_drew)); exact Kd.R_mono HO_285001.out (fun _ hk => ⟨hk.1, hk.2.1⟩)⟩, ⟨by (with_reducible repeat (first | apply Kd.R_alloc | apply Kd.R_drewN | apply Kd.R_drew)); exact Kd.R_mono HO_292000.out (fun _ hk => ⟨hk.1.1, hk.1.2⟩)⟩, ⟨by (with_reducible repeat (first | apply Kd.R_alloc | apply Kd.R_drewN | apply Kd.R_drew)); exact Kd.R_mono HO_292001.out (fun _ hk => ⟨hk.1.1, hk.1.2⟩)⟩, ⟨by (with_reducible repeat (first | apply Kd.R_alloc | apply Kd.R_drewN | apply Kd.R_drew)); exact Kd.R_mono HO_300000.out (fun _ hk => ⟨hk.1, hk.2.1⟩)⟩, ⟨by (with_reducible repeat (first | apply Kd.R_alloc | apply Kd.R_drewN | apply Kd.R_drew)); exact Kd.R_mono HO_300001.out (fun _ hk => ⟨hk.1, hk.2.1⟩)⟩, ⟨by (with_reducible repeat (first | refine blk_drewN ?_ _ | refine blk_drew ?_ | refine blk_alloc ?_ _)); exact BK269.out⟩, ⟨by (with_reducible repeat (first | refine blk_drewN ?_ _ | refine blk_drew ?_ | refine blk_alloc ?_ _)); exact BK284.out⟩, ⟨by (with_reducible repeat (first | refine blk_drewN ?_ _ | refine blk_drew ?_ | refine blk_alloc ?_ _)); exact BK291.out⟩, ⟨by (with_reducible repeat (first | refine blk_drewN ?_ _ | refine blk_drew ?_ | refine blk_alloc ?_ _)); exact BK299.out⟩, ⟨by repeat (first | (with_reducible first | exact HB.out | apply below_alloc | apply pw_below_drewN | apply below_drew1 | refine below_set ?_ GE269.out | refine below_set ?_ GE284.out | refine below_set ?_ GE291.out | refine below_set ?_ GE299.out) | exact HB.out)⟩⟩
       ·rw [if_neg c77] at H
        have c77b0 : decide (t308 < 0) = false := decide_eq_false c77
        clear c77
        (first | rw [c77b0] | (simp only [i64_w, i32_w]; rw [c77b0]) | skip)
        replace H := Option.bind_eq_some_iff.mp H
        obtain ⟨t311, A780, H⟩ := H
        replace H : (if t311 = true then (laws_FnExactFillGap.j1 kj12 a1 a2 t283 (t298 != t283) l0_0 l0_1 t277 t280 t292 t295) else (laws_FnExactFillGap.j1 kj12 a1 a2 t283 true l0_0 l0_1 t277 t280 t292 t295)) = some r := H
        have A78 := Aside0.mk A780
        clear A780
        by_cases c79 : t311 = true
        ·subst c79
         have H1 : (laws_FnExactFillGap.j1 kj12 a1 a2 t283 (t298 != t283) l0_0 l0_1 t277 t280 t292 t295) = some r := by rw [if_pos rfl] at H; exact H
         clear H
         have H := H1
         clear H1
         have H' := Aside0.mk H
         clear H
         have hnb80 := NB299_269.out
         have hnc80 := NB269_299.out
         have hnb81 := NB299_284.out
         have hnc81 := NB284_299.out
         have hnb82 := NB299_291.out
         have hnc82 := NB291_299.out
         have hcz83_0 : w76.cell? ⟨gb299, 0, none⟩ = some (.slice Ao37 t292.length co37) := (blk_cell BK299.out 0).trans rfl
         have hcz83_1 : w76.cell? ⟨gb299, 1, none⟩ = some (.slice Ao42 t295.length co42) := (blk_cell BK299.out 1).trans rfl
         have hfz83_0 := blk_frozen BK299.out 0
         have hfz83_1 := blk_frozen BK299.out 1
         have hnb84 := NB284_269.out
         have hnc84 := NB269_284.out
         have hnb85 := NB284_291.out
         have hnc85 := NB291_284.out
         have hcz86_0 : w76.cell? ⟨gb284, 0, none⟩ = some (.slice Ao23 t277.length co23) := (blk_cell BK284.out 0).trans rfl
         have hcz86_1 : w76.cell? ⟨gb284, 1, none⟩ = some (.slice Ao26 t280.length co26) := (blk_cell BK284.out 1).trans rfl
         have hfz86_0 := blk_frozen BK284.out 0
         have hfz86_1 := blk_frozen BK284.out 1
         go_wp2_with (first | (go_at_call 41; (with_reducible refine (laws_eqPuzzle.calls kj12 _ _ t292 _ _ t295 _ _ t277 _ _ t280 true _ ?side1 ?side2 ?side3 ?side4 ?side5 ?side6 ?side7 ?side8 A78.out).mono ?_); (case side1 => repeat (first | exact (Kd.R_reads' HO_300000.out).2.2 | (with_reducible refine Kd.C_alloc ?_ _) | (with_reducible refine Kd.C_drewN ?_ _) | (with_reducible refine Kd.C_drew ?_))); (case side2 => exact (Kd.R_reads' HO_300000.out).2.1); (case side3 => repeat (first | exact (Kd.R_reads' HO_300001.out).2.2 | (with_reducible refine Kd.C_alloc ?_ _) | (with_reducible refine Kd.C_drewN ?_ _) | (with_reducible refine Kd.C_drew ?_))); (case side4 => exact (Kd.R_reads' HO_300001.out).2.1); (case side5 => repeat (first | exact (Kd.R_reads' HO_285000.out).2.2 | (with_reducible refine Kd.C_alloc ?_ _) | (with_reducible refine Kd.C_drewN ?_ _) | (with_reducible refine Kd.C_drew ?_))); (case side6 => exact (Kd.R_reads' HO_285000.out).2.1); (case side7 => repeat (first | exact (Kd.R_reads' HO_285001.out).2.2 | (with_reducible refine Kd.C_alloc ?_ _) | (with_reducible refine Kd.C_drewN ?_ _) | (with_reducible refine Kd.C_drew ?_))); (case side8 => exact (Kd.R_reads' HO_285001.out).2.1); rintro e w87 ⟨rfl, hb⟩; replace HO_285000 := Aside0.mk (Kd.R_below (by (with_reducible repeat (first | apply Kd.R_alloc | apply Kd.R_drewN | apply Kd.R_drew)); exact HO_285000.out) hb); replace HO_285001 := Aside0.mk (Kd.R_below (by (with_reducible repeat (first | apply Kd.R_alloc | apply Kd.R_drewN | apply Kd.R_drew)); exact HO_285001.out) hb); replace HO_292000 := Aside0.mk (Kd.R_below (by (with_reducible repeat (first | apply Kd.R_alloc | apply Kd.R_drewN | apply Kd.R_drew)); exact HO_292000.out) hb); replace HO_292001 := Aside0.mk (Kd.R_below (by (with_reducible repeat (first | apply Kd.R_alloc | apply Kd.R_drewN | apply Kd.R_drew)); exact HO_292001.out) hb); replace HO_300000 := Aside0.mk (Kd.R_below (by (with_reducible repeat (first | apply Kd.R_alloc | apply Kd.R_drewN | apply Kd.R_drew)); exact HO_300000.out) hb); replace HO_300001 := Aside0.mk (Kd.R_below (by (with_reducible repeat (first | apply Kd.R_alloc | apply Kd.R_drewN | apply Kd.R_drew)); exact HO_300001.out) hb); replace HO303 := Aside0.mk (Kd.R_below (by (with_reducible repeat (first | apply Kd.R_alloc | apply Kd.R_drewN | apply Kd.R_drew)); exact HO303.out) hb); replace HO306 := Aside0.mk (Kd.R_below (by (with_reducible repeat (first | apply Kd.R_alloc | apply Kd.R_drewN | apply Kd.R_drew)); exact HO306.out) hb); replace BK269 := Aside0.mk (blk_below (g := gb269) (o := .cells #[.slice A0_0 l0_0.length c0_0, .slice A0_1 l0_1.length c0_1] 51 (0, 0)) (by (with_reducible repeat (first | refine blk_drewN ?_ _ | refine blk_drew ?_ | refine blk_alloc ?_ _)); exact BK269.out) hb); replace BK284 := Aside0.mk (blk_below (g := gb284) (o := .cells #[.slice Ao23 t277.length co23, .slice Ao26 t280.length co26] 54 (0, 0)) (by (with_reducible repeat (first | refine blk_drewN ?_ _ | refine blk_drew ?_ | refine blk_alloc ?_ _)); exact BK284.out) hb); replace BK291 := Aside0.mk (blk_below (g := gb291) (o := .cells #[.slice Ao30 t285.length co30, .slice Ao34 t288.length co34] 54 (0, 0)) (by (with_reducible repeat (first | refine blk_drewN ?_ _ | refine blk_drew ?_ | refine blk_alloc ?_ _)); exact BK291.out) hb); replace BK299 := Aside0.mk (blk_below (g := gb299) (o := .cells #[.slice Ao37 t292.length co37, .slice Ao42 t295.length co42] 54 (0, 0)) (by (with_reducible repeat (first | refine blk_drewN ?_ _ | refine blk_drew ?_ | refine blk_alloc ?_ _)); exact BK299.out) hb); replace HB := Aside0.mk (below_step (by repeat (first | (with_reducible first | exact HB.out | apply below_alloc | apply pw_below_drewN | apply below_drew1 | refine below_set ?_ GE269.out | refine below_set ?_ GE284.out | refine below_set ?_ GE291.out | refine below_set ?_ GE299.out) | exact HB.out)) hb); (try clear hb); (try clear hb2); (try clear hk); (try clear hi)))
         go_meet
         case rel => exact ⟨_, ((t298 != t283)), (by first | rfl | (simp; done) | (simp [*]; done)), H', ⟨by have := HJ12.out; first | omega | exact Nat.le_refl _⟩, ⟨by (with_reducible repeat (first | apply Kd.R_alloc | apply Kd.R_drewN | apply Kd.R_drew)); exact Kd.R_mono HO_285000.out (fun _ hk => ⟨hk.1, hk.2.1⟩)⟩, ⟨by (with_reducible repeat (first | apply Kd.R_alloc | apply Kd.R_drewN | apply Kd.R_drew)); exact Kd.R_mono HO_285001.out (fun _ hk => ⟨hk.1, hk.2.1⟩)⟩, ⟨by (with_reducible repeat (first | apply Kd.R_alloc | apply Kd.R_drewN | apply Kd.R_drew)); exact Kd.R_mono HO_292000.out (fun _ hk => ⟨hk.1.1, hk.1.2⟩)⟩, ⟨by (with_reducible repeat (first | apply Kd.R_alloc | apply Kd.R_drewN | apply Kd.R_drew)); exact Kd.R_mono HO_292001.out (fun _ hk => ⟨hk.1.1, hk.1.2⟩)⟩, ⟨by (with_reducible repeat (first | apply Kd.R_alloc | apply Kd.R_drewN | apply Kd.R_drew)); exact Kd.R_mono HO_300000.out (fun _ hk => ⟨hk.1, hk.2.1⟩)⟩, ⟨by (with_reducible repeat (first | apply Kd.R_alloc | apply Kd.R_drewN | apply Kd.R_drew)); exact Kd.R_mono HO_300001.out (fun _ hk => ⟨hk.1, hk.2.1⟩)⟩, ⟨by (with_reducible repeat (first | refine blk_drewN ?_ _ | refine blk_drew ?_ | refine blk_alloc ?_ _)); exact BK269.out⟩, ⟨by (with_reducible repeat (first | refine blk_drewN ?_ _ | refine blk_drew ?_ | refine blk_alloc ?_ _)); exact BK284.out⟩, ⟨by (with_reducible repeat (first | refine blk_drewN ?_ _ | refine blk_drew ?_ | refine blk_alloc ?_ _)); exact BK291.out⟩, ⟨by (with_reducible repeat (first | refine blk_drewN ?_ _ | refine blk_drew ?_ | refine blk_alloc ?_ _)); exact BK299.out⟩, ⟨by repeat (first | (with_reducible first | exact HB.out | apply below_alloc | apply pw_below_drewN | apply below_drew1 | refine below_set ?_ GE269.out | refine below_set ?_ GE284.out | refine below_set ?_ GE291.out | refine below_set ?_ GE299.out) | exact HB.out)⟩⟩
        ·replace c79 := Bool.eq_false_iff.mpr c79
         subst c79
         have H1 : (laws_FnExactFillGap.j1 kj12 a1 a2 t283 true l0_0 l0_1 t277 t280 t292 t295) = some r := by rw [if_neg (show ¬ (false = true) by decide)] at H; exact H
         clear H
         have H := H1
         clear H1
         have H' := Aside0.mk H
         clear H
         have hnb88 := NB299_269.out
         have hnc88 := NB269_299.out
         have hnb89 := NB299_284.out
         have hnc89 := NB284_299.out
         have hnb90 := NB299_291.out
         have hnc90 := NB291_299.out
         have hcz91_0 : w76.cell? ⟨gb299, 0, none⟩ = some (.slice Ao37 t292.length co37) := (blk_cell BK299.out 0).trans rfl
         have hcz91_1 : w76.cell? ⟨gb299, 1, none⟩ = some (.slice Ao42 t295.length co42) := (blk_cell BK299.out 1).trans rfl
         have hfz91_0 := blk_frozen BK299.out 0
         have hfz91_1 := blk_frozen BK299.out 1
         have hnb92 := NB284_269.out
         have hnc92 := NB269_284.out
         have hnb93 := NB284_291.out
         have hnc93 := NB291_284.out
         have hcz94_0 : w76.cell? ⟨gb284, 0, none⟩ = some (.slice Ao23 t277.length co23) := (blk_cell BK284.out 0).trans rfl
         have hcz94_1 : w76.cell? ⟨gb284, 1, none⟩ = some (.slice Ao26 t280.length co26) := (blk_cell BK284.out 1).trans rfl
         have hfz94_0 := blk_frozen BK284.out 0
         have hfz94_1 := blk_frozen BK284.out 1
         go_wp2_with (first | (go_at_call 41; (with_reducible refine (laws_eqPuzzle.calls kj12 _ _ t292 _ _ t295 _ _ t277 _ _ t280 false _ ?side1 ?side2 ?side3 ?side4 ?side5 ?side6 ?side7 ?side8 A78.out).mono ?_); (case side1 => repeat (first | exact (Kd.R_reads' HO_300000.out).2.2 | (with_reducible refine Kd.C_alloc ?_ _) | (with_reducible refine Kd.C_drewN ?_ _) | (with_reducible refine Kd.C_drew ?_))); (case side2 => exact (Kd.R_reads' HO_300000.out).2.1); (case side3 => repeat (first | exact (Kd.R_reads' HO_300001.out).2.2 | (with_reducible refine Kd.C_alloc ?_ _) | (with_reducible refine Kd.C_drewN ?_ _) | (with_reducible refine Kd.C_drew ?_))); (case side4 => exact (Kd.R_reads' HO_300001.out).2.1); (case side5 => repeat (first | exact (Kd.R_reads' HO_285000.out).2.2 | (with_reducible refine Kd.C_alloc ?_ _) | (with_reducible refine Kd.C_drewN ?_ _) | (with_reducible refine Kd.C_drew ?_))); (case side6 => exact (Kd.R_reads' HO_285000.out).2.1); (case side7 => repeat (first | exact (Kd.R_reads' HO_285001.out).2.2 | (with_reducible refine Kd.C_alloc ?_ _) | (with_reducible refine Kd.C_drewN ?_ _) | (with_reducible refine Kd.C_drew ?_))); (case side8 => exact (Kd.R_reads' HO_285001.out).2.1); rintro e w95 ⟨rfl, hb⟩; replace HO_285000 := Aside0.mk (Kd.R_below (by (with_reducible repeat (first | apply Kd.R_alloc | apply Kd.R_drewN | apply Kd.R_drew)); exact HO_285000.out) hb); replace HO_285001 := Aside0.mk (Kd.R_below (by (with_reducible repeat (first | apply Kd.R_alloc | apply Kd.R_drewN | apply Kd.R_drew)); exact HO_285001.out) hb); replace HO_292000 := Aside0.mk (Kd.R_below (by (with_reducible repeat (first | apply Kd.R_alloc | apply Kd.R_drewN | apply Kd.R_drew)); exact HO_292000.out) hb); replace HO_292001 := Aside0.mk (Kd.R_below (by (with_reducible repeat (first | apply Kd.R_alloc | apply Kd.R_drewN | apply Kd.R_drew)); exact HO_292001.out) hb); replace HO_300000 := Aside0.mk (Kd.R_below (by (with_reducible repeat (first | apply Kd.R_alloc | apply Kd.R_drewN | apply Kd.R_drew)); exact HO_300000.out) hb); replace HO_300001 := Aside0.mk (Kd.R_below (by (with_reducible repeat (first | apply Kd.R_alloc | apply Kd.R_drewN | apply Kd.R_drew)); exact HO_300001.out) hb); replace HO303 := Aside0.mk (Kd.R_below (by (with_reducible repeat (first | apply Kd.R_alloc | apply Kd.R_drewN | apply Kd.R_drew)); exact HO303.out) hb); replace HO306 := Aside0.mk (Kd.R_below (by (with_reducible repeat (first | apply Kd.R_alloc | apply Kd.R_drewN | apply Kd.R_drew)); exact HO306.out) hb); replace BK269 := Aside0.mk (blk_below (g := gb269) (o := .cells #[.slice A0_0 l0_0.length c0_0, .slice A0_1 l0_1.length c0_1] 51 (0, 0)) (by (with_reducible repeat (first | refine blk_drewN ?_ _ | refine blk_drew ?_ | refine blk_alloc ?_ _)); exact BK269.out) hb); replace BK284 := Aside0.mk (blk_below (g := gb284) (o := .cells #[.slice Ao23 t277.length co23, .slice Ao26 t280.length co26] 54 (0, 0)) (by (with_reducible repeat (first | refine blk_drewN ?_ _ | refine blk_drew ?_ | refine blk_alloc ?_ _)); exact BK284.out) hb); replace BK291 := Aside0.mk (blk_below (g := gb291) (o := .cells #[.slice Ao30 t285.length co30, .slice Ao34 t288.length co34] 54 (0, 0)) (by (with_reducible repeat (first | refine blk_drewN ?_ _ | refine blk_drew ?_ | refine blk_alloc ?_ _)); exact BK291.out) hb); replace BK299 := Aside0.mk (blk_below (g := gb299) (o := .cells #[.slice Ao37 t292.length co37, .slice Ao42 t295.length co42] 54 (0, 0)) (by (with_reducible repeat (first | refine blk_drewN ?_ _ | refine blk_drew ?_ | refine blk_alloc ?_ _)); exact BK299.out) hb); replace HB := Aside0.mk (below_step (by repeat (first | (with_reducible first | exact HB.out | apply below_alloc | apply pw_below_drewN | apply below_drew1 | refine below_set ?_ GE269.out | refine below_set ?_ GE284.out | refine below_set ?_ GE291.out | refine below_set ?_ GE299.out) | exact HB.out)) hb); (try clear hb); (try clear hb2); (try clear hk); (try clear hi)))
         go_meet
         case rel => exact ⟨_, (true), (by first | rfl | (simp; done) | (simp [*]; done)), H', ⟨by have := HJ12.out; first | omega | exact Nat.le_refl _⟩, ⟨by (with_reducible repeat (first | apply Kd.R_alloc | apply Kd.R_drewN | apply Kd.R_drew)); exact Kd.R_mono HO_285000.out (fun _ hk => ⟨hk.1, hk.2.1⟩)⟩, ⟨by (with_reducible repeat (first | apply Kd.R_alloc | apply Kd.R_drewN | apply Kd.R_drew)); exact Kd.R_mono HO_285001.out (fun _ hk => ⟨hk.1, hk.2.1⟩)⟩, ⟨by (with_reducible repeat (first | apply Kd.R_alloc | apply Kd.R_drewN | apply Kd.R_drew)); exact Kd.R_mono HO_292000.out (fun _ hk => ⟨hk.1.1, hk.1.2⟩)⟩, ⟨by (with_reducible repeat (first | apply Kd.R_alloc | apply Kd.R_drewN | apply Kd.R_drew)); exact Kd.R_mono HO_292001.out (fun _ hk => ⟨hk.1.1, hk.1.2⟩)⟩, ⟨by (with_reducible repeat (first | apply Kd.R_alloc | apply Kd.R_drewN | apply Kd.R_drew)); exact Kd.R_mono HO_300000.out (fun _ hk => ⟨hk.1, hk.2.1⟩)⟩, ⟨by (with_reducible repeat (first | apply Kd.R_alloc | apply Kd.R_drewN | apply Kd.R_drew)); exact Kd.R_mono HO_300001.out (fun _ hk => ⟨hk.1, hk.2.1⟩)⟩, ⟨by (with_reducible repeat (first | refine blk_drewN ?_ _ | refine blk_drew ?_ | refine blk_alloc ?_ _)); exact BK269.out⟩, ⟨by (with_reducible repeat (first | refine blk_drewN ?_ _ | refine blk_drew ?_ | refine blk_alloc ?_ _)); exact BK284.out⟩, ⟨by (with_reducible repeat (first | refine blk_drewN ?_ _ | refine blk_drew ?_ | refine blk_alloc ?_ _)); exact BK291.out⟩, ⟨by (with_reducible repeat (first | refine blk_drewN ?_ _ | refine blk_drew ?_ | refine blk_alloc ?_ _)); exact BK299.out⟩, ⟨by repeat (first | (with_reducible first | exact HB.out | apply below_alloc | apply pw_below_drewN | apply below_drew1 | refine below_set ?_ GE269.out | refine below_set ?_ GE284.out | refine below_set ?_ GE291.out | refine below_set ?_ GE299.out) | exact HB.out)⟩⟩
      case rest =>
       clear HC66
       try clear c2
       try clear p2
       try clear c3
       try clear c4
       try clear c5
       try clear c5b0
       try clear c6
       try clear c7
       try clear c8
       try clear c9
       try clear c24
       try clear c31
       try clear c32
       try clear c37
       try clear c38
       try clear c39
       try clear c40
       try clear c41
       try clear c42
       try clear c44
       try clear c45
       try clear c46
       try clear c47
       try clear c49
       try clear c50
       try clear c53
       try clear c54
       try clear c55
       try clear c57
       try clear c58
       try clear c61
       try clear c64
       try clear c66
       try clear c67
       try clear c72
       try clear c73
       try clear c74
       try clear c77
       try clear c77b0
       try clear c79
       try clear c80
       try clear c81
       try clear c82
       try clear c84
       try clear c85
       try clear c88
       try clear c89
       try clear c90
       try clear c92
       try clear c93
       try clear hcz15_0
       try clear hcz15_1
       try clear hcz17_0
       try clear hcz17_1
       try clear hcz25_0
       try clear hcz25_1
       try clear hcz27_0
       try clear hcz27_1
       try clear hcz33_0
       try clear hcz33_1
       try clear hcz41_0
       try clear hcz41_1
       try clear hcz48_0
       try clear hcz48_1
       try clear hcz51_0
       try clear hcz51_1
       try clear hcz56_0
       try clear hcz56_1
       try clear hcz59_0
       try clear hcz59_1
       try clear hcz75_0
       try clear hcz75_1
       try clear hcz7_0
       try clear hcz7_1
       try clear hcz83_0
       try clear hcz83_1
       try clear hcz86_0
       try clear hcz86_1
       try clear hcz91_0
       try clear hcz91_1
       try clear hcz94_0
       try clear hcz94_1
       try clear hfz15_0
       try clear hfz15_1
       try clear hfz17_0
       try clear hfz17_1
       try clear hfz25_0
       try clear hfz25_1
       try clear hfz27_0
       try clear hfz27_1
       try clear hfz33_0
       try clear hfz33_1
       try clear hfz41_0
       try clear hfz41_1
       try clear hfz48_0
       try clear hfz48_1
       try clear hfz51_0
       try clear hfz51_1
       try clear hfz56_0
       try clear hfz56_1
       try clear hfz59_0
       try clear hfz59_1
       try clear hfz75_0
       try clear hfz75_1
       try clear hfz7_0
       try clear hfz7_1
       try clear hfz83_0
       try clear hfz83_1
       try clear hfz86_0
       try clear hfz86_1
       try clear hfz91_0
       try clear hfz91_1
       try clear hfz94_0
       try clear hfz94_1
       try clear p2
       obtain ⟨kq, x69_65, rfl, HA, HJ65, HO_285000, HO_285001, HO_292000, HO_292001, HO_300000, HO_300001, BK269, BK284, BK291, BK299, HB⟩ := hcut
       have hl292000_65 := (Kd.R_reads' HO_292000.out).1
       rw [hl292000_65] at HO_292000
       (try simp only [hl292000_65])
       (try simp only [hl292000_65] at BK269)
       (try simp only [hl292000_65] at BK284)
       (try simp only [hl292000_65] at BK291)
       (try simp only [hl292000_65] at BK299)
       (try simp only [hl292000_65] at HO_285000)
       (try simp only [hl292000_65] at HO_285001)
       (try simp only [hl292000_65] at HO_292001)
       (try simp only [hl292000_65] at HO_300000)
       (try simp only [hl292000_65] at HO_300001)
       have hl292001_65 := (Kd.R_reads' HO_292001.out).1
       rw [hl292001_65] at HO_292001
       (try simp only [hl292001_65])
       (try simp only [hl292001_65] at BK269)
       (try simp only [hl292001_65] at BK284)
       (try simp only [hl292001_65] at BK291)
       (try simp only [hl292001_65] at BK299)
       (try simp only [hl292001_65] at HO_285000)
       (try simp only [hl292001_65] at HO_285001)
       (try simp only [hl292001_65] at HO_292000)
       (try simp only [hl292001_65] at HO_300000)
       (try simp only [hl292001_65] at HO_300001)
       cases kq with
       | zero => exact absurd HA.out (by simp [laws_FnExactFillGap.j1])
       | succ kj65 =>
        have H := HA.out
        clear HA
        simp only [laws_FnExactFillGap.j1] at H
        by_cases c96 : x69_65 = true
        ·subst c96
         have H1 : (none) = some r := by rw [if_pos rfl] at H; exact H
         clear H
         have H := H1
         clear H1
         exact absurd H (by simp)
        ·replace c96 := Bool.eq_false_iff.mpr c96
         subst c96
         have H1 : ((laws_markPuzzle.f kj65 t292 t295 1).bind fun bt312 => ((laws_heldPuzzle.f kj65 bt312.2.1 bt312.2.2 1).bind fun t315 => (if t315 < 0 then (none) else (if t315 = bt312.1 then ((laws_toPuzzle.f kj65 l0_0 l0_1).bind fun bt316 => ((impl_FillGap.f kj65 bt316.1 bt316.2 a1 a2).bind fun bt322 => ((laws_eqPuzzle.f kj65 bt322.1 bt322.2.1 t277 t280).bind fun t330 => (if t330 = true then (laws_FnExactFillGap.j2 kj65 bt312.1 (bt322.2.2 != t283) bt312.2.1 bt312.2.2) else (laws_FnExactFillGap.j2 kj65 bt312.1 true bt312.2.1 bt312.2.2))))) else (none))))) = some r := by rw [if_neg (show ¬ (false = true) by decide)] at H; exact H
         clear H
         have H := H1
         clear H1
         replace H := Option.bind_eq_some_iff.mp H
         obtain ⟨⟨t312, t313, t314⟩, A970, H⟩ := H
         replace H : ((laws_heldPuzzle.f kj65 t313 t314 1).bind fun t315 => (if t315 < 0 then (none) else (if t315 = t312 then ((laws_toPuzzle.f kj65 l0_0 l0_1).bind fun bt316 => ((impl_FillGap.f kj65 bt316.1 bt316.2 a1 a2).bind fun bt322 => ((laws_eqPuzzle.f kj65 bt322.1 bt322.2.1 t277 t280).bind fun t330 => (if t330 = true then (laws_FnExactFillGap.j2 kj65 t312 (bt322.2.2 != t283) t313 t314) else (laws_FnExactFillGap.j2 kj65 t312 true t313 t314))))) else (none)))) = some r := H
         have A97 := Aside0.mk A970
         clear A970
         replace H := Option.bind_eq_some_iff.mp H
         obtain ⟨t315, A980, H⟩ := H
         replace H : (if t315 < 0 then (none) else (if t315 = t312 then ((laws_toPuzzle.f kj65 l0_0 l0_1).bind fun bt316 => ((impl_FillGap.f kj65 bt316.1 bt316.2 a1 a2).bind fun bt322 => ((laws_eqPuzzle.f kj65 bt322.1 bt322.2.1 t277 t280).bind fun t330 => (if t330 = true then (laws_FnExactFillGap.j2 kj65 t312 (bt322.2.2 != t283) t313 t314) else (laws_FnExactFillGap.j2 kj65 t312 true t313 t314))))) else (none))) = some r := H
         have A98 := Aside0.mk A980
         clear A980
         by_cases c99 : t315 < 0
         ·rw [if_pos c99] at H
          exact absurd H (by simp)
         ·rw [if_neg c99] at H
          have c99b0 : decide (t315 < 0) = false := decide_eq_false c99
          clear c99
          by_cases c100 : t315 = t312
          ·rw [if_pos c100] at H
           have c100b0 : (t315 == t312) = true := beq_iff_eq.mpr c100
           have c100b1 : (t315 != t312) = false := bne_eq_false_iff_eq.mpr c100
           clear c100
           replace H := Option.bind_eq_some_iff.mp H
           obtain ⟨⟨t316, t319⟩, A1010, H⟩ := H
           replace H : ((impl_FillGap.f kj65 t316 t319 a1 a2).bind fun bt322 => ((laws_eqPuzzle.f kj65 bt322.1 bt322.2.1 t277 t280).bind fun t330 => (if t330 = true then (laws_FnExactFillGap.j2 kj65 t312 (bt322.2.2 != t283) t313 t314) else (laws_FnExactFillGap.j2 kj65 t312 true t313 t314)))) = some r := H
           have A101 := Aside0.mk A1010
           clear A1010
           replace H := Option.bind_eq_some_iff.mp H
           obtain ⟨⟨t322, t325, t328⟩, A1020, H⟩ := H
           replace H : ((laws_eqPuzzle.f kj65 t322 t325 t277 t280).bind fun t330 => (if t330 = true then (laws_FnExactFillGap.j2 kj65 t312 (t328 != t283) t313 t314) else (laws_FnExactFillGap.j2 kj65 t312 true t313 t314))) = some r := H
           have A102 := Aside0.mk A1020
           clear A1020
           have HC103 := Aside0.mk H
           clear H
           have hnb104 := NB299_269.out
           have hnc104 := NB269_299.out
           have hnb105 := NB299_284.out
           have hnc105 := NB284_299.out
           have hnb106 := NB299_291.out
           have hnc106 := NB291_299.out
           have hcz107_0 : wc.cell? ⟨gb299, 0, none⟩ = some (.slice Ao37 t292.length co37) := (blk_cell BK299.out 0).trans rfl
           have hcz107_1 : wc.cell? ⟨gb299, 1, none⟩ = some (.slice Ao42 t295.length co42) := (blk_cell BK299.out 1).trans rfl
           have hfz107_0 := blk_frozen BK299.out 0
           have hfz107_1 := blk_frozen BK299.out 1
           go_upto_region 25 with (first | ((with_reducible refine gate_callee (f := 42) rfl ?_); refine goesL_ (some 72) rfl rfl Try.func42 (by kernel_rfl) rfl #[.agg #[.slice Ao37 t292.length co37, .slice Ao42 t295.length co42], .int .i64 1] rfl (by (try simp only [List.map_toArray, List.map_cons, List.map_nil]); first | done | rfl | (simp only [List.length_drop, List.length_take]; rfl)) ?_; (with_reducible refine (laws_markPuzzle.calls kj65 (fun k_ => some k_ = (.slice Ao37 t292.length co37 : Value).ownBlock) (.slice Ao37 t292.length co37) t292 (fun k_ => some k_ = (.slice Ao42 t295.length co42 : Value).ownBlock) (.slice Ao42 t295.length co42) t295 1 t312 t313 t314 w _ ?side1 ?side2 ?side3 A97.out).mono ?_); (case side1 => repeat (first | (with_reducible first | exact HB.out | apply below_alloc | apply pw_below_drewN | apply below_drew1 | refine below_set ?_ GE269.out | refine below_set ?_ GE284.out | refine below_set ?_ GE291.out | refine below_set ?_ GE299.out) | exact HB.out)); (case side2 => exact Kd.R_tight rfl HO_300000.out); (case side3 => exact Kd.R_tight rfl HO_300001.out); rintro e w108 ⟨rfl, hy0, hy1, hb, hkp⟩; refine ⟨_, rfl, ?_⟩; replace HO_285000 := Aside0.mk (Kd.R_mono (ok' := fun k_ => some k_ ≠ (.slice Ao30 t309.length co30 : Value).ownBlock ∧ some k_ ≠ (.slice Ao37 t292.length co37 : Value).ownBlock) (Kd.R_keptB ((Kd.R_apart' HO_285000.out (Kd.R_typed HO_300001.out) (by decide))) hkp (fun k_ hk_ hs_ => Or.elim hs_ (fun e_ => (hk_.1.2) e_) (fun e_ => (hk_.2) e_))) (fun k_ hk_ => ⟨hk_.1.1.1, hk_.1.1.2⟩)); replace HO_285001 := Aside0.mk (Kd.R_mono (ok' := fun k_ => some k_ ≠ (.slice Ao34 t310.length co34 : Value).ownBlock ∧ some k_ ≠ (.slice Ao42 t295.length co42 : Value).ownBlock) (Kd.R_keptB ((Kd.R_apart' HO_285001.out (Kd.R_typed HO_300000.out) (by decide))) hkp (fun k_ hk_ hs_ => Or.elim hs_ (fun e_ => (hk_.2) e_) (fun e_ => (hk_.1.2) e_))) (fun k_ hk_ => ⟨hk_.1.1.1, hk_.1.1.2⟩)); replace HO_292000 := Aside0.mk (Kd.R_mono (ok' := fun k_ => some k_ ≠ (.slice Ao23 t277.length co23 : Value).ownBlock ∧ some k_ ≠ (.slice Ao37 t292.length co37 : Value).ownBlock) (Kd.R_keptB ((Kd.R_apart' HO_292000.out (Kd.R_typed HO_300001.out) (by decide))) hkp (fun k_ hk_ hs_ => Or.elim hs_ (fun e_ => (hk_.1.2) e_) (fun e_ => (hk_.2) e_))) (fun k_ hk_ => ⟨hk_.1.1.1, hk_.1.1.2⟩)); replace HO_292001 := Aside0.mk (Kd.R_mono (ok' := fun k_ => some k_ ≠ (.slice Ao26 t280.length co26 : Value).ownBlock ∧ some k_ ≠ (.slice Ao42 t295.length co42 : Value).ownBlock) (Kd.R_keptB ((Kd.R_apart' HO_292001.out (Kd.R_typed HO_300000.out) (by decide))) hkp (fun k_ hk_ hs_ => Or.elim hs_ (fun e_ => (hk_.2) e_) (fun e_ => (hk_.1.2) e_))) (fun k_ hk_ => ⟨hk_.1.1.1, hk_.1.1.2⟩)); replace BK269 := Aside0.mk (blk_kept (by (with_reducible repeat (first | refine blk_drewN ?_ _ | refine blk_drew ?_ | refine blk_alloc ?_ _)); exact BK269.out) hkp (fun hs_ => Or.elim hs_ (fun e_ => (fun e_ => (Kd.R_ne HO_300000.out BK269.out (by decide)) e_) e_) (fun e_ => (fun e_ => (Kd.R_ne HO_300001.out BK269.out (by decide)) e_) e_))); replace BK284 := Aside0.mk (blk_kept (by (with_reducible repeat (first | refine blk_drewN ?_ _ | refine blk_drew ?_ | refine blk_alloc ?_ _)); exact BK284.out) hkp (fun hs_ => Or.elim hs_ (fun e_ => (fun e_ => (Kd.R_ne HO_300000.out BK284.out (by decide)) e_) e_) (fun e_ => (fun e_ => (Kd.R_ne HO_300001.out BK284.out (by decide)) e_) e_))); replace BK291 := Aside0.mk (blk_kept (by (with_reducible repeat (first | refine blk_drewN ?_ _ | refine blk_drew ?_ | refine blk_alloc ?_ _)); exact BK291.out) hkp (fun hs_ => Or.elim hs_ (fun e_ => (fun e_ => (Kd.R_ne HO_300000.out BK291.out (by decide)) e_) e_) (fun e_ => (fun e_ => (Kd.R_ne HO_300001.out BK291.out (by decide)) e_) e_))); replace BK299 := Aside0.mk (blk_kept (by (with_reducible repeat (first | refine blk_drewN ?_ _ | refine blk_drew ?_ | refine blk_alloc ?_ _)); exact BK299.out) hkp (fun hs_ => Or.elim hs_ (fun e_ => (fun e_ => (Kd.R_ne HO_300000.out BK299.out (by decide)) e_) e_) (fun e_ => (fun e_ => (Kd.R_ne HO_300001.out BK299.out (by decide)) e_) e_))); replace HO_300000 := Aside0.mk (Kd.R_reok rfl hy0 (fun k_ e_ => HO_300000.out.1 k_ e_)); replace HO_300001 := Aside0.mk (Kd.R_reok rfl hy1 (fun k_ e_ => HO_300001.out.1 k_ e_)); replace HB := Aside0.mk (hb); (try clear hb); (try clear hkp); (try clear hy0); (try clear hy1); have hcz109_0 : w108.cell? ⟨gb299, 0, none⟩ = some (.slice Ao37 t292.length co37) := (blk_cell BK299.out 0).trans rfl; have hcz109_1 : w108.cell? ⟨gb299, 1, none⟩ = some (.slice Ao42 t295.length co42) := (blk_cell BK299.out 1).trans rfl; have hfz109_0 := blk_frozen BK299.out 0; have hfz109_1 := blk_frozen BK299.out 1) | ((with_reducible refine gate_callee (f := 43) rfl ?_); refine goesL_ (some 75) rfl rfl Try.func43 (by kernel_rfl) rfl #[.agg #[.slice Ao37 t313.length co37, .slice Ao42 t314.length co42], .int .i64 1] rfl (by (try simp only [List.map_toArray, List.map_cons, List.map_nil]); first | done | (rw [show t313.length = t292.length from (Kd.R_reads' HO_300000.out).1.symm, show t314.length = t295.length from (Kd.R_reads' HO_300001.out).1.symm] <;> rfl) | rfl | (simp only [List.length_drop, List.length_take]; rfl)) ?_; (with_reducible refine (laws_heldPuzzle.calls kj65 _ _ t313 _ _ t314 1 t315 _ ?side1 ?side2 ?side3 ?side4 A98.out).mono ?_); (case side1 => repeat (first | exact (Kd.R_reads' HO_300000.out).2.2 | (with_reducible refine Kd.C_alloc ?_ _) | (with_reducible refine Kd.C_drewN ?_ _) | (with_reducible refine Kd.C_drew ?_))); (case side2 => rw [show t313.length = t292.length from (Kd.R_reads' HO_300000.out).1.symm]; exact (Kd.R_reads' HO_300000.out).2.1); (case side3 => repeat (first | exact (Kd.R_reads' HO_300001.out).2.2 | (with_reducible refine Kd.C_alloc ?_ _) | (with_reducible refine Kd.C_drewN ?_ _) | (with_reducible refine Kd.C_drew ?_))); (case side4 => rw [show t314.length = t295.length from (Kd.R_reads' HO_300001.out).1.symm]; exact (Kd.R_reads' HO_300001.out).2.1); rintro e w110 ⟨rfl, hb⟩; refine ⟨_, rfl, ?_⟩; replace HO_285000 := Aside0.mk (Kd.R_below (by (with_reducible repeat (first | apply Kd.R_alloc | apply Kd.R_drewN | apply Kd.R_drew)); exact HO_285000.out) hb); replace HO_285001 := Aside0.mk (Kd.R_below (by (with_reducible repeat (first | apply Kd.R_alloc | apply Kd.R_drewN | apply Kd.R_drew)); exact HO_285001.out) hb); replace HO_292000 := Aside0.mk (Kd.R_below (by (with_reducible repeat (first | apply Kd.R_alloc | apply Kd.R_drewN | apply Kd.R_drew)); exact HO_292000.out) hb); replace HO_292001 := Aside0.mk (Kd.R_below (by (with_reducible repeat (first | apply Kd.R_alloc | apply Kd.R_drewN | apply Kd.R_drew)); exact HO_292001.out) hb); replace HO_300000 := Aside0.mk (Kd.R_below (by (with_reducible repeat (first | apply Kd.R_alloc | apply Kd.R_drewN | apply Kd.R_drew)); exact HO_300000.out) hb); replace HO_300001 := Aside0.mk (Kd.R_below (by (with_reducible repeat (first | apply Kd.R_alloc | apply Kd.R_drewN | apply Kd.R_drew)); exact HO_300001.out) hb); replace BK269 := Aside0.mk (blk_below (g := gb269) (o := .cells #[.slice A0_0 l0_0.length c0_0, .slice A0_1 l0_1.length c0_1] 51 (0, 0)) (by (with_reducible repeat (first | refine blk_drewN ?_ _ | refine blk_drew ?_ | refine blk_alloc ?_ _)); exact BK269.out) hb); replace BK284 := Aside0.mk (blk_below (g := gb284) (o := .cells #[.slice Ao23 t277.length co23, .slice Ao26 t280.length co26] 54 (0, 0)) (by (with_reducible repeat (first | refine blk_drewN ?_ _ | refine blk_drew ?_ | refine blk_alloc ?_ _)); exact BK284.out) hb); replace BK291 := Aside0.mk (blk_below (g := gb291) (o := .cells #[.slice Ao30 t309.length co30, .slice Ao34 t310.length co34] 54 (0, 0)) (by (with_reducible repeat (first | refine blk_drewN ?_ _ | refine blk_drew ?_ | refine blk_alloc ?_ _)); exact BK291.out) hb); replace BK299 := Aside0.mk (blk_below (g := gb299) (o := .cells #[.slice Ao37 t292.length co37, .slice Ao42 t295.length co42] 54 (0, 0)) (by (with_reducible repeat (first | refine blk_drewN ?_ _ | refine blk_drew ?_ | refine blk_alloc ?_ _)); exact BK299.out) hb); replace HB := Aside0.mk (below_step (by repeat (first | (with_reducible first | exact HB.out | apply below_alloc | apply pw_below_drewN | apply below_drew1 | refine below_set ?_ GE269.out | refine below_set ?_ GE284.out | refine below_set ?_ GE291.out | refine below_set ?_ GE299.out) | exact HB.out)) hb); (try clear hb); (try clear hb2); (try clear hk); (try clear hi); have hnb111 := NB269_284.out; have hnc111 := NB284_269.out; have hnb112 := NB269_291.out; have hnc112 := NB291_269.out; have hcz113_0 : w110.cell? ⟨gb269, 0, none⟩ = some (.slice A0_0 l0_0.length c0_0) := (blk_cell BK269.out 0).trans rfl; have hcz113_1 : w110.cell? ⟨gb269, 1, none⟩ = some (.slice A0_1 l0_1.length c0_1) := (blk_cell BK269.out 1).trans rfl; have hfz113_0 := blk_frozen BK269.out 0; have hfz113_1 := blk_frozen BK269.out 1) | ((with_reducible refine gate_callee (f := 39) rfl ?_); refine goesL_ (some 83) rfl rfl Try.func39 (by kernel_rfl) rfl #[.agg #[.slice A0_0 l0_0.length c0_0, .slice A0_1 l0_1.length c0_1]] rfl (by (try simp only [List.map_toArray, List.map_cons, List.map_nil]); first | done | rfl | (simp only [List.length_drop, List.length_take]; rfl)) ?_; (with_reducible refine (laws_toPuzzle.calls kj65 _ _ l0_0 _ _ l0_1 t316 t319 _ ?side1 ?side2 ?side3 ?side4 A101.out).mono ?_); (case side1 => repeat (first | exact (Kd.C_below HR0_0.out HB.out) | (with_reducible refine Kd.C_alloc ?_ _) | (with_reducible refine Kd.C_drewN ?_ _) | (with_reducible refine Kd.C_drew ?_))); (case side2 => exact HC0_0.out); (case side3 => repeat (first | exact (Kd.C_below HR0_1.out HB.out) | (with_reducible refine Kd.C_alloc ?_ _) | (with_reducible refine Kd.C_drewN ?_ _) | (with_reducible refine Kd.C_drew ?_))); (case side4 => exact HC0_1.out); rintro e w114 ⟨v317, v320, rfl, ho0, ho1, hb⟩; refine ⟨_, rfl, ?_⟩; have HO318 := Aside0.mk (Kd.R_lower (Kd.R_new' (Kd.R_new' (Kd.R_new' ho0 (Kd.R_lt (by (with_reducible repeat (first | apply Kd.R_alloc | apply Kd.R_drewN | apply Kd.R_drew)); exact HO_285000.out))) (Kd.R_lt (by (with_reducible repeat (first | apply Kd.R_alloc | apply Kd.R_drewN | apply Kd.R_drew)); exact HO_292000.out))) (Kd.R_lt (by (with_reducible repeat (first | apply Kd.R_alloc | apply Kd.R_drewN | apply Kd.R_drew)); exact HO_300000.out))) (below_size (by repeat (first | (with_reducible first | exact HB.out | apply below_alloc | apply pw_below_drewN | apply below_drew1 | refine below_set ?_ GE269.out | refine below_set ?_ GE284.out | refine below_set ?_ GE291.out | refine below_set ?_ GE299.out) | exact HB.out)))); replace HO_285000 := Aside0.mk (Kd.R_elder' (by (with_reducible repeat (first | apply Kd.R_alloc | apply Kd.R_drewN | apply Kd.R_drew)); exact HO_285000.out) (Kd.R_base ho0) hb); replace HO_292000 := Aside0.mk (Kd.R_elder' (by (with_reducible repeat (first | apply Kd.R_alloc | apply Kd.R_drewN | apply Kd.R_drew)); exact HO_292000.out) (Kd.R_base ho0) hb); replace HO_300000 := Aside0.mk (Kd.R_elder' (by (with_reducible repeat (first | apply Kd.R_alloc | apply Kd.R_drewN | apply Kd.R_drew)); exact HO_300000.out) (Kd.R_base ho0) hb); have HO321 := Aside0.mk (Kd.R_lower (Kd.R_new' (Kd.R_new' (Kd.R_new' ho1 (Kd.R_lt (by (with_reducible repeat (first | apply Kd.R_alloc | apply Kd.R_drewN | apply Kd.R_drew)); exact HO_285001.out))) (Kd.R_lt (by (with_reducible repeat (first | apply Kd.R_alloc | apply Kd.R_drewN | apply Kd.R_drew)); exact HO_292001.out))) (Kd.R_lt (by (with_reducible repeat (first | apply Kd.R_alloc | apply Kd.R_drewN | apply Kd.R_drew)); exact HO_300001.out))) (below_size (by repeat (first | (with_reducible first | exact HB.out | apply below_alloc | apply pw_below_drewN | apply below_drew1 | refine below_set ?_ GE269.out | refine below_set ?_ GE284.out | refine below_set ?_ GE291.out | refine below_set ?_ GE299.out) | exact HB.out)))); replace HO_285001 := Aside0.mk (Kd.R_elder' (by (with_reducible repeat (first | apply Kd.R_alloc | apply Kd.R_drewN | apply Kd.R_drew)); exact HO_285001.out) (Kd.R_base ho1) hb); replace HO_292001 := Aside0.mk (Kd.R_elder' (by (with_reducible repeat (first | apply Kd.R_alloc | apply Kd.R_drewN | apply Kd.R_drew)); exact HO_292001.out) (Kd.R_base ho1) hb); replace HO_300001 := Aside0.mk (Kd.R_elder' (by (with_reducible repeat (first | apply Kd.R_alloc | apply Kd.R_drewN | apply Kd.R_drew)); exact HO_300001.out) (Kd.R_base ho1) hb); replace BK269 := Aside0.mk (blk_below (g := gb269) (o := .cells #[.slice A0_0 l0_0.length c0_0, .slice A0_1 l0_1.length c0_1] 51 (0, 0)) (by (with_reducible repeat (first | refine blk_drewN ?_ _ | refine blk_drew ?_ | refine blk_alloc ?_ _)); exact BK269.out) hb); replace BK284 := Aside0.mk (blk_below (g := gb284) (o := .cells #[.slice Ao23 t277.length co23, .slice Ao26 t280.length co26] 54 (0, 0)) (by (with_reducible repeat (first | refine blk_drewN ?_ _ | refine blk_drew ?_ | refine blk_alloc ?_ _)); exact BK284.out) hb); replace BK291 := Aside0.mk (blk_below (g := gb291) (o := .cells #[.slice Ao30 t309.length co30, .slice Ao34 t310.length co34] 54 (0, 0)) (by (with_reducible repeat (first | refine blk_drewN ?_ _ | refine blk_drew ?_ | refine blk_alloc ?_ _)); exact BK291.out) hb); replace BK299 := Aside0.mk (blk_below (g := gb299) (o := .cells #[.slice Ao37 t292.length co37, .slice Ao42 t295.length co42] 54 (0, 0)) (by (with_reducible repeat (first | refine blk_drewN ?_ _ | refine blk_drew ?_ | refine blk_alloc ?_ _)); exact BK299.out) hb); replace HB := Aside0.mk (below_step (by repeat (first | (with_reducible first | exact HB.out | apply below_alloc | apply pw_below_drewN | apply below_drew1 | refine below_set ?_ GE269.out | refine below_set ?_ GE284.out | refine below_set ?_ GE291.out | refine below_set ?_ GE299.out) | exact HB.out)) hb); (try clear hb); (try clear hb2); (try clear hk); (try clear hi); (try clear ho0); (try clear ho1); obtain ⟨Ao115, co115, eo115⟩ := Kd.R_slice HO318.out; subst eo115; obtain ⟨Ao116, co116, eo116⟩ := Kd.R_slice HO321.out; subst eo116) | ((with_reducible refine gate_callee (f := 67) rfl ?_); refine goesL_ (some 86) rfl rfl Try.func67 (by kernel_rfl) rfl #[.agg #[.slice Ao115 t316.length co115, .slice Ao116 t319.length co116], .int .i64 a1, .int .i64 a2] rfl (by (try simp only [List.map_toArray, List.map_cons, List.map_nil]); first | done | rfl | (simp only [List.length_drop, List.length_take]; rfl)) ?_; (with_reducible refine (impl_FillGap.calls kj65 _ _ t316 _ _ t319 a1 a2 t322 t325 t328 _ ?side1 ?side2 ?side3 ?side4 A102.out).mono ?_); (case side1 => repeat (first | exact (Kd.R_reads' HO318.out).2.2 | (with_reducible refine Kd.C_alloc ?_ _) | (with_reducible refine Kd.C_drewN ?_ _) | (with_reducible refine Kd.C_drew ?_))); (case side2 => exact (Kd.R_reads' HO318.out).2.1); (case side3 => repeat (first | exact (Kd.R_reads' HO321.out).2.2 | (with_reducible refine Kd.C_alloc ?_ _) | (with_reducible refine Kd.C_drewN ?_ _) | (with_reducible refine Kd.C_drew ?_))); (case side4 => exact (Kd.R_reads' HO321.out).2.1); rintro e w117 ⟨v323, v326, rfl, ho0, ho1, hb⟩; refine ⟨_, rfl, ?_⟩; have HO324 := Aside0.mk (Kd.R_lower (Kd.R_new' (Kd.R_new' (Kd.R_new' (Kd.R_new' ho0 (Kd.R_lt (by (with_reducible repeat (first | apply Kd.R_alloc | apply Kd.R_drewN | apply Kd.R_drew)); exact HO_285000.out))) (Kd.R_lt (by (with_reducible repeat (first | apply Kd.R_alloc | apply Kd.R_drewN | apply Kd.R_drew)); exact HO_292000.out))) (Kd.R_lt (by (with_reducible repeat (first | apply Kd.R_alloc | apply Kd.R_drewN | apply Kd.R_drew)); exact HO_300000.out))) (Kd.R_lt (by (with_reducible repeat (first | apply Kd.R_alloc | apply Kd.R_drewN | apply Kd.R_drew)); exact HO318.out))) (below_size (by repeat (first | (with_reducible first | exact HB.out | apply below_alloc | apply pw_below_drewN | apply below_drew1 | refine below_set ?_ GE269.out | refine below_set ?_ GE284.out | refine below_set ?_ GE291.out | refine below_set ?_ GE299.out) | exact HB.out)))); replace HO_285000 := Aside0.mk (Kd.R_elder' (by (with_reducible repeat (first | apply Kd.R_alloc | apply Kd.R_drewN | apply Kd.R_drew)); exact HO_285000.out) (Kd.R_base ho0) hb); replace HO_292000 := Aside0.mk (Kd.R_elder' (by (with_reducible repeat (first | apply Kd.R_alloc | apply Kd.R_drewN | apply Kd.R_drew)); exact HO_292000.out) (Kd.R_base ho0) hb); replace HO_300000 := Aside0.mk (Kd.R_elder' (by (with_reducible repeat (first | apply Kd.R_alloc | apply Kd.R_drewN | apply Kd.R_drew)); exact HO_300000.out) (Kd.R_base ho0) hb); replace HO318 := Aside0.mk (Kd.R_elder' (by (with_reducible repeat (first | apply Kd.R_alloc | apply Kd.R_drewN | apply Kd.R_drew)); exact HO318.out) (Kd.R_base ho0) hb); have HO327 := Aside0.mk (Kd.R_lower (Kd.R_new' (Kd.R_new' (Kd.R_new' (Kd.R_new' ho1 (Kd.R_lt (by (with_reducible repeat (first | apply Kd.R_alloc | apply Kd.R_drewN | apply Kd.R_drew)); exact HO_285001.out))) (Kd.R_lt (by (with_reducible repeat (first | apply Kd.R_alloc | apply Kd.R_drewN | apply Kd.R_drew)); exact HO_292001.out))) (Kd.R_lt (by (with_reducible repeat (first | apply Kd.R_alloc | apply Kd.R_drewN | apply Kd.R_drew)); exact HO_300001.out))) (Kd.R_lt (by (with_reducible repeat (first | apply Kd.R_alloc | apply Kd.R_drewN | apply Kd.R_drew)); exact HO321.out))) (below_size (by repeat (first | (with_reducible first | exact HB.out | apply below_alloc | apply pw_below_drewN | apply below_drew1 | refine below_set ?_ GE269.out | refine below_set ?_ GE284.out | refine below_set ?_ GE291.out | refine below_set ?_ GE299.out) | exact HB.out)))); replace HO_285001 := Aside0.mk (Kd.R_elder' (by (with_reducible repeat (first | apply Kd.R_alloc | apply Kd.R_drewN | apply Kd.R_drew)); exact HO_285001.out) (Kd.R_base ho1) hb); replace HO_292001 := Aside0.mk (Kd.R_elder' (by (with_reducible repeat (first | apply Kd.R_alloc | apply Kd.R_drewN | apply Kd.R_drew)); exact HO_292001.out) (Kd.R_base ho1) hb); replace HO_300001 := Aside0.mk (Kd.R_elder' (by (with_reducible repeat (first | apply Kd.R_alloc | apply Kd.R_drewN | apply Kd.R_drew)); exact HO_300001.out) (Kd.R_base ho1) hb); replace HO321 := Aside0.mk (Kd.R_elder' (by (with_reducible repeat (first | apply Kd.R_alloc | apply Kd.R_drewN | apply Kd.R_drew)); exact HO321.out) (Kd.R_base ho1) hb); replace BK269 := Aside0.mk (blk_below (g := gb269) (o := .cells #[.slice A0_0 l0_0.length c0_0, .slice A0_1 l0_1.length c0_1] 51 (0, 0)) (by (with_reducible repeat (first | refine blk_drewN ?_ _ | refine blk_drew ?_ | refine blk_alloc ?_ _)); exact BK269.out) hb); replace BK284 := Aside0.mk (blk_below (g := gb284) (o := .cells #[.slice Ao23 t277.length co23, .slice Ao26 t280.length co26] 54 (0, 0)) (by (with_reducible repeat (first | refine blk_drewN ?_ _ | refine blk_drew ?_ | refine blk_alloc ?_ _)); exact BK284.out) hb); replace BK291 := Aside0.mk (blk_below (g := gb291) (o := .cells #[.slice Ao30 t309.length co30, .slice Ao34 t310.length co34] 54 (0, 0)) (by (with_reducible repeat (first | refine blk_drewN ?_ _ | refine blk_drew ?_ | refine blk_alloc ?_ _)); exact BK291.out) hb); replace BK299 := Aside0.mk (blk_below (g := gb299) (o := .cells #[.slice Ao37 t292.length co37, .slice Ao42 t295.length co42] 54 (0, 0)) (by (with_reducible repeat (first | refine blk_drewN ?_ _ | refine blk_drew ?_ | refine blk_alloc ?_ _)); exact BK299.out) hb); replace HB := Aside0.mk (below_step (by repeat (first | (with_reducible first | exact HB.out | apply below_alloc | apply pw_below_drewN | apply below_drew1 | refine below_set ?_ GE269.out | refine below_set ?_ GE284.out | refine below_set ?_ GE291.out | refine below_set ?_ GE299.out) | exact HB.out)) hb); (try clear hb); (try clear hb2); (try clear hk); (try clear hi); (try clear ho0); (try clear ho1)) | ((with_reducible refine gate_dst (N := 16) rfl ?_); refine box_event ?hg (N := 16) ?hd (cs := #[.slice none 0 0, .slice none 0 0]) (t := 54) ?hr ?_; (case hd => rfl); (case hg => rfl); (case hr => first | (go_simp; done) | (go_simp; rfl)); intro gb329 hg w118 hbox hb; replace HO_285000 := Aside0.mk (Kd.R_below (by (with_reducible repeat (first | apply Kd.R_alloc | apply Kd.R_drewN | apply Kd.R_drew)); exact HO_285000.out) hb); replace HO_285001 := Aside0.mk (Kd.R_below (by (with_reducible repeat (first | apply Kd.R_alloc | apply Kd.R_drewN | apply Kd.R_drew)); exact HO_285001.out) hb); replace HO_292000 := Aside0.mk (Kd.R_below (by (with_reducible repeat (first | apply Kd.R_alloc | apply Kd.R_drewN | apply Kd.R_drew)); exact HO_292000.out) hb); replace HO_292001 := Aside0.mk (Kd.R_below (by (with_reducible repeat (first | apply Kd.R_alloc | apply Kd.R_drewN | apply Kd.R_drew)); exact HO_292001.out) hb); replace HO_300000 := Aside0.mk (Kd.R_below (by (with_reducible repeat (first | apply Kd.R_alloc | apply Kd.R_drewN | apply Kd.R_drew)); exact HO_300000.out) hb); replace HO_300001 := Aside0.mk (Kd.R_below (by (with_reducible repeat (first | apply Kd.R_alloc | apply Kd.R_drewN | apply Kd.R_drew)); exact HO_300001.out) hb); replace HO318 := Aside0.mk (Kd.R_below (by (with_reducible repeat (first | apply Kd.R_alloc | apply Kd.R_drewN | apply Kd.R_drew)); exact HO318.out) hb); replace HO321 := Aside0.mk (Kd.R_below (by (with_reducible repeat (first | apply Kd.R_alloc | apply Kd.R_drewN | apply Kd.R_drew)); exact HO321.out) hb); replace HO324 := Aside0.mk (Kd.R_below (by (with_reducible repeat (first | apply Kd.R_alloc | apply Kd.R_drewN | apply Kd.R_drew)); exact HO324.out) hb); replace HO327 := Aside0.mk (Kd.R_below (by (with_reducible repeat (first | apply Kd.R_alloc | apply Kd.R_drewN | apply Kd.R_drew)); exact HO327.out) hb); have BK329 := Aside0.mk (hbox); have GW329 := Aside0.mk ((by rw [hg]; exact (below_size (by repeat (first | (with_reducible first | exact HB.out | apply below_alloc | apply pw_below_drewN | apply below_drew1 | refine below_set ?_ GE269.out | refine below_set ?_ GE284.out | refine below_set ?_ GE291.out | refine below_set ?_ GE299.out) | exact HB.out))) : w.heap.size ≤ gb329)); have GE329 := Aside0.mk ((by rw [hg]; exact (below_size (by repeat (first | (with_reducible first | exact HB.out | apply below_alloc | apply pw_below_drewN | apply below_drew1 | refine below_set ?_ GE269.out | refine below_set ?_ GE284.out | refine below_set ?_ GE291.out | refine below_set ?_ GE299.out) | exact HB.out))) : w.heap.size ≤ gb329)); replace HB := Aside0.mk (below_step (by repeat (first | (with_reducible first | exact HB.out | apply below_alloc | apply pw_below_drewN | apply below_drew1 | refine below_set ?_ GE269.out | refine below_set ?_ GE284.out | refine below_set ?_ GE291.out | refine below_set ?_ GE299.out) | exact HB.out)) hb); have NB269_329 := Aside0.mk ((by rw [hg]; exact Nat.ne_of_lt (blk_lt (g := gb269) (o := .cells #[.slice A0_0 l0_0.length c0_0, .slice A0_1 l0_1.length c0_1] 51 (0, 0)) (by (with_reducible repeat (first | refine blk_drewN ?_ _ | refine blk_drew ?_ | refine blk_alloc ?_ _)); exact BK269.out)) : gb269 ≠ gb329)); have NB329_269 := Aside0.mk ((by rw [hg]; exact Nat.ne_of_gt (blk_lt (g := gb269) (o := .cells #[.slice A0_0 l0_0.length c0_0, .slice A0_1 l0_1.length c0_1] 51 (0, 0)) (by (with_reducible repeat (first | refine blk_drewN ?_ _ | refine blk_drew ?_ | refine blk_alloc ?_ _)); exact BK269.out)) : gb329 ≠ gb269)); replace BK269 := Aside0.mk (blk_below (g := gb269) (o := .cells #[.slice A0_0 l0_0.length c0_0, .slice A0_1 l0_1.length c0_1] 51 (0, 0)) (by (with_reducible repeat (first | refine blk_drewN ?_ _ | refine blk_drew ?_ | refine blk_alloc ?_ _)); exact BK269.out) hb); have NB284_329 := Aside0.mk ((by rw [hg]; exact Nat.ne_of_lt (blk_lt (g := gb284) (o := .cells #[.slice Ao23 t277.length co23, .slice Ao26 t280.length co26] 54 (0, 0)) (by (with_reducible repeat (first | refine blk_drewN ?_ _ | refine blk_drew ?_ | refine blk_alloc ?_ _)); exact BK284.out)) : gb284 ≠ gb329)); have NB329_284 := Aside0.mk ((by rw [hg]; exact Nat.ne_of_gt (blk_lt (g := gb284) (o := .cells #[.slice Ao23 t277.length co23, .slice Ao26 t280.length co26] 54 (0, 0)) (by (with_reducible repeat (first | refine blk_drewN ?_ _ | refine blk_drew ?_ | refine blk_alloc ?_ _)); exact BK284.out)) : gb329 ≠ gb284)); replace BK284 := Aside0.mk (blk_below (g := gb284) (o := .cells #[.slice Ao23 t277.length co23, .slice Ao26 t280.length co26] 54 (0, 0)) (by (with_reducible repeat (first | refine blk_drewN ?_ _ | refine blk_drew ?_ | refine blk_alloc ?_ _)); exact BK284.out) hb); have NB291_329 := Aside0.mk ((by rw [hg]; exact Nat.ne_of_lt (blk_lt (g := gb291) (o := .cells #[.slice Ao30 t309.length co30, .slice Ao34 t310.length co34] 54 (0, 0)) (by (with_reducible repeat (first | refine blk_drewN ?_ _ | refine blk_drew ?_ | refine blk_alloc ?_ _)); exact BK291.out)) : gb291 ≠ gb329)); have NB329_291 := Aside0.mk ((by rw [hg]; exact Nat.ne_of_gt (blk_lt (g := gb291) (o := .cells #[.slice Ao30 t309.length co30, .slice Ao34 t310.length co34] 54 (0, 0)) (by (with_reducible repeat (first | refine blk_drewN ?_ _ | refine blk_drew ?_ | refine blk_alloc ?_ _)); exact BK291.out)) : gb329 ≠ gb291)); replace BK291 := Aside0.mk (blk_below (g := gb291) (o := .cells #[.slice Ao30 t309.length co30, .slice Ao34 t310.length co34] 54 (0, 0)) (by (with_reducible repeat (first | refine blk_drewN ?_ _ | refine blk_drew ?_ | refine blk_alloc ?_ _)); exact BK291.out) hb); have NB299_329 := Aside0.mk ((by rw [hg]; exact Nat.ne_of_lt (blk_lt (g := gb299) (o := .cells #[.slice Ao37 t292.length co37, .slice Ao42 t295.length co42] 54 (0, 0)) (by (with_reducible repeat (first | refine blk_drewN ?_ _ | refine blk_drew ?_ | refine blk_alloc ?_ _)); exact BK299.out)) : gb299 ≠ gb329)); have NB329_299 := Aside0.mk ((by rw [hg]; exact Nat.ne_of_gt (blk_lt (g := gb299) (o := .cells #[.slice Ao37 t292.length co37, .slice Ao42 t295.length co42] 54 (0, 0)) (by (with_reducible repeat (first | refine blk_drewN ?_ _ | refine blk_drew ?_ | refine blk_alloc ?_ _)); exact BK299.out)) : gb329 ≠ gb299)); replace BK299 := Aside0.mk (blk_below (g := gb299) (o := .cells #[.slice Ao37 t292.length co37, .slice Ao42 t295.length co42] 54 (0, 0)) (by (with_reducible repeat (first | refine blk_drewN ?_ _ | refine blk_drew ?_ | refine blk_alloc ?_ _)); exact BK299.out) hb); clear hb hbox hg; obtain ⟨Ao119, co119, eo119⟩ := Kd.R_slice HO324.out; subst eo119; have hnb120 := NB329_269.out; have hnc120 := NB269_329.out; have hnb121 := NB329_284.out; have hnc121 := NB284_329.out; have hnb122 := NB329_291.out; have hnc122 := NB291_329.out; have hnb123 := NB329_299.out; have hnc123 := NB299_329.out; have hcz124_0 : w118.cell? ⟨gb329, 0, none⟩ = some (.slice none 0 0) := (blk_cell BK329.out 0).trans rfl; have hcz124_1 : w118.cell? ⟨gb329, 1, none⟩ = some (.slice none 0 0) := (blk_cell BK329.out 1).trans rfl; have hfz124_0 := blk_frozen BK329.out 0; have hfz124_1 := blk_frozen BK329.out 1; obtain ⟨Ao125, co125, eo125⟩ := Kd.R_slice HO327.out; subst eo125))
           (try simp only [Act.put, List.setIfInBounds_toArray, List.set_cons_zero, List.set_cons_succ])
           go_cut [97] (fun v97 wc => ∃ (kq : Nat) (x97_102 : Bool), v97 = .bool x97_102 ∧ Aside0 (laws_FnExactFillGap.j2 kq t312 x97_102 t313 t314 = some r) ∧ Aside0 (kq ≤ kj65) ∧ Aside0 (Kd.R k25 25 wc w.heap.size (fun k_ => some k_ ≠ ((.slice Ao30 t309.length co30) : Value).ownBlock ∧ some k_ ≠ ((.slice Ao37 t292.length co37) : Value).ownBlock ∧ some k_ ≠ ((.slice Ao119 t322.length co119) : Value).ownBlock) (.slice Ao23 t277.length co23) t277) ∧ Aside0 (Kd.R (Kd.int .i64) 3 wc w.heap.size (fun k_ => some k_ ≠ ((.slice Ao34 t310.length co34) : Value).ownBlock ∧ some k_ ≠ ((.slice Ao42 t295.length co42) : Value).ownBlock ∧ some k_ ≠ ((.slice Ao125 t325.length co125) : Value).ownBlock) (.slice Ao26 t280.length co26) t280) ∧ Aside0 (Kd.R k25 25 wc w.heap.size (fun k_ => some k_ ≠ ((.slice Ao23 t277.length co23) : Value).ownBlock ∧ some k_ ≠ ((.slice Ao37 t292.length co37) : Value).ownBlock ∧ some k_ ≠ ((.slice Ao119 t322.length co119) : Value).ownBlock) (.slice Ao30 t309.length co30) t309) ∧ Aside0 (Kd.R (Kd.int .i64) 3 wc w.heap.size (fun k_ => some k_ ≠ ((.slice Ao26 t280.length co26) : Value).ownBlock ∧ some k_ ≠ ((.slice Ao42 t295.length co42) : Value).ownBlock ∧ some k_ ≠ ((.slice Ao125 t325.length co125) : Value).ownBlock) (.slice Ao34 t310.length co34) t310) ∧ Aside0 (Kd.R k25 25 wc w.heap.size (fun k_ => some k_ ≠ ((.slice Ao23 t277.length co23) : Value).ownBlock ∧ some k_ ≠ ((.slice Ao30 t309.length co30) : Value).ownBlock ∧ some k_ ≠ ((.slice Ao119 t322.length co119) : Value).ownBlock) (.slice Ao37 t292.length co37) t313) ∧ Aside0 (Kd.R (Kd.int .i64) 3 wc w.heap.size (fun k_ => some k_ ≠ ((.slice Ao26 t280.length co26) : Value).ownBlock ∧ some k_ ≠ ((.slice Ao34 t310.length co34) : Value).ownBlock ∧ some k_ ≠ ((.slice Ao125 t325.length co125) : Value).ownBlock) (.slice Ao42 t295.length co42) t314) ∧ Aside0 (Kd.R k25 25 wc w.heap.size (fun k_ => some k_ ≠ ((.slice Ao23 t277.length co23) : Value).ownBlock ∧ some k_ ≠ ((.slice Ao30 t309.length co30) : Value).ownBlock ∧ some k_ ≠ ((.slice Ao37 t292.length co37) : Value).ownBlock) (.slice Ao119 t322.length co119) t322) ∧ Aside0 (Kd.R (Kd.int .i64) 3 wc w.heap.size (fun k_ => some k_ ≠ ((.slice Ao26 t280.length co26) : Value).ownBlock ∧ some k_ ≠ ((.slice Ao34 t310.length co34) : Value).ownBlock ∧ some k_ ≠ ((.slice Ao42 t295.length co42) : Value).ownBlock) (.slice Ao125 t325.length co125) t325) ∧ Aside0 (wc.heap[gb269]? = some (.cells #[(.slice A0_0 l0_0.length c0_0), (.slice A0_1 l0_1.length c0_1)] 51 (0, 0))) ∧ Aside0 (wc.heap[gb284]? = some (.cells #[(.slice Ao23 t277.length co23), (.slice Ao26 t280.length co26)] 54 (0, 0))) ∧ Aside0 (wc.heap[gb291]? = some (.cells #[(.slice Ao30 t309.length co30), (.slice Ao34 t310.length co34)] 54 (0, 0))) ∧ Aside0 (wc.heap[gb299]? = some (.cells #[(.slice Ao37 t292.length co37), (.slice Ao42 t295.length co42)] 54 (0, 0))) ∧ Aside0 (wc.heap[gb329]? = some (.cells #[(.slice Ao119 t322.length co119), (.slice Ao125 t325.length co125)] 54 (0, 0))) ∧ Aside0 (Below w.heap.size w wc))
           case first =>
            have H := HC103.out
            clear HC103
            replace H := Option.bind_eq_some_iff.mp H
            obtain ⟨t330, A1260, H⟩ := H
            replace H : (if t330 = true then (laws_FnExactFillGap.j2 kj65 t312 (t328 != t283) t313 t314) else (laws_FnExactFillGap.j2 kj65 t312 true t313 t314)) = some r := H
            have A126 := Aside0.mk A1260
            clear A1260
            by_cases c127 : t330 = true
            ·subst c127
             have H1 : (laws_FnExactFillGap.j2 kj65 t312 (t328 != t283) t313 t314) = some r := by rw [if_pos rfl] at H; exact H
             clear H
             have H := H1
             clear H1
             have H' := Aside0.mk H
             clear H
             have hnb128 := NB329_269.out
             have hnc128 := NB269_329.out
             have hnb129 := NB329_284.out
             have hnc129 := NB284_329.out
             have hnb130 := NB329_291.out
             have hnc130 := NB291_329.out
             have hnb131 := NB329_299.out
             have hnc131 := NB299_329.out
             have hcz132_0 : w118.cell? ⟨gb329, 0, none⟩ = some (.slice none 0 0) := (blk_cell BK329.out 0).trans rfl
             have hcz132_1 : w118.cell? ⟨gb329, 1, none⟩ = some (.slice none 0 0) := (blk_cell BK329.out 1).trans rfl
             have hfz132_0 := blk_frozen BK329.out 0
             have hfz132_1 := blk_frozen BK329.out 1
             have hnb133 := NB284_269.out
             have hnc133 := NB269_284.out
             have hnb134 := NB284_291.out
             have hnc134 := NB291_284.out
             have hnb135 := NB284_299.out
             have hnc135 := NB299_284.out
             have hcz136_0 : w118.cell? ⟨gb284, 0, none⟩ = some (.slice Ao23 t277.length co23) := (blk_cell BK284.out 0).trans rfl
             have hcz136_1 : w118.cell? ⟨gb284, 1, none⟩ = some (.slice Ao26 t280.length co26) := (blk_cell BK284.out 1).trans rfl
             have hfz136_0 := blk_frozen BK284.out 0
             have hfz136_1 := blk_frozen BK284.out 1
             go_wp2_with (first | ((with_reducible refine gate_callee (f := 41) rfl ?_); refine goesL_ (some 91) rfl rfl Try.func41 (by kernel_rfl) rfl #[.agg #[.slice Ao119 t322.length co119, .slice Ao125 t325.length co125], .agg #[.slice Ao23 t277.length co23, .slice Ao26 t280.length co26]] rfl (by (try simp only [List.map_toArray, List.map_cons, List.map_nil]); first | done | rfl | (simp only [List.length_drop, List.length_take]; rfl)) ?_; (with_reducible refine (laws_eqPuzzle.calls kj65 _ _ t322 _ _ t325 _ _ t277 _ _ t280 true _ ?side1 ?side2 ?side3 ?side4 ?side5 ?side6 ?side7 ?side8 A126.out).mono ?_); (case side1 => refine (Kd.R_reads' (e := 25) (base := w.heap.size) (ok := fun k_ => ((((True ∧ some k_ ≠ (.slice Ao23 t277.length co23 : Value).ownBlock) ∧ some k_ ≠ (.slice Ao30 t309.length co30 : Value).ownBlock) ∧ some k_ ≠ (.slice Ao37 t292.length co37 : Value).ownBlock) ∧ some k_ ≠ (.slice Ao115 t316.length co115 : Value).ownBlock)) (n := t322.length) (c := co119) ?_).2.2; exact (by (with_reducible repeat (first | apply Kd.R_alloc | apply Kd.R_drewN | apply Kd.R_drew)); exact (Kd.R_mono (Kd.R_far (p := ⟨gb329, 1, none⟩) (Kd.R_far (p := ⟨gb329, 0, none⟩) (Kd.R_types HO324.out BK329.out (by decide)) (fun _ hk => hk.2) (.slice Ao119 t322.length co119)) (fun _ hk => hk.2) (.slice Ao125 t325.length co125)) (fun _ h_ => h_.1)))); (case side2 => exact (Kd.R_reads' HO324.out).2.1); (case side3 => refine (Kd.R_reads' (e := 3) (base := w.heap.size) (ok := fun k_ => ((((True ∧ some k_ ≠ (.slice Ao26 t280.length co26 : Value).ownBlock) ∧ some k_ ≠ (.slice Ao34 t310.length co34 : Value).ownBlock) ∧ some k_ ≠ (.slice Ao42 t295.length co42 : Value).ownBlock) ∧ some k_ ≠ (.slice Ao116 t319.length co116 : Value).ownBlock)) (n := t325.length) (c := co125) ?_).2.2; exact (by (with_reducible repeat (first | apply Kd.R_alloc | apply Kd.R_drewN | apply Kd.R_drew)); exact (Kd.R_mono (Kd.R_far (p := ⟨gb329, 1, none⟩) (Kd.R_far (p := ⟨gb329, 0, none⟩) (Kd.R_types HO327.out BK329.out (by decide)) (fun _ hk => hk.2) (.slice Ao119 t322.length co119)) (fun _ hk => hk.2) (.slice Ao125 t325.length co125)) (fun _ h_ => h_.1)))); (case side4 => exact (Kd.R_reads' HO327.out).2.1); (case side5 => refine (Kd.R_reads' (e := 25) (base := w.heap.size) (ok := fun k_ => (((some k_ ≠ (.slice Ao30 t309.length co30 : Value).ownBlock ∧ some k_ ≠ (.slice Ao37 t292.length co37 : Value).ownBlock) ∧ some k_ ≠ (.slice Ao115 t316.length co115 : Value).ownBlock) ∧ some k_ ≠ (.slice Ao119 t322.length co119 : Value).ownBlock)) (n := t277.length) (c := co23) ?_).2.2; exact (by (with_reducible repeat (first | apply Kd.R_alloc | apply Kd.R_drewN | apply Kd.R_drew)); exact (Kd.R_mono (Kd.R_far (p := ⟨gb329, 1, none⟩) (Kd.R_far (p := ⟨gb329, 0, none⟩) (Kd.R_types HO_285000.out BK329.out (by decide)) (fun _ hk => hk.2) (.slice Ao119 t322.length co119)) (fun _ hk => hk.2) (.slice Ao125 t325.length co125)) (fun _ h_ => h_.1)))); (case side6 => exact (Kd.R_reads' HO_285000.out).2.1); (case side7 => refine (Kd.R_reads' (e := 3) (base := w.heap.size) (ok := fun k_ => (((some k_ ≠ (.slice Ao34 t310.length co34 : Value).ownBlock ∧ some k_ ≠ (.slice Ao42 t295.length co42 : Value).ownBlock) ∧ some k_ ≠ (.slice Ao116 t319.length co116 : Value).ownBlock) ∧ some k_ ≠ (.slice Ao125 t325.length co125 : Value).ownBlock)) (n := t280.length) (c := co26) ?_).2.2; exact (by (with_reducible repeat (first | apply Kd.R_alloc | apply Kd.R_drewN | apply Kd.R_drew)); exact (Kd.R_mono (Kd.R_far (p := ⟨gb329, 1, none⟩) (Kd.R_far (p := ⟨gb329, 0, none⟩) (Kd.R_types HO_285001.out BK329.out (by decide)) (fun _ hk => hk.2) (.slice Ao119 t322.length co119)) (fun _ hk => hk.2) (.slice Ao125 t325.length co125)) (fun _ h_ => h_.1)))); (case side8 => exact (Kd.R_reads' HO_285001.out).2.1); rintro e w137 ⟨rfl, hb⟩; refine ⟨_, rfl, ?_⟩; replace HO_285000 := Aside0.mk (Kd.R_below (by (with_reducible repeat (first | apply Kd.R_alloc | apply Kd.R_drewN | apply Kd.R_drew)); exact (Kd.R_mono (Kd.R_far (p := ⟨gb329, 1, none⟩) (Kd.R_far (p := ⟨gb329, 0, none⟩) (Kd.R_types HO_285000.out BK329.out (by decide)) (fun _ hk => hk.2) (.slice Ao119 t322.length co119)) (fun _ hk => hk.2) (.slice Ao125 t325.length co125)) (fun _ h_ => h_.1))) hb); replace HO_285001 := Aside0.mk (Kd.R_below (by (with_reducible repeat (first | apply Kd.R_alloc | apply Kd.R_drewN | apply Kd.R_drew)); exact (Kd.R_mono (Kd.R_far (p := ⟨gb329, 1, none⟩) (Kd.R_far (p := ⟨gb329, 0, none⟩) (Kd.R_types HO_285001.out BK329.out (by decide)) (fun _ hk => hk.2) (.slice Ao119 t322.length co119)) (fun _ hk => hk.2) (.slice Ao125 t325.length co125)) (fun _ h_ => h_.1))) hb); replace HO_292000 := Aside0.mk (Kd.R_below (by (with_reducible repeat (first | apply Kd.R_alloc | apply Kd.R_drewN | apply Kd.R_drew)); exact (Kd.R_mono (Kd.R_far (p := ⟨gb329, 1, none⟩) (Kd.R_far (p := ⟨gb329, 0, none⟩) (Kd.R_types HO_292000.out BK329.out (by decide)) (fun _ hk => hk.2) (.slice Ao119 t322.length co119)) (fun _ hk => hk.2) (.slice Ao125 t325.length co125)) (fun _ h_ => h_.1))) hb); replace HO_292001 := Aside0.mk (Kd.R_below (by (with_reducible repeat (first | apply Kd.R_alloc | apply Kd.R_drewN | apply Kd.R_drew)); exact (Kd.R_mono (Kd.R_far (p := ⟨gb329, 1, none⟩) (Kd.R_far (p := ⟨gb329, 0, none⟩) (Kd.R_types HO_292001.out BK329.out (by decide)) (fun _ hk => hk.2) (.slice Ao119 t322.length co119)) (fun _ hk => hk.2) (.slice Ao125 t325.length co125)) (fun _ h_ => h_.1))) hb); replace HO_300000 := Aside0.mk (Kd.R_below (by (with_reducible repeat (first | apply Kd.R_alloc | apply Kd.R_drewN | apply Kd.R_drew)); exact (Kd.R_mono (Kd.R_far (p := ⟨gb329, 1, none⟩) (Kd.R_far (p := ⟨gb329, 0, none⟩) (Kd.R_types HO_300000.out BK329.out (by decide)) (fun _ hk => hk.2) (.slice Ao119 t322.length co119)) (fun _ hk => hk.2) (.slice Ao125 t325.length co125)) (fun _ h_ => h_.1))) hb); replace HO_300001 := Aside0.mk (Kd.R_below (by (with_reducible repeat (first | apply Kd.R_alloc | apply Kd.R_drewN | apply Kd.R_drew)); exact (Kd.R_mono (Kd.R_far (p := ⟨gb329, 1, none⟩) (Kd.R_far (p := ⟨gb329, 0, none⟩) (Kd.R_types HO_300001.out BK329.out (by decide)) (fun _ hk => hk.2) (.slice Ao119 t322.length co119)) (fun _ hk => hk.2) (.slice Ao125 t325.length co125)) (fun _ h_ => h_.1))) hb); replace HO318 := Aside0.mk (Kd.R_below (by (with_reducible repeat (first | apply Kd.R_alloc | apply Kd.R_drewN | apply Kd.R_drew)); exact (Kd.R_mono (Kd.R_far (p := ⟨gb329, 1, none⟩) (Kd.R_far (p := ⟨gb329, 0, none⟩) (Kd.R_types HO318.out BK329.out (by decide)) (fun _ hk => hk.2) (.slice Ao119 t322.length co119)) (fun _ hk => hk.2) (.slice Ao125 t325.length co125)) (fun _ h_ => h_.1))) hb); replace HO321 := Aside0.mk (Kd.R_below (by (with_reducible repeat (first | apply Kd.R_alloc | apply Kd.R_drewN | apply Kd.R_drew)); exact (Kd.R_mono (Kd.R_far (p := ⟨gb329, 1, none⟩) (Kd.R_far (p := ⟨gb329, 0, none⟩) (Kd.R_types HO321.out BK329.out (by decide)) (fun _ hk => hk.2) (.slice Ao119 t322.length co119)) (fun _ hk => hk.2) (.slice Ao125 t325.length co125)) (fun _ h_ => h_.1))) hb); replace HO324 := Aside0.mk (Kd.R_below (by (with_reducible repeat (first | apply Kd.R_alloc | apply Kd.R_drewN | apply Kd.R_drew)); exact (Kd.R_mono (Kd.R_far (p := ⟨gb329, 1, none⟩) (Kd.R_far (p := ⟨gb329, 0, none⟩) (Kd.R_types HO324.out BK329.out (by decide)) (fun _ hk => hk.2) (.slice Ao119 t322.length co119)) (fun _ hk => hk.2) (.slice Ao125 t325.length co125)) (fun _ h_ => h_.1))) hb); replace HO327 := Aside0.mk (Kd.R_below (by (with_reducible repeat (first | apply Kd.R_alloc | apply Kd.R_drewN | apply Kd.R_drew)); exact (Kd.R_mono (Kd.R_far (p := ⟨gb329, 1, none⟩) (Kd.R_far (p := ⟨gb329, 0, none⟩) (Kd.R_types HO327.out BK329.out (by decide)) (fun _ hk => hk.2) (.slice Ao119 t322.length co119)) (fun _ hk => hk.2) (.slice Ao125 t325.length co125)) (fun _ h_ => h_.1))) hb); replace BK269 := Aside0.mk (blk_below (g := gb269) (o := .cells #[.slice A0_0 l0_0.length c0_0, .slice A0_1 l0_1.length c0_1] 51 (0, 0)) (by (with_reducible repeat (first | refine blk_drewN ?_ _ | refine blk_drew ?_ | refine blk_alloc ?_ _)); refine blk_far ?_ NB269_329.out _; (with_reducible repeat (first | refine blk_drewN ?_ _ | refine blk_drew ?_ | refine blk_alloc ?_ _)); refine blk_far ?_ NB269_329.out _; (with_reducible repeat (first | refine blk_drewN ?_ _ | refine blk_drew ?_ | refine blk_alloc ?_ _)); exact BK269.out) hb); replace BK284 := Aside0.mk (blk_below (g := gb284) (o := .cells #[.slice Ao23 t277.length co23, .slice Ao26 t280.length co26] 54 (0, 0)) (by (with_reducible repeat (first | refine blk_drewN ?_ _ | refine blk_drew ?_ | refine blk_alloc ?_ _)); refine blk_far ?_ NB284_329.out _; (with_reducible repeat (first | refine blk_drewN ?_ _ | refine blk_drew ?_ | refine blk_alloc ?_ _)); refine blk_far ?_ NB284_329.out _; (with_reducible repeat (first | refine blk_drewN ?_ _ | refine blk_drew ?_ | refine blk_alloc ?_ _)); exact BK284.out) hb); replace BK291 := Aside0.mk (blk_below (g := gb291) (o := .cells #[.slice Ao30 t309.length co30, .slice Ao34 t310.length co34] 54 (0, 0)) (by (with_reducible repeat (first | refine blk_drewN ?_ _ | refine blk_drew ?_ | refine blk_alloc ?_ _)); refine blk_far ?_ NB291_329.out _; (with_reducible repeat (first | refine blk_drewN ?_ _ | refine blk_drew ?_ | refine blk_alloc ?_ _)); refine blk_far ?_ NB291_329.out _; (with_reducible repeat (first | refine blk_drewN ?_ _ | refine blk_drew ?_ | refine blk_alloc ?_ _)); exact BK291.out) hb); replace BK299 := Aside0.mk (blk_below (g := gb299) (o := .cells #[.slice Ao37 t292.length co37, .slice Ao42 t295.length co42] 54 (0, 0)) (by (with_reducible repeat (first | refine blk_drewN ?_ _ | refine blk_drew ?_ | refine blk_alloc ?_ _)); refine blk_far ?_ NB299_329.out _; (with_reducible repeat (first | refine blk_drewN ?_ _ | refine blk_drew ?_ | refine blk_alloc ?_ _)); refine blk_far ?_ NB299_329.out _; (with_reducible repeat (first | refine blk_drewN ?_ _ | refine blk_drew ?_ | refine blk_alloc ?_ _)); exact BK299.out) hb); replace BK329 := Aside0.mk (blk_below (g := gb329) (o := .cells #[.slice Ao119 t322.length co119, .slice Ao125 t325.length co125] 54 (0, 0)) (by (with_reducible repeat (first | refine blk_drewN ?_ _ | refine blk_drew ?_ | refine blk_alloc ?_ _)); refine blk_put (cs := #[.slice Ao119 t322.length co119, .slice none 0 0]) ?_ 1 _ rfl; (with_reducible repeat (first | refine blk_drewN ?_ _ | refine blk_drew ?_ | refine blk_alloc ?_ _)); refine blk_put (cs := #[.slice none 0 0, .slice none 0 0]) ?_ 0 _ rfl; (with_reducible repeat (first | refine blk_drewN ?_ _ | refine blk_drew ?_ | refine blk_alloc ?_ _)); exact BK329.out) hb); replace HB := Aside0.mk (below_step (by repeat (first | (with_reducible first | exact HB.out | apply below_alloc | apply pw_below_drewN | apply below_drew1 | refine below_set ?_ GE269.out | refine below_set ?_ GE284.out | refine below_set ?_ GE291.out | refine below_set ?_ GE299.out | refine below_set ?_ GE329.out) | exact HB.out)) hb); (try clear hb); (try clear hb2); (try clear hk); (try clear hi)))
             go_meet
             case rel => exact ⟨_, ((t328 != t283)), (by first | rfl | (simp; done) | (simp [*]; done)), H', ⟨by have := HJ12.out; have := HJ65.out; first | omega | exact Nat.le_refl _⟩, ⟨by (try simp only [hl292000_65]); (try simp only [hl292001_65]); (with_reducible repeat (first | apply Kd.R_alloc | apply Kd.R_drewN | apply Kd.R_drew)); exact Kd.R_mono HO_285000.out (fun _ hk => ⟨hk.1.1.1, ⟨hk.1.1.2, hk.2⟩⟩)⟩, ⟨by (try simp only [hl292000_65]); (try simp only [hl292001_65]); (with_reducible repeat (first | apply Kd.R_alloc | apply Kd.R_drewN | apply Kd.R_drew)); exact Kd.R_mono HO_285001.out (fun _ hk => ⟨hk.1.1.1, ⟨hk.1.1.2, hk.2⟩⟩)⟩, ⟨by (try simp only [hl292000_65]); (try simp only [hl292001_65]); (with_reducible repeat (first | apply Kd.R_alloc | apply Kd.R_drewN | apply Kd.R_drew)); exact Kd.R_mono HO_292000.out (fun _ hk => ⟨hk.1.1.1, ⟨hk.1.1.2, hk.2⟩⟩)⟩, ⟨by (try simp only [hl292000_65]); (try simp only [hl292001_65]); (with_reducible repeat (first | apply Kd.R_alloc | apply Kd.R_drewN | apply Kd.R_drew)); exact Kd.R_mono HO_292001.out (fun _ hk => ⟨hk.1.1.1, ⟨hk.1.1.2, hk.2⟩⟩)⟩, ⟨by (try simp only [hl292000_65]); (try simp only [hl292001_65]); (with_reducible repeat (first | apply Kd.R_alloc | apply Kd.R_drewN | apply Kd.R_drew)); exact Kd.R_mono HO_300000.out (fun _ hk => ⟨hk.1.1.1, ⟨hk.1.1.2, hk.2⟩⟩)⟩, ⟨by (try simp only [hl292000_65]); (try simp only [hl292001_65]); (with_reducible repeat (first | apply Kd.R_alloc | apply Kd.R_drewN | apply Kd.R_drew)); exact Kd.R_mono HO_300001.out (fun _ hk => ⟨hk.1.1.1, ⟨hk.1.1.2, hk.2⟩⟩)⟩, ⟨by (try simp only [hl292000_65]); (try simp only [hl292001_65]); (with_reducible repeat (first | apply Kd.R_alloc | apply Kd.R_drewN | apply Kd.R_drew)); exact Kd.R_mono HO324.out (fun _ hk => ⟨hk.1.1.1.2, ⟨hk.1.1.2, hk.1.2⟩⟩)⟩, ⟨by (try simp only [hl292000_65]); (try simp only [hl292001_65]); (with_reducible repeat (first | apply Kd.R_alloc | apply Kd.R_drewN | apply Kd.R_drew)); exact Kd.R_mono HO327.out (fun _ hk => ⟨hk.1.1.1.2, ⟨hk.1.1.2, hk.1.2⟩⟩)⟩, ⟨by (try simp only [hl292000_65]); (try simp only [hl292001_65]); (with_reducible repeat (first | refine blk_drewN ?_ _ | refine blk_drew ?_ | refine blk_alloc ?_ _)); exact BK269.out⟩, ⟨by (try simp only [hl292000_65]); (try simp only [hl292001_65]); (with_reducible repeat (first | refine blk_drewN ?_ _ | refine blk_drew ?_ | refine blk_alloc ?_ _)); exact BK284.out⟩, ⟨by (try simp only [hl292000_65]); (try simp only [hl292001_65]); (with_reducible repeat (first | refine blk_drewN ?_ _ | refine blk_drew ?_ | refine blk_alloc ?_ _)); exact BK291.out⟩, ⟨by (try simp only [hl292000_65]); (try simp only [hl292001_65]); (with_reducible repeat (first | refine blk_drewN ?_ _ | refine blk_drew ?_ | refine blk_alloc ?_ _)); exact BK299.out⟩, ⟨by (try simp only [hl292000_65]); (try simp only [hl292001_65]); (with_reducible repeat (first | refine blk_drewN ?_ _ | refine blk_drew ?_ | refine blk_alloc ?_ _)); exact BK329.out⟩, ⟨by repeat (first | (with_reducible first | exact HB.out | apply below_alloc | apply pw_below_drewN | apply below_drew1 | refine below_set ?_ GE269.out | refine below_set ?_ GE284.out | refine below_set ?_ GE291.out | refine below_set ?_ GE299.out | refine below_set ?_ GE329.out) | exact HB.out)⟩⟩
            ·replace c127 := Bool.eq_false_iff.mpr c127
             subst c127
             have H1 : (laws_FnExactFillGap.j2 kj65 t312 true t313 t314) = some r := by rw [if_neg (show ¬ (false = true) by decide)] at H; exact H
             clear H
             have H := H1
             clear H1
             have H' := Aside0.mk H
             clear H
             have hnb138 := NB329_269.out
             have hnc138 := NB269_329.out
             have hnb139 := NB329_284.out
             have hnc139 := NB284_329.out
             have hnb140 := NB329_291.out
             have hnc140 := NB291_329.out
             have hnb141 := NB329_299.out
             have hnc141 := NB299_329.out
             have hcz142_0 : w118.cell? ⟨gb329, 0, none⟩ = some (.slice none 0 0) := (blk_cell BK329.out 0).trans rfl
             have hcz142_1 : w118.cell? ⟨gb329, 1, none⟩ = some (.slice none 0 0) := (blk_cell BK329.out 1).trans rfl
             have hfz142_0 := blk_frozen BK329.out 0
             have hfz142_1 := blk_frozen BK329.out 1
             have hnb143 := NB284_269.out
             have hnc143 := NB269_284.out
             have hnb144 := NB284_291.out
             have hnc144 := NB291_284.out
             have hnb145 := NB284_299.out
             have hnc145 := NB299_284.out
             have hcz146_0 : w118.cell? ⟨gb284, 0, none⟩ = some (.slice Ao23 t277.length co23) := (blk_cell BK284.out 0).trans rfl
             have hcz146_1 : w118.cell? ⟨gb284, 1, none⟩ = some (.slice Ao26 t280.length co26) := (blk_cell BK284.out 1).trans rfl
             have hfz146_0 := blk_frozen BK284.out 0
             have hfz146_1 := blk_frozen BK284.out 1
             go_wp2_with (first | ((with_reducible refine gate_callee (f := 41) rfl ?_); refine goesL_ (some 91) rfl rfl Try.func41 (by kernel_rfl) rfl #[.agg #[.slice Ao119 t322.length co119, .slice Ao125 t325.length co125], .agg #[.slice Ao23 t277.length co23, .slice Ao26 t280.length co26]] rfl (by (try simp only [List.map_toArray, List.map_cons, List.map_nil]); first | done | rfl | (simp only [List.length_drop, List.length_take]; rfl)) ?_; (with_reducible refine (laws_eqPuzzle.calls kj65 _ _ t322 _ _ t325 _ _ t277 _ _ t280 false _ ?side1 ?side2 ?side3 ?side4 ?side5 ?side6 ?side7 ?side8 A126.out).mono ?_); (case side1 => refine (Kd.R_reads' (e := 25) (base := w.heap.size) (ok := fun k_ => ((((True ∧ some k_ ≠ (.slice Ao23 t277.length co23 : Value).ownBlock) ∧ some k_ ≠ (.slice Ao30 t309.length co30 : Value).ownBlock) ∧ some k_ ≠ (.slice Ao37 t292.length co37 : Value).ownBlock) ∧ some k_ ≠ (.slice Ao115 t316.length co115 : Value).ownBlock)) (n := t322.length) (c := co119) ?_).2.2; exact (by (with_reducible repeat (first | apply Kd.R_alloc | apply Kd.R_drewN | apply Kd.R_drew)); exact (Kd.R_mono (Kd.R_far (p := ⟨gb329, 1, none⟩) (Kd.R_far (p := ⟨gb329, 0, none⟩) (Kd.R_types HO324.out BK329.out (by decide)) (fun _ hk => hk.2) (.slice Ao119 t322.length co119)) (fun _ hk => hk.2) (.slice Ao125 t325.length co125)) (fun _ h_ => h_.1)))); (case side2 => exact (Kd.R_reads' HO324.out).2.1); (case side3 => refine (Kd.R_reads' (e := 3) (base := w.heap.size) (ok := fun k_ => ((((True ∧ some k_ ≠ (.slice Ao26 t280.length co26 : Value).ownBlock) ∧ some k_ ≠ (.slice Ao34 t310.length co34 : Value).ownBlock) ∧ some k_ ≠ (.slice Ao42 t295.length co42 : Value).ownBlock) ∧ some k_ ≠ (.slice Ao116 t319.length co116 : Value).ownBlock)) (n := t325.length) (c := co125) ?_).2.2; exact (by (with_reducible repeat (first | apply Kd.R_alloc | apply Kd.R_drewN | apply Kd.R_drew)); exact (Kd.R_mono (Kd.R_far (p := ⟨gb329, 1, none⟩) (Kd.R_far (p := ⟨gb329, 0, none⟩) (Kd.R_types HO327.out BK329.out (by decide)) (fun _ hk => hk.2) (.slice Ao119 t322.length co119)) (fun _ hk => hk.2) (.slice Ao125 t325.length co125)) (fun _ h_ => h_.1)))); (case side4 => exact (Kd.R_reads' HO327.out).2.1); (case side5 => refine (Kd.R_reads' (e := 25) (base := w.heap.size) (ok := fun k_ => (((some k_ ≠ (.slice Ao30 t309.length co30 : Value).ownBlock ∧ some k_ ≠ (.slice Ao37 t292.length co37 : Value).ownBlock) ∧ some k_ ≠ (.slice Ao115 t316.length co115 : Value).ownBlock) ∧ some k_ ≠ (.slice Ao119 t322.length co119 : Value).ownBlock)) (n := t277.length) (c := co23) ?_).2.2; exact (by (with_reducible repeat (first | apply Kd.R_alloc | apply Kd.R_drewN | apply Kd.R_drew)); exact (Kd.R_mono (Kd.R_far (p := ⟨gb329, 1, none⟩) (Kd.R_far (p := ⟨gb329, 0, none⟩) (Kd.R_types HO_285000.out BK329.out (by decide)) (fun _ hk => hk.2) (.slice Ao119 t322.length co119)) (fun _ hk => hk.2) (.slice Ao125 t325.length co125)) (fun _ h_ => h_.1)))); (case side6 => exact (Kd.R_reads' HO_285000.out).2.1); (case side7 => refine (Kd.R_reads' (e := 3) (base := w.heap.size) (ok := fun k_ => (((some k_ ≠ (.slice Ao34 t310.length co34 : Value).ownBlock ∧ some k_ ≠ (.slice Ao42 t295.length co42 : Value).ownBlock) ∧ some k_ ≠ (.slice Ao116 t319.length co116 : Value).ownBlock) ∧ some k_ ≠ (.slice Ao125 t325.length co125 : Value).ownBlock)) (n := t280.length) (c := co26) ?_).2.2; exact (by (with_reducible repeat (first | apply Kd.R_alloc | apply Kd.R_drewN | apply Kd.R_drew)); exact (Kd.R_mono (Kd.R_far (p := ⟨gb329, 1, none⟩) (Kd.R_far (p := ⟨gb329, 0, none⟩) (Kd.R_types HO_285001.out BK329.out (by decide)) (fun _ hk => hk.2) (.slice Ao119 t322.length co119)) (fun _ hk => hk.2) (.slice Ao125 t325.length co125)) (fun _ h_ => h_.1)))); (case side8 => exact (Kd.R_reads' HO_285001.out).2.1); rintro e w147 ⟨rfl, hb⟩; refine ⟨_, rfl, ?_⟩; replace HO_285000 := Aside0.mk (Kd.R_below (by (with_reducible repeat (first | apply Kd.R_alloc | apply Kd.R_drewN | apply Kd.R_drew)); exact (Kd.R_mono (Kd.R_far (p := ⟨gb329, 1, none⟩) (Kd.R_far (p := ⟨gb329, 0, none⟩) (Kd.R_types HO_285000.out BK329.out (by decide)) (fun _ hk => hk.2) (.slice Ao119 t322.length co119)) (fun _ hk => hk.2) (.slice Ao125 t325.length co125)) (fun _ h_ => h_.1))) hb); replace HO_285001 := Aside0.mk (Kd.R_below (by (with_reducible repeat (first | apply Kd.R_alloc | apply Kd.R_drewN | apply Kd.R_drew)); exact (Kd.R_mono (Kd.R_far (p := ⟨gb329, 1, none⟩) (Kd.R_far (p := ⟨gb329, 0, none⟩) (Kd.R_types HO_285001.out BK329.out (by decide)) (fun _ hk => hk.2) (.slice Ao119 t322.length co119)) (fun _ hk => hk.2) (.slice Ao125 t325.length co125)) (fun _ h_ => h_.1))) hb); replace HO_292000 := Aside0.mk (Kd.R_below (by (with_reducible repeat (first | apply Kd.R_alloc | apply Kd.R_drewN | apply Kd.R_drew)); exact (Kd.R_mono (Kd.R_far (p := ⟨gb329, 1, none⟩) (Kd.R_far (p := ⟨gb329, 0, none⟩) (Kd.R_types HO_292000.out BK329.out (by decide)) (fun _ hk => hk.2) (.slice Ao119 t322.length co119)) (fun _ hk => hk.2) (.slice Ao125 t325.length co125)) (fun _ h_ => h_.1))) hb); replace HO_292001 := Aside0.mk (Kd.R_below (by (with_reducible repeat (first | apply Kd.R_alloc | apply Kd.R_drewN | apply Kd.R_drew)); exact (Kd.R_mono (Kd.R_far (p := ⟨gb329, 1, none⟩) (Kd.R_far (p := ⟨gb329, 0, none⟩) (Kd.R_types HO_292001.out BK329.out (by decide)) (fun _ hk => hk.2) (.slice Ao119 t322.length co119)) (fun _ hk => hk.2) (.slice Ao125 t325.length co125)) (fun _ h_ => h_.1))) hb); replace HO_300000 := Aside0.mk (Kd.R_below (by (with_reducible repeat (first | apply Kd.R_alloc | apply Kd.R_drewN | apply Kd.R_drew)); exact (Kd.R_mono (Kd.R_far (p := ⟨gb329, 1, none⟩) (Kd.R_far (p := ⟨gb329, 0, none⟩) (Kd.R_types HO_300000.out BK329.out (by decide)) (fun _ hk => hk.2) (.slice Ao119 t322.length co119)) (fun _ hk => hk.2) (.slice Ao125 t325.length co125)) (fun _ h_ => h_.1))) hb); replace HO_300001 := Aside0.mk (Kd.R_below (by (with_reducible repeat (first | apply Kd.R_alloc | apply Kd.R_drewN | apply Kd.R_drew)); exact (Kd.R_mono (Kd.R_far (p := ⟨gb329, 1, none⟩) (Kd.R_far (p := ⟨gb329, 0, none⟩) (Kd.R_types HO_300001.out BK329.out (by decide)) (fun _ hk => hk.2) (.slice Ao119 t322.length co119)) (fun _ hk => hk.2) (.slice Ao125 t325.length co125)) (fun _ h_ => h_.1))) hb); replace HO318 := Aside0.mk (Kd.R_below (by (with_reducible repeat (first | apply Kd.R_alloc | apply Kd.R_drewN | apply Kd.R_drew)); exact (Kd.R_mono (Kd.R_far (p := ⟨gb329, 1, none⟩) (Kd.R_far (p := ⟨gb329, 0, none⟩) (Kd.R_types HO318.out BK329.out (by decide)) (fun _ hk => hk.2) (.slice Ao119 t322.length co119)) (fun _ hk => hk.2) (.slice Ao125 t325.length co125)) (fun _ h_ => h_.1))) hb); replace HO321 := Aside0.mk (Kd.R_below (by (with_reducible repeat (first | apply Kd.R_alloc | apply Kd.R_drewN | apply Kd.R_drew)); exact (Kd.R_mono (Kd.R_far (p := ⟨gb329, 1, none⟩) (Kd.R_far (p := ⟨gb329, 0, none⟩) (Kd.R_types HO321.out BK329.out (by decide)) (fun _ hk => hk.2) (.slice Ao119 t322.length co119)) (fun _ hk => hk.2) (.slice Ao125 t325.length co125)) (fun _ h_ => h_.1))) hb); replace HO324 := Aside0.mk (Kd.R_below (by (with_reducible repeat (first | apply Kd.R_alloc | apply Kd.R_drewN | apply Kd.R_drew)); exact (Kd.R_mono (Kd.R_far (p := ⟨gb329, 1, none⟩) (Kd.R_far (p := ⟨gb329, 0, none⟩) (Kd.R_types HO324.out BK329.out (by decide)) (fun _ hk => hk.2) (.slice Ao119 t322.length co119)) (fun _ hk => hk.2) (.slice Ao125 t325.length co125)) (fun _ h_ => h_.1))) hb); replace HO327 := Aside0.mk (Kd.R_below (by (with_reducible repeat (first | apply Kd.R_alloc | apply Kd.R_drewN | apply Kd.R_drew)); exact (Kd.R_mono (Kd.R_far (p := ⟨gb329, 1, none⟩) (Kd.R_far (p := ⟨gb329, 0, none⟩) (Kd.R_types HO327.out BK329.out (by decide)) (fun _ hk => hk.2) (.slice Ao119 t322.length co119)) (fun _ hk => hk.2) (.slice Ao125 t325.length co125)) (fun _ h_ => h_.1))) hb); replace BK269 := Aside0.mk (blk_below (g := gb269) (o := .cells #[.slice A0_0 l0_0.length c0_0, .slice A0_1 l0_1.length c0_1] 51 (0, 0)) (by (with_reducible repeat (first | refine blk_drewN ?_ _ | refine blk_drew ?_ | refine blk_alloc ?_ _)); refine blk_far ?_ NB269_329.out _; (with_reducible repeat (first | refine blk_drewN ?_ _ | refine blk_drew ?_ | refine blk_alloc ?_ _)); refine blk_far ?_ NB269_329.out _; (with_reducible repeat (first | refine blk_drewN ?_ _ | refine blk_drew ?_ | refine blk_alloc ?_ _)); exact BK269.out) hb); replace BK284 := Aside0.mk (blk_below (g := gb284) (o := .cells #[.slice Ao23 t277.length co23, .slice Ao26 t280.length co26] 54 (0, 0)) (by (with_reducible repeat (first | refine blk_drewN ?_ _ | refine blk_drew ?_ | refine blk_alloc ?_ _)); refine blk_far ?_ NB284_329.out _; (with_reducible repeat (first | refine blk_drewN ?_ _ | refine blk_drew ?_ | refine blk_alloc ?_ _)); refine blk_far ?_ NB284_329.out _; (with_reducible repeat (first | refine blk_drewN ?_ _ | refine blk_drew ?_ | refine blk_alloc ?_ _)); exact BK284.out) hb); replace BK291 := Aside0.mk (blk_below (g := gb291) (o := .cells #[.slice Ao30 t309.length co30, .slice Ao34 t310.length co34] 54 (0, 0)) (by (with_reducible repeat (first | refine blk_drewN ?_ _ | refine blk_drew ?_ | refine blk_alloc ?_ _)); refine blk_far ?_ NB291_329.out _; (with_reducible repeat (first | refine blk_drewN ?_ _ | refine blk_drew ?_ | refine blk_alloc ?_ _)); refine blk_far ?_ NB291_329.out _; (with_reducible repeat (first | refine blk_drewN ?_ _ | refine blk_drew ?_ | refine blk_alloc ?_ _)); exact BK291.out) hb); replace BK299 := Aside0.mk (blk_below (g := gb299) (o := .cells #[.slice Ao37 t292.length co37, .slice Ao42 t295.length co42] 54 (0, 0)) (by (with_reducible repeat (first | refine blk_drewN ?_ _ | refine blk_drew ?_ | refine blk_alloc ?_ _)); refine blk_far ?_ NB299_329.out _; (with_reducible repeat (first | refine blk_drewN ?_ _ | refine blk_drew ?_ | refine blk_alloc ?_ _)); refine blk_far ?_ NB299_329.out _; (with_reducible repeat (first | refine blk_drewN ?_ _ | refine blk_drew ?_ | refine blk_alloc ?_ _)); exact BK299.out) hb); replace BK329 := Aside0.mk (blk_below (g := gb329) (o := .cells #[.slice Ao119 t322.length co119, .slice Ao125 t325.length co125] 54 (0, 0)) (by (with_reducible repeat (first | refine blk_drewN ?_ _ | refine blk_drew ?_ | refine blk_alloc ?_ _)); refine blk_put (cs := #[.slice Ao119 t322.length co119, .slice none 0 0]) ?_ 1 _ rfl; (with_reducible repeat (first | refine blk_drewN ?_ _ | refine blk_drew ?_ | refine blk_alloc ?_ _)); refine blk_put (cs := #[.slice none 0 0, .slice none 0 0]) ?_ 0 _ rfl; (with_reducible repeat (first | refine blk_drewN ?_ _ | refine blk_drew ?_ | refine blk_alloc ?_ _)); exact BK329.out) hb); replace HB := Aside0.mk (below_step (by repeat (first | (with_reducible first | exact HB.out | apply below_alloc | apply pw_below_drewN | apply below_drew1 | refine below_set ?_ GE269.out | refine below_set ?_ GE284.out | refine below_set ?_ GE291.out | refine below_set ?_ GE299.out | refine below_set ?_ GE329.out) | exact HB.out)) hb); (try clear hb); (try clear hb2); (try clear hk); (try clear hi)))
             go_meet
             case rel => exact ⟨_, (true), (by first | rfl | (simp; done) | (simp [*]; done)), H', ⟨by have := HJ12.out; have := HJ65.out; first | omega | exact Nat.le_refl _⟩, ⟨by (try simp only [hl292000_65]); (try simp only [hl292001_65]); (with_reducible repeat (first | apply Kd.R_alloc | apply Kd.R_drewN | apply Kd.R_drew)); exact Kd.R_mono HO_285000.out (fun _ hk => ⟨hk.1.1.1, ⟨hk.1.1.2, hk.2⟩⟩)⟩, ⟨by (try simp only [hl292000_65]); (try simp only [hl292001_65]); (with_reducible repeat (first | apply Kd.R_alloc | apply Kd.R_drewN | apply Kd.R_drew)); exact Kd.R_mono HO_285001.out (fun _ hk => ⟨hk.1.1.1, ⟨hk.1.1.2, hk.2⟩⟩)⟩, ⟨by (try simp only [hl292000_65]); (try simp only [hl292001_65]); (with_reducible repeat (first | apply Kd.R_alloc | apply Kd.R_drewN | apply Kd.R_drew)); exact Kd.R_mono HO_292000.out (fun _ hk => ⟨hk.1.1.1, ⟨hk.1.1.2, hk.2⟩⟩)⟩, ⟨by (try simp only [hl292000_65]); (try simp only [hl292001_65]); (with_reducible repeat (first | apply Kd.R_alloc | apply Kd.R_drewN | apply Kd.R_drew)); exact Kd.R_mono HO_292001.out (fun _ hk => ⟨hk.1.1.1, ⟨hk.1.1.2, hk.2⟩⟩)⟩, ⟨by (try simp only [hl292000_65]); (try simp only [hl292001_65]); (with_reducible repeat (first | apply Kd.R_alloc | apply Kd.R_drewN | apply Kd.R_drew)); exact Kd.R_mono HO_300000.out (fun _ hk => ⟨hk.1.1.1, ⟨hk.1.1.2, hk.2⟩⟩)⟩, ⟨by (try simp only [hl292000_65]); (try simp only [hl292001_65]); (with_reducible repeat (first | apply Kd.R_alloc | apply Kd.R_drewN | apply Kd.R_drew)); exact Kd.R_mono HO_300001.out (fun _ hk => ⟨hk.1.1.1, ⟨hk.1.1.2, hk.2⟩⟩)⟩, ⟨by (try simp only [hl292000_65]); (try simp only [hl292001_65]); (with_reducible repeat (first | apply Kd.R_alloc | apply Kd.R_drewN | apply Kd.R_drew)); exact Kd.R_mono HO324.out (fun _ hk => ⟨hk.1.1.1.2, ⟨hk.1.1.2, hk.1.2⟩⟩)⟩, ⟨by (try simp only [hl292000_65]); (try simp only [hl292001_65]); (with_reducible repeat (first | apply Kd.R_alloc | apply Kd.R_drewN | apply Kd.R_drew)); exact Kd.R_mono HO327.out (fun _ hk => ⟨hk.1.1.1.2, ⟨hk.1.1.2, hk.1.2⟩⟩)⟩, ⟨by (try simp only [hl292000_65]); (try simp only [hl292001_65]); (with_reducible repeat (first | refine blk_drewN ?_ _ | refine blk_drew ?_ | refine blk_alloc ?_ _)); exact BK269.out⟩, ⟨by (try simp only [hl292000_65]); (try simp only [hl292001_65]); (with_reducible repeat (first | refine blk_drewN ?_ _ | refine blk_drew ?_ | refine blk_alloc ?_ _)); exact BK284.out⟩, ⟨by (try simp only [hl292000_65]); (try simp only [hl292001_65]); (with_reducible repeat (first | refine blk_drewN ?_ _ | refine blk_drew ?_ | refine blk_alloc ?_ _)); exact BK291.out⟩, ⟨by (try simp only [hl292000_65]); (try simp only [hl292001_65]); (with_reducible repeat (first | refine blk_drewN ?_ _ | refine blk_drew ?_ | refine blk_alloc ?_ _)); exact BK299.out⟩, ⟨by (try simp only [hl292000_65]); (try simp only [hl292001_65]); (with_reducible repeat (first | refine blk_drewN ?_ _ | refine blk_drew ?_ | refine blk_alloc ?_ _)); exact BK329.out⟩, ⟨by repeat (first | (with_reducible first | exact HB.out | apply below_alloc | apply pw_below_drewN | apply below_drew1 | refine below_set ?_ GE269.out | refine below_set ?_ GE284.out | refine below_set ?_ GE291.out | refine below_set ?_ GE299.out | refine below_set ?_ GE329.out) | exact HB.out)⟩⟩
           case rest =>
            clear HC103
            try clear c1
            try clear c2
            try clear p2
            try clear c3
            try clear c4
            try clear c5
            try clear c5b0
            try clear c6
            try clear c7
            try clear c8
            try clear c9
            try clear c10
            try clear c11
            try clear c12
            try clear c13
            try clear c14
            try clear c24
            try clear c31
            try clear c32
            try clear c37
            try clear c38
            try clear c39
            try clear c40
            try clear c41
            try clear c42
            try clear c43
            try clear c44
            try clear c45
            try clear c46
            try clear c47
            try clear c49
            try clear c50
            try clear c53
            try clear c54
            try clear c55
            try clear c57
            try clear c58
            try clear c61
            try clear c64
            try clear c66
            try clear c67
            try clear c72
            try clear c73
            try clear c74
            try clear c77
            try clear c77b0
            try clear c79
            try clear c80
            try clear c81
            try clear c82
            try clear c84
            try clear c85
            try clear c88
            try clear c89
            try clear c90
            try clear c92
            try clear c93
            try clear c96
            try clear c99
            try clear c99b0
            try clear c100
            try clear c100b0
            try clear c100b1
            try clear c104
            try clear c105
            try clear c106
            try clear c111
            try clear c112
            try clear c120
            try clear c121
            try clear c122
            try clear c123
            try clear c127
            try clear c128
            try clear c129
            try clear c130
            try clear c131
            try clear c133
            try clear c134
            try clear c135
            try clear c138
            try clear c139
            try clear c140
            try clear c141
            try clear c143
            try clear c144
            try clear c145
            try clear hcz107_0
            try clear hcz107_1
            try clear hcz109_0
            try clear hcz109_1
            try clear hcz113_0
            try clear hcz113_1
            try clear hcz124_0
            try clear hcz124_1
            try clear hcz132_0
            try clear hcz132_1
            try clear hcz136_0
            try clear hcz136_1
            try clear hcz142_0
            try clear hcz142_1
            try clear hcz146_0
            try clear hcz146_1
            try clear hcz15_0
            try clear hcz15_1
            try clear hcz17_0
            try clear hcz17_1
            try clear hcz25_0
            try clear hcz25_1
            try clear hcz27_0
            try clear hcz27_1
            try clear hcz33_0
            try clear hcz33_1
            try clear hcz41_0
            try clear hcz41_1
            try clear hcz48_0
            try clear hcz48_1
            try clear hcz51_0
            try clear hcz51_1
            try clear hcz56_0
            try clear hcz56_1
            try clear hcz59_0
            try clear hcz59_1
            try clear hcz75_0
            try clear hcz75_1
            try clear hcz7_0
            try clear hcz7_1
            try clear hcz83_0
            try clear hcz83_1
            try clear hcz86_0
            try clear hcz86_1
            try clear hcz91_0
            try clear hcz91_1
            try clear hcz94_0
            try clear hcz94_1
            try clear hfz107_0
            try clear hfz107_1
            try clear hfz109_0
            try clear hfz109_1
            try clear hfz113_0
            try clear hfz113_1
            try clear hfz124_0
            try clear hfz124_1
            try clear hfz132_0
            try clear hfz132_1
            try clear hfz136_0
            try clear hfz136_1
            try clear hfz142_0
            try clear hfz142_1
            try clear hfz146_0
            try clear hfz146_1
            try clear hfz15_0
            try clear hfz15_1
            try clear hfz17_0
            try clear hfz17_1
            try clear hfz25_0
            try clear hfz25_1
            try clear hfz27_0
            try clear hfz27_1
            try clear hfz33_0
            try clear hfz33_1
            try clear hfz41_0
            try clear hfz41_1
            try clear hfz48_0
            try clear hfz48_1
            try clear hfz51_0
            try clear hfz51_1
            try clear hfz56_0
            try clear hfz56_1
            try clear hfz59_0
            try clear hfz59_1
            try clear hfz75_0
            try clear hfz75_1
            try clear hfz7_0
            try clear hfz7_1
            try clear hfz83_0
            try clear hfz83_1
            try clear hfz86_0
            try clear hfz86_1
            try clear hfz91_0
            try clear hfz91_1
            try clear hfz94_0
            try clear hfz94_1
            try clear p2
            obtain ⟨kq, x97_102, rfl, HA, HJ102, HO_285000, HO_285001, HO_292000, HO_292001, HO_300000, HO_300001, HO_330000, HO_330001, BK269, BK284, BK291, BK299, BK329, HB⟩ := hcut
            have hl300000_102 := (Kd.R_reads' HO_300000.out).1
            rw [hl300000_102] at HO_300000
            (try simp only [hl300000_102])
            (try simp only [hl300000_102] at BK269)
            (try simp only [hl300000_102] at BK284)
            (try simp only [hl300000_102] at BK291)
            (try simp only [hl300000_102] at BK299)
            (try simp only [hl300000_102] at BK329)
            (try simp only [hl300000_102] at HO_285000)
            (try simp only [hl300000_102] at HO_285001)
            (try simp only [hl300000_102] at HO_292000)
            (try simp only [hl300000_102] at HO_292001)
            (try simp only [hl300000_102] at HO_300001)
            (try simp only [hl300000_102] at HO_330000)
            (try simp only [hl300000_102] at HO_330001)
            have hl300001_102 := (Kd.R_reads' HO_300001.out).1
            rw [hl300001_102] at HO_300001
            (try simp only [hl300001_102])
            (try simp only [hl300001_102] at BK269)
            (try simp only [hl300001_102] at BK284)
            (try simp only [hl300001_102] at BK291)
            (try simp only [hl300001_102] at BK299)
            (try simp only [hl300001_102] at BK329)
            (try simp only [hl300001_102] at HO_285000)
            (try simp only [hl300001_102] at HO_285001)
            (try simp only [hl300001_102] at HO_292000)
            (try simp only [hl300001_102] at HO_292001)
            (try simp only [hl300001_102] at HO_300000)
            (try simp only [hl300001_102] at HO_330000)
            (try simp only [hl300001_102] at HO_330001)
            cases kq with
            | zero => exact absurd HA.out (by simp [laws_FnExactFillGap.j2])
            | succ kj102 =>
             have H := HA.out
             clear HA
             simp only [laws_FnExactFillGap.j2] at H
             by_cases c148 : x97_102 = true
             ·subst c148
              have H1 : (none) = some r := by rw [if_pos rfl] at H; exact H
              clear H
              have H := H1
              clear H1
              exact absurd H (by simp)
             ·replace c148 := Bool.eq_false_iff.mpr c148
              subst c148
              have H1 : ((laws_heldPuzzle.f kj102 t313 t314 1).bind fun t331 => (if t331 < 0 then (none) else (if t331 = t312 then (some true) else (none)))) = some r := by rw [if_neg (show ¬ (false = true) by decide)] at H; exact H
              clear H
              have H := H1
              clear H1
              replace H := Option.bind_eq_some_iff.mp H
              obtain ⟨t331, A1490, H⟩ := H
              replace H : (if t331 < 0 then (none) else (if t331 = t312 then (some true) else (none))) = some r := H
              have A149 := Aside0.mk A1490
              clear A1490
              by_cases c150 : t331 < 0
              ·rw [if_pos c150] at H
               exact absurd H (by simp)
              ·rw [if_neg c150] at H
               have c150b0 : decide (t331 < 0) = false := decide_eq_false c150
               clear c150
               by_cases c151 : t331 = t312
               ·rw [if_pos c151] at H
                have c151b0 : (t331 == t312) = true := beq_iff_eq.mpr c151
                have c151b1 : (t331 != t312) = false := bne_eq_false_iff_eq.mpr c151
                clear c151
                obtain rfl := Option.some.inj H
                have hnb152 := NB299_269.out
                have hnc152 := NB269_299.out
                have hnb153 := NB299_284.out
                have hnc153 := NB284_299.out
                have hnb154 := NB299_291.out
                have hnc154 := NB291_299.out
                have hnb155 := NB299_329.out
                have hnc155 := NB329_299.out
                have hcz156_0 : wc.cell? ⟨gb299, 0, none⟩ = some (.slice Ao37 t313.length co37) := (blk_cell BK299.out 0).trans rfl
                have hcz156_1 : wc.cell? ⟨gb299, 1, none⟩ = some (.slice Ao42 t314.length co42) := (blk_cell BK299.out 1).trans rfl
                have hfz156_0 := blk_frozen BK299.out 0
                have hfz156_1 := blk_frozen BK299.out 1
                go_wp2_with (first | ((with_reducible refine gate_callee (f := 43) rfl ?_); refine goesL_ (some 100) rfl rfl Try.func43 (by kernel_rfl) rfl #[.agg #[.slice Ao37 t313.length co37, .slice Ao42 t314.length co42], .int .i64 1] rfl (by (try simp only [List.map_toArray, List.map_cons, List.map_nil]); first | done | rfl | (simp only [List.length_drop, List.length_take]; rfl)) ?_; (with_reducible refine (laws_heldPuzzle.calls kj102 _ _ t313 _ _ t314 1 t331 _ ?side1 ?side2 ?side3 ?side4 A149.out).mono ?_); (case side1 => repeat (first | exact (Kd.R_reads' HO_300000.out).2.2 | (with_reducible refine Kd.C_alloc ?_ _) | (with_reducible refine Kd.C_drewN ?_ _) | (with_reducible refine Kd.C_drew ?_))); (case side2 => exact (Kd.R_reads' HO_300000.out).2.1); (case side3 => repeat (first | exact (Kd.R_reads' HO_300001.out).2.2 | (with_reducible refine Kd.C_alloc ?_ _) | (with_reducible refine Kd.C_drewN ?_ _) | (with_reducible refine Kd.C_drew ?_))); (case side4 => exact (Kd.R_reads' HO_300001.out).2.1); rintro e w157 ⟨rfl, hb⟩; refine ⟨_, rfl, ?_⟩; replace HO_285000 := Aside0.mk (Kd.R_below (by (with_reducible repeat (first | apply Kd.R_alloc | apply Kd.R_drewN | apply Kd.R_drew)); exact HO_285000.out) hb); replace HO_285001 := Aside0.mk (Kd.R_below (by (with_reducible repeat (first | apply Kd.R_alloc | apply Kd.R_drewN | apply Kd.R_drew)); exact HO_285001.out) hb); replace HO_292000 := Aside0.mk (Kd.R_below (by (with_reducible repeat (first | apply Kd.R_alloc | apply Kd.R_drewN | apply Kd.R_drew)); exact HO_292000.out) hb); replace HO_292001 := Aside0.mk (Kd.R_below (by (with_reducible repeat (first | apply Kd.R_alloc | apply Kd.R_drewN | apply Kd.R_drew)); exact HO_292001.out) hb); replace HO_300000 := Aside0.mk (Kd.R_below (by (with_reducible repeat (first | apply Kd.R_alloc | apply Kd.R_drewN | apply Kd.R_drew)); exact HO_300000.out) hb); replace HO_300001 := Aside0.mk (Kd.R_below (by (with_reducible repeat (first | apply Kd.R_alloc | apply Kd.R_drewN | apply Kd.R_drew)); exact HO_300001.out) hb); replace HO_330000 := Aside0.mk (Kd.R_below (by (with_reducible repeat (first | apply Kd.R_alloc | apply Kd.R_drewN | apply Kd.R_drew)); exact HO_330000.out) hb); replace HO_330001 := Aside0.mk (Kd.R_below (by (with_reducible repeat (first | apply Kd.R_alloc | apply Kd.R_drewN | apply Kd.R_drew)); exact HO_330001.out) hb); replace BK269 := Aside0.mk (blk_below (g := gb269) (o := .cells #[.slice A0_0 l0_0.length c0_0, .slice A0_1 l0_1.length c0_1] 51 (0, 0)) (by (with_reducible repeat (first | refine blk_drewN ?_ _ | refine blk_drew ?_ | refine blk_alloc ?_ _)); exact BK269.out) hb); replace BK284 := Aside0.mk (blk_below (g := gb284) (o := .cells #[.slice Ao23 t277.length co23, .slice Ao26 t280.length co26] 54 (0, 0)) (by (with_reducible repeat (first | refine blk_drewN ?_ _ | refine blk_drew ?_ | refine blk_alloc ?_ _)); exact BK284.out) hb); replace BK291 := Aside0.mk (blk_below (g := gb291) (o := .cells #[.slice Ao30 t309.length co30, .slice Ao34 t310.length co34] 54 (0, 0)) (by (with_reducible repeat (first | refine blk_drewN ?_ _ | refine blk_drew ?_ | refine blk_alloc ?_ _)); exact BK291.out) hb); replace BK299 := Aside0.mk (blk_below (g := gb299) (o := .cells #[.slice Ao37 t313.length co37, .slice Ao42 t314.length co42] 54 (0, 0)) (by (with_reducible repeat (first | refine blk_drewN ?_ _ | refine blk_drew ?_ | refine blk_alloc ?_ _)); exact BK299.out) hb); replace BK329 := Aside0.mk (blk_below (g := gb329) (o := .cells #[.slice Ao119 t322.length co119, .slice Ao125 t325.length co125] 54 (0, 0)) (by (with_reducible repeat (first | refine blk_drewN ?_ _ | refine blk_drew ?_ | refine blk_alloc ?_ _)); exact BK329.out) hb); replace HB := Aside0.mk (below_step (by repeat (first | (with_reducible first | exact HB.out | apply below_alloc | apply pw_below_drewN | apply below_drew1 | refine below_set ?_ GE269.out | refine below_set ?_ GE284.out | refine below_set ?_ GE291.out | refine below_set ?_ GE299.out | refine below_set ?_ GE329.out) | exact HB.out)) hb); (try clear hb); (try clear hb2); (try clear hk); (try clear hi)))
                go_ret
                exact ⟨by first | rfl | (simp [errW_none, errW_some] <;> rfl) | (simp [*, errW_none, errW_some] <;> rfl), by repeat (first | (with_reducible first | exact HB.out | apply below_alloc | apply pw_below_drewN | apply below_drew1 | refine below_set ?_ GE269.out | refine below_set ?_ GE284.out | refine below_set ?_ GE291.out | refine below_set ?_ GE299.out | refine below_set ?_ GE329.out) | exact HB.out)⟩
               ·rw [if_neg c151] at H
                exact absurd H (by simp)
          ·rw [if_neg c100] at H
           exact absurd H (by simp)
     ·replace c64 := Bool.eq_false_iff.mpr c64
      subst c64
      have H1 : (none) = some r := by rw [if_neg (show ¬ (false = true) by decide)] at H; exact H
      clear H
      have H := H1
      clear H1
      exact absurd H (by simp)

end Go.Proofs.Ytgcnlhebfnaaoaa.QFnExactFillGap
