-- WRITTEN BY A PROGRAM OF THIS CLAIM'S AUTHOR (wprint.py)
import Derived.Test.YtncogkhhecgcbaaQFnExactHarderPuzzlex0
import Derived.Test.YtncogkhhecgcbaaQFnExactHarderPuzzlex2
import Derived.Test.YtncogkhhecgcbaaQFnExactHarderPuzzlex3
import Derived.Test.YtncogkhhecgcbaaQFnExactHarderPuzzlex9
import Derived.Test.YtncogkhhecgcbaaQFnExactHarderPuzzlex14
namespace Go.Proofs.Ytncogkhhecgcbaa.QFnExactHarderPuzzle
open Go.RowKit Go.Proofs.YtncogkhhecgcbaaW.PrintWords Go.Proofs.YtncogkhhecgcbaaW.PrintLast Go.Proofs.YtncogkhhecgcbaaW.PrintMore
attribute [local go_sem] max2_int min2_int max_two min_two max_three min_three max_four min_four   -- for this text's walks alone
set_option linter.unusedVariables false
set_option linter.unusedSimpArgs false

/-! ### laws_FnExactHarderPuzzle: function 6 -/
mutual
def laws_FnExactHarderPuzzle.j0 : Nat → Bool → Bool → Bool → List (S74) → List Int → List (S55) → List Int → List (S55) → List Int → List (S55) → List Int → Option (Bool)
 | 0, _, _, _, _, _, _, _, _, _, _, _ => none
 | k + 1, x5, x8, x40, x315000, x315001, x330000, x330001, x337000, x337001, x345000, x345001 => if x40 = true then (none) else ((laws_toPuzzle.f k x315000 x315001).bind fun bt346 => ((laws_eqPuzzle.f k x337000 x337001 bt346.1 bt346.2).bind fun t352 => (if t352 = true then ((laws_markPuzzle.f k x337000 x337001 1).bind fun bt353 => (if bt353.1 < 0 then (laws_FnExactHarderPuzzle.j1 k x5 true x315000 x315001 x330000 x330001 x345000 x345001) else ((laws_eqPuzzle.f k x345000 x345001 x330000 x330001).bind fun t356 => (if t356 = true then (laws_FnExactHarderPuzzle.j1 k x5 (x8 != x5) x315000 x315001 x330000 x330001 x345000 x345001) else (laws_FnExactHarderPuzzle.j1 k x5 true x315000 x315001 x330000 x330001 x345000 x345001))))) else (none))))
def laws_FnExactHarderPuzzle.j1 : Nat → Bool → Bool → List (S74) → List Int → List (S55) → List Int → List (S55) → List Int → Option (Bool)
 | 0, _, _, _, _, _, _, _, _ => none
 | k + 1, x5, x61, x315000, x315001, x330000, x330001, x345000, x345001 => if x61 = true then (none) else ((laws_markPuzzle.f k x345000 x345001 1).bind fun bt357 => ((laws_heldPuzzle.f k bt357.2.1 bt357.2.2 1).bind fun t360 => (if t360 < 0 then (none) else (if t360 = bt357.1 then ((laws_toPuzzle.f k x315000 x315001).bind fun bt361 => ((impl_HarderPuzzle.f k bt361.1 bt361.2).bind fun bt367 => ((laws_eqPuzzle.f k bt367.1 bt367.2.1 x330000 x330001).bind fun t375 => (if t375 = true then (laws_FnExactHarderPuzzle.j2 k bt357.1 (bt367.2.2 != x5) bt357.2.1 bt357.2.2) else (laws_FnExactHarderPuzzle.j2 k bt357.1 true bt357.2.1 bt357.2.2))))) else (none)))))
def laws_FnExactHarderPuzzle.j2 : Nat → Int → Bool → List (S55) → List Int → Option (Bool)
 | 0, _, _, _, _ => none
 | k + 1, x10, x87, x345000, x345001 => if x87 = true then (none) else ((laws_heldPuzzle.f k x345000 x345001 1).bind fun t376 => (if t376 < 0 then (none) else (if t376 = x10 then (some true) else (none))))
end
def laws_FnExactHarderPuzzle.f (k : Nat) (l0_0 : List (S74)) (l0_1 : List Int) : Option (Bool) := (laws_szPuzzle.f l0_0 l0_1 1048576).bind fun t315 => (if t315 < 0 then (some true) else ((laws_toPuzzle.f k l0_0 l0_1).bind fun bt316 => ((spec_HarderPuzzle.f k bt316.1 bt316.2).bind fun bt322 => ((laws_toPuzzle.f k l0_0 l0_1).bind fun bt330 => ((impl_HarderPuzzle.f k bt330.1 bt330.2).bind fun bt337 => ((laws_eqPuzzle.f k bt337.1 bt337.2.1 bt322.1 bt322.2.1).bind fun t345 => (if t345 = true then (laws_FnExactHarderPuzzle.j0 k bt322.2.2 bt337.2.2 (bt337.2.2 != bt322.2.2) l0_0 l0_1 bt322.1 bt322.2.1 bt330.1 bt330.2 bt337.1 bt337.2.1) else (laws_FnExactHarderPuzzle.j0 k bt322.2.2 bt337.2.2 true l0_0 l0_1 bt322.1 bt322.2.1 bt330.1 bt330.2 bt337.1 bt337.2.1))))))))
theorem laws_FnExactHarderPuzzle.mono_l : ∀ k, (∀ y0 y1 y2 y3 y4 y5 y6 y7 y8 y9 y10, LeO (laws_FnExactHarderPuzzle.j0 k y0 y1 y2 y3 y4 y5 y6 y7 y8 y9 y10) (laws_FnExactHarderPuzzle.j0 (k + 1) y0 y1 y2 y3 y4 y5 y6 y7 y8 y9 y10)) ∧ (∀ y0 y1 y2 y3 y4 y5 y6 y7, LeO (laws_FnExactHarderPuzzle.j1 k y0 y1 y2 y3 y4 y5 y6 y7) (laws_FnExactHarderPuzzle.j1 (k + 1) y0 y1 y2 y3 y4 y5 y6 y7)) ∧ (∀ y0 y1 y2 y3, LeO (laws_FnExactHarderPuzzle.j2 k y0 y1 y2 y3) (laws_FnExactHarderPuzzle.j2 (k + 1) y0 y1 y2 y3))
 | 0 => ⟨fun _ _ _ _ _ _ _ _ _ _ _ r h => by simp [laws_FnExactHarderPuzzle.j0] at h, fun _ _ _ _ _ _ _ _ r h => by simp [laws_FnExactHarderPuzzle.j1] at h, fun _ _ _ _ r h => by simp [laws_FnExactHarderPuzzle.j2] at h⟩
 | k + 1 => by
  obtain ⟨ih0, ih1, ih2⟩ := laws_FnExactHarderPuzzle.mono_l k
  refine ⟨?_, ?_, ?_⟩
  ·intro y0 y1 y2 y3 y4 y5 y6 y7 y8 y9 y10
   unfold laws_FnExactHarderPuzzle.j0
   repeat' first
   | (with_reducible exact ih0 _ _ _ _ _ _ _ _ _ _ _)
   | (with_reducible exact ih1 _ _ _ _ _ _ _ _)
   | (with_reducible exact ih2 _ _ _ _)
   | (with_reducible exact impl_HarderPuzzle.mono _ _ _)
   | (with_reducible exact laws_eqPuzzle.mono _ _ _ _ _)
   | (with_reducible exact laws_heldPuzzle.mono _ _ _ _)
   | (with_reducible exact laws_markPuzzle.mono _ _ _ _)
   | (with_reducible exact laws_toPuzzle.mono _ _ _)
   | (with_reducible exact spec_HarderPuzzle.mono _ _ _)
   | (with_reducible exact LeO.refl _)
   | (with_reducible exact LeO.none _)
   | (with_reducible refine LeO.ite ?_ ?_)
   | (with_reducible refine LeO.bind ?_ (fun _ => ?_))
   | exact ih0 _ _ _ _ _ _ _ _ _ _ _
   | exact ih1 _ _ _ _ _ _ _ _
   | exact ih2 _ _ _ _
   | exact impl_HarderPuzzle.mono _ _ _
   | exact laws_eqPuzzle.mono _ _ _ _ _
   | exact laws_heldPuzzle.mono _ _ _ _
   | exact laws_markPuzzle.mono _ _ _ _
   | exact laws_toPuzzle.mono _ _ _
   | exact spec_HarderPuzzle.mono _ _ _
   | exact LeO.none _
   | refine LeO.ite ?_ ?_
   | refine LeO.bind ?_ (fun _ => ?_)
  ·intro y0 y1 y2 y3 y4 y5 y6 y7
   unfold laws_FnExactHarderPuzzle.j1
   repeat' first
   | (with_reducible exact ih0 _ _ _ _ _ _ _ _ _ _ _)
   | (with_reducible exact ih1 _ _ _ _ _ _ _ _)
   | (with_reducible exact ih2 _ _ _ _)
   | (with_reducible exact impl_HarderPuzzle.mono _ _ _)
   | (with_reducible exact laws_eqPuzzle.mono _ _ _ _ _)
   | (with_reducible exact laws_heldPuzzle.mono _ _ _ _)
   | (with_reducible exact laws_markPuzzle.mono _ _ _ _)
   | (with_reducible exact laws_toPuzzle.mono _ _ _)
   | (with_reducible exact spec_HarderPuzzle.mono _ _ _)
   | (with_reducible exact LeO.refl _)
   | (with_reducible exact LeO.none _)
   | (with_reducible refine LeO.ite ?_ ?_)
   | (with_reducible refine LeO.bind ?_ (fun _ => ?_))
   | exact ih0 _ _ _ _ _ _ _ _ _ _ _
   | exact ih1 _ _ _ _ _ _ _ _
   | exact ih2 _ _ _ _
   | exact impl_HarderPuzzle.mono _ _ _
   | exact laws_eqPuzzle.mono _ _ _ _ _
   | exact laws_heldPuzzle.mono _ _ _ _
   | exact laws_markPuzzle.mono _ _ _ _
   | exact laws_toPuzzle.mono _ _ _
   | exact spec_HarderPuzzle.mono _ _ _
   | exact LeO.none _
   | refine LeO.ite ?_ ?_
   | refine LeO.bind ?_ (fun _ => ?_)
  ·intro y0 y1 y2 y3
   unfold laws_FnExactHarderPuzzle.j2
   repeat' first
   | (with_reducible exact ih0 _ _ _ _ _ _ _ _ _ _ _)
   | (with_reducible exact ih1 _ _ _ _ _ _ _ _)
   | (with_reducible exact ih2 _ _ _ _)
   | (with_reducible exact impl_HarderPuzzle.mono _ _ _)
   | (with_reducible exact laws_eqPuzzle.mono _ _ _ _ _)
   | (with_reducible exact laws_heldPuzzle.mono _ _ _ _)
   | (with_reducible exact laws_markPuzzle.mono _ _ _ _)
   | (with_reducible exact laws_toPuzzle.mono _ _ _)
   | (with_reducible exact spec_HarderPuzzle.mono _ _ _)
   | (with_reducible exact LeO.refl _)
   | (with_reducible exact LeO.none _)
   | (with_reducible refine LeO.ite ?_ ?_)
   | (with_reducible refine LeO.bind ?_ (fun _ => ?_))
   | exact ih0 _ _ _ _ _ _ _ _ _ _ _
   | exact ih1 _ _ _ _ _ _ _ _
   | exact ih2 _ _ _ _
   | exact impl_HarderPuzzle.mono _ _ _
   | exact laws_eqPuzzle.mono _ _ _ _ _
   | exact laws_heldPuzzle.mono _ _ _ _
   | exact laws_markPuzzle.mono _ _ _ _
   | exact laws_toPuzzle.mono _ _ _
   | exact spec_HarderPuzzle.mono _ _ _
   | exact LeO.none _
   | refine LeO.ite ?_ ?_
   | refine LeO.bind ?_ (fun _ => ?_)
theorem laws_FnExactHarderPuzzle.mono : ∀ a0 a1 k, LeO (laws_FnExactHarderPuzzle.f k a0 a1) (laws_FnExactHarderPuzzle.f (k + 1) a0 a1) := by
 intro a0 a1 k
 obtain ⟨ih0, ih1, ih2⟩ := laws_FnExactHarderPuzzle.mono_l k
 unfold laws_FnExactHarderPuzzle.f
 repeat' first
   | (with_reducible exact ih0 _ _ _ _ _ _ _ _ _ _ _)
   | (with_reducible exact ih1 _ _ _ _ _ _ _ _)
   | (with_reducible exact ih2 _ _ _ _)
   | (with_reducible exact impl_HarderPuzzle.mono _ _ _)
   | (with_reducible exact laws_eqPuzzle.mono _ _ _ _ _)
   | (with_reducible exact laws_heldPuzzle.mono _ _ _ _)
   | (with_reducible exact laws_markPuzzle.mono _ _ _ _)
   | (with_reducible exact laws_toPuzzle.mono _ _ _)
   | (with_reducible exact spec_HarderPuzzle.mono _ _ _)
   | (with_reducible exact LeO.refl _)
   | (with_reducible exact LeO.none _)
   | (with_reducible refine LeO.ite ?_ ?_)
   | (with_reducible refine LeO.bind ?_ (fun _ => ?_))
   | exact ih0 _ _ _ _ _ _ _ _ _ _ _
   | exact ih1 _ _ _ _ _ _ _ _
   | exact ih2 _ _ _ _
   | exact impl_HarderPuzzle.mono _ _ _
   | exact laws_eqPuzzle.mono _ _ _ _ _
   | exact laws_heldPuzzle.mono _ _ _ _
   | exact laws_markPuzzle.mono _ _ _ _
   | exact laws_toPuzzle.mono _ _ _
   | exact spec_HarderPuzzle.mono _ _ _
   | exact LeO.none _
   | refine LeO.ite ?_ ?_
   | refine LeO.bind ?_ (fun _ => ?_)
set_option maxHeartbeats 8000000 in
set_option maxRecDepth 100000 in
theorem laws_FnExactHarderPuzzle.calls (k : Nat) (A0_0 : Option Addr) (c0_0 : Nat) (l0_0 : List (S74)) (A0_1 : Option Addr) (c0_1 : Nat) (l0_1 : List Int) (r : Bool) (w : World) (hr0_0 : Kd.C k74 w A0_0 l0_0.length l0_0) (hc0_0 : l0_0.length ≤ c0_0) (hr0_1 : Kd.C (Kd.int .i64) w A0_1 l0_1.length l0_1) (hc0_1 : l0_1.length ≤ c0_1) (h : laws_FnExactHarderPuzzle.f k l0_0 l0_1 = some r) :
  Calls Try.prog 6 #[.agg #[.slice A0_0 l0_0.length c0_0, .slice A0_1 l0_1.length c0_1]] w fun e w' => e = .returned (.bool r) ∧ Below w.heap.size w w' := by
 have hu36 := Try.underlying36
 have hu25 := Try.underlying25
 have HR0_0 := Aside0.mk hr0_0
 have HC0_0 := Aside0.mk hc0_0
 clear hr0_0 hc0_0
 have HR0_1 := Aside0.mk hr0_1
 have HC0_1 := Aside0.mk hc0_1
 clear hr0_1 hc0_1
 have HB := Aside0.mk (Below.refl w.heap.size w)
 have H : ((laws_szPuzzle.f l0_0 l0_1 1048576).bind fun t315 => (if t315 < 0 then (some true) else ((laws_toPuzzle.f k l0_0 l0_1).bind fun bt316 => ((spec_HarderPuzzle.f k bt316.1 bt316.2).bind fun bt322 => ((laws_toPuzzle.f k l0_0 l0_1).bind fun bt330 => ((impl_HarderPuzzle.f k bt330.1 bt330.2).bind fun bt337 => ((laws_eqPuzzle.f k bt337.1 bt337.2.1 bt322.1 bt322.2.1).bind fun t345 => (if t345 = true then (laws_FnExactHarderPuzzle.j0 k bt322.2.2 bt337.2.2 (bt337.2.2 != bt322.2.2) l0_0 l0_1 bt322.1 bt322.2.1 bt330.1 bt330.2 bt337.1 bt337.2.1) else (laws_FnExactHarderPuzzle.j0 k bt322.2.2 bt337.2.2 true l0_0 l0_1 bt322.1 bt322.2.1 bt330.1 bt330.2 bt337.1 bt337.2.1))))))))) = some r := h
 clear h
 replace H := Option.bind_eq_some_iff.mp H
 obtain ⟨t315, A20, H⟩ := H
 replace H : (if t315 < 0 then (some true) else ((laws_toPuzzle.f k l0_0 l0_1).bind fun bt316 => ((spec_HarderPuzzle.f k bt316.1 bt316.2).bind fun bt322 => ((laws_toPuzzle.f k l0_0 l0_1).bind fun bt330 => ((impl_HarderPuzzle.f k bt330.1 bt330.2).bind fun bt337 => ((laws_eqPuzzle.f k bt337.1 bt337.2.1 bt322.1 bt322.2.1).bind fun t345 => (if t345 = true then (laws_FnExactHarderPuzzle.j0 k bt322.2.2 bt337.2.2 (bt337.2.2 != bt322.2.2) l0_0 l0_1 bt322.1 bt322.2.1 bt330.1 bt330.2 bt337.1 bt337.2.1) else (laws_FnExactHarderPuzzle.j0 k bt322.2.2 bt337.2.2 true l0_0 l0_1 bt322.1 bt322.2.1 bt330.1 bt330.2 bt337.1 bt337.2.1)))))))) = some r := H
 have A2 := Aside0.mk A20
 clear A20
 by_cases c3 : t315 < 0
 ·rw [if_pos c3] at H
  have c3b0 : decide (t315 < 0) = true := decide_eq_true c3
  clear c3
  obtain rfl := Option.some.inj H
  go_enter Try.func6, Try.ntmps6
  go_wp2_with (first | ((with_reducible refine gate_dst (N := 1) rfl ?_); refine box_event ?hg (N := 1) ?hd (cs := #[.slice A0_0 l0_0.length c0_0, .slice A0_1 l0_1.length c0_1]) (t := 36) ?hr ?_; (case hd => rfl); (case hg => rfl); (case hr => first | (go_simp; done) | (go_simp; rfl)); intro gb314 hg w4 hbox hb; have BK314 := Aside0.mk (hbox); have GW314 := Aside0.mk ((by rw [hg]; exact (below_size HB.out) : w.heap.size ≤ gb314)); have GE314 := Aside0.mk ((by rw [hg]; exact (below_size HB.out) : w.heap.size ≤ gb314)); replace HB := Aside0.mk (below_step HB.out hb); clear hb hbox hg; have hcz5_0 : w4.cell? ⟨gb314, 0, none⟩ = some (.slice A0_0 l0_0.length c0_0) := (blk_cell BK314.out 0).trans rfl; have hcz5_1 : w4.cell? ⟨gb314, 1, none⟩ = some (.slice A0_1 l0_1.length c0_1) := (blk_cell BK314.out 1).trans rfl; have hfz5_0 := blk_frozen BK314.out 0; have hfz5_1 := blk_frozen BK314.out 1) | ((with_reducible refine gate_callee (f := 15) rfl ?_); refine goesL_ (some 16) rfl rfl Try.func15 (by kernel_rfl) rfl #[.agg #[.slice A0_0 l0_0.length c0_0, .slice A0_1 l0_1.length c0_1], .int .i64 1048576] rfl (by (try simp only [List.map_toArray, List.map_cons, List.map_nil]); first | done | rfl | (simp only [List.length_drop, List.length_take]; rfl)) ?_; (with_reducible refine (laws_szPuzzle.calls _ _ l0_0 _ _ l0_1 1048576 t315 _ ?side1 ?side2 ?side3 ?side4 A2.out).mono ?_); (case side1 => repeat (first | exact (Kd.C_below HR0_0.out HB.out) | (with_reducible refine Kd.C_alloc ?_ _) | (with_reducible refine Kd.C_drewN ?_ _) | (with_reducible refine Kd.C_drew ?_))); (case side2 => exact HC0_0.out); (case side3 => repeat (first | exact (Kd.C_below HR0_1.out HB.out) | (with_reducible refine Kd.C_alloc ?_ _) | (with_reducible refine Kd.C_drewN ?_ _) | (with_reducible refine Kd.C_drew ?_))); (case side4 => exact HC0_1.out); rintro e w6 ⟨rfl, hb⟩; refine ⟨_, rfl, ?_⟩; replace BK314 := Aside0.mk (blk_below (g := gb314) (o := .cells #[.slice A0_0 l0_0.length c0_0, .slice A0_1 l0_1.length c0_1] 36 (0, 0)) (BK314.out) hb); replace HB := Aside0.mk (below_step HB.out hb); (try clear hb); (try clear hb2); (try clear hk); (try clear hi)))
  go_ret
  exact ⟨by rfl, HB.out⟩
 ·rw [if_neg c3] at H
  have c3b0 : decide (t315 < 0) = false := decide_eq_false c3
  clear c3
  replace H := Option.bind_eq_some_iff.mp H
  obtain ⟨⟨t316, t319⟩, A70, H⟩ := H
  replace H : ((spec_HarderPuzzle.f k t316 t319).bind fun bt322 => ((laws_toPuzzle.f k l0_0 l0_1).bind fun bt330 => ((impl_HarderPuzzle.f k bt330.1 bt330.2).bind fun bt337 => ((laws_eqPuzzle.f k bt337.1 bt337.2.1 bt322.1 bt322.2.1).bind fun t345 => (if t345 = true then (laws_FnExactHarderPuzzle.j0 k bt322.2.2 bt337.2.2 (bt337.2.2 != bt322.2.2) l0_0 l0_1 bt322.1 bt322.2.1 bt330.1 bt330.2 bt337.1 bt337.2.1) else (laws_FnExactHarderPuzzle.j0 k bt322.2.2 bt337.2.2 true l0_0 l0_1 bt322.1 bt322.2.1 bt330.1 bt330.2 bt337.1 bt337.2.1)))))) = some r := H
  have A7 := Aside0.mk A70
  clear A70
  replace H := Option.bind_eq_some_iff.mp H
  obtain ⟨⟨t322, t325, t328⟩, A80, H⟩ := H
  replace H : ((laws_toPuzzle.f k l0_0 l0_1).bind fun bt330 => ((impl_HarderPuzzle.f k bt330.1 bt330.2).bind fun bt337 => ((laws_eqPuzzle.f k bt337.1 bt337.2.1 t322 t325).bind fun t345 => (if t345 = true then (laws_FnExactHarderPuzzle.j0 k t328 bt337.2.2 (bt337.2.2 != t328) l0_0 l0_1 t322 t325 bt330.1 bt330.2 bt337.1 bt337.2.1) else (laws_FnExactHarderPuzzle.j0 k t328 bt337.2.2 true l0_0 l0_1 t322 t325 bt330.1 bt330.2 bt337.1 bt337.2.1))))) = some r := H
  have A8 := Aside0.mk A80
  clear A80
  replace H := Option.bind_eq_some_iff.mp H
  obtain ⟨⟨t330, t333⟩, A90, H⟩ := H
  replace H : ((impl_HarderPuzzle.f k t330 t333).bind fun bt337 => ((laws_eqPuzzle.f k bt337.1 bt337.2.1 t322 t325).bind fun t345 => (if t345 = true then (laws_FnExactHarderPuzzle.j0 k t328 bt337.2.2 (bt337.2.2 != t328) l0_0 l0_1 t322 t325 t330 t333 bt337.1 bt337.2.1) else (laws_FnExactHarderPuzzle.j0 k t328 bt337.2.2 true l0_0 l0_1 t322 t325 t330 t333 bt337.1 bt337.2.1)))) = some r := H
  have A9 := Aside0.mk A90
  clear A90
  replace H := Option.bind_eq_some_iff.mp H
  obtain ⟨⟨t337, t340, t343⟩, A100, H⟩ := H
  replace H : ((laws_eqPuzzle.f k t337 t340 t322 t325).bind fun t345 => (if t345 = true then (laws_FnExactHarderPuzzle.j0 k t328 t343 (t343 != t328) l0_0 l0_1 t322 t325 t330 t333 t337 t340) else (laws_FnExactHarderPuzzle.j0 k t328 t343 true l0_0 l0_1 t322 t325 t330 t333 t337 t340))) = some r := H
  have A10 := Aside0.mk A100
  clear A100
  have HC11 := Aside0.mk H
  clear H
  go_enter Try.func6, Try.ntmps6
  go_upto_region 8 with (first | ((with_reducible refine gate_dst (N := 1) rfl ?_); refine box_event ?hg (N := 1) ?hd (cs := #[.slice A0_0 l0_0.length c0_0, .slice A0_1 l0_1.length c0_1]) (t := 36) ?hr ?_; (case hd => rfl); (case hg => rfl); (case hr => first | (go_simp; done) | (go_simp; rfl)); intro gb314 hg w12 hbox hb; have BK314 := Aside0.mk (hbox); have GW314 := Aside0.mk ((by rw [hg]; exact (below_size HB.out) : w.heap.size ≤ gb314)); have GE314 := Aside0.mk ((by rw [hg]; exact (below_size HB.out) : w.heap.size ≤ gb314)); replace HB := Aside0.mk (below_step HB.out hb); clear hb hbox hg; have hcz13_0 : w12.cell? ⟨gb314, 0, none⟩ = some (.slice A0_0 l0_0.length c0_0) := (blk_cell BK314.out 0).trans rfl; have hcz13_1 : w12.cell? ⟨gb314, 1, none⟩ = some (.slice A0_1 l0_1.length c0_1) := (blk_cell BK314.out 1).trans rfl; have hfz13_0 := blk_frozen BK314.out 0; have hfz13_1 := blk_frozen BK314.out 1) | ((with_reducible refine gate_callee (f := 15) rfl ?_); refine goesL_ (some 16) rfl rfl Try.func15 (by kernel_rfl) rfl #[.agg #[.slice A0_0 l0_0.length c0_0, .slice A0_1 l0_1.length c0_1], .int .i64 1048576] rfl (by (try simp only [List.map_toArray, List.map_cons, List.map_nil]); first | done | rfl | (simp only [List.length_drop, List.length_take]; rfl)) ?_; (with_reducible refine (laws_szPuzzle.calls _ _ l0_0 _ _ l0_1 1048576 t315 _ ?side1 ?side2 ?side3 ?side4 A2.out).mono ?_); (case side1 => repeat (first | exact (Kd.C_below HR0_0.out HB.out) | (with_reducible refine Kd.C_alloc ?_ _) | (with_reducible refine Kd.C_drewN ?_ _) | (with_reducible refine Kd.C_drew ?_))); (case side2 => exact HC0_0.out); (case side3 => repeat (first | exact (Kd.C_below HR0_1.out HB.out) | (with_reducible refine Kd.C_alloc ?_ _) | (with_reducible refine Kd.C_drewN ?_ _) | (with_reducible refine Kd.C_drew ?_))); (case side4 => exact HC0_1.out); rintro e w14 ⟨rfl, hb⟩; refine ⟨_, rfl, ?_⟩; replace BK314 := Aside0.mk (blk_below (g := gb314) (o := .cells #[.slice A0_0 l0_0.length c0_0, .slice A0_1 l0_1.length c0_1] 36 (0, 0)) (BK314.out) hb); replace HB := Aside0.mk (below_step HB.out hb); (try clear hb); (try clear hb2); (try clear hk); (try clear hi); have hcz15_0 : w14.cell? ⟨gb314, 0, none⟩ = some (.slice A0_0 l0_0.length c0_0) := (blk_cell BK314.out 0).trans rfl; have hcz15_1 : w14.cell? ⟨gb314, 1, none⟩ = some (.slice A0_1 l0_1.length c0_1) := (blk_cell BK314.out 1).trans rfl; have hfz15_0 := blk_frozen BK314.out 0; have hfz15_1 := blk_frozen BK314.out 1) | ((with_reducible refine gate_callee (f := 17) rfl ?_); refine goesL_ (some 21) rfl rfl Try.func17 (by kernel_rfl) rfl #[.agg #[.slice A0_0 l0_0.length c0_0, .slice A0_1 l0_1.length c0_1]] rfl (by (try simp only [List.map_toArray, List.map_cons, List.map_nil]); first | done | rfl | (simp only [List.length_drop, List.length_take]; rfl)) ?_; (with_reducible refine (laws_toPuzzle.calls k _ _ l0_0 _ _ l0_1 t316 t319 _ ?side1 ?side2 ?side3 ?side4 A7.out).mono ?_); (case side1 => repeat (first | exact (Kd.C_below HR0_0.out HB.out) | (with_reducible refine Kd.C_alloc ?_ _) | (with_reducible refine Kd.C_drewN ?_ _) | (with_reducible refine Kd.C_drew ?_))); (case side2 => exact HC0_0.out); (case side3 => repeat (first | exact (Kd.C_below HR0_1.out HB.out) | (with_reducible refine Kd.C_alloc ?_ _) | (with_reducible refine Kd.C_drewN ?_ _) | (with_reducible refine Kd.C_drew ?_))); (case side4 => exact HC0_1.out); rintro e w16 ⟨v317, v320, rfl, ho0, ho1, hb⟩; refine ⟨_, rfl, ?_⟩; have HO318 := Aside0.mk (Kd.R_lower ho0 (below_size HB.out)); have HO321 := Aside0.mk (Kd.R_lower ho1 (below_size HB.out)); replace BK314 := Aside0.mk (blk_below (g := gb314) (o := .cells #[.slice A0_0 l0_0.length c0_0, .slice A0_1 l0_1.length c0_1] 36 (0, 0)) (BK314.out) hb); replace HB := Aside0.mk (below_step HB.out hb); (try clear hb); (try clear hb2); (try clear hk); (try clear hi); (try clear ho0); (try clear ho1); obtain ⟨Ao17, co17, eo17⟩ := Kd.R_slice HO318.out; subst eo17; obtain ⟨Ao18, co18, eo18⟩ := Kd.R_slice HO321.out; subst eo18) | ((with_reducible refine gate_callee (f := 21) rfl ?_); refine goesL_ (some 22) rfl rfl Try.func21 (by kernel_rfl) rfl #[.agg #[.slice Ao17 t316.length co17, .slice Ao18 t319.length co18]] rfl (by (try simp only [List.map_toArray, List.map_cons, List.map_nil]); first | done | rfl | (simp only [List.length_drop, List.length_take]; rfl)) ?_; (with_reducible refine (spec_HarderPuzzle.calls k _ _ t316 _ _ t319 t322 t325 t328 _ ?side1 ?side2 ?side3 ?side4 A8.out).mono ?_); (case side1 => repeat (first | exact (Kd.R_reads' HO318.out).2.2 | (with_reducible refine Kd.C_alloc ?_ _) | (with_reducible refine Kd.C_drewN ?_ _) | (with_reducible refine Kd.C_drew ?_))); (case side2 => exact (Kd.R_reads' HO318.out).2.1); (case side3 => repeat (first | exact (Kd.R_reads' HO321.out).2.2 | (with_reducible refine Kd.C_alloc ?_ _) | (with_reducible refine Kd.C_drewN ?_ _) | (with_reducible refine Kd.C_drew ?_))); (case side4 => exact (Kd.R_reads' HO321.out).2.1); rintro e w19 ⟨v323, v326, rfl, ho0, ho1, hb⟩; refine ⟨_, rfl, ?_⟩; have HO324 := Aside0.mk (Kd.R_lower (Kd.R_new' ho0 (Kd.R_lt (HO318.out))) (below_size HB.out)); replace HO318 := Aside0.mk (Kd.R_elder' (HO318.out) (Kd.R_base ho0) hb); have HO327 := Aside0.mk (Kd.R_lower (Kd.R_new' ho1 (Kd.R_lt (HO321.out))) (below_size HB.out)); replace HO321 := Aside0.mk (Kd.R_elder' (HO321.out) (Kd.R_base ho1) hb); replace BK314 := Aside0.mk (blk_below (g := gb314) (o := .cells #[.slice A0_0 l0_0.length c0_0, .slice A0_1 l0_1.length c0_1] 36 (0, 0)) (BK314.out) hb); replace HB := Aside0.mk (below_step HB.out hb); (try clear hb); (try clear hb2); (try clear hk); (try clear hi); (try clear ho0); (try clear ho1)) | ((with_reducible refine gate_dst (N := 4) rfl ?_); refine box_event ?hg (N := 4) ?hd (cs := #[.slice none 0 0, .slice none 0 0]) (t := 25) ?hr ?_; (case hd => rfl); (case hg => rfl); (case hr => first | (go_simp; done) | (go_simp; rfl)); intro gb329 hg w20 hbox hb; replace HO318 := Aside0.mk (Kd.R_below (HO318.out) hb); replace HO321 := Aside0.mk (Kd.R_below (HO321.out) hb); replace HO324 := Aside0.mk (Kd.R_below (HO324.out) hb); replace HO327 := Aside0.mk (Kd.R_below (HO327.out) hb); have BK329 := Aside0.mk (hbox); have GW329 := Aside0.mk ((by rw [hg]; exact (below_size HB.out) : w.heap.size ≤ gb329)); have GE329 := Aside0.mk ((by rw [hg]; exact (below_size HB.out) : w.heap.size ≤ gb329)); replace HB := Aside0.mk (below_step (by repeat (first | (with_reducible first | exact HB.out | apply below_alloc | apply pw_below_drewN | apply below_drew1 | refine below_set ?_ GE314.out) | exact HB.out)) hb); have NB314_329 := Aside0.mk ((by rw [hg]; exact Nat.ne_of_lt (blk_lt (g := gb314) (o := .cells #[.slice A0_0 l0_0.length c0_0, .slice A0_1 l0_1.length c0_1] 36 (0, 0)) (by (with_reducible repeat (first | refine blk_drewN ?_ _ | refine blk_drew ?_ | refine blk_alloc ?_ _)); exact BK314.out)) : gb314 ≠ gb329)); have NB329_314 := Aside0.mk ((by rw [hg]; exact Nat.ne_of_gt (blk_lt (g := gb314) (o := .cells #[.slice A0_0 l0_0.length c0_0, .slice A0_1 l0_1.length c0_1] 36 (0, 0)) (by (with_reducible repeat (first | refine blk_drewN ?_ _ | refine blk_drew ?_ | refine blk_alloc ?_ _)); exact BK314.out)) : gb329 ≠ gb314)); replace BK314 := Aside0.mk (blk_below (g := gb314) (o := .cells #[.slice A0_0 l0_0.length c0_0, .slice A0_1 l0_1.length c0_1] 36 (0, 0)) (by (with_reducible repeat (first | refine blk_drewN ?_ _ | refine blk_drew ?_ | refine blk_alloc ?_ _)); exact BK314.out) hb); clear hb hbox hg; obtain ⟨Ao21, co21, eo21⟩ := Kd.R_slice HO324.out; subst eo21; have hnb22 := NB329_314.out; have hnc22 := NB314_329.out; have hcz23_0 : w20.cell? ⟨gb329, 0, none⟩ = some (.slice none 0 0) := (blk_cell BK329.out 0).trans rfl; have hcz23_1 : w20.cell? ⟨gb329, 1, none⟩ = some (.slice none 0 0) := (blk_cell BK329.out 1).trans rfl; have hfz23_0 := blk_frozen BK329.out 0; have hfz23_1 := blk_frozen BK329.out 1; obtain ⟨Ao24, co24, eo24⟩ := Kd.R_slice HO327.out; subst eo24; have hcz25_0 : w20.cell? ⟨gb314, 0, none⟩ = some (.slice A0_0 l0_0.length c0_0) := (blk_cell BK314.out 0).trans rfl; have hcz25_1 : w20.cell? ⟨gb314, 1, none⟩ = some (.slice A0_1 l0_1.length c0_1) := (blk_cell BK314.out 1).trans rfl; have hfz25_0 := blk_frozen BK314.out 0; have hfz25_1 := blk_frozen BK314.out 1) | ((with_reducible refine gate_callee (f := 17) rfl ?_); refine goesL_ (some 26) rfl rfl Try.func17 (by kernel_rfl) rfl #[.agg #[.slice A0_0 l0_0.length c0_0, .slice A0_1 l0_1.length c0_1]] rfl (by (try simp only [List.map_toArray, List.map_cons, List.map_nil]); first | done | rfl | (simp only [List.length_drop, List.length_take]; rfl)) ?_; (with_reducible refine (laws_toPuzzle.calls k _ _ l0_0 _ _ l0_1 t330 t333 _ ?side1 ?side2 ?side3 ?side4 A9.out).mono ?_); (case side1 => exact Kd.C_below HR0_0.out (by repeat (first | (with_reducible first | exact HB.out | apply below_alloc | apply pw_below_drewN | apply below_drew1 | refine below_set ?_ GE314.out | refine below_set ?_ GE329.out) | exact HB.out))); (case side2 => exact HC0_0.out); (case side3 => exact Kd.C_below HR0_1.out (by repeat (first | (with_reducible first | exact HB.out | apply below_alloc | apply pw_below_drewN | apply below_drew1 | refine below_set ?_ GE314.out | refine below_set ?_ GE329.out) | exact HB.out))); (case side4 => exact HC0_1.out); rintro e w26 ⟨v331, v334, rfl, ho0, ho1, hb⟩; refine ⟨_, rfl, ?_⟩; have HO332 := Aside0.mk (Kd.R_lower (Kd.R_new' (Kd.R_new' ho0 (Kd.R_lt (by (with_reducible repeat (first | apply Kd.R_alloc | apply Kd.R_drewN | apply Kd.R_drew)); exact (Kd.R_mono (Kd.R_far (p := ⟨gb329, 1, none⟩) (Kd.R_far (p := ⟨gb329, 0, none⟩) (Kd.R_types HO318.out BK329.out (by decide)) (fun _ hk => hk.2) (.slice Ao21 t322.length co21)) (fun _ hk => hk.2) (.slice Ao24 t325.length co24)) (fun _ h_ => h_.1))))) (Kd.R_lt (by (with_reducible repeat (first | apply Kd.R_alloc | apply Kd.R_drewN | apply Kd.R_drew)); exact (Kd.R_mono (Kd.R_far (p := ⟨gb329, 1, none⟩) (Kd.R_far (p := ⟨gb329, 0, none⟩) (Kd.R_types HO324.out BK329.out (by decide)) (fun _ hk => hk.2) (.slice Ao21 t322.length co21)) (fun _ hk => hk.2) (.slice Ao24 t325.length co24)) (fun _ h_ => h_.1))))) (below_size (by repeat (first | (with_reducible first | exact HB.out | apply below_alloc | apply pw_below_drewN | apply below_drew1 | refine below_set ?_ GE314.out | refine below_set ?_ GE329.out) | exact HB.out)))); replace HO318 := Aside0.mk (Kd.R_elder' (by (with_reducible repeat (first | apply Kd.R_alloc | apply Kd.R_drewN | apply Kd.R_drew)); exact (Kd.R_mono (Kd.R_far (p := ⟨gb329, 1, none⟩) (Kd.R_far (p := ⟨gb329, 0, none⟩) (Kd.R_types HO318.out BK329.out (by decide)) (fun _ hk => hk.2) (.slice Ao21 t322.length co21)) (fun _ hk => hk.2) (.slice Ao24 t325.length co24)) (fun _ h_ => h_.1))) (Kd.R_base ho0) hb); replace HO324 := Aside0.mk (Kd.R_elder' (by (with_reducible repeat (first | apply Kd.R_alloc | apply Kd.R_drewN | apply Kd.R_drew)); exact (Kd.R_mono (Kd.R_far (p := ⟨gb329, 1, none⟩) (Kd.R_far (p := ⟨gb329, 0, none⟩) (Kd.R_types HO324.out BK329.out (by decide)) (fun _ hk => hk.2) (.slice Ao21 t322.length co21)) (fun _ hk => hk.2) (.slice Ao24 t325.length co24)) (fun _ h_ => h_.1))) (Kd.R_base ho0) hb); have HO335 := Aside0.mk (Kd.R_lower (Kd.R_new' (Kd.R_new' ho1 (Kd.R_lt (by (with_reducible repeat (first | apply Kd.R_alloc | apply Kd.R_drewN | apply Kd.R_drew)); exact (Kd.R_mono (Kd.R_far (p := ⟨gb329, 1, none⟩) (Kd.R_far (p := ⟨gb329, 0, none⟩) (Kd.R_types HO321.out BK329.out (by decide)) (fun _ hk => hk.2) (.slice Ao21 t322.length co21)) (fun _ hk => hk.2) (.slice Ao24 t325.length co24)) (fun _ h_ => h_.1))))) (Kd.R_lt (by (with_reducible repeat (first | apply Kd.R_alloc | apply Kd.R_drewN | apply Kd.R_drew)); exact (Kd.R_mono (Kd.R_far (p := ⟨gb329, 1, none⟩) (Kd.R_far (p := ⟨gb329, 0, none⟩) (Kd.R_types HO327.out BK329.out (by decide)) (fun _ hk => hk.2) (.slice Ao21 t322.length co21)) (fun _ hk => hk.2) (.slice Ao24 t325.length co24)) (fun _ h_ => h_.1))))) (below_size (by repeat (first | (with_reducible first | exact HB.out | apply below_alloc | apply pw_below_drewN | apply below_drew1 | refine below_set ?_ GE314.out | refine below_set ?_ GE329.out) | exact HB.out)))); replace HO321 := Aside0.mk (Kd.R_elder' (by (with_reducible repeat (first | apply Kd.R_alloc | apply Kd.R_drewN | apply Kd.R_drew)); exact (Kd.R_mono (Kd.R_far (p := ⟨gb329, 1, none⟩) (Kd.R_far (p := ⟨gb329, 0, none⟩) (Kd.R_types HO321.out BK329.out (by decide)) (fun _ hk => hk.2) (.slice Ao21 t322.length co21)) (fun _ hk => hk.2) (.slice Ao24 t325.length co24)) (fun _ h_ => h_.1))) (Kd.R_base ho1) hb); replace HO327 := Aside0.mk (Kd.R_elder' (by (with_reducible repeat (first | apply Kd.R_alloc | apply Kd.R_drewN | apply Kd.R_drew)); exact (Kd.R_mono (Kd.R_far (p := ⟨gb329, 1, none⟩) (Kd.R_far (p := ⟨gb329, 0, none⟩) (Kd.R_types HO327.out BK329.out (by decide)) (fun _ hk => hk.2) (.slice Ao21 t322.length co21)) (fun _ hk => hk.2) (.slice Ao24 t325.length co24)) (fun _ h_ => h_.1))) (Kd.R_base ho1) hb); replace BK314 := Aside0.mk (blk_below (g := gb314) (o := .cells #[.slice A0_0 l0_0.length c0_0, .slice A0_1 l0_1.length c0_1] 36 (0, 0)) (by (with_reducible repeat (first | refine blk_drewN ?_ _ | refine blk_drew ?_ | refine blk_alloc ?_ _)); refine blk_far ?_ NB314_329.out _; (with_reducible repeat (first | refine blk_drewN ?_ _ | refine blk_drew ?_ | refine blk_alloc ?_ _)); refine blk_far ?_ NB314_329.out _; (with_reducible repeat (first | refine blk_drewN ?_ _ | refine blk_drew ?_ | refine blk_alloc ?_ _)); exact BK314.out) hb); replace BK329 := Aside0.mk (blk_below (g := gb329) (o := .cells #[.slice Ao21 t322.length co21, .slice Ao24 t325.length co24] 25 (0, 0)) (by (with_reducible repeat (first | refine blk_drewN ?_ _ | refine blk_drew ?_ | refine blk_alloc ?_ _)); refine blk_put (cs := #[.slice Ao21 t322.length co21, .slice none 0 0]) ?_ 1 _ rfl; (with_reducible repeat (first | refine blk_drewN ?_ _ | refine blk_drew ?_ | refine blk_alloc ?_ _)); refine blk_put (cs := #[.slice none 0 0, .slice none 0 0]) ?_ 0 _ rfl; (with_reducible repeat (first | refine blk_drewN ?_ _ | refine blk_drew ?_ | refine blk_alloc ?_ _)); exact BK329.out) hb); replace HB := Aside0.mk (below_step (by repeat (first | (with_reducible first | exact HB.out | apply below_alloc | apply pw_below_drewN | apply below_drew1 | refine below_set ?_ GE314.out | refine below_set ?_ GE329.out) | exact HB.out)) hb); (try clear hb); (try clear hb2); (try clear hk); (try clear hi); (try clear ho0); (try clear ho1)) | ((with_reducible refine gate_dst (N := 6) rfl ?_); refine box_event ?hg (N := 6) ?hd (cs := #[.slice none 0 0, .slice none 0 0]) (t := 25) ?hr ?_; (case hd => rfl); (case hg => rfl); (case hr => first | (go_simp; done) | (go_simp; rfl)); intro gb336 hg w27 hbox hb; replace HO318 := Aside0.mk (Kd.R_below (by (with_reducible repeat (first | apply Kd.R_alloc | apply Kd.R_drewN | apply Kd.R_drew)); exact HO318.out) hb); replace HO321 := Aside0.mk (Kd.R_below (by (with_reducible repeat (first | apply Kd.R_alloc | apply Kd.R_drewN | apply Kd.R_drew)); exact HO321.out) hb); replace HO324 := Aside0.mk (Kd.R_below (by (with_reducible repeat (first | apply Kd.R_alloc | apply Kd.R_drewN | apply Kd.R_drew)); exact HO324.out) hb); replace HO327 := Aside0.mk (Kd.R_below (by (with_reducible repeat (first | apply Kd.R_alloc | apply Kd.R_drewN | apply Kd.R_drew)); exact HO327.out) hb); replace HO332 := Aside0.mk (Kd.R_below (by (with_reducible repeat (first | apply Kd.R_alloc | apply Kd.R_drewN | apply Kd.R_drew)); exact HO332.out) hb); replace HO335 := Aside0.mk (Kd.R_below (by (with_reducible repeat (first | apply Kd.R_alloc | apply Kd.R_drewN | apply Kd.R_drew)); exact HO335.out) hb); have BK336 := Aside0.mk (hbox); have GW336 := Aside0.mk ((by rw [hg]; exact (below_size (by repeat (first | (with_reducible first | exact HB.out | apply below_alloc | apply pw_below_drewN | apply below_drew1 | refine below_set ?_ GE314.out | refine below_set ?_ GE329.out) | exact HB.out))) : w.heap.size ≤ gb336)); have GE336 := Aside0.mk ((by rw [hg]; exact (below_size (by repeat (first | (with_reducible first | exact HB.out | apply below_alloc | apply pw_below_drewN | apply below_drew1 | refine below_set ?_ GE314.out | refine below_set ?_ GE329.out) | exact HB.out))) : w.heap.size ≤ gb336)); replace HB := Aside0.mk (below_step (by repeat (first | (with_reducible first | exact HB.out | apply below_alloc | apply pw_below_drewN | apply below_drew1 | refine below_set ?_ GE314.out | refine below_set ?_ GE329.out) | exact HB.out)) hb); have NB314_336 := Aside0.mk ((by rw [hg]; exact Nat.ne_of_lt (blk_lt (g := gb314) (o := .cells #[.slice A0_0 l0_0.length c0_0, .slice A0_1 l0_1.length c0_1] 36 (0, 0)) (by (with_reducible repeat (first | refine blk_drewN ?_ _ | refine blk_drew ?_ | refine blk_alloc ?_ _)); exact BK314.out)) : gb314 ≠ gb336)); have NB336_314 := Aside0.mk ((by rw [hg]; exact Nat.ne_of_gt (blk_lt (g := gb314) (o := .cells #[.slice A0_0 l0_0.length c0_0, .slice A0_1 l0_1.length c0_1] 36 (0, 0)) (by (with_reducible repeat (first | refine blk_drewN ?_ _ | refine blk_drew ?_ | refine blk_alloc ?_ _)); exact BK314.out)) : gb336 ≠ gb314)); replace BK314 := Aside0.mk (blk_below (g := gb314) (o := .cells #[.slice A0_0 l0_0.length c0_0, .slice A0_1 l0_1.length c0_1] 36 (0, 0)) (by (with_reducible repeat (first | refine blk_drewN ?_ _ | refine blk_drew ?_ | refine blk_alloc ?_ _)); exact BK314.out) hb); have NB329_336 := Aside0.mk ((by rw [hg]; exact Nat.ne_of_lt (blk_lt (g := gb329) (o := .cells #[.slice Ao21 t322.length co21, .slice Ao24 t325.length co24] 25 (0, 0)) (by (with_reducible repeat (first | refine blk_drewN ?_ _ | refine blk_drew ?_ | refine blk_alloc ?_ _)); exact BK329.out)) : gb329 ≠ gb336)); have NB336_329 := Aside0.mk ((by rw [hg]; exact Nat.ne_of_gt (blk_lt (g := gb329) (o := .cells #[.slice Ao21 t322.length co21, .slice Ao24 t325.length co24] 25 (0, 0)) (by (with_reducible repeat (first | refine blk_drewN ?_ _ | refine blk_drew ?_ | refine blk_alloc ?_ _)); exact BK329.out)) : gb336 ≠ gb329)); replace BK329 := Aside0.mk (blk_below (g := gb329) (o := .cells #[.slice Ao21 t322.length co21, .slice Ao24 t325.length co24] 25 (0, 0)) (by (with_reducible repeat (first | refine blk_drewN ?_ _ | refine blk_drew ?_ | refine blk_alloc ?_ _)); exact BK329.out) hb); clear hb hbox hg; obtain ⟨Ao28, co28, eo28⟩ := Kd.R_slice HO332.out; subst eo28; have hnb29 := NB336_314.out; have hnc29 := NB314_336.out; have hnb30 := NB336_329.out; have hnc30 := NB329_336.out; have hcz31_0 : w27.cell? ⟨gb336, 0, none⟩ = some (.slice none 0 0) := (blk_cell BK336.out 0).trans rfl; have hcz31_1 : w27.cell? ⟨gb336, 1, none⟩ = some (.slice none 0 0) := (blk_cell BK336.out 1).trans rfl; have hfz31_0 := blk_frozen BK336.out 0; have hfz31_1 := blk_frozen BK336.out 1; obtain ⟨Ao32, co32, eo32⟩ := Kd.R_slice HO335.out; subst eo32) | ((with_reducible refine gate_callee (f := 22) rfl ?_); refine goesL_ (some 29) rfl rfl Try.func22 (by kernel_rfl) rfl #[.agg #[.slice Ao28 t330.length co28, .slice Ao32 t333.length co32]] rfl (by (try simp only [List.map_toArray, List.map_cons, List.map_nil]); first | done | rfl | (simp only [List.length_drop, List.length_take]; rfl)) ?_; (with_reducible refine (impl_HarderPuzzle.calls k _ _ t330 _ _ t333 t337 t340 t343 _ ?side1 ?side2 ?side3 ?side4 A10.out).mono ?_); (case side1 => refine (Kd.R_reads' (e := 55) (base := w.heap.size) (ok := fun k_ => ((True ∧ some k_ ≠ (.slice Ao17 t316.length co17 : Value).ownBlock) ∧ some k_ ≠ (.slice Ao21 t322.length co21 : Value).ownBlock)) (n := t330.length) (c := co28) ?_).2.2; exact (by (with_reducible repeat (first | apply Kd.R_alloc | apply Kd.R_drewN | apply Kd.R_drew)); exact (Kd.R_mono (Kd.R_far (p := ⟨gb336, 1, none⟩) (Kd.R_far (p := ⟨gb336, 0, none⟩) (Kd.R_types HO332.out BK336.out (by decide)) (fun _ hk => hk.2) (.slice Ao28 t330.length co28)) (fun _ hk => hk.2) (.slice Ao32 t333.length co32)) (fun _ h_ => h_.1)))); (case side2 => exact (Kd.R_reads' HO332.out).2.1); (case side3 => refine (Kd.R_reads' (e := 3) (base := w.heap.size) (ok := fun k_ => ((True ∧ some k_ ≠ (.slice Ao18 t319.length co18 : Value).ownBlock) ∧ some k_ ≠ (.slice Ao24 t325.length co24 : Value).ownBlock)) (n := t333.length) (c := co32) ?_).2.2; exact (by (with_reducible repeat (first | apply Kd.R_alloc | apply Kd.R_drewN | apply Kd.R_drew)); exact (Kd.R_mono (Kd.R_far (p := ⟨gb336, 1, none⟩) (Kd.R_far (p := ⟨gb336, 0, none⟩) (Kd.R_types HO335.out BK336.out (by decide)) (fun _ hk => hk.2) (.slice Ao28 t330.length co28)) (fun _ hk => hk.2) (.slice Ao32 t333.length co32)) (fun _ h_ => h_.1)))); (case side4 => exact (Kd.R_reads' HO335.out).2.1); rintro e w33 ⟨v338, v341, rfl, ho0, ho1, hb⟩; refine ⟨_, rfl, ?_⟩; have HO339 := Aside0.mk (Kd.R_lower (Kd.R_new' (Kd.R_new' (Kd.R_new' ho0 (Kd.R_lt (by (with_reducible repeat (first | apply Kd.R_alloc | apply Kd.R_drewN | apply Kd.R_drew)); exact (Kd.R_mono (Kd.R_far (p := ⟨gb336, 1, none⟩) (Kd.R_far (p := ⟨gb336, 0, none⟩) (Kd.R_types HO318.out BK336.out (by decide)) (fun _ hk => hk.2) (.slice Ao28 t330.length co28)) (fun _ hk => hk.2) (.slice Ao32 t333.length co32)) (fun _ h_ => h_.1))))) (Kd.R_lt (by (with_reducible repeat (first | apply Kd.R_alloc | apply Kd.R_drewN | apply Kd.R_drew)); exact (Kd.R_mono (Kd.R_far (p := ⟨gb336, 1, none⟩) (Kd.R_far (p := ⟨gb336, 0, none⟩) (Kd.R_types HO324.out BK336.out (by decide)) (fun _ hk => hk.2) (.slice Ao28 t330.length co28)) (fun _ hk => hk.2) (.slice Ao32 t333.length co32)) (fun _ h_ => h_.1))))) (Kd.R_lt (by (with_reducible repeat (first | apply Kd.R_alloc | apply Kd.R_drewN | apply Kd.R_drew)); exact (Kd.R_mono (Kd.R_far (p := ⟨gb336, 1, none⟩) (Kd.R_far (p := ⟨gb336, 0, none⟩) (Kd.R_types HO332.out BK336.out (by decide)) (fun _ hk => hk.2) (.slice Ao28 t330.length co28)) (fun _ hk => hk.2) (.slice Ao32 t333.length co32)) (fun _ h_ => h_.1))))) (below_size (by repeat (first | (with_reducible first | exact HB.out | apply below_alloc | apply pw_below_drewN | apply below_drew1 | refine below_set ?_ GE314.out | refine below_set ?_ GE329.out | refine below_set ?_ GE336.out) | exact HB.out)))); replace HO318 := Aside0.mk (Kd.R_elder' (by (with_reducible repeat (first | apply Kd.R_alloc | apply Kd.R_drewN | apply Kd.R_drew)); exact (Kd.R_mono (Kd.R_far (p := ⟨gb336, 1, none⟩) (Kd.R_far (p := ⟨gb336, 0, none⟩) (Kd.R_types HO318.out BK336.out (by decide)) (fun _ hk => hk.2) (.slice Ao28 t330.length co28)) (fun _ hk => hk.2) (.slice Ao32 t333.length co32)) (fun _ h_ => h_.1))) (Kd.R_base ho0) hb); replace HO324 := Aside0.mk (Kd.R_elder' (by (with_reducible repeat (first | apply Kd.R_alloc | apply Kd.R_drewN | apply Kd.R_drew)); exact (Kd.R_mono (Kd.R_far (p := ⟨gb336, 1, none⟩) (Kd.R_far (p := ⟨gb336, 0, none⟩) (Kd.R_types HO324.out BK336.out (by decide)) (fun _ hk => hk.2) (.slice Ao28 t330.length co28)) (fun _ hk => hk.2) (.slice Ao32 t333.length co32)) (fun _ h_ => h_.1))) (Kd.R_base ho0) hb); replace HO332 := Aside0.mk (Kd.R_elder' (by (with_reducible repeat (first | apply Kd.R_alloc | apply Kd.R_drewN | apply Kd.R_drew)); exact (Kd.R_mono (Kd.R_far (p := ⟨gb336, 1, none⟩) (Kd.R_far (p := ⟨gb336, 0, none⟩) (Kd.R_types HO332.out BK336.out (by decide)) (fun _ hk => hk.2) (.slice Ao28 t330.length co28)) (fun _ hk => hk.2) (.slice Ao32 t333.length co32)) (fun _ h_ => h_.1))) (Kd.R_base ho0) hb); have HO342 := Aside0.mk (Kd.R_lower (Kd.R_new' (Kd.R_new' (Kd.R_new' ho1 (Kd.R_lt (by (with_reducible repeat (first | apply Kd.R_alloc | apply Kd.R_drewN | apply Kd.R_drew)); exact (Kd.R_mono (Kd.R_far (p := ⟨gb336, 1, none⟩) (Kd.R_far (p := ⟨gb336, 0, none⟩) (Kd.R_types HO321.out BK336.out (by decide)) (fun _ hk => hk.2) (.slice Ao28 t330.length co28)) (fun _ hk => hk.2) (.slice Ao32 t333.length co32)) (fun _ h_ => h_.1))))) (Kd.R_lt (by (with_reducible repeat (first | apply Kd.R_alloc | apply Kd.R_drewN | apply Kd.R_drew)); exact (Kd.R_mono (Kd.R_far (p := ⟨gb336, 1, none⟩) (Kd.R_far (p := ⟨gb336, 0, none⟩) (Kd.R_types HO327.out BK336.out (by decide)) (fun _ hk => hk.2) (.slice Ao28 t330.length co28)) (fun _ hk => hk.2) (.slice Ao32 t333.length co32)) (fun _ h_ => h_.1))))) (Kd.R_lt (by (with_reducible repeat (first | apply Kd.R_alloc | apply Kd.R_drewN | apply Kd.R_drew)); exact (Kd.R_mono (Kd.R_far (p := ⟨gb336, 1, none⟩) (Kd.R_far (p := ⟨gb336, 0, none⟩) (Kd.R_types HO335.out BK336.out (by decide)) (fun _ hk => hk.2) (.slice Ao28 t330.length co28)) (fun _ hk => hk.2) (.slice Ao32 t333.length co32)) (fun _ h_ => h_.1))))) (below_size (by repeat (first | (with_reducible first | exact HB.out | apply below_alloc | apply pw_below_drewN | apply below_drew1 | refine below_set ?_ GE314.out | refine below_set ?_ GE329.out | refine below_set ?_ GE336.out) | exact HB.out)))); replace HO321 := Aside0.mk (Kd.R_elder' (by (with_reducible repeat (first | apply Kd.R_alloc | apply Kd.R_drewN | apply Kd.R_drew)); exact (Kd.R_mono (Kd.R_far (p := ⟨gb336, 1, none⟩) (Kd.R_far (p := ⟨gb336, 0, none⟩) (Kd.R_types HO321.out BK336.out (by decide)) (fun _ hk => hk.2) (.slice Ao28 t330.length co28)) (fun _ hk => hk.2) (.slice Ao32 t333.length co32)) (fun _ h_ => h_.1))) (Kd.R_base ho1) hb); replace HO327 := Aside0.mk (Kd.R_elder' (by (with_reducible repeat (first | apply Kd.R_alloc | apply Kd.R_drewN | apply Kd.R_drew)); exact (Kd.R_mono (Kd.R_far (p := ⟨gb336, 1, none⟩) (Kd.R_far (p := ⟨gb336, 0, none⟩) (Kd.R_types HO327.out BK336.out (by decide)) (fun _ hk => hk.2) (.slice Ao28 t330.length co28)) (fun _ hk => hk.2) (.slice Ao32 t333.length co32)) (fun _ h_ => h_.1))) (Kd.R_base ho1) hb); replace HO335 := Aside0.mk (Kd.R_elder' (by (with_reducible repeat (first | apply Kd.R_alloc | apply Kd.R_drewN | apply Kd.R_drew)); exact (Kd.R_mono (Kd.R_far (p := ⟨gb336, 1, none⟩) (Kd.R_far (p := ⟨gb336, 0, none⟩) (Kd.R_types HO335.out BK336.out (by decide)) (fun _ hk => hk.2) (.slice Ao28 t330.length co28)) (fun _ hk => hk.2) (.slice Ao32 t333.length co32)) (fun _ h_ => h_.1))) (Kd.R_base ho1) hb); replace BK314 := Aside0.mk (blk_below (g := gb314) (o := .cells #[.slice A0_0 l0_0.length c0_0, .slice A0_1 l0_1.length c0_1] 36 (0, 0)) (by (with_reducible repeat (first | refine blk_drewN ?_ _ | refine blk_drew ?_ | refine blk_alloc ?_ _)); refine blk_far ?_ NB314_336.out _; (with_reducible repeat (first | refine blk_drewN ?_ _ | refine blk_drew ?_ | refine blk_alloc ?_ _)); refine blk_far ?_ NB314_336.out _; (with_reducible repeat (first | refine blk_drewN ?_ _ | refine blk_drew ?_ | refine blk_alloc ?_ _)); exact BK314.out) hb); replace BK329 := Aside0.mk (blk_below (g := gb329) (o := .cells #[.slice Ao21 t322.length co21, .slice Ao24 t325.length co24] 25 (0, 0)) (by (with_reducible repeat (first | refine blk_drewN ?_ _ | refine blk_drew ?_ | refine blk_alloc ?_ _)); refine blk_far ?_ NB329_336.out _; (with_reducible repeat (first | refine blk_drewN ?_ _ | refine blk_drew ?_ | refine blk_alloc ?_ _)); refine blk_far ?_ NB329_336.out _; (with_reducible repeat (first | refine blk_drewN ?_ _ | refine blk_drew ?_ | refine blk_alloc ?_ _)); exact BK329.out) hb); replace BK336 := Aside0.mk (blk_below (g := gb336) (o := .cells #[.slice Ao28 t330.length co28, .slice Ao32 t333.length co32] 25 (0, 0)) (by (with_reducible repeat (first | refine blk_drewN ?_ _ | refine blk_drew ?_ | refine blk_alloc ?_ _)); refine blk_put (cs := #[.slice Ao28 t330.length co28, .slice none 0 0]) ?_ 1 _ rfl; (with_reducible repeat (first | refine blk_drewN ?_ _ | refine blk_drew ?_ | refine blk_alloc ?_ _)); refine blk_put (cs := #[.slice none 0 0, .slice none 0 0]) ?_ 0 _ rfl; (with_reducible repeat (first | refine blk_drewN ?_ _ | refine blk_drew ?_ | refine blk_alloc ?_ _)); exact BK336.out) hb); replace HB := Aside0.mk (below_step (by repeat (first | (with_reducible first | exact HB.out | apply below_alloc | apply pw_below_drewN | apply below_drew1 | refine below_set ?_ GE314.out | refine below_set ?_ GE329.out | refine below_set ?_ GE336.out) | exact HB.out)) hb); (try clear hb); (try clear hb2); (try clear hk); (try clear hi); (try clear ho0); (try clear ho1)) | ((with_reducible refine gate_dst (N := 7) rfl ?_); refine box_event ?hg (N := 7) ?hd (cs := #[.slice none 0 0, .slice none 0 0]) (t := 25) ?hr ?_; (case hd => rfl); (case hg => rfl); (case hr => first | (go_simp; done) | (go_simp; rfl)); intro gb344 hg w34 hbox hb; replace HO318 := Aside0.mk (Kd.R_below (by (with_reducible repeat (first | apply Kd.R_alloc | apply Kd.R_drewN | apply Kd.R_drew)); exact HO318.out) hb); replace HO321 := Aside0.mk (Kd.R_below (by (with_reducible repeat (first | apply Kd.R_alloc | apply Kd.R_drewN | apply Kd.R_drew)); exact HO321.out) hb); replace HO324 := Aside0.mk (Kd.R_below (by (with_reducible repeat (first | apply Kd.R_alloc | apply Kd.R_drewN | apply Kd.R_drew)); exact HO324.out) hb); replace HO327 := Aside0.mk (Kd.R_below (by (with_reducible repeat (first | apply Kd.R_alloc | apply Kd.R_drewN | apply Kd.R_drew)); exact HO327.out) hb); replace HO332 := Aside0.mk (Kd.R_below (by (with_reducible repeat (first | apply Kd.R_alloc | apply Kd.R_drewN | apply Kd.R_drew)); exact HO332.out) hb); replace HO335 := Aside0.mk (Kd.R_below (by (with_reducible repeat (first | apply Kd.R_alloc | apply Kd.R_drewN | apply Kd.R_drew)); exact HO335.out) hb); replace HO339 := Aside0.mk (Kd.R_below (by (with_reducible repeat (first | apply Kd.R_alloc | apply Kd.R_drewN | apply Kd.R_drew)); exact HO339.out) hb); replace HO342 := Aside0.mk (Kd.R_below (by (with_reducible repeat (first | apply Kd.R_alloc | apply Kd.R_drewN | apply Kd.R_drew)); exact HO342.out) hb); have BK344 := Aside0.mk (hbox); have GW344 := Aside0.mk ((by rw [hg]; exact (below_size (by repeat (first | (with_reducible first | exact HB.out | apply below_alloc | apply pw_below_drewN | apply below_drew1 | refine below_set ?_ GE314.out | refine below_set ?_ GE329.out | refine below_set ?_ GE336.out) | exact HB.out))) : w.heap.size ≤ gb344)); have GE344 := Aside0.mk ((by rw [hg]; exact (below_size (by repeat (first | (with_reducible first | exact HB.out | apply below_alloc | apply pw_below_drewN | apply below_drew1 | refine below_set ?_ GE314.out | refine below_set ?_ GE329.out | refine below_set ?_ GE336.out) | exact HB.out))) : w.heap.size ≤ gb344)); replace HB := Aside0.mk (below_step (by repeat (first | (with_reducible first | exact HB.out | apply below_alloc | apply pw_below_drewN | apply below_drew1 | refine below_set ?_ GE314.out | refine below_set ?_ GE329.out | refine below_set ?_ GE336.out) | exact HB.out)) hb); have NB314_344 := Aside0.mk ((by rw [hg]; exact Nat.ne_of_lt (blk_lt (g := gb314) (o := .cells #[.slice A0_0 l0_0.length c0_0, .slice A0_1 l0_1.length c0_1] 36 (0, 0)) (by (with_reducible repeat (first | refine blk_drewN ?_ _ | refine blk_drew ?_ | refine blk_alloc ?_ _)); exact BK314.out)) : gb314 ≠ gb344)); have NB344_314 := Aside0.mk ((by rw [hg]; exact Nat.ne_of_gt (blk_lt (g := gb314) (o := .cells #[.slice A0_0 l0_0.length c0_0, .slice A0_1 l0_1.length c0_1] 36 (0, 0)) (by (with_reducible repeat (first | refine blk_drewN ?_ _ | refine blk_drew ?_ | refine blk_alloc ?_ _)); exact BK314.out)) : gb344 ≠ gb314)); replace BK314 := Aside0.mk (blk_below (g := gb314) (o := .cells #[.slice A0_0 l0_0.length c0_0, .slice A0_1 l0_1.length c0_1] 36 (0, 0)) (by (with_reducible repeat (first | refine blk_drewN ?_ _ | refine blk_drew ?_ | refine blk_alloc ?_ _)); exact BK314.out) hb); have NB329_344 := Aside0.mk ((by rw [hg]; exact Nat.ne_of_lt (blk_lt (g := gb329) (o := .cells #[.slice Ao21 t322.length co21, .slice Ao24 t325.length co24] 25 (0, 0)) (by (with_reducible repeat (first | refine blk_drewN ?_ _ | refine blk_drew ?_ | refine blk_alloc ?_ _)); exact BK329.out)) : gb329 ≠ gb344)); have NB344_329 := Aside0.mk ((by rw [hg]; exact Nat.ne_of_gt (blk_lt (g := gb329) (o := .cells #[.slice Ao21 t322.length co21, .slice Ao24 t325.length co24] 25 (0, 0)) (by (with_reducible repeat (first | refine blk_drewN ?_ _ | refine blk_drew ?_ | refine blk_alloc ?_ _)); exact BK329.out)) : gb344 ≠ gb329)); replace BK329 := Aside0.mk (blk_below (g := gb329) (o := .cells #[.slice Ao21 t322.length co21, .slice Ao24 t325.length co24] 25 (0, 0)) (by (with_reducible repeat (first | refine blk_drewN ?_ _ | refine blk_drew ?_ | refine blk_alloc ?_ _)); exact BK329.out) hb); have NB336_344 := Aside0.mk ((by rw [hg]; exact Nat.ne_of_lt (blk_lt (g := gb336) (o := .cells #[.slice Ao28 t330.length co28, .slice Ao32 t333.length co32] 25 (0, 0)) (by (with_reducible repeat (first | refine blk_drewN ?_ _ | refine blk_drew ?_ | refine blk_alloc ?_ _)); exact BK336.out)) : gb336 ≠ gb344)); have NB344_336 := Aside0.mk ((by rw [hg]; exact Nat.ne_of_gt (blk_lt (g := gb336) (o := .cells #[.slice Ao28 t330.length co28, .slice Ao32 t333.length co32] 25 (0, 0)) (by (with_reducible repeat (first | refine blk_drewN ?_ _ | refine blk_drew ?_ | refine blk_alloc ?_ _)); exact BK336.out)) : gb344 ≠ gb336)); replace BK336 := Aside0.mk (blk_below (g := gb336) (o := .cells #[.slice Ao28 t330.length co28, .slice Ao32 t333.length co32] 25 (0, 0)) (by (with_reducible repeat (first | refine blk_drewN ?_ _ | refine blk_drew ?_ | refine blk_alloc ?_ _)); exact BK336.out) hb); clear hb hbox hg; obtain ⟨Ao35, co35, eo35⟩ := Kd.R_slice HO339.out; subst eo35; have hnb36 := NB344_314.out; have hnc36 := NB314_344.out; have hnb37 := NB344_329.out; have hnc37 := NB329_344.out; have hnb38 := NB344_336.out; have hnc38 := NB336_344.out; have hcz39_0 : w34.cell? ⟨gb344, 0, none⟩ = some (.slice none 0 0) := (blk_cell BK344.out 0).trans rfl; have hcz39_1 : w34.cell? ⟨gb344, 1, none⟩ = some (.slice none 0 0) := (blk_cell BK344.out 1).trans rfl; have hfz39_0 := blk_frozen BK344.out 0; have hfz39_1 := blk_frozen BK344.out 1; obtain ⟨Ao40, co40, eo40⟩ := Kd.R_slice HO342.out; subst eo40))
  (try simp only [Act.put, List.setIfInBounds_toArray, List.set_cons_zero, List.set_cons_succ])
  go_cut [40] (fun v40 wc => ∃ (kq : Nat) (x40_10 : Bool), v40 = .bool x40_10 ∧ Aside0 (laws_FnExactHarderPuzzle.j0 kq t328 t343 x40_10 l0_0 l0_1 t322 t325 t330 t333 t337 t340 = some r) ∧ Aside0 (kq ≤ k) ∧ Aside0 (Kd.R k55 55 wc w.heap.size (fun k_ => some k_ ≠ ((.slice Ao28 t330.length co28) : Value).ownBlock ∧ some k_ ≠ ((.slice Ao35 t337.length co35) : Value).ownBlock) (.slice Ao21 t322.length co21) t322) ∧ Aside0 (Kd.R (Kd.int .i64) 3 wc w.heap.size (fun k_ => some k_ ≠ ((.slice Ao32 t333.length co32) : Value).ownBlock ∧ some k_ ≠ ((.slice Ao40 t340.length co40) : Value).ownBlock) (.slice Ao24 t325.length co24) t325) ∧ Aside0 (Kd.R k55 55 wc w.heap.size (fun k_ => some k_ ≠ ((.slice Ao21 t322.length co21) : Value).ownBlock ∧ some k_ ≠ ((.slice Ao35 t337.length co35) : Value).ownBlock) (.slice Ao28 t330.length co28) t330) ∧ Aside0 (Kd.R (Kd.int .i64) 3 wc w.heap.size (fun k_ => some k_ ≠ ((.slice Ao24 t325.length co24) : Value).ownBlock ∧ some k_ ≠ ((.slice Ao40 t340.length co40) : Value).ownBlock) (.slice Ao32 t333.length co32) t333) ∧ Aside0 (Kd.R k55 55 wc w.heap.size (fun k_ => some k_ ≠ ((.slice Ao21 t322.length co21) : Value).ownBlock ∧ some k_ ≠ ((.slice Ao28 t330.length co28) : Value).ownBlock) (.slice Ao35 t337.length co35) t337) ∧ Aside0 (Kd.R (Kd.int .i64) 3 wc w.heap.size (fun k_ => some k_ ≠ ((.slice Ao24 t325.length co24) : Value).ownBlock ∧ some k_ ≠ ((.slice Ao32 t333.length co32) : Value).ownBlock) (.slice Ao40 t340.length co40) t340) ∧ Aside0 (wc.heap[gb314]? = some (.cells #[(.slice A0_0 l0_0.length c0_0), (.slice A0_1 l0_1.length c0_1)] 36 (0, 0))) ∧ Aside0 (wc.heap[gb329]? = some (.cells #[(.slice Ao21 t322.length co21), (.slice Ao24 t325.length co24)] 25 (0, 0))) ∧ Aside0 (wc.heap[gb336]? = some (.cells #[(.slice Ao28 t330.length co28), (.slice Ao32 t333.length co32)] 25 (0, 0))) ∧ Aside0 (wc.heap[gb344]? = some (.cells #[(.slice Ao35 t337.length co35), (.slice Ao40 t340.length co40)] 25 (0, 0))) ∧ Aside0 (Below w.heap.size w wc))
  case first =>
   have H := HC11.out
   clear HC11
   replace H := Option.bind_eq_some_iff.mp H
   obtain ⟨t345, A410, H⟩ := H
   replace H : (if t345 = true then (laws_FnExactHarderPuzzle.j0 k t328 t343 (t343 != t328) l0_0 l0_1 t322 t325 t330 t333 t337 t340) else (laws_FnExactHarderPuzzle.j0 k t328 t343 true l0_0 l0_1 t322 t325 t330 t333 t337 t340)) = some r := H
   have A41 := Aside0.mk A410
   clear A410
   by_cases c42 : t345 = true
   ·subst c42
    have H1 : (laws_FnExactHarderPuzzle.j0 k t328 t343 (t343 != t328) l0_0 l0_1 t322 t325 t330 t333 t337 t340) = some r := by rw [if_pos rfl] at H; exact H
    clear H
    have H := H1
    clear H1
    have H' := Aside0.mk H
    clear H
    have hnb43 := NB344_314.out
    have hnc43 := NB314_344.out
    have hnb44 := NB344_329.out
    have hnc44 := NB329_344.out
    have hnb45 := NB344_336.out
    have hnc45 := NB336_344.out
    have hcz46_0 : w34.cell? ⟨gb344, 0, none⟩ = some (.slice none 0 0) := (blk_cell BK344.out 0).trans rfl
    have hcz46_1 : w34.cell? ⟨gb344, 1, none⟩ = some (.slice none 0 0) := (blk_cell BK344.out 1).trans rfl
    have hfz46_0 := blk_frozen BK344.out 0
    have hfz46_1 := blk_frozen BK344.out 1
    have hnb47 := NB329_314.out
    have hnc47 := NB314_329.out
    have hnb48 := NB329_336.out
    have hnc48 := NB336_329.out
    have hcz49_0 : w34.cell? ⟨gb329, 0, none⟩ = some (.slice Ao21 t322.length co21) := (blk_cell BK329.out 0).trans rfl
    have hcz49_1 : w34.cell? ⟨gb329, 1, none⟩ = some (.slice Ao24 t325.length co24) := (blk_cell BK329.out 1).trans rfl
    have hfz49_0 := blk_frozen BK329.out 0
    have hfz49_1 := blk_frozen BK329.out 1
    go_wp2_with (first | ((with_reducible refine gate_callee (f := 10) rfl ?_); refine goesL_ (some 34) rfl rfl Try.func10 (by kernel_rfl) rfl #[.agg #[.slice Ao35 t337.length co35, .slice Ao40 t340.length co40], .agg #[.slice Ao21 t322.length co21, .slice Ao24 t325.length co24]] rfl (by (try simp only [List.map_toArray, List.map_cons, List.map_nil]); first | done | rfl | (simp only [List.length_drop, List.length_take]; rfl)) ?_; (with_reducible refine (laws_eqPuzzle.calls k _ _ t337 _ _ t340 _ _ t322 _ _ t325 true _ ?side1 ?side2 ?side3 ?side4 ?side5 ?side6 ?side7 ?side8 A41.out).mono ?_); (case side1 => refine (Kd.R_reads' (e := 55) (base := w.heap.size) (ok := fun k_ => (((True ∧ some k_ ≠ (.slice Ao17 t316.length co17 : Value).ownBlock) ∧ some k_ ≠ (.slice Ao21 t322.length co21 : Value).ownBlock) ∧ some k_ ≠ (.slice Ao28 t330.length co28 : Value).ownBlock)) (n := t337.length) (c := co35) ?_).2.2; exact (by exact (Kd.R_mono (Kd.R_far (p := ⟨gb344, 1, none⟩) (Kd.R_far (p := ⟨gb344, 0, none⟩) (Kd.R_types HO339.out BK344.out (by decide)) (fun _ hk => hk.2) (.slice Ao35 t337.length co35)) (fun _ hk => hk.2) (.slice Ao40 t340.length co40)) (fun _ h_ => h_.1)))); (case side2 => exact (Kd.R_reads' HO339.out).2.1); (case side3 => refine (Kd.R_reads' (e := 3) (base := w.heap.size) (ok := fun k_ => (((True ∧ some k_ ≠ (.slice Ao18 t319.length co18 : Value).ownBlock) ∧ some k_ ≠ (.slice Ao24 t325.length co24 : Value).ownBlock) ∧ some k_ ≠ (.slice Ao32 t333.length co32 : Value).ownBlock)) (n := t340.length) (c := co40) ?_).2.2; exact (by exact (Kd.R_mono (Kd.R_far (p := ⟨gb344, 1, none⟩) (Kd.R_far (p := ⟨gb344, 0, none⟩) (Kd.R_types HO342.out BK344.out (by decide)) (fun _ hk => hk.2) (.slice Ao35 t337.length co35)) (fun _ hk => hk.2) (.slice Ao40 t340.length co40)) (fun _ h_ => h_.1)))); (case side4 => exact (Kd.R_reads' HO342.out).2.1); (case side5 => refine (Kd.R_reads' (e := 55) (base := w.heap.size) (ok := fun k_ => (((True ∧ some k_ ≠ (.slice Ao17 t316.length co17 : Value).ownBlock) ∧ some k_ ≠ (.slice Ao28 t330.length co28 : Value).ownBlock) ∧ some k_ ≠ (.slice Ao35 t337.length co35 : Value).ownBlock)) (n := t322.length) (c := co21) ?_).2.2; exact (by exact (Kd.R_mono (Kd.R_far (p := ⟨gb344, 1, none⟩) (Kd.R_far (p := ⟨gb344, 0, none⟩) (Kd.R_types HO324.out BK344.out (by decide)) (fun _ hk => hk.2) (.slice Ao35 t337.length co35)) (fun _ hk => hk.2) (.slice Ao40 t340.length co40)) (fun _ h_ => h_.1)))); (case side6 => exact (Kd.R_reads' HO324.out).2.1); (case side7 => refine (Kd.R_reads' (e := 3) (base := w.heap.size) (ok := fun k_ => (((True ∧ some k_ ≠ (.slice Ao18 t319.length co18 : Value).ownBlock) ∧ some k_ ≠ (.slice Ao32 t333.length co32 : Value).ownBlock) ∧ some k_ ≠ (.slice Ao40 t340.length co40 : Value).ownBlock)) (n := t325.length) (c := co24) ?_).2.2; exact (by exact (Kd.R_mono (Kd.R_far (p := ⟨gb344, 1, none⟩) (Kd.R_far (p := ⟨gb344, 0, none⟩) (Kd.R_types HO327.out BK344.out (by decide)) (fun _ hk => hk.2) (.slice Ao35 t337.length co35)) (fun _ hk => hk.2) (.slice Ao40 t340.length co40)) (fun _ h_ => h_.1)))); (case side8 => exact (Kd.R_reads' HO327.out).2.1); rintro e w50 ⟨rfl, hb⟩; refine ⟨_, rfl, ?_⟩; replace HO318 := Aside0.mk (Kd.R_below (by exact (Kd.R_mono (Kd.R_far (p := ⟨gb344, 1, none⟩) (Kd.R_far (p := ⟨gb344, 0, none⟩) (Kd.R_types HO318.out BK344.out (by decide)) (fun _ hk => hk.2) (.slice Ao35 t337.length co35)) (fun _ hk => hk.2) (.slice Ao40 t340.length co40)) (fun _ h_ => h_.1))) hb); replace HO321 := Aside0.mk (Kd.R_below (by exact (Kd.R_mono (Kd.R_far (p := ⟨gb344, 1, none⟩) (Kd.R_far (p := ⟨gb344, 0, none⟩) (Kd.R_types HO321.out BK344.out (by decide)) (fun _ hk => hk.2) (.slice Ao35 t337.length co35)) (fun _ hk => hk.2) (.slice Ao40 t340.length co40)) (fun _ h_ => h_.1))) hb); replace HO324 := Aside0.mk (Kd.R_below (by exact (Kd.R_mono (Kd.R_far (p := ⟨gb344, 1, none⟩) (Kd.R_far (p := ⟨gb344, 0, none⟩) (Kd.R_types HO324.out BK344.out (by decide)) (fun _ hk => hk.2) (.slice Ao35 t337.length co35)) (fun _ hk => hk.2) (.slice Ao40 t340.length co40)) (fun _ h_ => h_.1))) hb); replace HO327 := Aside0.mk (Kd.R_below (by exact (Kd.R_mono (Kd.R_far (p := ⟨gb344, 1, none⟩) (Kd.R_far (p := ⟨gb344, 0, none⟩) (Kd.R_types HO327.out BK344.out (by decide)) (fun _ hk => hk.2) (.slice Ao35 t337.length co35)) (fun _ hk => hk.2) (.slice Ao40 t340.length co40)) (fun _ h_ => h_.1))) hb); replace HO332 := Aside0.mk (Kd.R_below (by exact (Kd.R_mono (Kd.R_far (p := ⟨gb344, 1, none⟩) (Kd.R_far (p := ⟨gb344, 0, none⟩) (Kd.R_types HO332.out BK344.out (by decide)) (fun _ hk => hk.2) (.slice Ao35 t337.length co35)) (fun _ hk => hk.2) (.slice Ao40 t340.length co40)) (fun _ h_ => h_.1))) hb); replace HO335 := Aside0.mk (Kd.R_below (by exact (Kd.R_mono (Kd.R_far (p := ⟨gb344, 1, none⟩) (Kd.R_far (p := ⟨gb344, 0, none⟩) (Kd.R_types HO335.out BK344.out (by decide)) (fun _ hk => hk.2) (.slice Ao35 t337.length co35)) (fun _ hk => hk.2) (.slice Ao40 t340.length co40)) (fun _ h_ => h_.1))) hb); replace HO339 := Aside0.mk (Kd.R_below (by exact (Kd.R_mono (Kd.R_far (p := ⟨gb344, 1, none⟩) (Kd.R_far (p := ⟨gb344, 0, none⟩) (Kd.R_types HO339.out BK344.out (by decide)) (fun _ hk => hk.2) (.slice Ao35 t337.length co35)) (fun _ hk => hk.2) (.slice Ao40 t340.length co40)) (fun _ h_ => h_.1))) hb); replace HO342 := Aside0.mk (Kd.R_below (by exact (Kd.R_mono (Kd.R_far (p := ⟨gb344, 1, none⟩) (Kd.R_far (p := ⟨gb344, 0, none⟩) (Kd.R_types HO342.out BK344.out (by decide)) (fun _ hk => hk.2) (.slice Ao35 t337.length co35)) (fun _ hk => hk.2) (.slice Ao40 t340.length co40)) (fun _ h_ => h_.1))) hb); replace BK314 := Aside0.mk (blk_below (g := gb314) (o := .cells #[.slice A0_0 l0_0.length c0_0, .slice A0_1 l0_1.length c0_1] 36 (0, 0)) (by refine blk_far ?_ NB314_344.out _; refine blk_far ?_ NB314_344.out _; exact BK314.out) hb); replace BK329 := Aside0.mk (blk_below (g := gb329) (o := .cells #[.slice Ao21 t322.length co21, .slice Ao24 t325.length co24] 25 (0, 0)) (by refine blk_far ?_ NB329_344.out _; refine blk_far ?_ NB329_344.out _; exact BK329.out) hb); replace BK336 := Aside0.mk (blk_below (g := gb336) (o := .cells #[.slice Ao28 t330.length co28, .slice Ao32 t333.length co32] 25 (0, 0)) (by refine blk_far ?_ NB336_344.out _; refine blk_far ?_ NB336_344.out _; exact BK336.out) hb); replace BK344 := Aside0.mk (blk_below (g := gb344) (o := .cells #[.slice Ao35 t337.length co35, .slice Ao40 t340.length co40] 25 (0, 0)) (by (with_reducible repeat (first | refine blk_drewN ?_ _ | refine blk_drew ?_ | refine blk_alloc ?_ _)); refine blk_put (cs := #[.slice Ao35 t337.length co35, .slice none 0 0]) ?_ 1 _ rfl; (with_reducible repeat (first | refine blk_drewN ?_ _ | refine blk_drew ?_ | refine blk_alloc ?_ _)); refine blk_put (cs := #[.slice none 0 0, .slice none 0 0]) ?_ 0 _ rfl; (with_reducible repeat (first | refine blk_drewN ?_ _ | refine blk_drew ?_ | refine blk_alloc ?_ _)); exact BK344.out) hb); replace HB := Aside0.mk (below_step (by repeat (first | (with_reducible first | exact HB.out | apply below_alloc | apply pw_below_drewN | apply below_drew1 | refine below_set ?_ GE314.out | refine below_set ?_ GE329.out | refine below_set ?_ GE336.out | refine below_set ?_ GE344.out) | exact HB.out)) hb); (try clear hb); (try clear hb2); (try clear hk); (try clear hi)))
    go_meet
    case rel => exact ⟨_, ((t343 != t328)), (by first | rfl | (simp; done) | (simp [*]; done)), H', ⟨by first | omega | exact Nat.le_refl _⟩, ⟨Kd.R_mono HO324.out (fun _ hk => ⟨hk.1.2, hk.2⟩)⟩, ⟨Kd.R_mono HO327.out (fun _ hk => ⟨hk.1.2, hk.2⟩)⟩, ⟨Kd.R_mono HO332.out (fun _ hk => ⟨hk.1.2, hk.2⟩)⟩, ⟨Kd.R_mono HO335.out (fun _ hk => ⟨hk.1.2, hk.2⟩)⟩, ⟨Kd.R_mono HO339.out (fun _ hk => ⟨hk.1.2, hk.2⟩)⟩, ⟨Kd.R_mono HO342.out (fun _ hk => ⟨hk.1.2, hk.2⟩)⟩, ⟨by exact BK314.out⟩, ⟨by exact BK329.out⟩, ⟨by exact BK336.out⟩, ⟨by exact BK344.out⟩, ⟨HB.out⟩⟩
   ·replace c42 := Bool.eq_false_iff.mpr c42
    subst c42
    have H1 : (laws_FnExactHarderPuzzle.j0 k t328 t343 true l0_0 l0_1 t322 t325 t330 t333 t337 t340) = some r := by rw [if_neg (show ¬ (false = true) by decide)] at H; exact H
    clear H
    have H := H1
    clear H1
    have H' := Aside0.mk H
    clear H
    have hnb51 := NB344_314.out
    have hnc51 := NB314_344.out
    have hnb52 := NB344_329.out
    have hnc52 := NB329_344.out
    have hnb53 := NB344_336.out
    have hnc53 := NB336_344.out
    have hcz54_0 : w34.cell? ⟨gb344, 0, none⟩ = some (.slice none 0 0) := (blk_cell BK344.out 0).trans rfl
    have hcz54_1 : w34.cell? ⟨gb344, 1, none⟩ = some (.slice none 0 0) := (blk_cell BK344.out 1).trans rfl
    have hfz54_0 := blk_frozen BK344.out 0
    have hfz54_1 := blk_frozen BK344.out 1
    have hnb55 := NB329_314.out
    have hnc55 := NB314_329.out
    have hnb56 := NB329_336.out
    have hnc56 := NB336_329.out
    have hcz57_0 : w34.cell? ⟨gb329, 0, none⟩ = some (.slice Ao21 t322.length co21) := (blk_cell BK329.out 0).trans rfl
    have hcz57_1 : w34.cell? ⟨gb329, 1, none⟩ = some (.slice Ao24 t325.length co24) := (blk_cell BK329.out 1).trans rfl
    have hfz57_0 := blk_frozen BK329.out 0
    have hfz57_1 := blk_frozen BK329.out 1
    go_wp2_with (first | ((with_reducible refine gate_callee (f := 10) rfl ?_); refine goesL_ (some 34) rfl rfl Try.func10 (by kernel_rfl) rfl #[.agg #[.slice Ao35 t337.length co35, .slice Ao40 t340.length co40], .agg #[.slice Ao21 t322.length co21, .slice Ao24 t325.length co24]] rfl (by (try simp only [List.map_toArray, List.map_cons, List.map_nil]); first | done | rfl | (simp only [List.length_drop, List.length_take]; rfl)) ?_; (with_reducible refine (laws_eqPuzzle.calls k _ _ t337 _ _ t340 _ _ t322 _ _ t325 false _ ?side1 ?side2 ?side3 ?side4 ?side5 ?side6 ?side7 ?side8 A41.out).mono ?_); (case side1 => refine (Kd.R_reads' (e := 55) (base := w.heap.size) (ok := fun k_ => (((True ∧ some k_ ≠ (.slice Ao17 t316.length co17 : Value).ownBlock) ∧ some k_ ≠ (.slice Ao21 t322.length co21 : Value).ownBlock) ∧ some k_ ≠ (.slice Ao28 t330.length co28 : Value).ownBlock)) (n := t337.length) (c := co35) ?_).2.2; exact (by exact (Kd.R_mono (Kd.R_far (p := ⟨gb344, 1, none⟩) (Kd.R_far (p := ⟨gb344, 0, none⟩) (Kd.R_types HO339.out BK344.out (by decide)) (fun _ hk => hk.2) (.slice Ao35 t337.length co35)) (fun _ hk => hk.2) (.slice Ao40 t340.length co40)) (fun _ h_ => h_.1)))); (case side2 => exact (Kd.R_reads' HO339.out).2.1); (case side3 => refine (Kd.R_reads' (e := 3) (base := w.heap.size) (ok := fun k_ => (((True ∧ some k_ ≠ (.slice Ao18 t319.length co18 : Value).ownBlock) ∧ some k_ ≠ (.slice Ao24 t325.length co24 : Value).ownBlock) ∧ some k_ ≠ (.slice Ao32 t333.length co32 : Value).ownBlock)) (n := t340.length) (c := co40) ?_).2.2; exact (by exact (Kd.R_mono (Kd.R_far (p := ⟨gb344, 1, none⟩) (Kd.R_far (p := ⟨gb344, 0, none⟩) (Kd.R_types HO342.out BK344.out (by decide)) (fun _ hk => hk.2) (.slice Ao35 t337.length co35)) (fun _ hk => hk.2) (.slice Ao40 t340.length co40)) (fun _ h_ => h_.1)))); (case side4 => exact (Kd.R_reads' HO342.out).2.1); (case side5 => refine (Kd.R_reads' (e := 55) (base := w.heap.size) (ok := fun k_ => (((True ∧ some k_ ≠ (.slice Ao17 t316.length co17 : Value).ownBlock) ∧ some k_ ≠ (.slice Ao28 t330.length co28 : Value).ownBlock) ∧ some k_ ≠ (.slice Ao35 t337.length co35 : Value).ownBlock)) (n := t322.length) (c := co21) ?_).2.2; exact (by exact (Kd.R_mono (Kd.R_far (p := ⟨gb344, 1, none⟩) (Kd.R_far (p := ⟨gb344, 0, none⟩) (Kd.R_types HO324.out BK344.out (by decide)) (fun _ hk => hk.2) (.slice Ao35 t337.length co35)) (fun _ hk => hk.2) (.slice Ao40 t340.length co40)) (fun _ h_ => h_.1)))); (case side6 => exact (Kd.R_reads' HO324.out).2.1); (case side7 => refine (Kd.R_reads' (e := 3) (base := w.heap.size) (ok := fun k_ => (((True ∧ some k_ ≠ (.slice Ao18 t319.length co18 : Value).ownBlock) ∧ some k_ ≠ (.slice Ao32 t333.length co32 : Value).ownBlock) ∧ some k_ ≠ (.slice Ao40 t340.length co40 : Value).ownBlock)) (n := t325.length) (c := co24) ?_).2.2; exact (by exact (Kd.R_mono (Kd.R_far (p := ⟨gb344, 1, none⟩) (Kd.R_far (p := ⟨gb344, 0, none⟩) (Kd.R_types HO327.out BK344.out (by decide)) (fun _ hk => hk.2) (.slice Ao35 t337.length co35)) (fun _ hk => hk.2) (.slice Ao40 t340.length co40)) (fun _ h_ => h_.1)))); (case side8 => exact (Kd.R_reads' HO327.out).2.1); rintro e w58 ⟨rfl, hb⟩; refine ⟨_, rfl, ?_⟩; replace HO318 := Aside0.mk (Kd.R_below (by exact (Kd.R_mono (Kd.R_far (p := ⟨gb344, 1, none⟩) (Kd.R_far (p := ⟨gb344, 0, none⟩) (Kd.R_types HO318.out BK344.out (by decide)) (fun _ hk => hk.2) (.slice Ao35 t337.length co35)) (fun _ hk => hk.2) (.slice Ao40 t340.length co40)) (fun _ h_ => h_.1))) hb); replace HO321 := Aside0.mk (Kd.R_below (by exact (Kd.R_mono (Kd.R_far (p := ⟨gb344, 1, none⟩) (Kd.R_far (p := ⟨gb344, 0, none⟩) (Kd.R_types HO321.out BK344.out (by decide)) (fun _ hk => hk.2) (.slice Ao35 t337.length co35)) (fun _ hk => hk.2) (.slice Ao40 t340.length co40)) (fun _ h_ => h_.1))) hb); replace HO324 := Aside0.mk (Kd.R_below (by exact (Kd.R_mono (Kd.R_far (p := ⟨gb344, 1, none⟩) (Kd.R_far (p := ⟨gb344, 0, none⟩) (Kd.R_types HO324.out BK344.out (by decide)) (fun _ hk => hk.2) (.slice Ao35 t337.length co35)) (fun _ hk => hk.2) (.slice Ao40 t340.length co40)) (fun _ h_ => h_.1))) hb); replace HO327 := Aside0.mk (Kd.R_below (by exact (Kd.R_mono (Kd.R_far (p := ⟨gb344, 1, none⟩) (Kd.R_far (p := ⟨gb344, 0, none⟩) (Kd.R_types HO327.out BK344.out (by decide)) (fun _ hk => hk.2) (.slice Ao35 t337.length co35)) (fun _ hk => hk.2) (.slice Ao40 t340.length co40)) (fun _ h_ => h_.1))) hb); replace HO332 := Aside0.mk (Kd.R_below (by exact (Kd.R_mono (Kd.R_far (p := ⟨gb344, 1, none⟩) (Kd.R_far (p := ⟨gb344, 0, none⟩) (Kd.R_types HO332.out BK344.out (by decide)) (fun _ hk => hk.2) (.slice Ao35 t337.length co35)) (fun _ hk => hk.2) (.slice Ao40 t340.length co40)) (fun _ h_ => h_.1))) hb); replace HO335 := Aside0.mk (Kd.R_below (by exact (Kd.R_mono (Kd.R_far (p := ⟨gb344, 1, none⟩) (Kd.R_far (p := ⟨gb344, 0, none⟩) (Kd.R_types HO335.out BK344.out (by decide)) (fun _ hk => hk.2) (.slice Ao35 t337.length co35)) (fun _ hk => hk.2) (.slice Ao40 t340.length co40)) (fun _ h_ => h_.1))) hb); replace HO339 := Aside0.mk (Kd.R_below (by exact (Kd.R_mono (Kd.R_far (p := ⟨gb344, 1, none⟩) (Kd.R_far (p := ⟨gb344, 0, none⟩) (Kd.R_types HO339.out BK344.out (by decide)) (fun _ hk => hk.2) (.slice Ao35 t337.length co35)) (fun _ hk => hk.2) (.slice Ao40 t340.length co40)) (fun _ h_ => h_.1))) hb); replace HO342 := Aside0.mk (Kd.R_below (by exact (Kd.R_mono (Kd.R_far (p := ⟨gb344, 1, none⟩) (Kd.R_far (p := ⟨gb344, 0, none⟩) (Kd.R_types HO342.out BK344.out (by decide)) (fun _ hk => hk.2) (.slice Ao35 t337.length co35)) (fun _ hk => hk.2) (.slice Ao40 t340.length co40)) (fun _ h_ => h_.1))) hb); replace BK314 := Aside0.mk (blk_below (g := gb314) (o := .cells #[.slice A0_0 l0_0.length c0_0, .slice A0_1 l0_1.length c0_1] 36 (0, 0)) (by refine blk_far ?_ NB314_344.out _; refine blk_far ?_ NB314_344.out _; exact BK314.out) hb); replace BK329 := Aside0.mk (blk_below (g := gb329) (o := .cells #[.slice Ao21 t322.length co21, .slice Ao24 t325.length co24] 25 (0, 0)) (by refine blk_far ?_ NB329_344.out _; refine blk_far ?_ NB329_344.out _; exact BK329.out) hb); replace BK336 := Aside0.mk (blk_below (g := gb336) (o := .cells #[.slice Ao28 t330.length co28, .slice Ao32 t333.length co32] 25 (0, 0)) (by refine blk_far ?_ NB336_344.out _; refine blk_far ?_ NB336_344.out _; exact BK336.out) hb); replace BK344 := Aside0.mk (blk_below (g := gb344) (o := .cells #[.slice Ao35 t337.length co35, .slice Ao40 t340.length co40] 25 (0, 0)) (by (with_reducible repeat (first | refine blk_drewN ?_ _ | refine blk_drew ?_ | refine blk_alloc ?_ _)); refine blk_put (cs := #[.slice Ao35 t337.length co35, .slice none 0 0]) ?_ 1 _ rfl; (with_reducible repeat (first | refine blk_drewN ?_ _ | refine blk_drew ?_ | refine blk_alloc ?_ _)); refine blk_put (cs := #[.slice none 0 0, .slice none 0 0]) ?_ 0 _ rfl; (with_reducible repeat (first | refine blk_drewN ?_ _ | refine blk_drew ?_ | refine blk_alloc ?_ _)); exact BK344.out) hb); replace HB := Aside0.mk (below_step (by repeat (first | (with_reducible first | exact HB.out | apply below_alloc | apply pw_below_drewN | apply below_drew1 | refine below_set ?_ GE314.out | refine below_set ?_ GE329.out | refine below_set ?_ GE336.out | refine below_set ?_ GE344.out) | exact HB.out)) hb); (try clear hb); (try clear hb2); (try clear hk); (try clear hi)))
    go_meet
    case rel => exact ⟨_, (true), (by first | rfl | (simp; done) | (simp [*]; done)), H', ⟨by first | omega | exact Nat.le_refl _⟩, ⟨Kd.R_mono HO324.out (fun _ hk => ⟨hk.1.2, hk.2⟩)⟩, ⟨Kd.R_mono HO327.out (fun _ hk => ⟨hk.1.2, hk.2⟩)⟩, ⟨Kd.R_mono HO332.out (fun _ hk => ⟨hk.1.2, hk.2⟩)⟩, ⟨Kd.R_mono HO335.out (fun _ hk => ⟨hk.1.2, hk.2⟩)⟩, ⟨Kd.R_mono HO339.out (fun _ hk => ⟨hk.1.2, hk.2⟩)⟩, ⟨Kd.R_mono HO342.out (fun _ hk => ⟨hk.1.2, hk.2⟩)⟩, ⟨by exact BK314.out⟩, ⟨by exact BK329.out⟩, ⟨by exact BK336.out⟩, ⟨by exact BK344.out⟩, ⟨HB.out⟩⟩
  case rest =>
   clear HC11
   try clear c1
   try clear c2
   try clear p2
   try clear c3
   try clear c3b0
   try clear c4
   try clear c5
   try clear c6
   try clear c10
   try clear c15
   try clear c17
   try clear c21
   try clear c22
   try clear c29
   try clear c30
   try clear c36
   try clear c37
   try clear c38
   try clear c42
   try clear c43
   try clear c44
   try clear c45
   try clear c47
   try clear c48
   try clear c51
   try clear c52
   try clear c53
   try clear c55
   try clear c56
   try clear hcz13_0
   try clear hcz13_1
   try clear hcz15_0
   try clear hcz15_1
   try clear hcz23_0
   try clear hcz23_1
   try clear hcz25_0
   try clear hcz25_1
   try clear hcz31_0
   try clear hcz31_1
   try clear hcz39_0
   try clear hcz39_1
   try clear hcz46_0
   try clear hcz46_1
   try clear hcz49_0
   try clear hcz49_1
   try clear hcz54_0
   try clear hcz54_1
   try clear hcz57_0
   try clear hcz57_1
   try clear hcz5_0
   try clear hcz5_1
   try clear hfz13_0
   try clear hfz13_1
   try clear hfz15_0
   try clear hfz15_1
   try clear hfz23_0
   try clear hfz23_1
   try clear hfz25_0
   try clear hfz25_1
   try clear hfz31_0
   try clear hfz31_1
   try clear hfz39_0
   try clear hfz39_1
   try clear hfz46_0
   try clear hfz46_1
   try clear hfz49_0
   try clear hfz49_1
   try clear hfz54_0
   try clear hfz54_1
   try clear hfz57_0
   try clear hfz57_1
   try clear hfz5_0
   try clear hfz5_1
   obtain ⟨kq, x40_10, rfl, HA, HJ10, HO_330000, HO_330001, HO_337000, HO_337001, HO_345000, HO_345001, BK314, BK329, BK336, BK344, HB⟩ := hcut
   cases kq with
   | zero => exact absurd HA.out (by simp [laws_FnExactHarderPuzzle.j0])
   | succ kj10 =>
    have H := HA.out
    clear HA
    simp only [laws_FnExactHarderPuzzle.j0] at H
    by_cases c59 : x40_10 = true
    ·subst c59
     have H1 : (none) = some r := by rw [if_pos rfl] at H; exact H
     clear H
     have H := H1
     clear H1
     exact absurd H (by simp)
    ·replace c59 := Bool.eq_false_iff.mpr c59
     subst c59
     have H1 : ((laws_toPuzzle.f kj10 l0_0 l0_1).bind fun bt346 => ((laws_eqPuzzle.f kj10 t330 t333 bt346.1 bt346.2).bind fun t352 => (if t352 = true then ((laws_markPuzzle.f kj10 t330 t333 1).bind fun bt353 => (if bt353.1 < 0 then (laws_FnExactHarderPuzzle.j1 kj10 t328 true l0_0 l0_1 t322 t325 t337 t340) else ((laws_eqPuzzle.f kj10 t337 t340 t322 t325).bind fun t356 => (if t356 = true then (laws_FnExactHarderPuzzle.j1 kj10 t328 (t343 != t328) l0_0 l0_1 t322 t325 t337 t340) else (laws_FnExactHarderPuzzle.j1 kj10 t328 true l0_0 l0_1 t322 t325 t337 t340))))) else (none)))) = some r := by rw [if_neg (show ¬ (false = true) by decide)] at H; exact H
     clear H
     have H := H1
     clear H1
     replace H := Option.bind_eq_some_iff.mp H
     obtain ⟨⟨t346, t349⟩, A600, H⟩ := H
     replace H : ((laws_eqPuzzle.f kj10 t330 t333 t346 t349).bind fun t352 => (if t352 = true then ((laws_markPuzzle.f kj10 t330 t333 1).bind fun bt353 => (if bt353.1 < 0 then (laws_FnExactHarderPuzzle.j1 kj10 t328 true l0_0 l0_1 t322 t325 t337 t340) else ((laws_eqPuzzle.f kj10 t337 t340 t322 t325).bind fun t356 => (if t356 = true then (laws_FnExactHarderPuzzle.j1 kj10 t328 (t343 != t328) l0_0 l0_1 t322 t325 t337 t340) else (laws_FnExactHarderPuzzle.j1 kj10 t328 true l0_0 l0_1 t322 t325 t337 t340))))) else (none))) = some r := H
     have A60 := Aside0.mk A600
     clear A600
     replace H := Option.bind_eq_some_iff.mp H
     obtain ⟨t352, A610, H⟩ := H
     replace H : (if t352 = true then ((laws_markPuzzle.f kj10 t330 t333 1).bind fun bt353 => (if bt353.1 < 0 then (laws_FnExactHarderPuzzle.j1 kj10 t328 true l0_0 l0_1 t322 t325 t337 t340) else ((laws_eqPuzzle.f kj10 t337 t340 t322 t325).bind fun t356 => (if t356 = true then (laws_FnExactHarderPuzzle.j1 kj10 t328 (t343 != t328) l0_0 l0_1 t322 t325 t337 t340) else (laws_FnExactHarderPuzzle.j1 kj10 t328 true l0_0 l0_1 t322 t325 t337 t340))))) else (none)) = some r := H
     have A61 := Aside0.mk A610
     clear A610
     by_cases c62 : t352 = true
     ·subst c62
      have H1 : ((laws_markPuzzle.f kj10 t330 t333 1).bind fun bt353 => (if bt353.1 < 0 then (laws_FnExactHarderPuzzle.j1 kj10 t328 true l0_0 l0_1 t322 t325 t337 t340) else ((laws_eqPuzzle.f kj10 t337 t340 t322 t325).bind fun t356 => (if t356 = true then (laws_FnExactHarderPuzzle.j1 kj10 t328 (t343 != t328) l0_0 l0_1 t322 t325 t337 t340) else (laws_FnExactHarderPuzzle.j1 kj10 t328 true l0_0 l0_1 t322 t325 t337 t340))))) = some r := by rw [if_pos rfl] at H; exact H
      clear H
      have H := H1
      clear H1
      replace H := Option.bind_eq_some_iff.mp H
      obtain ⟨⟨t353, t354, t355⟩, A630, H⟩ := H
      replace H : (if t353 < 0 then (laws_FnExactHarderPuzzle.j1 kj10 t328 true l0_0 l0_1 t322 t325 t337 t340) else ((laws_eqPuzzle.f kj10 t337 t340 t322 t325).bind fun t356 => (if t356 = true then (laws_FnExactHarderPuzzle.j1 kj10 t328 (t343 != t328) l0_0 l0_1 t322 t325 t337 t340) else (laws_FnExactHarderPuzzle.j1 kj10 t328 true l0_0 l0_1 t322 t325 t337 t340)))) = some r := H
      have A63 := Aside0.mk A630
      clear A630
      have HC64 := Aside0.mk H
      clear H
      try go_wp2
      replace HO_330000 := Aside0.mk (Kd.R_drew HO_330000.out)
      replace HO_330001 := Aside0.mk (Kd.R_drew HO_330001.out)
      replace HO_337000 := Aside0.mk (Kd.R_drew HO_337000.out)
      replace HO_337001 := Aside0.mk (Kd.R_drew HO_337001.out)
      replace HO_345000 := Aside0.mk (Kd.R_drew HO_345000.out)
      replace HO_345001 := Aside0.mk (Kd.R_drew HO_345001.out)
      replace BK314 := Aside0.mk (blk_drew BK314.out)
      replace BK329 := Aside0.mk (blk_drew BK329.out)
      replace BK336 := Aside0.mk (blk_drew BK336.out)
      replace BK344 := Aside0.mk (blk_drew BK344.out)
      replace HB := Aside0.mk (below_drew1 HB.out)
      refine start_ (n := 5) (S := fun w' => w'.cell? ⟨gb336, 0, none⟩ = some (.slice Ao28 t330.length co28) ∧ w'.cell? ⟨gb336, 1, none⟩ = some (.slice Ao32 t333.length co32) ∧ w'.cell? ⟨gb314, 0, none⟩ = some (.slice A0_0 l0_0.length c0_0) ∧ w'.cell? ⟨gb314, 1, none⟩ = some (.slice A0_1 l0_1.length c0_1)) (ds := []) #[false, false, false, false, false] (by kernel_rfl) rfl rfl ⟨(blk_cell BK336.out 0).trans rfl, (blk_cell BK336.out 1).trans rfl, (blk_cell BK314.out 0).trans rfl, (blk_cell BK314.out 1).trans rfl⟩ (fun hHeld => ?_)
      generalize wc.drew = w65 at HO_330000 HO_330001 HO_337000 HO_337001 HO_345000 HO_345001 BK314 BK329 BK336 BK344 HB hHeld ⊢
      refine take_ (i := 0) (N := some 41) (v := ?_) (a' := ?_) #[true, false, false, false, false] rfl rfl (by kernel_rfl) (fun _ _ _ h => h) (Or.inl ⟨by rfl, ?_⟩) hHeld ?_ ?_
      rotate_left
      ·rintro w' ⟨s0, s1, s2, s3⟩
       go_simp
       with_reducible rfl
      rotate_left
      ·simp only [Act.put, List.setIfInBounds_toArray, List.set_cons_zero, List.set_cons_succ, i64_w, i32_w]
       rfl
      refine take_ (i := 1) (N := some 42) (v := ?_) (a' := ?_) #[true, true, false, false, false] rfl rfl (by kernel_rfl) (fun _ _ _ h => h) (Or.inl ⟨by rfl, ?_⟩) hHeld ?_ ?_
      rotate_left
      ·rintro w' ⟨s0, s1, s2, s3⟩
       go_simp
       with_reducible rfl
      rotate_left
      ·simp only [Act.put, List.setIfInBounds_toArray, List.set_cons_zero, List.set_cons_succ, i64_w, i32_w]
       rfl
      refine one_ (i := 2) (N := some 43) #[true, true, true, false, false] rfl rfl (by kernel_rfl) (by decide) (fun K hK => ?_)
      refine goes_ Try.func17 (by kernel_rfl) rfl #[.agg #[.slice A0_0 l0_0.length c0_0, .slice A0_1 l0_1.length c0_1]] (by rfl) rfl rfl (by (try simp only [List.map_toArray, List.map_cons, List.map_nil]); first | done | rfl | (simp only [List.length_drop, List.length_take]; rfl)) ?_
      with_reducible refine (laws_toPuzzle.calls kj10 _ _ l0_0 _ _ l0_1 t346 t349 _ ?side1 ?side2 ?side3 ?side4 A60.out).mono ?_
      (case side1 => repeat (first | exact (Kd.C_below HR0_0.out HB.out) | (with_reducible refine Kd.C_alloc ?_ _) | (with_reducible refine Kd.C_drewN ?_ _) | (with_reducible refine Kd.C_drew ?_)))
      (case side2 => exact HC0_0.out)
      (case side3 => repeat (first | exact (Kd.C_below HR0_1.out HB.out) | (with_reducible refine Kd.C_alloc ?_ _) | (with_reducible refine Kd.C_drewN ?_ _) | (with_reducible refine Kd.C_drew ?_)))
      (case side4 => exact HC0_1.out)
      rintro e w66 ⟨v347, v350, rfl, ho0, ho1, hb⟩
      refine ⟨_, rfl, ?_⟩
      have HO348 := Aside0.mk (Kd.R_lower (Kd.R_new' (Kd.R_new' (Kd.R_new' ho0 (Kd.R_lt (HO_330000.out))) (Kd.R_lt (HO_337000.out))) (Kd.R_lt (HO_345000.out))) (below_size HB.out))
      replace HO_330000 := Aside0.mk (Kd.R_elder' (HO_330000.out) (Kd.R_base ho0) hb)
      replace HO_337000 := Aside0.mk (Kd.R_elder' (HO_337000.out) (Kd.R_base ho0) hb)
      replace HO_345000 := Aside0.mk (Kd.R_elder' (HO_345000.out) (Kd.R_base ho0) hb)
      have HO351 := Aside0.mk (Kd.R_lower (Kd.R_new' (Kd.R_new' (Kd.R_new' ho1 (Kd.R_lt (HO_330001.out))) (Kd.R_lt (HO_337001.out))) (Kd.R_lt (HO_345001.out))) (below_size HB.out))
      replace HO_330001 := Aside0.mk (Kd.R_elder' (HO_330001.out) (Kd.R_base ho1) hb)
      replace HO_337001 := Aside0.mk (Kd.R_elder' (HO_337001.out) (Kd.R_base ho1) hb)
      replace HO_345001 := Aside0.mk (Kd.R_elder' (HO_345001.out) (Kd.R_base ho1) hb)
      replace BK314 := Aside0.mk (blk_below (g := gb314) (o := .cells #[.slice A0_0 l0_0.length c0_0, .slice A0_1 l0_1.length c0_1] 36 (0, 0)) (BK314.out) hb)
      replace BK329 := Aside0.mk (blk_below (g := gb329) (o := .cells #[.slice Ao21 t322.length co21, .slice Ao24 t325.length co24] 25 (0, 0)) (BK329.out) hb)
      replace BK336 := Aside0.mk (blk_below (g := gb336) (o := .cells #[.slice Ao28 t330.length co28, .slice Ao32 t333.length co32] 25 (0, 0)) (BK336.out) hb)
      replace BK344 := Aside0.mk (blk_below (g := gb344) (o := .cells #[.slice Ao35 t337.length co35, .slice Ao40 t340.length co40] 25 (0, 0)) (BK344.out) hb)
      replace HB := Aside0.mk (below_step HB.out hb)
      (try clear hb)
      (try clear hb2)
      (try clear hk)
      (try clear hi)
      (try clear ho0)
      (try clear ho1)
      obtain ⟨Ao67, co67, eo67⟩ := Kd.R_slice HO348.out
      (first | subst eo67 | (injection eo67 with f1_ f2_ f3_; have f4_ := f1_.symm; have f5_ := f3_.symm; clear f1_ f2_ f3_; subst f4_; subst f5_))
      obtain ⟨Ao68, co68, eo68⟩ := Kd.R_slice HO351.out
      (first | subst eo68 | (injection eo68 with f1_ f2_ f3_; have f4_ := f1_.symm; have f5_ := f3_.symm; clear f1_ f2_ f3_; subst f4_; subst f5_))
      refine hK.out _ _ ⟨(blk_cell BK336.out 0).trans rfl, (blk_cell BK336.out 1).trans rfl, (blk_cell BK314.out 0).trans rfl, (blk_cell BK314.out 1).trans rfl⟩ (fun hHeld => ?_)
      clear hK K
      refine norm_ (a' := ?_) ?_ ?_
      rotate_left
      ·show Act.put _ (some 43) _ = _
       simp only [Act.put, List.setIfInBounds_toArray, List.set_cons_zero, List.set_cons_succ, i64_w, i32_w]
       rfl
      refine one_ (i := 3) (N := some 44) #[true, true, true, true, false] rfl rfl (by kernel_rfl) (by decide) (fun K hK => ?_)
      refine goes_ Try.func10 (by kernel_rfl) rfl #[.agg #[.slice Ao28 t330.length co28, .slice Ao32 t333.length co32], .agg #[.slice Ao67 t346.length co67, .slice Ao68 t349.length co68]] (by rfl) rfl rfl (by (try simp only [List.map_toArray, List.map_cons, List.map_nil]); first | done | rfl | (simp only [List.length_drop, List.length_take]; rfl)) ?_
      with_reducible refine (laws_eqPuzzle.calls kj10 _ _ t330 _ _ t333 _ _ t346 _ _ t349 true _ ?side1 ?side2 ?side3 ?side4 ?side5 ?side6 ?side7 ?side8 A61.out).mono ?_
      (case side1 => repeat (first | exact (Kd.R_reads' HO_337000.out).2.2 | (with_reducible refine Kd.C_alloc ?_ _) | (with_reducible refine Kd.C_drewN ?_ _) | (with_reducible refine Kd.C_drew ?_)))
      (case side2 => exact (Kd.R_reads' HO_337000.out).2.1)
      (case side3 => repeat (first | exact (Kd.R_reads' HO_337001.out).2.2 | (with_reducible refine Kd.C_alloc ?_ _) | (with_reducible refine Kd.C_drewN ?_ _) | (with_reducible refine Kd.C_drew ?_)))
      (case side4 => exact (Kd.R_reads' HO_337001.out).2.1)
      (case side5 => repeat (first | exact (Kd.R_reads' HO348.out).2.2 | (with_reducible refine Kd.C_alloc ?_ _) | (with_reducible refine Kd.C_drewN ?_ _) | (with_reducible refine Kd.C_drew ?_)))
      (case side6 => exact (Kd.R_reads' HO348.out).2.1)
      (case side7 => repeat (first | exact (Kd.R_reads' HO351.out).2.2 | (with_reducible refine Kd.C_alloc ?_ _) | (with_reducible refine Kd.C_drewN ?_ _) | (with_reducible refine Kd.C_drew ?_)))
      (case side8 => exact (Kd.R_reads' HO351.out).2.1)
      rintro e w69 ⟨rfl, hb⟩
      refine ⟨_, rfl, ?_⟩
      replace HO_330000 := Aside0.mk (Kd.R_below (HO_330000.out) hb)
      replace HO_330001 := Aside0.mk (Kd.R_below (HO_330001.out) hb)
      replace HO_337000 := Aside0.mk (Kd.R_below (HO_337000.out) hb)
      replace HO_337001 := Aside0.mk (Kd.R_below (HO_337001.out) hb)
      replace HO_345000 := Aside0.mk (Kd.R_below (HO_345000.out) hb)
      replace HO_345001 := Aside0.mk (Kd.R_below (HO_345001.out) hb)
      replace HO348 := Aside0.mk (Kd.R_below (HO348.out) hb)
      replace HO351 := Aside0.mk (Kd.R_below (HO351.out) hb)
      replace BK314 := Aside0.mk (blk_below (g := gb314) (o := .cells #[.slice A0_0 l0_0.length c0_0, .slice A0_1 l0_1.length c0_1] 36 (0, 0)) (BK314.out) hb)
      replace BK329 := Aside0.mk (blk_below (g := gb329) (o := .cells #[.slice Ao21 t322.length co21, .slice Ao24 t325.length co24] 25 (0, 0)) (BK329.out) hb)
      replace BK336 := Aside0.mk (blk_below (g := gb336) (o := .cells #[.slice Ao28 t330.length co28, .slice Ao32 t333.length co32] 25 (0, 0)) (BK336.out) hb)
      replace BK344 := Aside0.mk (blk_below (g := gb344) (o := .cells #[.slice Ao35 t337.length co35, .slice Ao40 t340.length co40] 25 (0, 0)) (BK344.out) hb)
      replace HB := Aside0.mk (below_step HB.out hb)
      (try clear hb)
      (try clear hb2)
      (try clear hk)
      (try clear hi)
      refine hK.out _ _ ⟨(blk_cell BK336.out 0).trans rfl, (blk_cell BK336.out 1).trans rfl, (blk_cell BK314.out 0).trans rfl, (blk_cell BK314.out 1).trans rfl⟩ (fun hHeld => ?_)
      clear hK K
      refine norm_ (a' := ?_) ?_ ?_
      rotate_left
      ·show Act.put _ (some 44) _ = _
       simp only [Act.put, List.setIfInBounds_toArray, List.set_cons_zero, List.set_cons_succ, i64_w, i32_w]
       rfl
      refine pure_ (i := 4) (N := some 45) (v := ?_) (a' := ?_) #[true, true, true, true, true] rfl rfl (by kernel_rfl) (fun _ _ _ h => h) (Or.inl ⟨by rfl, ?_⟩) ?_ ?_
      rotate_left
      ·intro w'
       go_simp
       with_reducible rfl
      rotate_left
      ·simp only [Act.put, List.setIfInBounds_toArray, List.set_cons_zero, List.set_cons_succ, i64_w, i32_w]
       rfl
      refine done_ (by kernel_rfl) ?_
      have hnb70 := NB336_314.out
      have hnc70 := NB314_336.out
      have hnb71 := NB336_329.out
      have hnc71 := NB329_336.out
      have hnb72 := NB336_344.out
      have hnc72 := NB344_336.out
      have hcz73_0 : w69.cell? ⟨gb336, 0, none⟩ = some (.slice Ao28 t330.length co28) := (blk_cell BK336.out 0).trans rfl
      have hcz73_1 : w69.cell? ⟨gb336, 1, none⟩ = some (.slice Ao32 t333.length co32) := (blk_cell BK336.out 1).trans rfl
      have hfz73_0 := blk_frozen BK336.out 0
      have hfz73_1 := blk_frozen BK336.out 1
      go_upto_region 14 with (first | ((with_reducible refine gate_callee (f := 13) rfl ?_); refine goesL_ (some 48) rfl rfl Try.func13 (by kernel_rfl) rfl #[.agg #[.slice Ao28 t330.length co28, .slice Ao32 t333.length co32], .int .i64 1] rfl (by (try simp only [List.map_toArray, List.map_cons, List.map_nil]); first | done | rfl | (simp only [List.length_drop, List.length_take]; rfl)) ?_; (with_reducible refine (laws_markPuzzle.calls kj10 (fun k_ => some k_ = (.slice Ao28 t330.length co28 : Value).ownBlock) (.slice Ao28 t330.length co28) t330 (fun k_ => some k_ = (.slice Ao32 t333.length co32 : Value).ownBlock) (.slice Ao32 t333.length co32) t333 1 t353 t354 t355 w _ ?side1 ?side2 ?side3 A63.out).mono ?_); (case side1 => repeat (first | (with_reducible first | exact HB.out | apply below_alloc | apply pw_below_drewN | apply below_drew1 | refine below_set ?_ GE314.out | refine below_set ?_ GE329.out | refine below_set ?_ GE336.out | refine below_set ?_ GE344.out) | exact HB.out)); (case side2 => exact Kd.R_tight rfl HO_337000.out); (case side3 => exact Kd.R_tight rfl HO_337001.out); rintro e w74 ⟨rfl, hy0, hy1, hb, hkp⟩; refine ⟨_, rfl, ?_⟩; replace HO_330000 := Aside0.mk (Kd.R_mono (ok' := fun k_ => some k_ ≠ (.slice Ao28 t330.length co28 : Value).ownBlock ∧ some k_ ≠ (.slice Ao35 t337.length co35 : Value).ownBlock ∧ some k_ ≠ (.slice Ao67 t346.length co67 : Value).ownBlock) (Kd.R_keptB ((Kd.R_apart' HO_330000.out (Kd.R_typed HO_337001.out) (by decide))) hkp (fun k_ hk_ hs_ => Or.elim hs_ (fun e_ => (hk_.1.1.1) e_) (fun e_ => (hk_.2) e_))) (fun k_ hk_ => ⟨hk_.1.1.1.1, hk_.1.1.1.2, hk_.1.1.2⟩)); replace HO_330001 := Aside0.mk (Kd.R_mono (ok' := fun k_ => some k_ ≠ (.slice Ao32 t333.length co32 : Value).ownBlock ∧ some k_ ≠ (.slice Ao40 t340.length co40 : Value).ownBlock ∧ some k_ ≠ (.slice Ao68 t349.length co68 : Value).ownBlock) (Kd.R_keptB ((Kd.R_apart' HO_330001.out (Kd.R_typed HO_337000.out) (by decide))) hkp (fun k_ hk_ hs_ => Or.elim hs_ (fun e_ => (hk_.2) e_) (fun e_ => (hk_.1.1.1) e_))) (fun k_ hk_ => ⟨hk_.1.1.1.1, hk_.1.1.1.2, hk_.1.1.2⟩)); replace HO_345000 := Aside0.mk (Kd.R_mono (ok' := fun k_ => some k_ ≠ (.slice Ao21 t322.length co21 : Value).ownBlock ∧ some k_ ≠ (.slice Ao28 t330.length co28 : Value).ownBlock ∧ some k_ ≠ (.slice Ao67 t346.length co67 : Value).ownBlock) (Kd.R_keptB ((Kd.R_apart' HO_345000.out (Kd.R_typed HO_337001.out) (by decide))) hkp (fun k_ hk_ hs_ => Or.elim hs_ (fun e_ => (hk_.1.1.2) e_) (fun e_ => (hk_.2) e_))) (fun k_ hk_ => ⟨hk_.1.1.1.1, hk_.1.1.1.2, hk_.1.1.2⟩)); replace HO_345001 := Aside0.mk (Kd.R_mono (ok' := fun k_ => some k_ ≠ (.slice Ao24 t325.length co24 : Value).ownBlock ∧ some k_ ≠ (.slice Ao32 t333.length co32 : Value).ownBlock ∧ some k_ ≠ (.slice Ao68 t349.length co68 : Value).ownBlock) (Kd.R_keptB ((Kd.R_apart' HO_345001.out (Kd.R_typed HO_337000.out) (by decide))) hkp (fun k_ hk_ hs_ => Or.elim hs_ (fun e_ => (hk_.2) e_) (fun e_ => (hk_.1.1.2) e_))) (fun k_ hk_ => ⟨hk_.1.1.1.1, hk_.1.1.1.2, hk_.1.1.2⟩)); replace BK314 := Aside0.mk (blk_kept (BK314.out) hkp (fun hs_ => Or.elim hs_ (fun e_ => (fun e_ => (Kd.R_ne HO_337000.out BK314.out (by decide)) e_) e_) (fun e_ => (fun e_ => (Kd.R_ne HO_337001.out BK314.out (by decide)) e_) e_))); replace BK329 := Aside0.mk (blk_kept (BK329.out) hkp (fun hs_ => Or.elim hs_ (fun e_ => (fun e_ => (Kd.R_ne HO_337000.out BK329.out (by decide)) e_) e_) (fun e_ => (fun e_ => (Kd.R_ne HO_337001.out BK329.out (by decide)) e_) e_))); replace BK336 := Aside0.mk (blk_kept (BK336.out) hkp (fun hs_ => Or.elim hs_ (fun e_ => (fun e_ => (Kd.R_ne HO_337000.out BK336.out (by decide)) e_) e_) (fun e_ => (fun e_ => (Kd.R_ne HO_337001.out BK336.out (by decide)) e_) e_))); replace BK344 := Aside0.mk (blk_kept (BK344.out) hkp (fun hs_ => Or.elim hs_ (fun e_ => (fun e_ => (Kd.R_ne HO_337000.out BK344.out (by decide)) e_) e_) (fun e_ => (fun e_ => (Kd.R_ne HO_337001.out BK344.out (by decide)) e_) e_))); replace HO348 := Aside0.mk (Kd.R_mono (ok' := fun k_ => some k_ ≠ (.slice Ao21 t322.length co21 : Value).ownBlock ∧ some k_ ≠ (.slice Ao28 t330.length co28 : Value).ownBlock ∧ some k_ ≠ (.slice Ao35 t337.length co35 : Value).ownBlock) (Kd.R_keptB ((Kd.R_apart' HO348.out (Kd.R_typed HO_337001.out) (by decide))) hkp (fun k_ hk_ hs_ => Or.elim hs_ (fun e_ => (hk_.1.1.2) e_) (fun e_ => (hk_.2) e_))) (fun k_ hk_ => ⟨hk_.1.1.1.1.2, hk_.1.1.1.2, hk_.1.1.2⟩)); replace HO_337001 := Aside0.mk (Kd.R_reok rfl hy1 (fun k_ e_ => HO_337001.out.1 k_ e_)); replace HO351 := Aside0.mk (Kd.R_mono (ok' := fun k_ => some k_ ≠ (.slice Ao24 t325.length co24 : Value).ownBlock ∧ some k_ ≠ (.slice Ao32 t333.length co32 : Value).ownBlock ∧ some k_ ≠ (.slice Ao40 t340.length co40 : Value).ownBlock) (Kd.R_keptB ((Kd.R_apart' HO351.out (Kd.R_typed HO_337000.out) (by decide))) hkp (fun k_ hk_ hs_ => Or.elim hs_ (fun e_ => (hk_.2) e_) (fun e_ => (hk_.1.1.2) e_))) (fun k_ hk_ => ⟨hk_.1.1.1.1.2, hk_.1.1.1.2, hk_.1.1.2⟩)); replace HO_337000 := Aside0.mk (Kd.R_reok rfl hy0 (fun k_ e_ => HO_337000.out.1 k_ e_)); replace HB := Aside0.mk (hb); (try clear hb); (try clear hkp); (try clear hy0); (try clear hy1)))
      (try simp only [Act.put, List.setIfInBounds_toArray, List.set_cons_zero, List.set_cons_succ])
      go_cut [61] (fun v61 wc => ∃ (kq : Nat) (x61_63 : Bool), v61 = .bool x61_63 ∧ Aside0 (laws_FnExactHarderPuzzle.j1 kq t328 x61_63 l0_0 l0_1 t322 t325 t337 t340 = some r) ∧ Aside0 (kq ≤ kj10) ∧ Aside0 (Kd.R k55 55 wc w.heap.size (fun k_ => some k_ ≠ ((.slice Ao28 t330.length co28) : Value).ownBlock ∧ some k_ ≠ ((.slice Ao35 t337.length co35) : Value).ownBlock) (.slice Ao21 t322.length co21) t322) ∧ Aside0 (Kd.R (Kd.int .i64) 3 wc w.heap.size (fun k_ => some k_ ≠ ((.slice Ao32 t333.length co32) : Value).ownBlock ∧ some k_ ≠ ((.slice Ao40 t340.length co40) : Value).ownBlock) (.slice Ao24 t325.length co24) t325) ∧ Aside0 (Kd.R k55 55 wc w.heap.size (fun k_ => some k_ ≠ ((.slice Ao21 t322.length co21) : Value).ownBlock ∧ some k_ ≠ ((.slice Ao35 t337.length co35) : Value).ownBlock) (.slice Ao28 t330.length co28) t354) ∧ Aside0 (Kd.R (Kd.int .i64) 3 wc w.heap.size (fun k_ => some k_ ≠ ((.slice Ao24 t325.length co24) : Value).ownBlock ∧ some k_ ≠ ((.slice Ao40 t340.length co40) : Value).ownBlock) (.slice Ao32 t333.length co32) t355) ∧ Aside0 (Kd.R k55 55 wc w.heap.size (fun k_ => some k_ ≠ ((.slice Ao21 t322.length co21) : Value).ownBlock ∧ some k_ ≠ ((.slice Ao28 t330.length co28) : Value).ownBlock) (.slice Ao35 t337.length co35) t337) ∧ Aside0 (Kd.R (Kd.int .i64) 3 wc w.heap.size (fun k_ => some k_ ≠ ((.slice Ao24 t325.length co24) : Value).ownBlock ∧ some k_ ≠ ((.slice Ao32 t333.length co32) : Value).ownBlock) (.slice Ao40 t340.length co40) t340) ∧ Aside0 (wc.heap[gb314]? = some (.cells #[(.slice A0_0 l0_0.length c0_0), (.slice A0_1 l0_1.length c0_1)] 36 (0, 0))) ∧ Aside0 (wc.heap[gb329]? = some (.cells #[(.slice Ao21 t322.length co21), (.slice Ao24 t325.length co24)] 25 (0, 0))) ∧ Aside0 (wc.heap[gb336]? = some (.cells #[(.slice Ao28 t330.length co28), (.slice Ao32 t333.length co32)] 25 (0, 0))) ∧ Aside0 (wc.heap[gb344]? = some (.cells #[(.slice Ao35 t337.length co35), (.slice Ao40 t340.length co40)] 25 (0, 0))) ∧ Aside0 (Below w.heap.size w wc))
      case first =>
       have H := HC64.out
       clear HC64
       by_cases c75 : t353 < 0
       ·rw [if_pos c75] at H
        have c75b0 : decide (t353 < 0) = true := decide_eq_true c75
        clear c75
        (first | rw [c75b0] | (simp only [i64_w, i32_w]; rw [c75b0]) | skip)
        have H' := Aside0.mk H
        clear H
        go_wp2
        go_meet
        case rel => exact ⟨_, (true), (by first | rfl | (simp; done) | (simp [*]; done)), H', ⟨by have := HJ10.out; first | omega | exact Nat.le_refl _⟩, ⟨Kd.R_mono HO_330000.out (fun _ hk => ⟨hk.1, hk.2.1⟩)⟩, ⟨Kd.R_mono HO_330001.out (fun _ hk => ⟨hk.1, hk.2.1⟩)⟩, ⟨Kd.R_mono HO_337000.out (fun _ hk => ⟨hk.1.1, hk.1.2⟩)⟩, ⟨Kd.R_mono HO_337001.out (fun _ hk => ⟨hk.1.1, hk.1.2⟩)⟩, ⟨Kd.R_mono HO_345000.out (fun _ hk => ⟨hk.1, hk.2.1⟩)⟩, ⟨Kd.R_mono HO_345001.out (fun _ hk => ⟨hk.1, hk.2.1⟩)⟩, ⟨by exact BK314.out⟩, ⟨by exact BK329.out⟩, ⟨by exact BK336.out⟩, ⟨by exact BK344.out⟩, ⟨HB.out⟩⟩
       ·rw [if_neg c75] at H
        have c75b0 : decide (t353 < 0) = false := decide_eq_false c75
        clear c75
        (first | rw [c75b0] | (simp only [i64_w, i32_w]; rw [c75b0]) | skip)
        replace H := Option.bind_eq_some_iff.mp H
        obtain ⟨t356, A760, H⟩ := H
        replace H : (if t356 = true then (laws_FnExactHarderPuzzle.j1 kj10 t328 (t343 != t328) l0_0 l0_1 t322 t325 t337 t340) else (laws_FnExactHarderPuzzle.j1 kj10 t328 true l0_0 l0_1 t322 t325 t337 t340)) = some r := H
        have A76 := Aside0.mk A760
        clear A760
        by_cases c77 : t356 = true
        ·subst c77
         have H1 : (laws_FnExactHarderPuzzle.j1 kj10 t328 (t343 != t328) l0_0 l0_1 t322 t325 t337 t340) = some r := by rw [if_pos rfl] at H; exact H
         clear H
         have H := H1
         clear H1
         have H' := Aside0.mk H
         clear H
         have hnb78 := NB344_314.out
         have hnc78 := NB314_344.out
         have hnb79 := NB344_329.out
         have hnc79 := NB329_344.out
         have hnb80 := NB344_336.out
         have hnc80 := NB336_344.out
         have hcz81_0 : w74.cell? ⟨gb344, 0, none⟩ = some (.slice Ao35 t337.length co35) := (blk_cell BK344.out 0).trans rfl
         have hcz81_1 : w74.cell? ⟨gb344, 1, none⟩ = some (.slice Ao40 t340.length co40) := (blk_cell BK344.out 1).trans rfl
         have hfz81_0 := blk_frozen BK344.out 0
         have hfz81_1 := blk_frozen BK344.out 1
         have hnb82 := NB329_314.out
         have hnc82 := NB314_329.out
         have hnb83 := NB329_336.out
         have hnc83 := NB336_329.out
         have hcz84_0 : w74.cell? ⟨gb329, 0, none⟩ = some (.slice Ao21 t322.length co21) := (blk_cell BK329.out 0).trans rfl
         have hcz84_1 : w74.cell? ⟨gb329, 1, none⟩ = some (.slice Ao24 t325.length co24) := (blk_cell BK329.out 1).trans rfl
         have hfz84_0 := blk_frozen BK329.out 0
         have hfz84_1 := blk_frozen BK329.out 1
         go_wp2_with (first | (go_at_call 10; (with_reducible refine (laws_eqPuzzle.calls kj10 _ _ t337 _ _ t340 _ _ t322 _ _ t325 true _ ?side1 ?side2 ?side3 ?side4 ?side5 ?side6 ?side7 ?side8 A76.out).mono ?_); (case side1 => repeat (first | exact (Kd.R_reads' HO_345000.out).2.2 | (with_reducible refine Kd.C_alloc ?_ _) | (with_reducible refine Kd.C_drewN ?_ _) | (with_reducible refine Kd.C_drew ?_))); (case side2 => exact (Kd.R_reads' HO_345000.out).2.1); (case side3 => repeat (first | exact (Kd.R_reads' HO_345001.out).2.2 | (with_reducible refine Kd.C_alloc ?_ _) | (with_reducible refine Kd.C_drewN ?_ _) | (with_reducible refine Kd.C_drew ?_))); (case side4 => exact (Kd.R_reads' HO_345001.out).2.1); (case side5 => repeat (first | exact (Kd.R_reads' HO_330000.out).2.2 | (with_reducible refine Kd.C_alloc ?_ _) | (with_reducible refine Kd.C_drewN ?_ _) | (with_reducible refine Kd.C_drew ?_))); (case side6 => exact (Kd.R_reads' HO_330000.out).2.1); (case side7 => repeat (first | exact (Kd.R_reads' HO_330001.out).2.2 | (with_reducible refine Kd.C_alloc ?_ _) | (with_reducible refine Kd.C_drewN ?_ _) | (with_reducible refine Kd.C_drew ?_))); (case side8 => exact (Kd.R_reads' HO_330001.out).2.1); rintro e w85 ⟨rfl, hb⟩; replace HO_330000 := Aside0.mk (Kd.R_below (HO_330000.out) hb); replace HO_330001 := Aside0.mk (Kd.R_below (HO_330001.out) hb); replace HO_337000 := Aside0.mk (Kd.R_below (HO_337000.out) hb); replace HO_337001 := Aside0.mk (Kd.R_below (HO_337001.out) hb); replace HO_345000 := Aside0.mk (Kd.R_below (HO_345000.out) hb); replace HO_345001 := Aside0.mk (Kd.R_below (HO_345001.out) hb); replace HO348 := Aside0.mk (Kd.R_below (HO348.out) hb); replace HO351 := Aside0.mk (Kd.R_below (HO351.out) hb); replace BK314 := Aside0.mk (blk_below (g := gb314) (o := .cells #[.slice A0_0 l0_0.length c0_0, .slice A0_1 l0_1.length c0_1] 36 (0, 0)) (BK314.out) hb); replace BK329 := Aside0.mk (blk_below (g := gb329) (o := .cells #[.slice Ao21 t322.length co21, .slice Ao24 t325.length co24] 25 (0, 0)) (BK329.out) hb); replace BK336 := Aside0.mk (blk_below (g := gb336) (o := .cells #[.slice Ao28 t330.length co28, .slice Ao32 t333.length co32] 25 (0, 0)) (BK336.out) hb); replace BK344 := Aside0.mk (blk_below (g := gb344) (o := .cells #[.slice Ao35 t337.length co35, .slice Ao40 t340.length co40] 25 (0, 0)) (BK344.out) hb); replace HB := Aside0.mk (below_step HB.out hb); (try clear hb); (try clear hb2); (try clear hk); (try clear hi)))
         go_meet
         case rel => exact ⟨_, ((t343 != t328)), (by first | rfl | (simp; done) | (simp [*]; done)), H', ⟨by have := HJ10.out; first | omega | exact Nat.le_refl _⟩, ⟨Kd.R_mono HO_330000.out (fun _ hk => ⟨hk.1, hk.2.1⟩)⟩, ⟨Kd.R_mono HO_330001.out (fun _ hk => ⟨hk.1, hk.2.1⟩)⟩, ⟨Kd.R_mono HO_337000.out (fun _ hk => ⟨hk.1.1, hk.1.2⟩)⟩, ⟨Kd.R_mono HO_337001.out (fun _ hk => ⟨hk.1.1, hk.1.2⟩)⟩, ⟨Kd.R_mono HO_345000.out (fun _ hk => ⟨hk.1, hk.2.1⟩)⟩, ⟨Kd.R_mono HO_345001.out (fun _ hk => ⟨hk.1, hk.2.1⟩)⟩, ⟨by exact BK314.out⟩, ⟨by exact BK329.out⟩, ⟨by exact BK336.out⟩, ⟨by exact BK344.out⟩, ⟨HB.out⟩⟩
        ·replace c77 := Bool.eq_false_iff.mpr c77
         subst c77
         have H1 : (laws_FnExactHarderPuzzle.j1 kj10 t328 true l0_0 l0_1 t322 t325 t337 t340) = some r := by rw [if_neg (show ¬ (false = true) by decide)] at H; exact H
         clear H
         have H := H1
         clear H1
         have H' := Aside0.mk H
         clear H
         have hnb86 := NB344_314.out
         have hnc86 := NB314_344.out
         have hnb87 := NB344_329.out
         have hnc87 := NB329_344.out
         have hnb88 := NB344_336.out
         have hnc88 := NB336_344.out
         have hcz89_0 : w74.cell? ⟨gb344, 0, none⟩ = some (.slice Ao35 t337.length co35) := (blk_cell BK344.out 0).trans rfl
         have hcz89_1 : w74.cell? ⟨gb344, 1, none⟩ = some (.slice Ao40 t340.length co40) := (blk_cell BK344.out 1).trans rfl
         have hfz89_0 := blk_frozen BK344.out 0
         have hfz89_1 := blk_frozen BK344.out 1
         have hnb90 := NB329_314.out
         have hnc90 := NB314_329.out
         have hnb91 := NB329_336.out
         have hnc91 := NB336_329.out
         have hcz92_0 : w74.cell? ⟨gb329, 0, none⟩ = some (.slice Ao21 t322.length co21) := (blk_cell BK329.out 0).trans rfl
         have hcz92_1 : w74.cell? ⟨gb329, 1, none⟩ = some (.slice Ao24 t325.length co24) := (blk_cell BK329.out 1).trans rfl
         have hfz92_0 := blk_frozen BK329.out 0
         have hfz92_1 := blk_frozen BK329.out 1
         go_wp2_with (first | (go_at_call 10; (with_reducible refine (laws_eqPuzzle.calls kj10 _ _ t337 _ _ t340 _ _ t322 _ _ t325 false _ ?side1 ?side2 ?side3 ?side4 ?side5 ?side6 ?side7 ?side8 A76.out).mono ?_); (case side1 => repeat (first | exact (Kd.R_reads' HO_345000.out).2.2 | (with_reducible refine Kd.C_alloc ?_ _) | (with_reducible refine Kd.C_drewN ?_ _) | (with_reducible refine Kd.C_drew ?_))); (case side2 => exact (Kd.R_reads' HO_345000.out).2.1); (case side3 => repeat (first | exact (Kd.R_reads' HO_345001.out).2.2 | (with_reducible refine Kd.C_alloc ?_ _) | (with_reducible refine Kd.C_drewN ?_ _) | (with_reducible refine Kd.C_drew ?_))); (case side4 => exact (Kd.R_reads' HO_345001.out).2.1); (case side5 => repeat (first | exact (Kd.R_reads' HO_330000.out).2.2 | (with_reducible refine Kd.C_alloc ?_ _) | (with_reducible refine Kd.C_drewN ?_ _) | (with_reducible refine Kd.C_drew ?_))); (case side6 => exact (Kd.R_reads' HO_330000.out).2.1); (case side7 => repeat (first | exact (Kd.R_reads' HO_330001.out).2.2 | (with_reducible refine Kd.C_alloc ?_ _) | (with_reducible refine Kd.C_drewN ?_ _) | (with_reducible refine Kd.C_drew ?_))); (case side8 => exact (Kd.R_reads' HO_330001.out).2.1); rintro e w93 ⟨rfl, hb⟩; replace HO_330000 := Aside0.mk (Kd.R_below (HO_330000.out) hb); replace HO_330001 := Aside0.mk (Kd.R_below (HO_330001.out) hb); replace HO_337000 := Aside0.mk (Kd.R_below (HO_337000.out) hb); replace HO_337001 := Aside0.mk (Kd.R_below (HO_337001.out) hb); replace HO_345000 := Aside0.mk (Kd.R_below (HO_345000.out) hb); replace HO_345001 := Aside0.mk (Kd.R_below (HO_345001.out) hb); replace HO348 := Aside0.mk (Kd.R_below (HO348.out) hb); replace HO351 := Aside0.mk (Kd.R_below (HO351.out) hb); replace BK314 := Aside0.mk (blk_below (g := gb314) (o := .cells #[.slice A0_0 l0_0.length c0_0, .slice A0_1 l0_1.length c0_1] 36 (0, 0)) (BK314.out) hb); replace BK329 := Aside0.mk (blk_below (g := gb329) (o := .cells #[.slice Ao21 t322.length co21, .slice Ao24 t325.length co24] 25 (0, 0)) (BK329.out) hb); replace BK336 := Aside0.mk (blk_below (g := gb336) (o := .cells #[.slice Ao28 t330.length co28, .slice Ao32 t333.length co32] 25 (0, 0)) (BK336.out) hb); replace BK344 := Aside0.mk (blk_below (g := gb344) (o := .cells #[.slice Ao35 t337.length co35, .slice Ao40 t340.length co40] 25 (0, 0)) (BK344.out) hb); replace HB := Aside0.mk (below_step HB.out hb); (try clear hb); (try clear hb2); (try clear hk); (try clear hi)))
         go_meet
         case rel => exact ⟨_, (true), (by first | rfl | (simp; done) | (simp [*]; done)), H', ⟨by have := HJ10.out; first | omega | exact Nat.le_refl _⟩, ⟨Kd.R_mono HO_330000.out (fun _ hk => ⟨hk.1, hk.2.1⟩)⟩, ⟨Kd.R_mono HO_330001.out (fun _ hk => ⟨hk.1, hk.2.1⟩)⟩, ⟨Kd.R_mono HO_337000.out (fun _ hk => ⟨hk.1.1, hk.1.2⟩)⟩, ⟨Kd.R_mono HO_337001.out (fun _ hk => ⟨hk.1.1, hk.1.2⟩)⟩, ⟨Kd.R_mono HO_345000.out (fun _ hk => ⟨hk.1, hk.2.1⟩)⟩, ⟨Kd.R_mono HO_345001.out (fun _ hk => ⟨hk.1, hk.2.1⟩)⟩, ⟨by exact BK314.out⟩, ⟨by exact BK329.out⟩, ⟨by exact BK336.out⟩, ⟨by exact BK344.out⟩, ⟨HB.out⟩⟩
      case rest =>
       clear HC64
       try clear c1
       try clear c2
       try clear p2
       try clear c3
       try clear c3b0
       try clear c4
       try clear c5
       try clear c6
       try clear c7
       try clear c8
       try clear c9
       try clear c10
       try clear c13
       try clear c15
       try clear c17
       try clear c21
       try clear c22
       try clear c29
       try clear c30
       try clear c36
       try clear c37
       try clear c38
       try clear c42
       try clear c43
       try clear c44
       try clear c45
       try clear c47
       try clear c48
       try clear c51
       try clear c52
       try clear c53
       try clear c55
       try clear c56
       try clear c59
       try clear c62
       try clear c70
       try clear c71
       try clear c72
       try clear c75
       try clear c75b0
       try clear c77
       try clear c78
       try clear c79
       try clear c80
       try clear c82
       try clear c83
       try clear c86
       try clear c87
       try clear c88
       try clear c90
       try clear c91
       try clear hcz13_0
       try clear hcz13_1
       try clear hcz15_0
       try clear hcz15_1
       try clear hcz23_0
       try clear hcz23_1
       try clear hcz25_0
       try clear hcz25_1
       try clear hcz31_0
       try clear hcz31_1
       try clear hcz39_0
       try clear hcz39_1
       try clear hcz46_0
       try clear hcz46_1
       try clear hcz49_0
       try clear hcz49_1
       try clear hcz54_0
       try clear hcz54_1
       try clear hcz57_0
       try clear hcz57_1
       try clear hcz5_0
       try clear hcz5_1
       try clear hcz73_0
       try clear hcz73_1
       try clear hcz81_0
       try clear hcz81_1
       try clear hcz84_0
       try clear hcz84_1
       try clear hcz89_0
       try clear hcz89_1
       try clear hcz92_0
       try clear hcz92_1
       try clear hfz13_0
       try clear hfz13_1
       try clear hfz15_0
       try clear hfz15_1
       try clear hfz23_0
       try clear hfz23_1
       try clear hfz25_0
       try clear hfz25_1
       try clear hfz31_0
       try clear hfz31_1
       try clear hfz39_0
       try clear hfz39_1
       try clear hfz46_0
       try clear hfz46_1
       try clear hfz49_0
       try clear hfz49_1
       try clear hfz54_0
       try clear hfz54_1
       try clear hfz57_0
       try clear hfz57_1
       try clear hfz5_0
       try clear hfz5_1
       try clear hfz73_0
       try clear hfz73_1
       try clear hfz81_0
       try clear hfz81_1
       try clear hfz84_0
       try clear hfz84_1
       try clear hfz89_0
       try clear hfz89_1
       try clear hfz92_0
       try clear hfz92_1
       try clear p2
       obtain ⟨kq, x61_63, rfl, HA, HJ63, HO_330000, HO_330001, HO_337000, HO_337001, HO_345000, HO_345001, BK314, BK329, BK336, BK344, HB⟩ := hcut
       have hl337000_63 := (Kd.R_reads' HO_337000.out).1
       rw [hl337000_63] at HO_337000
       (try simp only [hl337000_63])
       (try simp only [hl337000_63] at BK314)
       (try simp only [hl337000_63] at BK329)
       (try simp only [hl337000_63] at BK336)
       (try simp only [hl337000_63] at BK344)
       (try simp only [hl337000_63] at HO_330000)
       (try simp only [hl337000_63] at HO_330001)
       (try simp only [hl337000_63] at HO_337001)
       (try simp only [hl337000_63] at HO_345000)
       (try simp only [hl337000_63] at HO_345001)
       have hl337001_63 := (Kd.R_reads' HO_337001.out).1
       rw [hl337001_63] at HO_337001
       (try simp only [hl337001_63])
       (try simp only [hl337001_63] at BK314)
       (try simp only [hl337001_63] at BK329)
       (try simp only [hl337001_63] at BK336)
       (try simp only [hl337001_63] at BK344)
       (try simp only [hl337001_63] at HO_330000)
       (try simp only [hl337001_63] at HO_330001)
       (try simp only [hl337001_63] at HO_337000)
       (try simp only [hl337001_63] at HO_345000)
       (try simp only [hl337001_63] at HO_345001)
       cases kq with
       | zero => exact absurd HA.out (by simp [laws_FnExactHarderPuzzle.j1])
       | succ kj63 =>
        have H := HA.out
        clear HA
        simp only [laws_FnExactHarderPuzzle.j1] at H
        by_cases c94 : x61_63 = true
        ·subst c94
         have H1 : (none) = some r := by rw [if_pos rfl] at H; exact H
         clear H
         have H := H1
         clear H1
         exact absurd H (by simp)
        ·replace c94 := Bool.eq_false_iff.mpr c94
         subst c94
         have H1 : ((laws_markPuzzle.f kj63 t337 t340 1).bind fun bt357 => ((laws_heldPuzzle.f kj63 bt357.2.1 bt357.2.2 1).bind fun t360 => (if t360 < 0 then (none) else (if t360 = bt357.1 then ((laws_toPuzzle.f kj63 l0_0 l0_1).bind fun bt361 => ((impl_HarderPuzzle.f kj63 bt361.1 bt361.2).bind fun bt367 => ((laws_eqPuzzle.f kj63 bt367.1 bt367.2.1 t322 t325).bind fun t375 => (if t375 = true then (laws_FnExactHarderPuzzle.j2 kj63 bt357.1 (bt367.2.2 != t328) bt357.2.1 bt357.2.2) else (laws_FnExactHarderPuzzle.j2 kj63 bt357.1 true bt357.2.1 bt357.2.2))))) else (none))))) = some r := by rw [if_neg (show ¬ (false = true) by decide)] at H; exact H
         clear H
         have H := H1
         clear H1
         replace H := Option.bind_eq_some_iff.mp H
         obtain ⟨⟨t357, t358, t359⟩, A950, H⟩ := H
         replace H : ((laws_heldPuzzle.f kj63 t358 t359 1).bind fun t360 => (if t360 < 0 then (none) else (if t360 = t357 then ((laws_toPuzzle.f kj63 l0_0 l0_1).bind fun bt361 => ((impl_HarderPuzzle.f kj63 bt361.1 bt361.2).bind fun bt367 => ((laws_eqPuzzle.f kj63 bt367.1 bt367.2.1 t322 t325).bind fun t375 => (if t375 = true then (laws_FnExactHarderPuzzle.j2 kj63 t357 (bt367.2.2 != t328) t358 t359) else (laws_FnExactHarderPuzzle.j2 kj63 t357 true t358 t359))))) else (none)))) = some r := H
         have A95 := Aside0.mk A950
         clear A950
         replace H := Option.bind_eq_some_iff.mp H
         obtain ⟨t360, A960, H⟩ := H
         replace H : (if t360 < 0 then (none) else (if t360 = t357 then ((laws_toPuzzle.f kj63 l0_0 l0_1).bind fun bt361 => ((impl_HarderPuzzle.f kj63 bt361.1 bt361.2).bind fun bt367 => ((laws_eqPuzzle.f kj63 bt367.1 bt367.2.1 t322 t325).bind fun t375 => (if t375 = true then (laws_FnExactHarderPuzzle.j2 kj63 t357 (bt367.2.2 != t328) t358 t359) else (laws_FnExactHarderPuzzle.j2 kj63 t357 true t358 t359))))) else (none))) = some r := H
         have A96 := Aside0.mk A960
         clear A960
         by_cases c97 : t360 < 0
         ·rw [if_pos c97] at H
          exact absurd H (by simp)
         ·rw [if_neg c97] at H
          have c97b0 : decide (t360 < 0) = false := decide_eq_false c97
          clear c97
          by_cases c98 : t360 = t357
          ·rw [if_pos c98] at H
           have c98b0 : (t360 == t357) = true := beq_iff_eq.mpr c98
           have c98b1 : (t360 != t357) = false := bne_eq_false_iff_eq.mpr c98
           clear c98
           replace H := Option.bind_eq_some_iff.mp H
           obtain ⟨⟨t361, t364⟩, A990, H⟩ := H
           replace H : ((impl_HarderPuzzle.f kj63 t361 t364).bind fun bt367 => ((laws_eqPuzzle.f kj63 bt367.1 bt367.2.1 t322 t325).bind fun t375 => (if t375 = true then (laws_FnExactHarderPuzzle.j2 kj63 t357 (bt367.2.2 != t328) t358 t359) else (laws_FnExactHarderPuzzle.j2 kj63 t357 true t358 t359)))) = some r := H
           have A99 := Aside0.mk A990
           clear A990
           replace H := Option.bind_eq_some_iff.mp H
           obtain ⟨⟨t367, t370, t373⟩, A1000, H⟩ := H
           replace H : ((laws_eqPuzzle.f kj63 t367 t370 t322 t325).bind fun t375 => (if t375 = true then (laws_FnExactHarderPuzzle.j2 kj63 t357 (t373 != t328) t358 t359) else (laws_FnExactHarderPuzzle.j2 kj63 t357 true t358 t359))) = some r := H
           have A100 := Aside0.mk A1000
           clear A1000
           have HC101 := Aside0.mk H
           clear H
           have hnb102 := NB344_314.out
           have hnc102 := NB314_344.out
           have hnb103 := NB344_329.out
           have hnc103 := NB329_344.out
           have hnb104 := NB344_336.out
           have hnc104 := NB336_344.out
           have hcz105_0 : wc.cell? ⟨gb344, 0, none⟩ = some (.slice Ao35 t337.length co35) := (blk_cell BK344.out 0).trans rfl
           have hcz105_1 : wc.cell? ⟨gb344, 1, none⟩ = some (.slice Ao40 t340.length co40) := (blk_cell BK344.out 1).trans rfl
           have hfz105_0 := blk_frozen BK344.out 0
           have hfz105_1 := blk_frozen BK344.out 1
           go_upto_region 25 with (first | ((with_reducible refine gate_callee (f := 13) rfl ?_); refine goesL_ (some 64) rfl rfl Try.func13 (by kernel_rfl) rfl #[.agg #[.slice Ao35 t337.length co35, .slice Ao40 t340.length co40], .int .i64 1] rfl (by (try simp only [List.map_toArray, List.map_cons, List.map_nil]); first | done | rfl | (simp only [List.length_drop, List.length_take]; rfl)) ?_; (with_reducible refine (laws_markPuzzle.calls kj63 (fun k_ => some k_ = (.slice Ao35 t337.length co35 : Value).ownBlock) (.slice Ao35 t337.length co35) t337 (fun k_ => some k_ = (.slice Ao40 t340.length co40 : Value).ownBlock) (.slice Ao40 t340.length co40) t340 1 t357 t358 t359 w _ ?side1 ?side2 ?side3 A95.out).mono ?_); (case side1 => repeat (first | (with_reducible first | exact HB.out | apply below_alloc | apply pw_below_drewN | apply below_drew1 | refine below_set ?_ GE314.out | refine below_set ?_ GE329.out | refine below_set ?_ GE336.out | refine below_set ?_ GE344.out) | exact HB.out)); (case side2 => exact Kd.R_tight rfl HO_345000.out); (case side3 => exact Kd.R_tight rfl HO_345001.out); rintro e w106 ⟨rfl, hy0, hy1, hb, hkp⟩; refine ⟨_, rfl, ?_⟩; replace HO_330000 := Aside0.mk (Kd.R_mono (ok' := fun k_ => some k_ ≠ (.slice Ao28 t354.length co28 : Value).ownBlock ∧ some k_ ≠ (.slice Ao35 t337.length co35 : Value).ownBlock) (Kd.R_keptB ((Kd.R_apart' HO_330000.out (Kd.R_typed HO_345001.out) (by decide))) hkp (fun k_ hk_ hs_ => Or.elim hs_ (fun e_ => (hk_.1.2) e_) (fun e_ => (hk_.2) e_))) (fun k_ hk_ => ⟨hk_.1.1.1, hk_.1.1.2⟩)); replace HO_330001 := Aside0.mk (Kd.R_mono (ok' := fun k_ => some k_ ≠ (.slice Ao32 t355.length co32 : Value).ownBlock ∧ some k_ ≠ (.slice Ao40 t340.length co40 : Value).ownBlock) (Kd.R_keptB ((Kd.R_apart' HO_330001.out (Kd.R_typed HO_345000.out) (by decide))) hkp (fun k_ hk_ hs_ => Or.elim hs_ (fun e_ => (hk_.2) e_) (fun e_ => (hk_.1.2) e_))) (fun k_ hk_ => ⟨hk_.1.1.1, hk_.1.1.2⟩)); replace HO_337000 := Aside0.mk (Kd.R_mono (ok' := fun k_ => some k_ ≠ (.slice Ao21 t322.length co21 : Value).ownBlock ∧ some k_ ≠ (.slice Ao35 t337.length co35 : Value).ownBlock) (Kd.R_keptB ((Kd.R_apart' HO_337000.out (Kd.R_typed HO_345001.out) (by decide))) hkp (fun k_ hk_ hs_ => Or.elim hs_ (fun e_ => (hk_.1.2) e_) (fun e_ => (hk_.2) e_))) (fun k_ hk_ => ⟨hk_.1.1.1, hk_.1.1.2⟩)); replace HO_337001 := Aside0.mk (Kd.R_mono (ok' := fun k_ => some k_ ≠ (.slice Ao24 t325.length co24 : Value).ownBlock ∧ some k_ ≠ (.slice Ao40 t340.length co40 : Value).ownBlock) (Kd.R_keptB ((Kd.R_apart' HO_337001.out (Kd.R_typed HO_345000.out) (by decide))) hkp (fun k_ hk_ hs_ => Or.elim hs_ (fun e_ => (hk_.2) e_) (fun e_ => (hk_.1.2) e_))) (fun k_ hk_ => ⟨hk_.1.1.1, hk_.1.1.2⟩)); replace BK314 := Aside0.mk (blk_kept (BK314.out) hkp (fun hs_ => Or.elim hs_ (fun e_ => (fun e_ => (Kd.R_ne HO_345000.out BK314.out (by decide)) e_) e_) (fun e_ => (fun e_ => (Kd.R_ne HO_345001.out BK314.out (by decide)) e_) e_))); replace BK329 := Aside0.mk (blk_kept (BK329.out) hkp (fun hs_ => Or.elim hs_ (fun e_ => (fun e_ => (Kd.R_ne HO_345000.out BK329.out (by decide)) e_) e_) (fun e_ => (fun e_ => (Kd.R_ne HO_345001.out BK329.out (by decide)) e_) e_))); replace BK336 := Aside0.mk (blk_kept (BK336.out) hkp (fun hs_ => Or.elim hs_ (fun e_ => (fun e_ => (Kd.R_ne HO_345000.out BK336.out (by decide)) e_) e_) (fun e_ => (fun e_ => (Kd.R_ne HO_345001.out BK336.out (by decide)) e_) e_))); replace BK344 := Aside0.mk (blk_kept (BK344.out) hkp (fun hs_ => Or.elim hs_ (fun e_ => (fun e_ => (Kd.R_ne HO_345000.out BK344.out (by decide)) e_) e_) (fun e_ => (fun e_ => (Kd.R_ne HO_345001.out BK344.out (by decide)) e_) e_))); replace HO_345000 := Aside0.mk (Kd.R_reok rfl hy0 (fun k_ e_ => HO_345000.out.1 k_ e_)); replace HO_345001 := Aside0.mk (Kd.R_reok rfl hy1 (fun k_ e_ => HO_345001.out.1 k_ e_)); replace HB := Aside0.mk (hb); (try clear hb); (try clear hkp); (try clear hy0); (try clear hy1); have hcz107_0 : w106.cell? ⟨gb344, 0, none⟩ = some (.slice Ao35 t337.length co35) := (blk_cell BK344.out 0).trans rfl; have hcz107_1 : w106.cell? ⟨gb344, 1, none⟩ = some (.slice Ao40 t340.length co40) := (blk_cell BK344.out 1).trans rfl; have hfz107_0 := blk_frozen BK344.out 0; have hfz107_1 := blk_frozen BK344.out 1) | ((with_reducible refine gate_callee (f := 14) rfl ?_); refine goesL_ (some 67) rfl rfl Try.func14 (by kernel_rfl) rfl #[.agg #[.slice Ao35 t358.length co35, .slice Ao40 t359.length co40], .int .i64 1] rfl (by (try simp only [List.map_toArray, List.map_cons, List.map_nil]); first | done | (rw [show t358.length = t337.length from (Kd.R_reads' HO_345000.out).1.symm, show t359.length = t340.length from (Kd.R_reads' HO_345001.out).1.symm] <;> rfl) | rfl | (simp only [List.length_drop, List.length_take]; rfl)) ?_; (with_reducible refine (laws_heldPuzzle.calls kj63 _ _ t358 _ _ t359 1 t360 _ ?side1 ?side2 ?side3 ?side4 A96.out).mono ?_); (case side1 => repeat (first | exact (Kd.R_reads' HO_345000.out).2.2 | (with_reducible refine Kd.C_alloc ?_ _) | (with_reducible refine Kd.C_drewN ?_ _) | (with_reducible refine Kd.C_drew ?_))); (case side2 => rw [show t358.length = t337.length from (Kd.R_reads' HO_345000.out).1.symm]; exact (Kd.R_reads' HO_345000.out).2.1); (case side3 => repeat (first | exact (Kd.R_reads' HO_345001.out).2.2 | (with_reducible refine Kd.C_alloc ?_ _) | (with_reducible refine Kd.C_drewN ?_ _) | (with_reducible refine Kd.C_drew ?_))); (case side4 => rw [show t359.length = t340.length from (Kd.R_reads' HO_345001.out).1.symm]; exact (Kd.R_reads' HO_345001.out).2.1); rintro e w108 ⟨rfl, hb⟩; refine ⟨_, rfl, ?_⟩; replace HO_330000 := Aside0.mk (Kd.R_below (HO_330000.out) hb); replace HO_330001 := Aside0.mk (Kd.R_below (HO_330001.out) hb); replace HO_337000 := Aside0.mk (Kd.R_below (HO_337000.out) hb); replace HO_337001 := Aside0.mk (Kd.R_below (HO_337001.out) hb); replace HO_345000 := Aside0.mk (Kd.R_below (HO_345000.out) hb); replace HO_345001 := Aside0.mk (Kd.R_below (HO_345001.out) hb); replace BK314 := Aside0.mk (blk_below (g := gb314) (o := .cells #[.slice A0_0 l0_0.length c0_0, .slice A0_1 l0_1.length c0_1] 36 (0, 0)) (BK314.out) hb); replace BK329 := Aside0.mk (blk_below (g := gb329) (o := .cells #[.slice Ao21 t322.length co21, .slice Ao24 t325.length co24] 25 (0, 0)) (BK329.out) hb); replace BK336 := Aside0.mk (blk_below (g := gb336) (o := .cells #[.slice Ao28 t354.length co28, .slice Ao32 t355.length co32] 25 (0, 0)) (BK336.out) hb); replace BK344 := Aside0.mk (blk_below (g := gb344) (o := .cells #[.slice Ao35 t337.length co35, .slice Ao40 t340.length co40] 25 (0, 0)) (BK344.out) hb); replace HB := Aside0.mk (below_step HB.out hb); (try clear hb); (try clear hb2); (try clear hk); (try clear hi); have hnb109 := NB314_329.out; have hnc109 := NB329_314.out; have hnb110 := NB314_336.out; have hnc110 := NB336_314.out; have hcz111_0 : w108.cell? ⟨gb314, 0, none⟩ = some (.slice A0_0 l0_0.length c0_0) := (blk_cell BK314.out 0).trans rfl; have hcz111_1 : w108.cell? ⟨gb314, 1, none⟩ = some (.slice A0_1 l0_1.length c0_1) := (blk_cell BK314.out 1).trans rfl; have hfz111_0 := blk_frozen BK314.out 0; have hfz111_1 := blk_frozen BK314.out 1) | ((with_reducible refine gate_callee (f := 17) rfl ?_); refine goesL_ (some 75) rfl rfl Try.func17 (by kernel_rfl) rfl #[.agg #[.slice A0_0 l0_0.length c0_0, .slice A0_1 l0_1.length c0_1]] rfl (by (try simp only [List.map_toArray, List.map_cons, List.map_nil]); first | done | rfl | (simp only [List.length_drop, List.length_take]; rfl)) ?_; (with_reducible refine (laws_toPuzzle.calls kj63 _ _ l0_0 _ _ l0_1 t361 t364 _ ?side1 ?side2 ?side3 ?side4 A99.out).mono ?_); (case side1 => repeat (first | exact (Kd.C_below HR0_0.out HB.out) | (with_reducible refine Kd.C_alloc ?_ _) | (with_reducible refine Kd.C_drewN ?_ _) | (with_reducible refine Kd.C_drew ?_))); (case side2 => exact HC0_0.out); (case side3 => repeat (first | exact (Kd.C_below HR0_1.out HB.out) | (with_reducible refine Kd.C_alloc ?_ _) | (with_reducible refine Kd.C_drewN ?_ _) | (with_reducible refine Kd.C_drew ?_))); (case side4 => exact HC0_1.out); rintro e w112 ⟨v362, v365, rfl, ho0, ho1, hb⟩; refine ⟨_, rfl, ?_⟩; have HO363 := Aside0.mk (Kd.R_lower (Kd.R_new' (Kd.R_new' (Kd.R_new' ho0 (Kd.R_lt (HO_330000.out))) (Kd.R_lt (HO_337000.out))) (Kd.R_lt (HO_345000.out))) (below_size HB.out)); replace HO_330000 := Aside0.mk (Kd.R_elder' (HO_330000.out) (Kd.R_base ho0) hb); replace HO_337000 := Aside0.mk (Kd.R_elder' (HO_337000.out) (Kd.R_base ho0) hb); replace HO_345000 := Aside0.mk (Kd.R_elder' (HO_345000.out) (Kd.R_base ho0) hb); have HO366 := Aside0.mk (Kd.R_lower (Kd.R_new' (Kd.R_new' (Kd.R_new' ho1 (Kd.R_lt (HO_330001.out))) (Kd.R_lt (HO_337001.out))) (Kd.R_lt (HO_345001.out))) (below_size HB.out)); replace HO_330001 := Aside0.mk (Kd.R_elder' (HO_330001.out) (Kd.R_base ho1) hb); replace HO_337001 := Aside0.mk (Kd.R_elder' (HO_337001.out) (Kd.R_base ho1) hb); replace HO_345001 := Aside0.mk (Kd.R_elder' (HO_345001.out) (Kd.R_base ho1) hb); replace BK314 := Aside0.mk (blk_below (g := gb314) (o := .cells #[.slice A0_0 l0_0.length c0_0, .slice A0_1 l0_1.length c0_1] 36 (0, 0)) (BK314.out) hb); replace BK329 := Aside0.mk (blk_below (g := gb329) (o := .cells #[.slice Ao21 t322.length co21, .slice Ao24 t325.length co24] 25 (0, 0)) (BK329.out) hb); replace BK336 := Aside0.mk (blk_below (g := gb336) (o := .cells #[.slice Ao28 t354.length co28, .slice Ao32 t355.length co32] 25 (0, 0)) (BK336.out) hb); replace BK344 := Aside0.mk (blk_below (g := gb344) (o := .cells #[.slice Ao35 t337.length co35, .slice Ao40 t340.length co40] 25 (0, 0)) (BK344.out) hb); replace HB := Aside0.mk (below_step HB.out hb); (try clear hb); (try clear hb2); (try clear hk); (try clear hi); (try clear ho0); (try clear ho1); obtain ⟨Ao113, co113, eo113⟩ := Kd.R_slice HO363.out; subst eo113; obtain ⟨Ao114, co114, eo114⟩ := Kd.R_slice HO366.out; subst eo114) | ((with_reducible refine gate_callee (f := 22) rfl ?_); refine goesL_ (some 76) rfl rfl Try.func22 (by kernel_rfl) rfl #[.agg #[.slice Ao113 t361.length co113, .slice Ao114 t364.length co114]] rfl (by (try simp only [List.map_toArray, List.map_cons, List.map_nil]); first | done | rfl | (simp only [List.length_drop, List.length_take]; rfl)) ?_; (with_reducible refine (impl_HarderPuzzle.calls kj63 _ _ t361 _ _ t364 t367 t370 t373 _ ?side1 ?side2 ?side3 ?side4 A100.out).mono ?_); (case side1 => repeat (first | exact (Kd.R_reads' HO363.out).2.2 | (with_reducible refine Kd.C_alloc ?_ _) | (with_reducible refine Kd.C_drewN ?_ _) | (with_reducible refine Kd.C_drew ?_))); (case side2 => exact (Kd.R_reads' HO363.out).2.1); (case side3 => repeat (first | exact (Kd.R_reads' HO366.out).2.2 | (with_reducible refine Kd.C_alloc ?_ _) | (with_reducible refine Kd.C_drewN ?_ _) | (with_reducible refine Kd.C_drew ?_))); (case side4 => exact (Kd.R_reads' HO366.out).2.1); rintro e w115 ⟨v368, v371, rfl, ho0, ho1, hb⟩; refine ⟨_, rfl, ?_⟩; have HO369 := Aside0.mk (Kd.R_lower (Kd.R_new' (Kd.R_new' (Kd.R_new' (Kd.R_new' ho0 (Kd.R_lt (HO_330000.out))) (Kd.R_lt (HO_337000.out))) (Kd.R_lt (HO_345000.out))) (Kd.R_lt (HO363.out))) (below_size HB.out)); replace HO_330000 := Aside0.mk (Kd.R_elder' (HO_330000.out) (Kd.R_base ho0) hb); replace HO_337000 := Aside0.mk (Kd.R_elder' (HO_337000.out) (Kd.R_base ho0) hb); replace HO_345000 := Aside0.mk (Kd.R_elder' (HO_345000.out) (Kd.R_base ho0) hb); replace HO363 := Aside0.mk (Kd.R_elder' (HO363.out) (Kd.R_base ho0) hb); have HO372 := Aside0.mk (Kd.R_lower (Kd.R_new' (Kd.R_new' (Kd.R_new' (Kd.R_new' ho1 (Kd.R_lt (HO_330001.out))) (Kd.R_lt (HO_337001.out))) (Kd.R_lt (HO_345001.out))) (Kd.R_lt (HO366.out))) (below_size HB.out)); replace HO_330001 := Aside0.mk (Kd.R_elder' (HO_330001.out) (Kd.R_base ho1) hb); replace HO_337001 := Aside0.mk (Kd.R_elder' (HO_337001.out) (Kd.R_base ho1) hb); replace HO_345001 := Aside0.mk (Kd.R_elder' (HO_345001.out) (Kd.R_base ho1) hb); replace HO366 := Aside0.mk (Kd.R_elder' (HO366.out) (Kd.R_base ho1) hb); replace BK314 := Aside0.mk (blk_below (g := gb314) (o := .cells #[.slice A0_0 l0_0.length c0_0, .slice A0_1 l0_1.length c0_1] 36 (0, 0)) (BK314.out) hb); replace BK329 := Aside0.mk (blk_below (g := gb329) (o := .cells #[.slice Ao21 t322.length co21, .slice Ao24 t325.length co24] 25 (0, 0)) (BK329.out) hb); replace BK336 := Aside0.mk (blk_below (g := gb336) (o := .cells #[.slice Ao28 t354.length co28, .slice Ao32 t355.length co32] 25 (0, 0)) (BK336.out) hb); replace BK344 := Aside0.mk (blk_below (g := gb344) (o := .cells #[.slice Ao35 t337.length co35, .slice Ao40 t340.length co40] 25 (0, 0)) (BK344.out) hb); replace HB := Aside0.mk (below_step HB.out hb); (try clear hb); (try clear hb2); (try clear hk); (try clear hi); (try clear ho0); (try clear ho1)) | ((with_reducible refine gate_dst (N := 12) rfl ?_); refine box_event ?hg (N := 12) ?hd (cs := #[.slice none 0 0, .slice none 0 0]) (t := 25) ?hr ?_; (case hd => rfl); (case hg => rfl); (case hr => first | (go_simp; done) | (go_simp; rfl)); intro gb374 hg w116 hbox hb; replace HO_330000 := Aside0.mk (Kd.R_below (HO_330000.out) hb); replace HO_330001 := Aside0.mk (Kd.R_below (HO_330001.out) hb); replace HO_337000 := Aside0.mk (Kd.R_below (HO_337000.out) hb); replace HO_337001 := Aside0.mk (Kd.R_below (HO_337001.out) hb); replace HO_345000 := Aside0.mk (Kd.R_below (HO_345000.out) hb); replace HO_345001 := Aside0.mk (Kd.R_below (HO_345001.out) hb); replace HO363 := Aside0.mk (Kd.R_below (HO363.out) hb); replace HO366 := Aside0.mk (Kd.R_below (HO366.out) hb); replace HO369 := Aside0.mk (Kd.R_below (HO369.out) hb); replace HO372 := Aside0.mk (Kd.R_below (HO372.out) hb); have BK374 := Aside0.mk (hbox); have GW374 := Aside0.mk ((by rw [hg]; exact (below_size HB.out) : w.heap.size ≤ gb374)); have GE374 := Aside0.mk ((by rw [hg]; exact (below_size HB.out) : w.heap.size ≤ gb374)); replace HB := Aside0.mk (below_step HB.out hb); have NB314_374 := Aside0.mk ((by rw [hg]; exact Nat.ne_of_lt (blk_lt (g := gb314) (o := .cells #[.slice A0_0 l0_0.length c0_0, .slice A0_1 l0_1.length c0_1] 36 (0, 0)) (BK314.out)) : gb314 ≠ gb374)); have NB374_314 := Aside0.mk ((by rw [hg]; exact Nat.ne_of_gt (blk_lt (g := gb314) (o := .cells #[.slice A0_0 l0_0.length c0_0, .slice A0_1 l0_1.length c0_1] 36 (0, 0)) (BK314.out)) : gb374 ≠ gb314)); replace BK314 := Aside0.mk (blk_below (g := gb314) (o := .cells #[.slice A0_0 l0_0.length c0_0, .slice A0_1 l0_1.length c0_1] 36 (0, 0)) (BK314.out) hb); have NB329_374 := Aside0.mk ((by rw [hg]; exact Nat.ne_of_lt (blk_lt (g := gb329) (o := .cells #[.slice Ao21 t322.length co21, .slice Ao24 t325.length co24] 25 (0, 0)) (BK329.out)) : gb329 ≠ gb374)); have NB374_329 := Aside0.mk ((by rw [hg]; exact Nat.ne_of_gt (blk_lt (g := gb329) (o := .cells #[.slice Ao21 t322.length co21, .slice Ao24 t325.length co24] 25 (0, 0)) (BK329.out)) : gb374 ≠ gb329)); replace BK329 := Aside0.mk (blk_below (g := gb329) (o := .cells #[.slice Ao21 t322.length co21, .slice Ao24 t325.length co24] 25 (0, 0)) (BK329.out) hb); have NB336_374 := Aside0.mk ((by rw [hg]; exact Nat.ne_of_lt (blk_lt (g := gb336) (o := .cells #[.slice Ao28 t354.length co28, .slice Ao32 t355.length co32] 25 (0, 0)) (BK336.out)) : gb336 ≠ gb374)); have NB374_336 := Aside0.mk ((by rw [hg]; exact Nat.ne_of_gt (blk_lt (g := gb336) (o := .cells #[.slice Ao28 t354.length co28, .slice Ao32 t355.length co32] 25 (0, 0)) (BK336.out)) : gb374 ≠ gb336)); replace BK336 := Aside0.mk (blk_below (g := gb336) (o := .cells #[.slice Ao28 t354.length co28, .slice Ao32 t355.length co32] 25 (0, 0)) (BK336.out) hb); have NB344_374 := Aside0.mk ((by rw [hg]; exact Nat.ne_of_lt (blk_lt (g := gb344) (o := .cells #[.slice Ao35 t337.length co35, .slice Ao40 t340.length co40] 25 (0, 0)) (BK344.out)) : gb344 ≠ gb374)); have NB374_344 := Aside0.mk ((by rw [hg]; exact Nat.ne_of_gt (blk_lt (g := gb344) (o := .cells #[.slice Ao35 t337.length co35, .slice Ao40 t340.length co40] 25 (0, 0)) (BK344.out)) : gb374 ≠ gb344)); replace BK344 := Aside0.mk (blk_below (g := gb344) (o := .cells #[.slice Ao35 t337.length co35, .slice Ao40 t340.length co40] 25 (0, 0)) (BK344.out) hb); clear hb hbox hg; obtain ⟨Ao117, co117, eo117⟩ := Kd.R_slice HO369.out; subst eo117; have hnb118 := NB374_314.out; have hnc118 := NB314_374.out; have hnb119 := NB374_329.out; have hnc119 := NB329_374.out; have hnb120 := NB374_336.out; have hnc120 := NB336_374.out; have hnb121 := NB374_344.out; have hnc121 := NB344_374.out; have hcz122_0 : w116.cell? ⟨gb374, 0, none⟩ = some (.slice none 0 0) := (blk_cell BK374.out 0).trans rfl; have hcz122_1 : w116.cell? ⟨gb374, 1, none⟩ = some (.slice none 0 0) := (blk_cell BK374.out 1).trans rfl; have hfz122_0 := blk_frozen BK374.out 0; have hfz122_1 := blk_frozen BK374.out 1; obtain ⟨Ao123, co123, eo123⟩ := Kd.R_slice HO372.out; subst eo123))
           (try simp only [Act.put, List.setIfInBounds_toArray, List.set_cons_zero, List.set_cons_succ])
           go_cut [87] (fun v87 wc => ∃ (kq : Nat) (x87_100 : Bool), v87 = .bool x87_100 ∧ Aside0 (laws_FnExactHarderPuzzle.j2 kq t357 x87_100 t358 t359 = some r) ∧ Aside0 (kq ≤ kj63) ∧ Aside0 (Kd.R k55 55 wc w.heap.size (fun k_ => some k_ ≠ ((.slice Ao28 t354.length co28) : Value).ownBlock ∧ some k_ ≠ ((.slice Ao35 t337.length co35) : Value).ownBlock ∧ some k_ ≠ ((.slice Ao117 t367.length co117) : Value).ownBlock) (.slice Ao21 t322.length co21) t322) ∧ Aside0 (Kd.R (Kd.int .i64) 3 wc w.heap.size (fun k_ => some k_ ≠ ((.slice Ao32 t355.length co32) : Value).ownBlock ∧ some k_ ≠ ((.slice Ao40 t340.length co40) : Value).ownBlock ∧ some k_ ≠ ((.slice Ao123 t370.length co123) : Value).ownBlock) (.slice Ao24 t325.length co24) t325) ∧ Aside0 (Kd.R k55 55 wc w.heap.size (fun k_ => some k_ ≠ ((.slice Ao21 t322.length co21) : Value).ownBlock ∧ some k_ ≠ ((.slice Ao35 t337.length co35) : Value).ownBlock ∧ some k_ ≠ ((.slice Ao117 t367.length co117) : Value).ownBlock) (.slice Ao28 t354.length co28) t354) ∧ Aside0 (Kd.R (Kd.int .i64) 3 wc w.heap.size (fun k_ => some k_ ≠ ((.slice Ao24 t325.length co24) : Value).ownBlock ∧ some k_ ≠ ((.slice Ao40 t340.length co40) : Value).ownBlock ∧ some k_ ≠ ((.slice Ao123 t370.length co123) : Value).ownBlock) (.slice Ao32 t355.length co32) t355) ∧ Aside0 (Kd.R k55 55 wc w.heap.size (fun k_ => some k_ ≠ ((.slice Ao21 t322.length co21) : Value).ownBlock ∧ some k_ ≠ ((.slice Ao28 t354.length co28) : Value).ownBlock ∧ some k_ ≠ ((.slice Ao117 t367.length co117) : Value).ownBlock) (.slice Ao35 t337.length co35) t358) ∧ Aside0 (Kd.R (Kd.int .i64) 3 wc w.heap.size (fun k_ => some k_ ≠ ((.slice Ao24 t325.length co24) : Value).ownBlock ∧ some k_ ≠ ((.slice Ao32 t355.length co32) : Value).ownBlock ∧ some k_ ≠ ((.slice Ao123 t370.length co123) : Value).ownBlock) (.slice Ao40 t340.length co40) t359) ∧ Aside0 (Kd.R k55 55 wc w.heap.size (fun k_ => some k_ ≠ ((.slice Ao21 t322.length co21) : Value).ownBlock ∧ some k_ ≠ ((.slice Ao28 t354.length co28) : Value).ownBlock ∧ some k_ ≠ ((.slice Ao35 t337.length co35) : Value).ownBlock) (.slice Ao117 t367.length co117) t367) ∧ Aside0 (Kd.R (Kd.int .i64) 3 wc w.heap.size (fun k_ => some k_ ≠ ((.slice Ao24 t325.length co24) : Value).ownBlock ∧ some k_ ≠ ((.slice Ao32 t355.length co32) : Value).ownBlock ∧ some k_ ≠ ((.slice Ao40 t340.length co40) : Value).ownBlock) (.slice Ao123 t370.length co123) t370) ∧ Aside0 (wc.heap[gb314]? = some (.cells #[(.slice A0_0 l0_0.length c0_0), (.slice A0_1 l0_1.length c0_1)] 36 (0, 0))) ∧ Aside0 (wc.heap[gb329]? = some (.cells #[(.slice Ao21 t322.length co21), (.slice Ao24 t325.length co24)] 25 (0, 0))) ∧ Aside0 (wc.heap[gb336]? = some (.cells #[(.slice Ao28 t354.length co28), (.slice Ao32 t355.length co32)] 25 (0, 0))) ∧ Aside0 (wc.heap[gb344]? = some (.cells #[(.slice Ao35 t337.length co35), (.slice Ao40 t340.length co40)] 25 (0, 0))) ∧ Aside0 (wc.heap[gb374]? = some (.cells #[(.slice Ao117 t367.length co117), (.slice Ao123 t370.length co123)] 25 (0, 0))) ∧ Aside0 (Below w.heap.size w wc))
           case first =>
            have H := HC101.out
            clear HC101
            replace H := Option.bind_eq_some_iff.mp H
            obtain ⟨t375, A1240, H⟩ := H
            replace H : (if t375 = true then (laws_FnExactHarderPuzzle.j2 kj63 t357 (t373 != t328) t358 t359) else (laws_FnExactHarderPuzzle.j2 kj63 t357 true t358 t359)) = some r := H
            have A124 := Aside0.mk A1240
            clear A1240
            by_cases c125 : t375 = true
            ·subst c125
             have H1 : (laws_FnExactHarderPuzzle.j2 kj63 t357 (t373 != t328) t358 t359) = some r := by rw [if_pos rfl] at H; exact H
             clear H
             have H := H1
             clear H1
             have H' := Aside0.mk H
             clear H
             have hnb126 := NB374_314.out
             have hnc126 := NB314_374.out
             have hnb127 := NB374_329.out
             have hnc127 := NB329_374.out
             have hnb128 := NB374_336.out
             have hnc128 := NB336_374.out
             have hnb129 := NB374_344.out
             have hnc129 := NB344_374.out
             have hcz130_0 : w116.cell? ⟨gb374, 0, none⟩ = some (.slice none 0 0) := (blk_cell BK374.out 0).trans rfl
             have hcz130_1 : w116.cell? ⟨gb374, 1, none⟩ = some (.slice none 0 0) := (blk_cell BK374.out 1).trans rfl
             have hfz130_0 := blk_frozen BK374.out 0
             have hfz130_1 := blk_frozen BK374.out 1
             have hnb131 := NB329_314.out
             have hnc131 := NB314_329.out
             have hnb132 := NB329_336.out
             have hnc132 := NB336_329.out
             have hnb133 := NB329_344.out
             have hnc133 := NB344_329.out
             have hcz134_0 : w116.cell? ⟨gb329, 0, none⟩ = some (.slice Ao21 t322.length co21) := (blk_cell BK329.out 0).trans rfl
             have hcz134_1 : w116.cell? ⟨gb329, 1, none⟩ = some (.slice Ao24 t325.length co24) := (blk_cell BK329.out 1).trans rfl
             have hfz134_0 := blk_frozen BK329.out 0
             have hfz134_1 := blk_frozen BK329.out 1
             go_wp2_with (first | ((with_reducible refine gate_callee (f := 10) rfl ?_); refine goesL_ (some 81) rfl rfl Try.func10 (by kernel_rfl) rfl #[.agg #[.slice Ao117 t367.length co117, .slice Ao123 t370.length co123], .agg #[.slice Ao21 t322.length co21, .slice Ao24 t325.length co24]] rfl (by (try simp only [List.map_toArray, List.map_cons, List.map_nil]); first | done | rfl | (simp only [List.length_drop, List.length_take]; rfl)) ?_; (with_reducible refine (laws_eqPuzzle.calls kj63 _ _ t367 _ _ t370 _ _ t322 _ _ t325 true _ ?side1 ?side2 ?side3 ?side4 ?side5 ?side6 ?side7 ?side8 A124.out).mono ?_); (case side1 => refine (Kd.R_reads' (e := 55) (base := w.heap.size) (ok := fun k_ => ((((True ∧ some k_ ≠ (.slice Ao21 t322.length co21 : Value).ownBlock) ∧ some k_ ≠ (.slice Ao28 t354.length co28 : Value).ownBlock) ∧ some k_ ≠ (.slice Ao35 t337.length co35 : Value).ownBlock) ∧ some k_ ≠ (.slice Ao113 t361.length co113 : Value).ownBlock)) (n := t367.length) (c := co117) ?_).2.2; exact (by exact (Kd.R_mono (Kd.R_far (p := ⟨gb374, 1, none⟩) (Kd.R_far (p := ⟨gb374, 0, none⟩) (Kd.R_types HO369.out BK374.out (by decide)) (fun _ hk => hk.2) (.slice Ao117 t367.length co117)) (fun _ hk => hk.2) (.slice Ao123 t370.length co123)) (fun _ h_ => h_.1)))); (case side2 => exact (Kd.R_reads' HO369.out).2.1); (case side3 => refine (Kd.R_reads' (e := 3) (base := w.heap.size) (ok := fun k_ => ((((True ∧ some k_ ≠ (.slice Ao24 t325.length co24 : Value).ownBlock) ∧ some k_ ≠ (.slice Ao32 t355.length co32 : Value).ownBlock) ∧ some k_ ≠ (.slice Ao40 t340.length co40 : Value).ownBlock) ∧ some k_ ≠ (.slice Ao114 t364.length co114 : Value).ownBlock)) (n := t370.length) (c := co123) ?_).2.2; exact (by exact (Kd.R_mono (Kd.R_far (p := ⟨gb374, 1, none⟩) (Kd.R_far (p := ⟨gb374, 0, none⟩) (Kd.R_types HO372.out BK374.out (by decide)) (fun _ hk => hk.2) (.slice Ao117 t367.length co117)) (fun _ hk => hk.2) (.slice Ao123 t370.length co123)) (fun _ h_ => h_.1)))); (case side4 => exact (Kd.R_reads' HO372.out).2.1); (case side5 => refine (Kd.R_reads' (e := 55) (base := w.heap.size) (ok := fun k_ => (((some k_ ≠ (.slice Ao28 t354.length co28 : Value).ownBlock ∧ some k_ ≠ (.slice Ao35 t337.length co35 : Value).ownBlock) ∧ some k_ ≠ (.slice Ao113 t361.length co113 : Value).ownBlock) ∧ some k_ ≠ (.slice Ao117 t367.length co117 : Value).ownBlock)) (n := t322.length) (c := co21) ?_).2.2; exact (by exact (Kd.R_mono (Kd.R_far (p := ⟨gb374, 1, none⟩) (Kd.R_far (p := ⟨gb374, 0, none⟩) (Kd.R_types HO_330000.out BK374.out (by decide)) (fun _ hk => hk.2) (.slice Ao117 t367.length co117)) (fun _ hk => hk.2) (.slice Ao123 t370.length co123)) (fun _ h_ => h_.1)))); (case side6 => exact (Kd.R_reads' HO_330000.out).2.1); (case side7 => refine (Kd.R_reads' (e := 3) (base := w.heap.size) (ok := fun k_ => (((some k_ ≠ (.slice Ao32 t355.length co32 : Value).ownBlock ∧ some k_ ≠ (.slice Ao40 t340.length co40 : Value).ownBlock) ∧ some k_ ≠ (.slice Ao114 t364.length co114 : Value).ownBlock) ∧ some k_ ≠ (.slice Ao123 t370.length co123 : Value).ownBlock)) (n := t325.length) (c := co24) ?_).2.2; exact (by exact (Kd.R_mono (Kd.R_far (p := ⟨gb374, 1, none⟩) (Kd.R_far (p := ⟨gb374, 0, none⟩) (Kd.R_types HO_330001.out BK374.out (by decide)) (fun _ hk => hk.2) (.slice Ao117 t367.length co117)) (fun _ hk => hk.2) (.slice Ao123 t370.length co123)) (fun _ h_ => h_.1)))); (case side8 => exact (Kd.R_reads' HO_330001.out).2.1); rintro e w135 ⟨rfl, hb⟩; refine ⟨_, rfl, ?_⟩; replace HO_330000 := Aside0.mk (Kd.R_below (by exact (Kd.R_mono (Kd.R_far (p := ⟨gb374, 1, none⟩) (Kd.R_far (p := ⟨gb374, 0, none⟩) (Kd.R_types HO_330000.out BK374.out (by decide)) (fun _ hk => hk.2) (.slice Ao117 t367.length co117)) (fun _ hk => hk.2) (.slice Ao123 t370.length co123)) (fun _ h_ => h_.1))) hb); replace HO_330001 := Aside0.mk (Kd.R_below (by exact (Kd.R_mono (Kd.R_far (p := ⟨gb374, 1, none⟩) (Kd.R_far (p := ⟨gb374, 0, none⟩) (Kd.R_types HO_330001.out BK374.out (by decide)) (fun _ hk => hk.2) (.slice Ao117 t367.length co117)) (fun _ hk => hk.2) (.slice Ao123 t370.length co123)) (fun _ h_ => h_.1))) hb); replace HO_337000 := Aside0.mk (Kd.R_below (by exact (Kd.R_mono (Kd.R_far (p := ⟨gb374, 1, none⟩) (Kd.R_far (p := ⟨gb374, 0, none⟩) (Kd.R_types HO_337000.out BK374.out (by decide)) (fun _ hk => hk.2) (.slice Ao117 t367.length co117)) (fun _ hk => hk.2) (.slice Ao123 t370.length co123)) (fun _ h_ => h_.1))) hb); replace HO_337001 := Aside0.mk (Kd.R_below (by exact (Kd.R_mono (Kd.R_far (p := ⟨gb374, 1, none⟩) (Kd.R_far (p := ⟨gb374, 0, none⟩) (Kd.R_types HO_337001.out BK374.out (by decide)) (fun _ hk => hk.2) (.slice Ao117 t367.length co117)) (fun _ hk => hk.2) (.slice Ao123 t370.length co123)) (fun _ h_ => h_.1))) hb); replace HO_345000 := Aside0.mk (Kd.R_below (by exact (Kd.R_mono (Kd.R_far (p := ⟨gb374, 1, none⟩) (Kd.R_far (p := ⟨gb374, 0, none⟩) (Kd.R_types HO_345000.out BK374.out (by decide)) (fun _ hk => hk.2) (.slice Ao117 t367.length co117)) (fun _ hk => hk.2) (.slice Ao123 t370.length co123)) (fun _ h_ => h_.1))) hb); replace HO_345001 := Aside0.mk (Kd.R_below (by exact (Kd.R_mono (Kd.R_far (p := ⟨gb374, 1, none⟩) (Kd.R_far (p := ⟨gb374, 0, none⟩) (Kd.R_types HO_345001.out BK374.out (by decide)) (fun _ hk => hk.2) (.slice Ao117 t367.length co117)) (fun _ hk => hk.2) (.slice Ao123 t370.length co123)) (fun _ h_ => h_.1))) hb); replace HO363 := Aside0.mk (Kd.R_below (by exact (Kd.R_mono (Kd.R_far (p := ⟨gb374, 1, none⟩) (Kd.R_far (p := ⟨gb374, 0, none⟩) (Kd.R_types HO363.out BK374.out (by decide)) (fun _ hk => hk.2) (.slice Ao117 t367.length co117)) (fun _ hk => hk.2) (.slice Ao123 t370.length co123)) (fun _ h_ => h_.1))) hb); replace HO366 := Aside0.mk (Kd.R_below (by exact (Kd.R_mono (Kd.R_far (p := ⟨gb374, 1, none⟩) (Kd.R_far (p := ⟨gb374, 0, none⟩) (Kd.R_types HO366.out BK374.out (by decide)) (fun _ hk => hk.2) (.slice Ao117 t367.length co117)) (fun _ hk => hk.2) (.slice Ao123 t370.length co123)) (fun _ h_ => h_.1))) hb); replace HO369 := Aside0.mk (Kd.R_below (by exact (Kd.R_mono (Kd.R_far (p := ⟨gb374, 1, none⟩) (Kd.R_far (p := ⟨gb374, 0, none⟩) (Kd.R_types HO369.out BK374.out (by decide)) (fun _ hk => hk.2) (.slice Ao117 t367.length co117)) (fun _ hk => hk.2) (.slice Ao123 t370.length co123)) (fun _ h_ => h_.1))) hb); replace HO372 := Aside0.mk (Kd.R_below (by exact (Kd.R_mono (Kd.R_far (p := ⟨gb374, 1, none⟩) (Kd.R_far (p := ⟨gb374, 0, none⟩) (Kd.R_types HO372.out BK374.out (by decide)) (fun _ hk => hk.2) (.slice Ao117 t367.length co117)) (fun _ hk => hk.2) (.slice Ao123 t370.length co123)) (fun _ h_ => h_.1))) hb); replace BK314 := Aside0.mk (blk_below (g := gb314) (o := .cells #[.slice A0_0 l0_0.length c0_0, .slice A0_1 l0_1.length c0_1] 36 (0, 0)) (by refine blk_far ?_ NB314_374.out _; refine blk_far ?_ NB314_374.out _; exact BK314.out) hb); replace BK329 := Aside0.mk (blk_below (g := gb329) (o := .cells #[.slice Ao21 t322.length co21, .slice Ao24 t325.length co24] 25 (0, 0)) (by refine blk_far ?_ NB329_374.out _; refine blk_far ?_ NB329_374.out _; exact BK329.out) hb); replace BK336 := Aside0.mk (blk_below (g := gb336) (o := .cells #[.slice Ao28 t354.length co28, .slice Ao32 t355.length co32] 25 (0, 0)) (by refine blk_far ?_ NB336_374.out _; refine blk_far ?_ NB336_374.out _; exact BK336.out) hb); replace BK344 := Aside0.mk (blk_below (g := gb344) (o := .cells #[.slice Ao35 t337.length co35, .slice Ao40 t340.length co40] 25 (0, 0)) (by refine blk_far ?_ NB344_374.out _; refine blk_far ?_ NB344_374.out _; exact BK344.out) hb); replace BK374 := Aside0.mk (blk_below (g := gb374) (o := .cells #[.slice Ao117 t367.length co117, .slice Ao123 t370.length co123] 25 (0, 0)) (by (with_reducible repeat (first | refine blk_drewN ?_ _ | refine blk_drew ?_ | refine blk_alloc ?_ _)); refine blk_put (cs := #[.slice Ao117 t367.length co117, .slice none 0 0]) ?_ 1 _ rfl; (with_reducible repeat (first | refine blk_drewN ?_ _ | refine blk_drew ?_ | refine blk_alloc ?_ _)); refine blk_put (cs := #[.slice none 0 0, .slice none 0 0]) ?_ 0 _ rfl; (with_reducible repeat (first | refine blk_drewN ?_ _ | refine blk_drew ?_ | refine blk_alloc ?_ _)); exact BK374.out) hb); replace HB := Aside0.mk (below_step (by repeat (first | (with_reducible first | exact HB.out | apply below_alloc | apply pw_below_drewN | apply below_drew1 | refine below_set ?_ GE314.out | refine below_set ?_ GE329.out | refine below_set ?_ GE336.out | refine below_set ?_ GE344.out | refine below_set ?_ GE374.out) | exact HB.out)) hb); (try clear hb); (try clear hb2); (try clear hk); (try clear hi)))
             go_meet
             case rel => exact ⟨_, ((t373 != t328)), (by first | rfl | (simp; done) | (simp [*]; done)), H', ⟨by have := HJ10.out; have := HJ63.out; first | omega | exact Nat.le_refl _⟩, ⟨by (try simp only [hl337000_63]); (try simp only [hl337001_63]); exact Kd.R_mono HO_330000.out (fun _ hk => ⟨hk.1.1.1, ⟨hk.1.1.2, hk.2⟩⟩)⟩, ⟨by (try simp only [hl337000_63]); (try simp only [hl337001_63]); exact Kd.R_mono HO_330001.out (fun _ hk => ⟨hk.1.1.1, ⟨hk.1.1.2, hk.2⟩⟩)⟩, ⟨by (try simp only [hl337000_63]); (try simp only [hl337001_63]); exact Kd.R_mono HO_337000.out (fun _ hk => ⟨hk.1.1.1, ⟨hk.1.1.2, hk.2⟩⟩)⟩, ⟨by (try simp only [hl337000_63]); (try simp only [hl337001_63]); exact Kd.R_mono HO_337001.out (fun _ hk => ⟨hk.1.1.1, ⟨hk.1.1.2, hk.2⟩⟩)⟩, ⟨by (try simp only [hl337000_63]); (try simp only [hl337001_63]); exact Kd.R_mono HO_345000.out (fun _ hk => ⟨hk.1.1.1, ⟨hk.1.1.2, hk.2⟩⟩)⟩, ⟨by (try simp only [hl337000_63]); (try simp only [hl337001_63]); exact Kd.R_mono HO_345001.out (fun _ hk => ⟨hk.1.1.1, ⟨hk.1.1.2, hk.2⟩⟩)⟩, ⟨by (try simp only [hl337000_63]); (try simp only [hl337001_63]); exact Kd.R_mono HO369.out (fun _ hk => ⟨hk.1.1.1.2, ⟨hk.1.1.2, hk.1.2⟩⟩)⟩, ⟨by (try simp only [hl337000_63]); (try simp only [hl337001_63]); exact Kd.R_mono HO372.out (fun _ hk => ⟨hk.1.1.1.2, ⟨hk.1.1.2, hk.1.2⟩⟩)⟩, ⟨by (try simp only [hl337000_63]); (try simp only [hl337001_63]); exact BK314.out⟩, ⟨by (try simp only [hl337000_63]); (try simp only [hl337001_63]); exact BK329.out⟩, ⟨by (try simp only [hl337000_63]); (try simp only [hl337001_63]); exact BK336.out⟩, ⟨by (try simp only [hl337000_63]); (try simp only [hl337001_63]); exact BK344.out⟩, ⟨by (try simp only [hl337000_63]); (try simp only [hl337001_63]); exact BK374.out⟩, ⟨HB.out⟩⟩
            ·replace c125 := Bool.eq_false_iff.mpr c125
             subst c125
             have H1 : (laws_FnExactHarderPuzzle.j2 kj63 t357 true t358 t359) = some r := by rw [if_neg (show ¬ (false = true) by decide)] at H; exact H
             clear H
             have H := H1
             clear H1
             have H' := Aside0.mk H
             clear H
             have hnb136 := NB374_314.out
             have hnc136 := NB314_374.out
             have hnb137 := NB374_329.out
             have hnc137 := NB329_374.out
             have hnb138 := NB374_336.out
             have hnc138 := NB336_374.out
             have hnb139 := NB374_344.out
             have hnc139 := NB344_374.out
             have hcz140_0 : w116.cell? ⟨gb374, 0, none⟩ = some (.slice none 0 0) := (blk_cell BK374.out 0).trans rfl
             have hcz140_1 : w116.cell? ⟨gb374, 1, none⟩ = some (.slice none 0 0) := (blk_cell BK374.out 1).trans rfl
             have hfz140_0 := blk_frozen BK374.out 0
             have hfz140_1 := blk_frozen BK374.out 1
             have hnb141 := NB329_314.out
             have hnc141 := NB314_329.out
             have hnb142 := NB329_336.out
             have hnc142 := NB336_329.out
             have hnb143 := NB329_344.out
             have hnc143 := NB344_329.out
             have hcz144_0 : w116.cell? ⟨gb329, 0, none⟩ = some (.slice Ao21 t322.length co21) := (blk_cell BK329.out 0).trans rfl
             have hcz144_1 : w116.cell? ⟨gb329, 1, none⟩ = some (.slice Ao24 t325.length co24) := (blk_cell BK329.out 1).trans rfl
             have hfz144_0 := blk_frozen BK329.out 0
             have hfz144_1 := blk_frozen BK329.out 1
             go_wp2_with (first | ((with_reducible refine gate_callee (f := 10) rfl ?_); refine goesL_ (some 81) rfl rfl Try.func10 (by kernel_rfl) rfl #[.agg #[.slice Ao117 t367.length co117, .slice Ao123 t370.length co123], .agg #[.slice Ao21 t322.length co21, .slice Ao24 t325.length co24]] rfl (by (try simp only [List.map_toArray, List.map_cons, List.map_nil]); first | done | rfl | (simp only [List.length_drop, List.length_take]; rfl)) ?_; (with_reducible refine (laws_eqPuzzle.calls kj63 _ _ t367 _ _ t370 _ _ t322 _ _ t325 false _ ?side1 ?side2 ?side3 ?side4 ?side5 ?side6 ?side7 ?side8 A124.out).mono ?_); (case side1 => refine (Kd.R_reads' (e := 55) (base := w.heap.size) (ok := fun k_ => ((((True ∧ some k_ ≠ (.slice Ao21 t322.length co21 : Value).ownBlock) ∧ some k_ ≠ (.slice Ao28 t354.length co28 : Value).ownBlock) ∧ some k_ ≠ (.slice Ao35 t337.length co35 : Value).ownBlock) ∧ some k_ ≠ (.slice Ao113 t361.length co113 : Value).ownBlock)) (n := t367.length) (c := co117) ?_).2.2; exact (by exact (Kd.R_mono (Kd.R_far (p := ⟨gb374, 1, none⟩) (Kd.R_far (p := ⟨gb374, 0, none⟩) (Kd.R_types HO369.out BK374.out (by decide)) (fun _ hk => hk.2) (.slice Ao117 t367.length co117)) (fun _ hk => hk.2) (.slice Ao123 t370.length co123)) (fun _ h_ => h_.1)))); (case side2 => exact (Kd.R_reads' HO369.out).2.1); (case side3 => refine (Kd.R_reads' (e := 3) (base := w.heap.size) (ok := fun k_ => ((((True ∧ some k_ ≠ (.slice Ao24 t325.length co24 : Value).ownBlock) ∧ some k_ ≠ (.slice Ao32 t355.length co32 : Value).ownBlock) ∧ some k_ ≠ (.slice Ao40 t340.length co40 : Value).ownBlock) ∧ some k_ ≠ (.slice Ao114 t364.length co114 : Value).ownBlock)) (n := t370.length) (c := co123) ?_).2.2; exact (by exact (Kd.R_mono (Kd.R_far (p := ⟨gb374, 1, none⟩) (Kd.R_far (p := ⟨gb374, 0, none⟩) (Kd.R_types HO372.out BK374.out (by decide)) (fun _ hk => hk.2) (.slice Ao117 t367.length co117)) (fun _ hk => hk.2) (.slice Ao123 t370.length co123)) (fun _ h_ => h_.1)))); (case side4 => exact (Kd.R_reads' HO372.out).2.1); (case side5 => refine (Kd.R_reads' (e := 55) (base := w.heap.size) (ok := fun k_ => (((some k_ ≠ (.slice Ao28 t354.length co28 : Value).ownBlock ∧ some k_ ≠ (.slice Ao35 t337.length co35 : Value).ownBlock) ∧ some k_ ≠ (.slice Ao113 t361.length co113 : Value).ownBlock) ∧ some k_ ≠ (.slice Ao117 t367.length co117 : Value).ownBlock)) (n := t322.length) (c := co21) ?_).2.2; exact (by exact (Kd.R_mono (Kd.R_far (p := ⟨gb374, 1, none⟩) (Kd.R_far (p := ⟨gb374, 0, none⟩) (Kd.R_types HO_330000.out BK374.out (by decide)) (fun _ hk => hk.2) (.slice Ao117 t367.length co117)) (fun _ hk => hk.2) (.slice Ao123 t370.length co123)) (fun _ h_ => h_.1)))); (case side6 => exact (Kd.R_reads' HO_330000.out).2.1); (case side7 => refine (Kd.R_reads' (e := 3) (base := w.heap.size) (ok := fun k_ => (((some k_ ≠ (.slice Ao32 t355.length co32 : Value).ownBlock ∧ some k_ ≠ (.slice Ao40 t340.length co40 : Value).ownBlock) ∧ some k_ ≠ (.slice Ao114 t364.length co114 : Value).ownBlock) ∧ some k_ ≠ (.slice Ao123 t370.length co123 : Value).ownBlock)) (n := t325.length) (c := co24) ?_).2.2; exact (by exact (Kd.R_mono (Kd.R_far (p := ⟨gb374, 1, none⟩) (Kd.R_far (p := ⟨gb374, 0, none⟩) (Kd.R_types HO_330001.out BK374.out (by decide)) (fun _ hk => hk.2) (.slice Ao117 t367.length co117)) (fun _ hk => hk.2) (.slice Ao123 t370.length co123)) (fun _ h_ => h_.1)))); (case side8 => exact (Kd.R_reads' HO_330001.out).2.1); rintro e w145 ⟨rfl, hb⟩; refine ⟨_, rfl, ?_⟩; replace HO_330000 := Aside0.mk (Kd.R_below (by exact (Kd.R_mono (Kd.R_far (p := ⟨gb374, 1, none⟩) (Kd.R_far (p := ⟨gb374, 0, none⟩) (Kd.R_types HO_330000.out BK374.out (by decide)) (fun _ hk => hk.2) (.slice Ao117 t367.length co117)) (fun _ hk => hk.2) (.slice Ao123 t370.length co123)) (fun _ h_ => h_.1))) hb); replace HO_330001 := Aside0.mk (Kd.R_below (by exact (Kd.R_mono (Kd.R_far (p := ⟨gb374, 1, none⟩) (Kd.R_far (p := ⟨gb374, 0, none⟩) (Kd.R_types HO_330001.out BK374.out (by decide)) (fun _ hk => hk.2) (.slice Ao117 t367.length co117)) (fun _ hk => hk.2) (.slice Ao123 t370.length co123)) (fun _ h_ => h_.1))) hb); replace HO_337000 := Aside0.mk (Kd.R_below (by exact (Kd.R_mono (Kd.R_far (p := ⟨gb374, 1, none⟩) (Kd.R_far (p := ⟨gb374, 0, none⟩) (Kd.R_types HO_337000.out BK374.out (by decide)) (fun _ hk => hk.2) (.slice Ao117 t367.length co117)) (fun _ hk => hk.2) (.slice Ao123 t370.length co123)) (fun _ h_ => h_.1))) hb); replace HO_337001 := Aside0.mk (Kd.R_below (by exact (Kd.R_mono (Kd.R_far (p := ⟨gb374, 1, none⟩) (Kd.R_far (p := ⟨gb374, 0, none⟩) (Kd.R_types HO_337001.out BK374.out (by decide)) (fun _ hk => hk.2) (.slice Ao117 t367.length co117)) (fun _ hk => hk.2) (.slice Ao123 t370.length co123)) (fun _ h_ => h_.1))) hb); replace HO_345000 := Aside0.mk (Kd.R_below (by exact (Kd.R_mono (Kd.R_far (p := ⟨gb374, 1, none⟩) (Kd.R_far (p := ⟨gb374, 0, none⟩) (Kd.R_types HO_345000.out BK374.out (by decide)) (fun _ hk => hk.2) (.slice Ao117 t367.length co117)) (fun _ hk => hk.2) (.slice Ao123 t370.length co123)) (fun _ h_ => h_.1))) hb); replace HO_345001 := Aside0.mk (Kd.R_below (by exact (Kd.R_mono (Kd.R_far (p := ⟨gb374, 1, none⟩) (Kd.R_far (p := ⟨gb374, 0, none⟩) (Kd.R_types HO_345001.out BK374.out (by decide)) (fun _ hk => hk.2) (.slice Ao117 t367.length co117)) (fun _ hk => hk.2) (.slice Ao123 t370.length co123)) (fun _ h_ => h_.1))) hb); replace HO363 := Aside0.mk (Kd.R_below (by exact (Kd.R_mono (Kd.R_far (p := ⟨gb374, 1, none⟩) (Kd.R_far (p := ⟨gb374, 0, none⟩) (Kd.R_types HO363.out BK374.out (by decide)) (fun _ hk => hk.2) (.slice Ao117 t367.length co117)) (fun _ hk => hk.2) (.slice Ao123 t370.length co123)) (fun _ h_ => h_.1))) hb); replace HO366 := Aside0.mk (Kd.R_below (by exact (Kd.R_mono (Kd.R_far (p := ⟨gb374, 1, none⟩) (Kd.R_far (p := ⟨gb374, 0, none⟩) (Kd.R_types HO366.out BK374.out (by decide)) (fun _ hk => hk.2) (.slice Ao117 t367.length co117)) (fun _ hk => hk.2) (.slice Ao123 t370.length co123)) (fun _ h_ => h_.1))) hb); replace HO369 := Aside0.mk (Kd.R_below (by exact (Kd.R_mono (Kd.R_far (p := ⟨gb374, 1, none⟩) (Kd.R_far (p := ⟨gb374, 0, none⟩) (Kd.R_types HO369.out BK374.out (by decide)) (fun _ hk => hk.2) (.slice Ao117 t367.length co117)) (fun _ hk => hk.2) (.slice Ao123 t370.length co123)) (fun _ h_ => h_.1))) hb); replace HO372 := Aside0.mk (Kd.R_below (by exact (Kd.R_mono (Kd.R_far (p := ⟨gb374, 1, none⟩) (Kd.R_far (p := ⟨gb374, 0, none⟩) (Kd.R_types HO372.out BK374.out (by decide)) (fun _ hk => hk.2) (.slice Ao117 t367.length co117)) (fun _ hk => hk.2) (.slice Ao123 t370.length co123)) (fun _ h_ => h_.1))) hb); replace BK314 := Aside0.mk (blk_below (g := gb314) (o := .cells #[.slice A0_0 l0_0.length c0_0, .slice A0_1 l0_1.length c0_1] 36 (0, 0)) (by refine blk_far ?_ NB314_374.out _; refine blk_far ?_ NB314_374.out _; exact BK314.out) hb); replace BK329 := Aside0.mk (blk_below (g := gb329) (o := .cells #[.slice Ao21 t322.length co21, .slice Ao24 t325.length co24] 25 (0, 0)) (by refine blk_far ?_ NB329_374.out _; refine blk_far ?_ NB329_374.out _; exact BK329.out) hb); replace BK336 := Aside0.mk (blk_below (g := gb336) (o := .cells #[.slice Ao28 t354.length co28, .slice Ao32 t355.length co32] 25 (0, 0)) (by refine blk_far ?_ NB336_374.out _; refine blk_far ?_ NB336_374.out _; exact BK336.out) hb); replace BK344 := Aside0.mk (blk_below (g := gb344) (o := .cells #[.slice Ao35 t337.length co35, .slice Ao40 t340.length co40] 25 (0, 0)) (by refine blk_far ?_ NB344_374.out _; refine blk_far ?_ NB344_374.out _; exact BK344.out) hb); replace BK374 := Aside0.mk (blk_below (g := gb374) (o := .cells #[.slice Ao117 t367.length co117, .slice Ao123 t370.length co123] 25 (0, 0)) (by (with_reducible repeat (first | refine blk_drewN ?_ _ | refine blk_drew ?_ | refine blk_alloc ?_ _)); refine blk_put (cs := #[.slice Ao117 t367.length co117, .slice none 0 0]) ?_ 1 _ rfl; (with_reducible repeat (first | refine blk_drewN ?_ _ | refine blk_drew ?_ | refine blk_alloc ?_ _)); refine blk_put (cs := #[.slice none 0 0, .slice none 0 0]) ?_ 0 _ rfl; (with_reducible repeat (first | refine blk_drewN ?_ _ | refine blk_drew ?_ | refine blk_alloc ?_ _)); exact BK374.out) hb); replace HB := Aside0.mk (below_step (by repeat (first | (with_reducible first | exact HB.out | apply below_alloc | apply pw_below_drewN | apply below_drew1 | refine below_set ?_ GE314.out | refine below_set ?_ GE329.out | refine below_set ?_ GE336.out | refine below_set ?_ GE344.out | refine below_set ?_ GE374.out) | exact HB.out)) hb); (try clear hb); (try clear hb2); (try clear hk); (try clear hi)))
             go_meet
             case rel => exact ⟨_, (true), (by first | rfl | (simp; done) | (simp [*]; done)), H', ⟨by have := HJ10.out; have := HJ63.out; first | omega | exact Nat.le_refl _⟩, ⟨by (try simp only [hl337000_63]); (try simp only [hl337001_63]); exact Kd.R_mono HO_330000.out (fun _ hk => ⟨hk.1.1.1, ⟨hk.1.1.2, hk.2⟩⟩)⟩, ⟨by (try simp only [hl337000_63]); (try simp only [hl337001_63]); exact Kd.R_mono HO_330001.out (fun _ hk => ⟨hk.1.1.1, ⟨hk.1.1.2, hk.2⟩⟩)⟩, ⟨by (try simp only [hl337000_63]); (try simp only [hl337001_63]); exact Kd.R_mono HO_337000.out (fun _ hk => ⟨hk.1.1.1, ⟨hk.1.1.2, hk.2⟩⟩)⟩, ⟨by (try simp only [hl337000_63]); (try simp only [hl337001_63]); exact Kd.R_mono HO_337001.out (fun _ hk => ⟨hk.1.1.1, ⟨hk.1.1.2, hk.2⟩⟩)⟩, ⟨by (try simp only [hl337000_63]); (try simp only [hl337001_63]); exact Kd.R_mono HO_345000.out (fun _ hk => ⟨hk.1.1.1, ⟨hk.1.1.2, hk.2⟩⟩)⟩, ⟨by (try simp only [hl337000_63]); (try simp only [hl337001_63]); exact Kd.R_mono HO_345001.out (fun _ hk => ⟨hk.1.1.1, ⟨hk.1.1.2, hk.2⟩⟩)⟩, ⟨by (try simp only [hl337000_63]); (try simp only [hl337001_63]); exact Kd.R_mono HO369.out (fun _ hk => ⟨hk.1.1.1.2, ⟨hk.1.1.2, hk.1.2⟩⟩)⟩, ⟨by (try simp only [hl337000_63]); (try simp only [hl337001_63]); exact Kd.R_mono HO372.out (fun _ hk => ⟨hk.1.1.1.2, ⟨hk.1.1.2, hk.1.2⟩⟩)⟩, ⟨by (try simp only [hl337000_63]); (try simp only [hl337001_63]); exact BK314.out⟩, ⟨by (try simp only [hl337000_63]); (try simp only [hl337001_63]); exact BK329.out⟩, ⟨by (try simp only [hl337000_63]); (try simp only [hl337001_63]); exact BK336.out⟩, ⟨by (try simp only [hl337000_63]); (try simp only [hl337001_63]); exact BK344.out⟩, ⟨by (try simp only [hl337000_63]); (try simp only [hl337001_63]); exact BK374.out⟩, ⟨HB.out⟩⟩
           case rest =>
            clear HC101
            try clear c1
            try clear c2
            try clear p2
            try clear c3
            try clear c3b0
            try clear c4
            try clear c5
            try clear c6
            try clear c7
            try clear c8
            try clear c9
            try clear c10
            try clear c11
            try clear c12
            try clear c13
            try clear c14
            try clear c15
            try clear c17
            try clear c21
            try clear c22
            try clear c29
            try clear c30
            try clear c36
            try clear c37
            try clear c38
            try clear c42
            try clear c43
            try clear c44
            try clear c45
            try clear c47
            try clear c48
            try clear c51
            try clear c52
            try clear c53
            try clear c55
            try clear c56
            try clear c59
            try clear c62
            try clear c70
            try clear c71
            try clear c72
            try clear c75
            try clear c75b0
            try clear c77
            try clear c78
            try clear c79
            try clear c80
            try clear c82
            try clear c83
            try clear c86
            try clear c87
            try clear c88
            try clear c90
            try clear c91
            try clear c94
            try clear c97
            try clear c97b0
            try clear c98
            try clear c98b0
            try clear c98b1
            try clear c102
            try clear c103
            try clear c104
            try clear c109
            try clear c110
            try clear c118
            try clear c119
            try clear c120
            try clear c121
            try clear c125
            try clear c126
            try clear c127
            try clear c128
            try clear c129
            try clear c131
            try clear c132
            try clear c133
            try clear c136
            try clear c137
            try clear c138
            try clear c139
            try clear c141
            try clear c142
            try clear c143
            try clear hcz105_0
            try clear hcz105_1
            try clear hcz107_0
            try clear hcz107_1
            try clear hcz111_0
            try clear hcz111_1
            try clear hcz122_0
            try clear hcz122_1
            try clear hcz130_0
            try clear hcz130_1
            try clear hcz134_0
            try clear hcz134_1
            try clear hcz13_0
            try clear hcz13_1
            try clear hcz140_0
            try clear hcz140_1
            try clear hcz144_0
            try clear hcz144_1
            try clear hcz15_0
            try clear hcz15_1
            try clear hcz23_0
            try clear hcz23_1
            try clear hcz25_0
            try clear hcz25_1
            try clear hcz31_0
            try clear hcz31_1
            try clear hcz39_0
            try clear hcz39_1
            try clear hcz46_0
            try clear hcz46_1
            try clear hcz49_0
            try clear hcz49_1
            try clear hcz54_0
            try clear hcz54_1
            try clear hcz57_0
            try clear hcz57_1
            try clear hcz5_0
            try clear hcz5_1
            try clear hcz73_0
            try clear hcz73_1
            try clear hcz81_0
            try clear hcz81_1
            try clear hcz84_0
            try clear hcz84_1
            try clear hcz89_0
            try clear hcz89_1
            try clear hcz92_0
            try clear hcz92_1
            try clear hfz105_0
            try clear hfz105_1
            try clear hfz107_0
            try clear hfz107_1
            try clear hfz111_0
            try clear hfz111_1
            try clear hfz122_0
            try clear hfz122_1
            try clear hfz130_0
            try clear hfz130_1
            try clear hfz134_0
            try clear hfz134_1
            try clear hfz13_0
            try clear hfz13_1
            try clear hfz140_0
            try clear hfz140_1
            try clear hfz144_0
            try clear hfz144_1
            try clear hfz15_0
            try clear hfz15_1
            try clear hfz23_0
            try clear hfz23_1
            try clear hfz25_0
            try clear hfz25_1
            try clear hfz31_0
            try clear hfz31_1
            try clear hfz39_0
            try clear hfz39_1
            try clear hfz46_0
            try clear hfz46_1
            try clear hfz49_0
            try clear hfz49_1
            try clear hfz54_0
            try clear hfz54_1
            try clear hfz57_0
            try clear hfz57_1
            try clear hfz5_0
            try clear hfz5_1
            try clear hfz73_0
            try clear hfz73_1
            try clear hfz81_0
            try clear hfz81_1
            try clear hfz84_0
            try clear hfz84_1
            try clear hfz89_0
            try clear hfz89_1
            try clear hfz92_0
            try clear hfz92_1
            try clear p2
            obtain ⟨kq, x87_100, rfl, HA, HJ100, HO_330000, HO_330001, HO_337000, HO_337001, HO_345000, HO_345001, HO_375000, HO_375001, BK314, BK329, BK336, BK344, BK374, HB⟩ := hcut
            have hl345000_100 := (Kd.R_reads' HO_345000.out).1
            rw [hl345000_100] at HO_345000
            (try simp only [hl345000_100])
            (try simp only [hl345000_100] at BK314)
            (try simp only [hl345000_100] at BK329)
            (try simp only [hl345000_100] at BK336)
            (try simp only [hl345000_100] at BK344)
            (try simp only [hl345000_100] at BK374)
            (try simp only [hl345000_100] at HO_330000)
            (try simp only [hl345000_100] at HO_330001)
            (try simp only [hl345000_100] at HO_337000)
            (try simp only [hl345000_100] at HO_337001)
            (try simp only [hl345000_100] at HO_345001)
            (try simp only [hl345000_100] at HO_375000)
            (try simp only [hl345000_100] at HO_375001)
            have hl345001_100 := (Kd.R_reads' HO_345001.out).1
            rw [hl345001_100] at HO_345001
            (try simp only [hl345001_100])
            (try simp only [hl345001_100] at BK314)
            (try simp only [hl345001_100] at BK329)
            (try simp only [hl345001_100] at BK336)
            (try simp only [hl345001_100] at BK344)
            (try simp only [hl345001_100] at BK374)
            (try simp only [hl345001_100] at HO_330000)
            (try simp only [hl345001_100] at HO_330001)
            (try simp only [hl345001_100] at HO_337000)
            (try simp only [hl345001_100] at HO_337001)
            (try simp only [hl345001_100] at HO_345000)
            (try simp only [hl345001_100] at HO_375000)
            (try simp only [hl345001_100] at HO_375001)
            cases kq with
            | zero => exact absurd HA.out (by simp [laws_FnExactHarderPuzzle.j2])
            | succ kj100 =>
             have H := HA.out
             clear HA
             simp only [laws_FnExactHarderPuzzle.j2] at H
             by_cases c146 : x87_100 = true
             ·subst c146
              have H1 : (none) = some r := by rw [if_pos rfl] at H; exact H
              clear H
              have H := H1
              clear H1
              exact absurd H (by simp)
             ·replace c146 := Bool.eq_false_iff.mpr c146
              subst c146
              have H1 : ((laws_heldPuzzle.f kj100 t358 t359 1).bind fun t376 => (if t376 < 0 then (none) else (if t376 = t357 then (some true) else (none)))) = some r := by rw [if_neg (show ¬ (false = true) by decide)] at H; exact H
              clear H
              have H := H1
              clear H1
              replace H := Option.bind_eq_some_iff.mp H
              obtain ⟨t376, A1470, H⟩ := H
              replace H : (if t376 < 0 then (none) else (if t376 = t357 then (some true) else (none))) = some r := H
              have A147 := Aside0.mk A1470
              clear A1470
              by_cases c148 : t376 < 0
              ·rw [if_pos c148] at H
               exact absurd H (by simp)
              ·rw [if_neg c148] at H
               have c148b0 : decide (t376 < 0) = false := decide_eq_false c148
               clear c148
               by_cases c149 : t376 = t357
               ·rw [if_pos c149] at H
                have c149b0 : (t376 == t357) = true := beq_iff_eq.mpr c149
                have c149b1 : (t376 != t357) = false := bne_eq_false_iff_eq.mpr c149
                clear c149
                obtain rfl := Option.some.inj H
                have hnb150 := NB344_314.out
                have hnc150 := NB314_344.out
                have hnb151 := NB344_329.out
                have hnc151 := NB329_344.out
                have hnb152 := NB344_336.out
                have hnc152 := NB336_344.out
                have hnb153 := NB344_374.out
                have hnc153 := NB374_344.out
                have hcz154_0 : wc.cell? ⟨gb344, 0, none⟩ = some (.slice Ao35 t358.length co35) := (blk_cell BK344.out 0).trans rfl
                have hcz154_1 : wc.cell? ⟨gb344, 1, none⟩ = some (.slice Ao40 t359.length co40) := (blk_cell BK344.out 1).trans rfl
                have hfz154_0 := blk_frozen BK344.out 0
                have hfz154_1 := blk_frozen BK344.out 1
                go_wp2_with (first | ((with_reducible refine gate_callee (f := 14) rfl ?_); refine goesL_ (some 90) rfl rfl Try.func14 (by kernel_rfl) rfl #[.agg #[.slice Ao35 t358.length co35, .slice Ao40 t359.length co40], .int .i64 1] rfl (by (try simp only [List.map_toArray, List.map_cons, List.map_nil]); first | done | rfl | (simp only [List.length_drop, List.length_take]; rfl)) ?_; (with_reducible refine (laws_heldPuzzle.calls kj100 _ _ t358 _ _ t359 1 t376 _ ?side1 ?side2 ?side3 ?side4 A147.out).mono ?_); (case side1 => repeat (first | exact (Kd.R_reads' HO_345000.out).2.2 | (with_reducible refine Kd.C_alloc ?_ _) | (with_reducible refine Kd.C_drewN ?_ _) | (with_reducible refine Kd.C_drew ?_))); (case side2 => exact (Kd.R_reads' HO_345000.out).2.1); (case side3 => repeat (first | exact (Kd.R_reads' HO_345001.out).2.2 | (with_reducible refine Kd.C_alloc ?_ _) | (with_reducible refine Kd.C_drewN ?_ _) | (with_reducible refine Kd.C_drew ?_))); (case side4 => exact (Kd.R_reads' HO_345001.out).2.1); rintro e w155 ⟨rfl, hb⟩; refine ⟨_, rfl, ?_⟩; replace HO_330000 := Aside0.mk (Kd.R_below (HO_330000.out) hb); replace HO_330001 := Aside0.mk (Kd.R_below (HO_330001.out) hb); replace HO_337000 := Aside0.mk (Kd.R_below (HO_337000.out) hb); replace HO_337001 := Aside0.mk (Kd.R_below (HO_337001.out) hb); replace HO_345000 := Aside0.mk (Kd.R_below (HO_345000.out) hb); replace HO_345001 := Aside0.mk (Kd.R_below (HO_345001.out) hb); replace HO_375000 := Aside0.mk (Kd.R_below (HO_375000.out) hb); replace HO_375001 := Aside0.mk (Kd.R_below (HO_375001.out) hb); replace BK314 := Aside0.mk (blk_below (g := gb314) (o := .cells #[.slice A0_0 l0_0.length c0_0, .slice A0_1 l0_1.length c0_1] 36 (0, 0)) (BK314.out) hb); replace BK329 := Aside0.mk (blk_below (g := gb329) (o := .cells #[.slice Ao21 t322.length co21, .slice Ao24 t325.length co24] 25 (0, 0)) (BK329.out) hb); replace BK336 := Aside0.mk (blk_below (g := gb336) (o := .cells #[.slice Ao28 t354.length co28, .slice Ao32 t355.length co32] 25 (0, 0)) (BK336.out) hb); replace BK344 := Aside0.mk (blk_below (g := gb344) (o := .cells #[.slice Ao35 t358.length co35, .slice Ao40 t359.length co40] 25 (0, 0)) (BK344.out) hb); replace BK374 := Aside0.mk (blk_below (g := gb374) (o := .cells #[.slice Ao117 t367.length co117, .slice Ao123 t370.length co123] 25 (0, 0)) (BK374.out) hb); replace HB := Aside0.mk (below_step HB.out hb); (try clear hb); (try clear hb2); (try clear hk); (try clear hi)))
                go_ret
                exact ⟨by rfl, HB.out⟩
               ·rw [if_neg c149] at H
                exact absurd H (by simp)
          ·rw [if_neg c98] at H
           exact absurd H (by simp)
     ·replace c62 := Bool.eq_false_iff.mpr c62
      subst c62
      have H1 : (none) = some r := by rw [if_neg (show ¬ (false = true) by decide)] at H; exact H
      clear H
      have H := H1
      clear H1
      exact absurd H (by simp)

end Go.Proofs.Ytncogkhhecgcbaa.QFnExactHarderPuzzle
