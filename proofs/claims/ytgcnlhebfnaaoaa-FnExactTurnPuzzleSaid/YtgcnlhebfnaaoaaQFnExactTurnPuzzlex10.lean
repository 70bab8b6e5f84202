-- WRITTEN BY A PROGRAM OF THIS CLAIM'S AUTHOR (wprint.py)
import Derived.Test.YtgcnlhebfnaaoaaQFnExactTurnPuzzlex0
import Derived.Test.YtgcnlhebfnaaoaaQFnExactTurnPuzzlex2
import Derived.Test.YtgcnlhebfnaaoaaQFnExactTurnPuzzlex3
import Derived.Test.YtgcnlhebfnaaoaaQFnExactTurnPuzzlex4
import Derived.Test.YtgcnlhebfnaaoaaQFnExactTurnPuzzlex7
import Derived.Test.YtgcnlhebfnaaoaaQFnExactTurnPuzzlex9
namespace Go.Proofs.Ytgcnlhebfnaaoaa.QFnExactTurnPuzzle
open Go.RowKit Go.Proofs.YtgcnlhebfnaaoaaW.PrintWords Go.Proofs.YtgcnlhebfnaaoaaW.PrintLast Go.Proofs.YtgcnlhebfnaaoaaW.PrintMore
attribute [local go_sem] max2_int min2_int max_two min_two max_three min_three max_four min_four   -- for this text's walks alone
set_option linter.unusedVariables false
set_option linter.unusedSimpArgs false

/-! ### laws_FnExactTurnPuzzle: function 8 -/
mutual
def laws_FnExactTurnPuzzle.j0 : Nat → Bool → Bool → Bool → List (S131) → List Int → List (S25) → List Int → List (S25) → List Int → List (S25) → List Int → Option (Bool)
 | 0, _, _, _, _, _, _, _, _, _, _, _ => none
 | k + 1, x5, x8, x40, x244000, x244001, x259000, x259001, x266000, x266001, x274000, x274001 => if x40 = true then (none) else ((laws_toPuzzle.f k x244000 x244001).bind fun bt275 => ((laws_eqPuzzle.f k x266000 x266001 bt275.1 bt275.2).bind fun t281 => (if t281 = true then ((laws_markPuzzle.f k x266000 x266001 1).bind fun bt282 => (if bt282.1 < 0 then (laws_FnExactTurnPuzzle.j1 k x5 true x244000 x244001 x259000 x259001 x274000 x274001) else ((laws_eqPuzzle.f k x274000 x274001 x259000 x259001).bind fun t285 => (if t285 = true then (laws_FnExactTurnPuzzle.j1 k x5 (x8 != x5) x244000 x244001 x259000 x259001 x274000 x274001) else (laws_FnExactTurnPuzzle.j1 k x5 true x244000 x244001 x259000 x259001 x274000 x274001))))) else (none))))
def laws_FnExactTurnPuzzle.j1 : Nat → Bool → Bool → List (S131) → List Int → List (S25) → List Int → List (S25) → List Int → Option (Bool)
 | 0, _, _, _, _, _, _, _, _ => none
 | k + 1, x5, x61, x244000, x244001, x259000, x259001, x274000, x274001 => if x61 = true then (none) else ((laws_markPuzzle.f k x274000 x274001 1).bind fun bt286 => ((laws_heldPuzzle.f k bt286.2.1 bt286.2.2 1).bind fun t289 => (if t289 < 0 then (none) else (if t289 = bt286.1 then ((laws_toPuzzle.f k x244000 x244001).bind fun bt290 => ((impl_TurnPuzzle.f k bt290.1 bt290.2).bind fun bt296 => ((laws_eqPuzzle.f k bt296.1 bt296.2.1 x259000 x259001).bind fun t304 => (if t304 = true then (laws_FnExactTurnPuzzle.j2 k bt286.1 (bt296.2.2 != x5) bt286.2.1 bt286.2.2) else (laws_FnExactTurnPuzzle.j2 k bt286.1 true bt286.2.1 bt286.2.2))))) else (none)))))
def laws_FnExactTurnPuzzle.j2 : Nat → Int → Bool → List (S25) → List Int → Option (Bool)
 | 0, _, _, _, _ => none
 | k + 1, x10, x87, x274000, x274001 => if x87 = true then (none) else ((laws_heldPuzzle.f k x274000 x274001 1).bind fun t305 => (if t305 < 0 then (none) else (if t305 = x10 then (some true) else (none))))
end
def laws_FnExactTurnPuzzle.f (k : Nat) (l0_0 : List (S131)) (l0_1 : List Int) : Option (Bool) := (laws_szPuzzle.f l0_0 l0_1 1048576).bind fun t244 => (if t244 < 0 then (some true) else ((laws_toPuzzle.f k l0_0 l0_1).bind fun bt245 => ((spec_TurnPuzzle.f k bt245.1 bt245.2).bind fun bt251 => ((laws_toPuzzle.f k l0_0 l0_1).bind fun bt259 => ((impl_TurnPuzzle.f k bt259.1 bt259.2).bind fun bt266 => ((laws_eqPuzzle.f k bt266.1 bt266.2.1 bt251.1 bt251.2.1).bind fun t274 => (if t274 = true then (laws_FnExactTurnPuzzle.j0 k bt251.2.2 bt266.2.2 (bt266.2.2 != bt251.2.2) l0_0 l0_1 bt251.1 bt251.2.1 bt259.1 bt259.2 bt266.1 bt266.2.1) else (laws_FnExactTurnPuzzle.j0 k bt251.2.2 bt266.2.2 true l0_0 l0_1 bt251.1 bt251.2.1 bt259.1 bt259.2 bt266.1 bt266.2.1))))))))
theorem laws_FnExactTurnPuzzle.mono_l : ∀ k, (∀ y0 y1 y2 y3 y4 y5 y6 y7 y8 y9 y10, LeO (laws_FnExactTurnPuzzle.j0 k y0 y1 y2 y3 y4 y5 y6 y7 y8 y9 y10) (laws_FnExactTurnPuzzle.j0 (k + 1) y0 y1 y2 y3 y4 y5 y6 y7 y8 y9 y10)) ∧ (∀ y0 y1 y2 y3 y4 y5 y6 y7, LeO (laws_FnExactTurnPuzzle.j1 k y0 y1 y2 y3 y4 y5 y6 y7) (laws_FnExactTurnPuzzle.j1 (k + 1) y0 y1 y2 y3 y4 y5 y6 y7)) ∧ (∀ y0 y1 y2 y3, LeO (laws_FnExactTurnPuzzle.j2 k y0 y1 y2 y3) (laws_FnExactTurnPuzzle.j2 (k + 1) y0 y1 y2 y3))
 | 0 => ⟨fun _ _ _ _ _ _ _ _ _ _ _ r h => by simp [laws_FnExactTurnPuzzle.j0] at h, fun _ _ _ _ _ _ _ _ r h => by simp [laws_FnExactTurnPuzzle.j1] at h, fun _ _ _ _ r h => by simp [laws_FnExactTurnPuzzle.j2] at h⟩
 | k + 1 => by
  obtain ⟨ih0, ih1, ih2⟩ := laws_FnExactTurnPuzzle.mono_l k
  refine ⟨?_, ?_, ?_⟩
  ·intro y0 y1 y2 y3 y4 y5 y6 y7 y8 y9 y10
   unfold laws_FnExactTurnPuzzle.j0
   repeat' first
   | (with_reducible exact ih0 _ _ _ _ _ _ _ _ _ _ _)
   | (with_reducible exact ih1 _ _ _ _ _ _ _ _)
   | (with_reducible exact ih2 _ _ _ _)
   | (with_reducible exact impl_TurnPuzzle.mono _ _ _)
   | (with_reducible exact laws_eqPuzzle.mono _ _ _ _ _)
   | (with_reducible exact laws_heldPuzzle.mono _ _ _ _)
   | (with_reducible exact laws_markPuzzle.mono _ _ _ _)
   | (with_reducible exact laws_toPuzzle.mono _ _ _)
   | (with_reducible exact spec_TurnPuzzle.mono _ _ _)
   | (with_reducible exact LeO.refl _)
   | (with_reducible exact LeO.none _)
   | (with_reducible refine LeO.ite ?_ ?_)
   | (with_reducible refine LeO.bind ?_ (fun _ => ?_))
   | exact ih0 _ _ _ _ _ _ _ _ _ _ _
   | exact ih1 _ _ _ _ _ _ _ _
   | exact ih2 _ _ _ _
   | exact impl_TurnPuzzle.mono _ _ _
   | exact laws_eqPuzzle.mono _ _ _ _ _
   | exact laws_heldPuzzle.mono _ _ _ _
   | exact laws_markPuzzle.mono _ _ _ _
   | exact laws_toPuzzle.mono _ _ _
   | exact spec_TurnPuzzle.mono _ _ _
   | exact LeO.none _
   | refine LeO.ite ?_ ?_
   | refine LeO.bind ?_ (fun _ => ?_)
  ·intro y0 y1 y2 y3 y4 y5 y6 y7
   unfold laws_FnExactTurnPuzzle.j1
   repeat' first
   | (with_reducible exact ih0 _ _ _ _ _ _ _ _ _ _ _)
   | (with_reducible exact ih1 _ _ _ _ _ _ _ _)
   | (with_reducible exact ih2 _ _ _ _)
   | (with_reducible exact impl_TurnPuzzle.mono _ _ _)
   | (with_reducible exact laws_eqPuzzle.mono _ _ _ _ _)
   | (with_reducible exact laws_heldPuzzle.mono _ _ _ _)
   | (with_reducible exact laws_markPuzzle.mono _ _ _ _)
   | (with_reducible exact laws_toPuzzle.mono _ _ _)
   | (with_reducible exact spec_TurnPuzzle.mono _ _ _)
   | (with_reducible exact LeO.refl _)
   | (with_reducible exact LeO.none _)
   | (with_reducible refine LeO.ite ?_ ?_)
   | (with_reducible refine LeO.bind ?_ (fun _ => ?_))
   | exact ih0 _ _ _ _ _ _ _ _ _ _ _
   | exact ih1 _ _ _ _ _ _ _ _
   | exact ih2 _ _ _ _
   | exact impl_TurnPuzzle.mono _ _ _
   | exact laws_eqPuzzle.mono _ _ _ _ _
   | exact laws_heldPuzzle.mono _ _ _ _
   | exact laws_markPuzzle.mono _ _ _ _
   | exact laws_toPuzzle.mono _ _ _
   | exact spec_TurnPuzzle.mono _ _ _
   | exact LeO.none _
   | refine LeO.ite ?_ ?_
   | refine LeO.bind ?_ (fun _ => ?_)
  ·intro y0 y1 y2 y3
   unfold laws_FnExactTurnPuzzle.j2
   repeat' first
   | (with_reducible exact ih0 _ _ _ _ _ _ _ _ _ _ _)
   | (with_reducible exact ih1 _ _ _ _ _ _ _ _)
   | (with_reducible exact ih2 _ _ _ _)
   | (with_reducible exact impl_TurnPuzzle.mono _ _ _)
   | (with_reducible exact laws_eqPuzzle.mono _ _ _ _ _)
   | (with_reducible exact laws_heldPuzzle.mono _ _ _ _)
   | (with_reducible exact laws_markPuzzle.mono _ _ _ _)
   | (with_reducible exact laws_toPuzzle.mono _ _ _)
   | (with_reducible exact spec_TurnPuzzle.mono _ _ _)
   | (with_reducible exact LeO.refl _)
   | (with_reducible exact LeO.none _)
   | (with_reducible refine LeO.ite ?_ ?_)
   | (with_reducible refine LeO.bind ?_ (fun _ => ?_))
   | exact ih0 _ _ _ _ _ _ _ _ _ _ _
   | exact ih1 _ _ _ _ _ _ _ _
   | exact ih2 _ _ _ _
   | exact impl_TurnPuzzle.mono _ _ _
   | exact laws_eqPuzzle.mono _ _ _ _ _
   | exact laws_heldPuzzle.mono _ _ _ _
   | exact laws_markPuzzle.mono _ _ _ _
   | exact laws_toPuzzle.mono _ _ _
   | exact spec_TurnPuzzle.mono _ _ _
   | exact LeO.none _
   | refine LeO.ite ?_ ?_
   | refine LeO.bind ?_ (fun _ => ?_)
theorem laws_FnExactTurnPuzzle.mono : ∀ a0 a1 k, LeO (laws_FnExactTurnPuzzle.f k a0 a1) (laws_FnExactTurnPuzzle.f (k + 1) a0 a1) := by
 intro a0 a1 k
 obtain ⟨ih0, ih1, ih2⟩ := laws_FnExactTurnPuzzle.mono_l k
 unfold laws_FnExactTurnPuzzle.f
 repeat' first
   | (with_reducible exact ih0 _ _ _ _ _ _ _ _ _ _ _)
   | (with_reducible exact ih1 _ _ _ _ _ _ _ _)
   | (with_reducible exact ih2 _ _ _ _)
   | (with_reducible exact impl_TurnPuzzle.mono _ _ _)
   | (with_reducible exact laws_eqPuzzle.mono _ _ _ _ _)
   | (with_reducible exact laws_heldPuzzle.mono _ _ _ _)
   | (with_reducible exact laws_markPuzzle.mono _ _ _ _)
   | (with_reducible exact laws_toPuzzle.mono _ _ _)
   | (with_reducible exact spec_TurnPuzzle.mono _ _ _)
   | (with_reducible exact LeO.refl _)
   | (with_reducible exact LeO.none _)
   | (with_reducible refine LeO.ite ?_ ?_)
   | (with_reducible refine LeO.bind ?_ (fun _ => ?_))
   | exact ih0 _ _ _ _ _ _ _ _ _ _ _
   | exact ih1 _ _ _ _ _ _ _ _
   | exact ih2 _ _ _ _
   | exact impl_TurnPuzzle.mono _ _ _
   | exact laws_eqPuzzle.mono _ _ _ _ _
   | exact laws_heldPuzzle.mono _ _ _ _
   | exact laws_markPuzzle.mono _ _ _ _
   | exact laws_toPuzzle.mono _ _ _
   | exact spec_TurnPuzzle.mono _ _ _
   | exact LeO.none _
   | refine LeO.ite ?_ ?_
   | refine LeO.bind ?_ (fun _ => ?_)
set_option maxHeartbeats 8000000 in
set_option maxRecDepth 100000 in
theorem laws_FnExactTurnPuzzle.calls (k : Nat) (A0_0 : Option Addr) (c0_0 : Nat) (l0_0 : List (S131)) (A0_1 : Option Addr) (c0_1 : Nat) (l0_1 : List Int) (r : Bool) (w : World) (hr0_0 : Kd.C k131 w A0_0 l0_0.length l0_0) (hc0_0 : l0_0.length ≤ c0_0) (hr0_1 : Kd.C (Kd.int .i64) w A0_1 l0_1.length l0_1) (hc0_1 : l0_1.length ≤ c0_1) (h : laws_FnExactTurnPuzzle.f k l0_0 l0_1 = some r) :
  Calls Try.prog 8 #[.agg #[.slice A0_0 l0_0.length c0_0, .slice A0_1 l0_1.length c0_1]] w fun e w' => e = .returned (.bool r) ∧ Below w.heap.size w w' := by
 have hu51 := Try.underlying51
 have hu54 := Try.underlying54
 have HR0_0 := Aside0.mk hr0_0
 have HC0_0 := Aside0.mk hc0_0
 clear hr0_0 hc0_0
 have HR0_1 := Aside0.mk hr0_1
 have HC0_1 := Aside0.mk hc0_1
 clear hr0_1 hc0_1
 have HB := Aside0.mk (Below.refl w.heap.size w)
 have H : ((laws_szPuzzle.f l0_0 l0_1 1048576).bind fun t244 => (if t244 < 0 then (some true) else ((laws_toPuzzle.f k l0_0 l0_1).bind fun bt245 => ((spec_TurnPuzzle.f k bt245.1 bt245.2).bind fun bt251 => ((laws_toPuzzle.f k l0_0 l0_1).bind fun bt259 => ((impl_TurnPuzzle.f k bt259.1 bt259.2).bind fun bt266 => ((laws_eqPuzzle.f k bt266.1 bt266.2.1 bt251.1 bt251.2.1).bind fun t274 => (if t274 = true then (laws_FnExactTurnPuzzle.j0 k bt251.2.2 bt266.2.2 (bt266.2.2 != bt251.2.2) l0_0 l0_1 bt251.1 bt251.2.1 bt259.1 bt259.2 bt266.1 bt266.2.1) else (laws_FnExactTurnPuzzle.j0 k bt251.2.2 bt266.2.2 true l0_0 l0_1 bt251.1 bt251.2.1 bt259.1 bt259.2 bt266.1 bt266.2.1))))))))) = some r := h
 clear h
 replace H := Option.bind_eq_some_iff.mp H
 obtain ⟨t244, A20, H⟩ := H
 replace H : (if t244 < 0 then (some true) else ((laws_toPuzzle.f k l0_0 l0_1).bind fun bt245 => ((spec_TurnPuzzle.f k bt245.1 bt245.2).bind fun bt251 => ((laws_toPuzzle.f k l0_0 l0_1).bind fun bt259 => ((impl_TurnPuzzle.f k bt259.1 bt259.2).bind fun bt266 => ((laws_eqPuzzle.f k bt266.1 bt266.2.1 bt251.1 bt251.2.1).bind fun t274 => (if t274 = true then (laws_FnExactTurnPuzzle.j0 k bt251.2.2 bt266.2.2 (bt266.2.2 != bt251.2.2) l0_0 l0_1 bt251.1 bt251.2.1 bt259.1 bt259.2 bt266.1 bt266.2.1) else (laws_FnExactTurnPuzzle.j0 k bt251.2.2 bt266.2.2 true l0_0 l0_1 bt251.1 bt251.2.1 bt259.1 bt259.2 bt266.1 bt266.2.1)))))))) = some r := H
 have A2 := Aside0.mk A20
 clear A20
 by_cases c3 : t244 < 0
 ·rw [if_pos c3] at H
  have c3b0 : decide (t244 < 0) = true := decide_eq_true c3
  clear c3
  obtain rfl := Option.some.inj H
  go_enter Try.func8, Try.ntmps8
  go_wp2_with (first | ((with_reducible refine gate_dst (N := 1) rfl ?_); refine box_event ?hg (N := 1) ?hd (cs := #[.slice A0_0 l0_0.length c0_0, .slice A0_1 l0_1.length c0_1]) (t := 51) ?hr ?_; (case hd => rfl); (case hg => rfl); (case hr => first | (go_simp; done) | (go_simp; rfl)); intro gb243 hg w4 hbox hb; have BK243 := Aside0.mk (hbox); have GW243 := Aside0.mk ((by rw [hg]; exact (below_size (by repeat (first | (with_reducible first | exact HB.out | apply below_alloc | apply pw_below_drewN | apply below_drew1) | exact HB.out))) : w.heap.size ≤ gb243)); have GE243 := Aside0.mk ((by rw [hg]; exact (below_size (by repeat (first | (with_reducible first | exact HB.out | apply below_alloc | apply pw_below_drewN | apply below_drew1) | exact HB.out))) : w.heap.size ≤ gb243)); replace HB := Aside0.mk (below_step (by repeat (first | (with_reducible first | exact HB.out | apply below_alloc | apply pw_below_drewN | apply below_drew1) | exact HB.out)) hb); clear hb hbox hg; have hcz5_0 : w4.cell? ⟨gb243, 0, none⟩ = some (.slice A0_0 l0_0.length c0_0) := (blk_cell BK243.out 0).trans rfl; have hcz5_1 : w4.cell? ⟨gb243, 1, none⟩ = some (.slice A0_1 l0_1.length c0_1) := (blk_cell BK243.out 1).trans rfl; have hfz5_0 := blk_frozen BK243.out 0; have hfz5_1 := blk_frozen BK243.out 1) | ((with_reducible refine gate_callee (f := 37) rfl ?_); refine goesL_ (some 16) rfl rfl Try.func37 (by kernel_rfl) rfl #[.agg #[.slice A0_0 l0_0.length c0_0, .slice A0_1 l0_1.length c0_1], .int .i64 1048576] rfl (by (try simp only [List.map_toArray, List.map_cons, List.map_nil]); first | done | rfl | (simp only [List.length_drop, List.length_take]; rfl)) ?_; (with_reducible refine (laws_szPuzzle.calls _ _ l0_0 _ _ l0_1 1048576 t244 _ ?side1 ?side2 ?side3 ?side4 A2.out).mono ?_); (case side1 => repeat (first | exact (Kd.C_below HR0_0.out HB.out) | (with_reducible refine Kd.C_alloc ?_ _) | (with_reducible refine Kd.C_drewN ?_ _) | (with_reducible refine Kd.C_drew ?_))); (case side2 => exact HC0_0.out); (case side3 => repeat (first | exact (Kd.C_below HR0_1.out HB.out) | (with_reducible refine Kd.C_alloc ?_ _) | (with_reducible refine Kd.C_drewN ?_ _) | (with_reducible refine Kd.C_drew ?_))); (case side4 => exact HC0_1.out); rintro e w6 ⟨rfl, hb⟩; refine ⟨_, rfl, ?_⟩; replace BK243 := Aside0.mk (blk_below (g := gb243) (o := .cells #[.slice A0_0 l0_0.length c0_0, .slice A0_1 l0_1.length c0_1] 51 (0, 0)) (by (with_reducible repeat (first | refine blk_drewN ?_ _ | refine blk_drew ?_ | refine blk_alloc ?_ _)); exact BK243.out) hb); replace HB := Aside0.mk (below_step (by repeat (first | (with_reducible first | exact HB.out | apply below_alloc | apply pw_below_drewN | apply below_drew1 | refine below_set ?_ GE243.out) | exact HB.out)) hb); (try clear hb); (try clear hb2); (try clear hk); (try clear hi)))
  go_ret
  exact ⟨by first | rfl | (simp [errW_none, errW_some] <;> rfl) | (simp [*, errW_none, errW_some] <;> rfl), by repeat (first | (with_reducible first | exact HB.out | apply below_alloc | apply pw_below_drewN | apply below_drew1 | refine below_set ?_ GE243.out) | exact HB.out)⟩
 ·rw [if_neg c3] at H
  have c3b0 : decide (t244 < 0) = false := decide_eq_false c3
  clear c3
  replace H := Option.bind_eq_some_iff.mp H
  obtain ⟨⟨t245, t248⟩, A70, H⟩ := H
  replace H : ((spec_TurnPuzzle.f k t245 t248).bind fun bt251 => ((laws_toPuzzle.f k l0_0 l0_1).bind fun bt259 => ((impl_TurnPuzzle.f k bt259.1 bt259.2).bind fun bt266 => ((laws_eqPuzzle.f k bt266.1 bt266.2.1 bt251.1 bt251.2.1).bind fun t274 => (if t274 = true then (laws_FnExactTurnPuzzle.j0 k bt251.2.2 bt266.2.2 (bt266.2.2 != bt251.2.2) l0_0 l0_1 bt251.1 bt251.2.1 bt259.1 bt259.2 bt266.1 bt266.2.1) else (laws_FnExactTurnPuzzle.j0 k bt251.2.2 bt266.2.2 true l0_0 l0_1 bt251.1 bt251.2.1 bt259.1 bt259.2 bt266.1 bt266.2.1)))))) = some r := H
  have A7 := Aside0.mk A70
  clear A70
  replace H := Option.bind_eq_some_iff.mp H
  obtain ⟨⟨t251, t254, t257⟩, A80, H⟩ := H
  replace H : ((laws_toPuzzle.f k l0_0 l0_1).bind fun bt259 => ((impl_TurnPuzzle.f k bt259.1 bt259.2).bind fun bt266 => ((laws_eqPuzzle.f k bt266.1 bt266.2.1 t251 t254).bind fun t274 => (if t274 = true then (laws_FnExactTurnPuzzle.j0 k t257 bt266.2.2 (bt266.2.2 != t257) l0_0 l0_1 t251 t254 bt259.1 bt259.2 bt266.1 bt266.2.1) else (laws_FnExactTurnPuzzle.j0 k t257 bt266.2.2 true l0_0 l0_1 t251 t254 bt259.1 bt259.2 bt266.1 bt266.2.1))))) = some r := H
  have A8 := Aside0.mk A80
  clear A80
  replace H := Option.bind_eq_some_iff.mp H
  obtain ⟨⟨t259, t262⟩, A90, H⟩ := H
  replace H : ((impl_TurnPuzzle.f k t259 t262).bind fun bt266 => ((laws_eqPuzzle.f k bt266.1 bt266.2.1 t251 t254).bind fun t274 => (if t274 = true then (laws_FnExactTurnPuzzle.j0 k t257 bt266.2.2 (bt266.2.2 != t257) l0_0 l0_1 t251 t254 t259 t262 bt266.1 bt266.2.1) else (laws_FnExactTurnPuzzle.j0 k t257 bt266.2.2 true l0_0 l0_1 t251 t254 t259 t262 bt266.1 bt266.2.1)))) = some r := H
  have A9 := Aside0.mk A90
  clear A90
  replace H := Option.bind_eq_some_iff.mp H
  obtain ⟨⟨t266, t269, t272⟩, A100, H⟩ := H
  replace H : ((laws_eqPuzzle.f k t266 t269 t251 t254).bind fun t274 => (if t274 = true then (laws_FnExactTurnPuzzle.j0 k t257 t272 (t272 != t257) l0_0 l0_1 t251 t254 t259 t262 t266 t269) else (laws_FnExactTurnPuzzle.j0 k t257 t272 true l0_0 l0_1 t251 t254 t259 t262 t266 t269))) = some r := H
  have A10 := Aside0.mk A100
  clear A100
  have HC11 := Aside0.mk H
  clear H
  go_enter Try.func8, Try.ntmps8
  go_upto_region 8 with (first | ((with_reducible refine gate_dst (N := 1) rfl ?_); refine box_event ?hg (N := 1) ?hd (cs := #[.slice A0_0 l0_0.length c0_0, .slice A0_1 l0_1.length c0_1]) (t := 51) ?hr ?_; (case hd => rfl); (case hg => rfl); (case hr => first | (go_simp; done) | (go_simp; rfl)); intro gb243 hg w12 hbox hb; have BK243 := Aside0.mk (hbox); have GW243 := Aside0.mk ((by rw [hg]; exact (below_size (by repeat (first | (with_reducible first | exact HB.out | apply below_alloc | apply pw_below_drewN | apply below_drew1) | exact HB.out))) : w.heap.size ≤ gb243)); have GE243 := Aside0.mk ((by rw [hg]; exact (below_size (by repeat (first | (with_reducible first | exact HB.out | apply below_alloc | apply pw_below_drewN | apply below_drew1) | exact HB.out))) : w.heap.size ≤ gb243)); replace HB := Aside0.mk (below_step (by repeat (first | (with_reducible first | exact HB.out | apply below_alloc | apply pw_below_drewN | apply below_drew1) | exact HB.out)) hb); clear hb hbox hg; have hcz13_0 : w12.cell? ⟨gb243, 0, none⟩ = some (.slice A0_0 l0_0.length c0_0) := (blk_cell BK243.out 0).trans rfl; have hcz13_1 : w12.cell? ⟨gb243, 1, none⟩ = some (.slice A0_1 l0_1.length c0_1) := (blk_cell BK243.out 1).trans rfl; have hfz13_0 := blk_frozen BK243.out 0; have hfz13_1 := blk_frozen BK243.out 1) | ((with_reducible refine gate_callee (f := 37) rfl ?_); refine goesL_ (some 16) rfl rfl Try.func37 (by kernel_rfl) rfl #[.agg #[.slice A0_0 l0_0.length c0_0, .slice A0_1 l0_1.length c0_1], .int .i64 1048576] rfl (by (try simp only [List.map_toArray, List.map_cons, List.map_nil]); first | done | rfl | (simp only [List.length_drop, List.length_take]; rfl)) ?_; (with_reducible refine (laws_szPuzzle.calls _ _ l0_0 _ _ l0_1 1048576 t244 _ ?side1 ?side2 ?side3 ?side4 A2.out).mono ?_); (case side1 => repeat (first | exact (Kd.C_below HR0_0.out HB.out) | (with_reducible refine Kd.C_alloc ?_ _) | (with_reducible refine Kd.C_drewN ?_ _) | (with_reducible refine Kd.C_drew ?_))); (case side2 => exact HC0_0.out); (case side3 => repeat (first | exact (Kd.C_below HR0_1.out HB.out) | (with_reducible refine Kd.C_alloc ?_ _) | (with_reducible refine Kd.C_drewN ?_ _) | (with_reducible refine Kd.C_drew ?_))); (case side4 => exact HC0_1.out); rintro e w14 ⟨rfl, hb⟩; refine ⟨_, rfl, ?_⟩; replace BK243 := Aside0.mk (blk_below (g := gb243) (o := .cells #[.slice A0_0 l0_0.length c0_0, .slice A0_1 l0_1.length c0_1] 51 (0, 0)) (by (with_reducible repeat (first | refine blk_drewN ?_ _ | refine blk_drew ?_ | refine blk_alloc ?_ _)); exact BK243.out) hb); replace HB := Aside0.mk (below_step (by repeat (first | (with_reducible first | exact HB.out | apply below_alloc | apply pw_below_drewN | apply below_drew1 | refine below_set ?_ GE243.out) | exact HB.out)) hb); (try clear hb); (try clear hb2); (try clear hk); (try clear hi); have hcz15_0 : w14.cell? ⟨gb243, 0, none⟩ = some (.slice A0_0 l0_0.length c0_0) := (blk_cell BK243.out 0).trans rfl; have hcz15_1 : w14.cell? ⟨gb243, 1, none⟩ = some (.slice A0_1 l0_1.length c0_1) := (blk_cell BK243.out 1).trans rfl; have hfz15_0 := blk_frozen BK243.out 0; have hfz15_1 := blk_frozen BK243.out 1) | ((with_reducible refine gate_callee (f := 39) rfl ?_); refine goesL_ (some 21) rfl rfl Try.func39 (by kernel_rfl) rfl #[.agg #[.slice A0_0 l0_0.length c0_0, .slice A0_1 l0_1.length c0_1]] rfl (by (try simp only [List.map_toArray, List.map_cons, List.map_nil]); first | done | rfl | (simp only [List.length_drop, List.length_take]; rfl)) ?_; (with_reducible refine (laws_toPuzzle.calls k _ _ l0_0 _ _ l0_1 t245 t248 _ ?side1 ?side2 ?side3 ?side4 A7.out).mono ?_); (case side1 => repeat (first | exact (Kd.C_below HR0_0.out HB.out) | (with_reducible refine Kd.C_alloc ?_ _) | (with_reducible refine Kd.C_drewN ?_ _) | (with_reducible refine Kd.C_drew ?_))); (case side2 => exact HC0_0.out); (case side3 => repeat (first | exact (Kd.C_below HR0_1.out HB.out) | (with_reducible refine Kd.C_alloc ?_ _) | (with_reducible refine Kd.C_drewN ?_ _) | (with_reducible refine Kd.C_drew ?_))); (case side4 => exact HC0_1.out); rintro e w16 ⟨v246, v249, rfl, ho0, ho1, hb⟩; refine ⟨_, rfl, ?_⟩; have HO247 := Aside0.mk (Kd.R_lower ho0 (below_size (by repeat (first | (with_reducible first | exact HB.out | apply below_alloc | apply pw_below_drewN | apply below_drew1 | refine below_set ?_ GE243.out) | exact HB.out)))); have HO250 := Aside0.mk (Kd.R_lower ho1 (below_size (by repeat (first | (with_reducible first | exact HB.out | apply below_alloc | apply pw_below_drewN | apply below_drew1 | refine below_set ?_ GE243.out) | exact HB.out)))); replace BK243 := Aside0.mk (blk_below (g := gb243) (o := .cells #[.slice A0_0 l0_0.length c0_0, .slice A0_1 l0_1.length c0_1] 51 (0, 0)) (by (with_reducible repeat (first | refine blk_drewN ?_ _ | refine blk_drew ?_ | refine blk_alloc ?_ _)); exact BK243.out) hb); replace HB := Aside0.mk (below_step (by repeat (first | (with_reducible first | exact HB.out | apply below_alloc | apply pw_below_drewN | apply below_drew1 | refine below_set ?_ GE243.out) | exact HB.out)) hb); (try clear hb); (try clear hb2); (try clear hk); (try clear hi); (try clear ho0); (try clear ho1); obtain ⟨Ao17, co17, eo17⟩ := Kd.R_slice HO247.out; subst eo17; obtain ⟨Ao18, co18, eo18⟩ := Kd.R_slice HO250.out; subst eo18) | ((with_reducible refine gate_callee (f := 68) rfl ?_); refine goesL_ (some 22) rfl rfl Try.func68 (by kernel_rfl) rfl #[.agg #[.slice Ao17 t245.length co17, .slice Ao18 t248.length co18]] rfl (by (try simp only [List.map_toArray, List.map_cons, List.map_nil]); first | done | rfl | (simp only [List.length_drop, List.length_take]; rfl)) ?_; (with_reducible refine (spec_TurnPuzzle.calls k _ _ t245 _ _ t248 t251 t254 t257 _ ?side1 ?side2 ?side3 ?side4 A8.out).mono ?_); (case side1 => repeat (first | exact (Kd.R_reads' HO247.out).2.2 | (with_reducible refine Kd.C_alloc ?_ _) | (with_reducible refine Kd.C_drewN ?_ _) | (with_reducible refine Kd.C_drew ?_))); (case side2 => exact (Kd.R_reads' HO247.out).2.1); (case side3 => repeat (first | exact (Kd.R_reads' HO250.out).2.2 | (with_reducible refine Kd.C_alloc ?_ _) | (with_reducible refine Kd.C_drewN ?_ _) | (with_reducible refine Kd.C_drew ?_))); (case side4 => exact (Kd.R_reads' HO250.out).2.1); rintro e w19 ⟨v252, v255, rfl, ho0, ho1, hb⟩; refine ⟨_, rfl, ?_⟩; have HO253 := Aside0.mk (Kd.R_lower (Kd.R_new' ho0 (Kd.R_lt (by (with_reducible repeat (first | apply Kd.R_alloc | apply Kd.R_drewN | apply Kd.R_drew)); exact HO247.out))) (below_size (by repeat (first | (with_reducible first | exact HB.out | apply below_alloc | apply pw_below_drewN | apply below_drew1 | refine below_set ?_ GE243.out) | exact HB.out)))); replace HO247 := Aside0.mk (Kd.R_elder' (by (with_reducible repeat (first | apply Kd.R_alloc | apply Kd.R_drewN | apply Kd.R_drew)); exact HO247.out) (Kd.R_base ho0) hb); have HO256 := Aside0.mk (Kd.R_lower (Kd.R_new' ho1 (Kd.R_lt (by (with_reducible repeat (first | apply Kd.R_alloc | apply Kd.R_drewN | apply Kd.R_drew)); exact HO250.out))) (below_size (by repeat (first | (with_reducible first | exact HB.out | apply below_alloc | apply pw_below_drewN | apply below_drew1 | refine below_set ?_ GE243.out) | exact HB.out)))); replace HO250 := Aside0.mk (Kd.R_elder' (by (with_reducible repeat (first | apply Kd.R_alloc | apply Kd.R_drewN | apply Kd.R_drew)); exact HO250.out) (Kd.R_base ho1) hb); replace BK243 := Aside0.mk (blk_below (g := gb243) (o := .cells #[.slice A0_0 l0_0.length c0_0, .slice A0_1 l0_1.length c0_1] 51 (0, 0)) (by (with_reducible repeat (first | refine blk_drewN ?_ _ | refine blk_drew ?_ | refine blk_alloc ?_ _)); exact BK243.out) hb); replace HB := Aside0.mk (below_step (by repeat (first | (with_reducible first | exact HB.out | apply below_alloc | apply pw_below_drewN | apply below_drew1 | refine below_set ?_ GE243.out) | exact HB.out)) hb); (try clear hb); (try clear hb2); (try clear hk); (try clear hi); (try clear ho0); (try clear ho1)) | ((with_reducible refine gate_dst (N := 4) rfl ?_); refine box_event ?hg (N := 4) ?hd (cs := #[.slice none 0 0, .slice none 0 0]) (t := 54) ?hr ?_; (case hd => rfl); (case hg => rfl); (case hr => first | (go_simp; done) | (go_simp; rfl)); intro gb258 hg w20 hbox hb; replace HO247 := Aside0.mk (Kd.R_below (by (with_reducible repeat (first | apply Kd.R_alloc | apply Kd.R_drewN | apply Kd.R_drew)); exact HO247.out) hb); replace HO250 := Aside0.mk (Kd.R_below (by (with_reducible repeat (first | apply Kd.R_alloc | apply Kd.R_drewN | apply Kd.R_drew)); exact HO250.out) hb); replace HO253 := Aside0.mk (Kd.R_below (by (with_reducible repeat (first | apply Kd.R_alloc | apply Kd.R_drewN | apply Kd.R_drew)); exact HO253.out) hb); replace HO256 := Aside0.mk (Kd.R_below (by (with_reducible repeat (first | apply Kd.R_alloc | apply Kd.R_drewN | apply Kd.R_drew)); exact HO256.out) hb); have BK258 := Aside0.mk (hbox); have GW258 := Aside0.mk ((by rw [hg]; exact (below_size (by repeat (first | (with_reducible first | exact HB.out | apply below_alloc | apply pw_below_drewN | apply below_drew1 | refine below_set ?_ GE243.out) | exact HB.out))) : w.heap.size ≤ gb258)); have GE258 := Aside0.mk ((by rw [hg]; exact (below_size (by repeat (first | (with_reducible first | exact HB.out | apply below_alloc | apply pw_below_drewN | apply below_drew1 | refine below_set ?_ GE243.out) | exact HB.out))) : w.heap.size ≤ gb258)); replace HB := Aside0.mk (below_step (by repeat (first | (with_reducible first | exact HB.out | apply below_alloc | apply pw_below_drewN | apply below_drew1 | refine below_set ?_ GE243.out) | exact HB.out)) hb); have NB243_258 := Aside0.mk ((by rw [hg]; exact Nat.ne_of_lt (blk_lt (g := gb243) (o := .cells #[.slice A0_0 l0_0.length c0_0, .slice A0_1 l0_1.length c0_1] 51 (0, 0)) (by (with_reducible repeat (first | refine blk_drewN ?_ _ | refine blk_drew ?_ | refine blk_alloc ?_ _)); exact BK243.out)) : gb243 ≠ gb258)); have NB258_243 := Aside0.mk ((by rw [hg]; exact Nat.ne_of_gt (blk_lt (g := gb243) (o := .cells #[.slice A0_0 l0_0.length c0_0, .slice A0_1 l0_1.length c0_1] 51 (0, 0)) (by (with_reducible repeat (first | refine blk_drewN ?_ _ | refine blk_drew ?_ | refine blk_alloc ?_ _)); exact BK243.out)) : gb258 ≠ gb243)); replace BK243 := Aside0.mk (blk_below (g := gb243) (o := .cells #[.slice A0_0 l0_0.length c0_0, .slice A0_1 l0_1.length c0_1] 51 (0, 0)) (by (with_reducible repeat (first | refine blk_drewN ?_ _ | refine blk_drew ?_ | refine blk_alloc ?_ _)); exact BK243.out) hb); clear hb hbox hg; obtain ⟨Ao21, co21, eo21⟩ := Kd.R_slice HO253.out; subst eo21; have hnb22 := NB258_243.out; have hnc22 := NB243_258.out; have hcz23_0 : w20.cell? ⟨gb258, 0, none⟩ = some (.slice none 0 0) := (blk_cell BK258.out 0).trans rfl; have hcz23_1 : w20.cell? ⟨gb258, 1, none⟩ = some (.slice none 0 0) := (blk_cell BK258.out 1).trans rfl; have hfz23_0 := blk_frozen BK258.out 0; have hfz23_1 := blk_frozen BK258.out 1; obtain ⟨Ao24, co24, eo24⟩ := Kd.R_slice HO256.out; subst eo24; have hcz25_0 : w20.cell? ⟨gb243, 0, none⟩ = some (.slice A0_0 l0_0.length c0_0) := (blk_cell BK243.out 0).trans rfl; have hcz25_1 : w20.cell? ⟨gb243, 1, none⟩ = some (.slice A0_1 l0_1.length c0_1) := (blk_cell BK243.out 1).trans rfl; have hfz25_0 := blk_frozen BK243.out 0; have hfz25_1 := blk_frozen BK243.out 1) | ((with_reducible refine gate_callee (f := 39) rfl ?_); refine goesL_ (some 26) rfl rfl Try.func39 (by kernel_rfl) rfl #[.agg #[.slice A0_0 l0_0.length c0_0, .slice A0_1 l0_1.length c0_1]] rfl (by (try simp only [List.map_toArray, List.map_cons, List.map_nil]); first | done | rfl | (simp only [List.length_drop, List.length_take]; rfl)) ?_; (with_reducible refine (laws_toPuzzle.calls k _ _ l0_0 _ _ l0_1 t259 t262 _ ?side1 ?side2 ?side3 ?side4 A9.out).mono ?_); (case side1 => exact Kd.C_below HR0_0.out (by repeat (first | (with_reducible first | exact HB.out | apply below_alloc | apply pw_below_drewN | apply below_drew1 | refine below_set ?_ GE243.out | refine below_set ?_ GE258.out) | exact HB.out))); (case side2 => exact HC0_0.out); (case side3 => exact Kd.C_below HR0_1.out (by repeat (first | (with_reducible first | exact HB.out | apply below_alloc | apply pw_below_drewN | apply below_drew1 | refine below_set ?_ GE243.out | refine below_set ?_ GE258.out) | exact HB.out))); (case side4 => exact HC0_1.out); rintro e w26 ⟨v260, v263, rfl, ho0, ho1, hb⟩; refine ⟨_, rfl, ?_⟩; have HO261 := Aside0.mk (Kd.R_lower (Kd.R_new' (Kd.R_new' ho0 (Kd.R_lt (by (with_reducible repeat (first | apply Kd.R_alloc | apply Kd.R_drewN | apply Kd.R_drew)); exact (Kd.R_mono (Kd.R_far (p := ⟨gb258, 1, none⟩) (Kd.R_far (p := ⟨gb258, 0, none⟩) (Kd.R_types HO247.out BK258.out (by decide)) (fun _ hk => hk.2) (.slice Ao21 t251.length co21)) (fun _ hk => hk.2) (.slice Ao24 t254.length co24)) (fun _ h_ => h_.1))))) (Kd.R_lt (by (with_reducible repeat (first | apply Kd.R_alloc | apply Kd.R_drewN | apply Kd.R_drew)); exact (Kd.R_mono (Kd.R_far (p := ⟨gb258, 1, none⟩) (Kd.R_far (p := ⟨gb258, 0, none⟩) (Kd.R_types HO253.out BK258.out (by decide)) (fun _ hk => hk.2) (.slice Ao21 t251.length co21)) (fun _ hk => hk.2) (.slice Ao24 t254.length co24)) (fun _ h_ => h_.1))))) (below_size (by repeat (first | (with_reducible first | exact HB.out | apply below_alloc | apply pw_below_drewN | apply below_drew1 | refine below_set ?_ GE243.out | refine below_set ?_ GE258.out) | exact HB.out)))); replace HO247 := Aside0.mk (Kd.R_elder' (by (with_reducible repeat (first | apply Kd.R_alloc | apply Kd.R_drewN | apply Kd.R_drew)); exact (Kd.R_mono (Kd.R_far (p := ⟨gb258, 1, none⟩) (Kd.R_far (p := ⟨gb258, 0, none⟩) (Kd.R_types HO247.out BK258.out (by decide)) (fun _ hk => hk.2) (.slice Ao21 t251.length co21)) (fun _ hk => hk.2) (.slice Ao24 t254.length co24)) (fun _ h_ => h_.1))) (Kd.R_base ho0) hb); replace HO253 := Aside0.mk (Kd.R_elder' (by (with_reducible repeat (first | apply Kd.R_alloc | apply Kd.R_drewN | apply Kd.R_drew)); exact (Kd.R_mono (Kd.R_far (p := ⟨gb258, 1, none⟩) (Kd.R_far (p := ⟨gb258, 0, none⟩) (Kd.R_types HO253.out BK258.out (by decide)) (fun _ hk => hk.2) (.slice Ao21 t251.length co21)) (fun _ hk => hk.2) (.slice Ao24 t254.length co24)) (fun _ h_ => h_.1))) (Kd.R_base ho0) hb); have HO264 := Aside0.mk (Kd.R_lower (Kd.R_new' (Kd.R_new' ho1 (Kd.R_lt (by (with_reducible repeat (first | apply Kd.R_alloc | apply Kd.R_drewN | apply Kd.R_drew)); exact (Kd.R_mono (Kd.R_far (p := ⟨gb258, 1, none⟩) (Kd.R_far (p := ⟨gb258, 0, none⟩) (Kd.R_types HO250.out BK258.out (by decide)) (fun _ hk => hk.2) (.slice Ao21 t251.length co21)) (fun _ hk => hk.2) (.slice Ao24 t254.length co24)) (fun _ h_ => h_.1))))) (Kd.R_lt (by (with_reducible repeat (first | apply Kd.R_alloc | apply Kd.R_drewN | apply Kd.R_drew)); exact (Kd.R_mono (Kd.R_far (p := ⟨gb258, 1, none⟩) (Kd.R_far (p := ⟨gb258, 0, none⟩) (Kd.R_types HO256.out BK258.out (by decide)) (fun _ hk => hk.2) (.slice Ao21 t251.length co21)) (fun _ hk => hk.2) (.slice Ao24 t254.length co24)) (fun _ h_ => h_.1))))) (below_size (by repeat (first | (with_reducible first | exact HB.out | apply below_alloc | apply pw_below_drewN | apply below_drew1 | refine below_set ?_ GE243.out | refine below_set ?_ GE258.out) | exact HB.out)))); replace HO250 := Aside0.mk (Kd.R_elder' (by (with_reducible repeat (first | apply Kd.R_alloc | apply Kd.R_drewN | apply Kd.R_drew)); exact (Kd.R_mono (Kd.R_far (p := ⟨gb258, 1, none⟩) (Kd.R_far (p := ⟨gb258, 0, none⟩) (Kd.R_types HO250.out BK258.out (by decide)) (fun _ hk => hk.2) (.slice Ao21 t251.length co21)) (fun _ hk => hk.2) (.slice Ao24 t254.length co24)) (fun _ h_ => h_.1))) (Kd.R_base ho1) hb); replace HO256 := Aside0.mk (Kd.R_elder' (by (with_reducible repeat (first | apply Kd.R_alloc | apply Kd.R_drewN | apply Kd.R_drew)); exact (Kd.R_mono (Kd.R_far (p := ⟨gb258, 1, none⟩) (Kd.R_far (p := ⟨gb258, 0, none⟩) (Kd.R_types HO256.out BK258.out (by decide)) (fun _ hk => hk.2) (.slice Ao21 t251.length co21)) (fun _ hk => hk.2) (.slice Ao24 t254.length co24)) (fun _ h_ => h_.1))) (Kd.R_base ho1) hb); replace BK243 := Aside0.mk (blk_below (g := gb243) (o := .cells #[.slice A0_0 l0_0.length c0_0, .slice A0_1 l0_1.length c0_1] 51 (0, 0)) (by (with_reducible repeat (first | refine blk_drewN ?_ _ | refine blk_drew ?_ | refine blk_alloc ?_ _)); refine blk_far ?_ NB243_258.out _; (with_reducible repeat (first | refine blk_drewN ?_ _ | refine blk_drew ?_ | refine blk_alloc ?_ _)); refine blk_far ?_ NB243_258.out _; (with_reducible repeat (first | refine blk_drewN ?_ _ | refine blk_drew ?_ | refine blk_alloc ?_ _)); exact BK243.out) hb); replace BK258 := Aside0.mk (blk_below (g := gb258) (o := .cells #[.slice Ao21 t251.length co21, .slice Ao24 t254.length co24] 54 (0, 0)) (by (with_reducible repeat (first | refine blk_drewN ?_ _ | refine blk_drew ?_ | refine blk_alloc ?_ _)); refine blk_put (cs := #[.slice Ao21 t251.length co21, .slice none 0 0]) ?_ 1 _ rfl; (with_reducible repeat (first | refine blk_drewN ?_ _ | refine blk_drew ?_ | refine blk_alloc ?_ _)); refine blk_put (cs := #[.slice none 0 0, .slice none 0 0]) ?_ 0 _ rfl; (with_reducible repeat (first | refine blk_drewN ?_ _ | refine blk_drew ?_ | refine blk_alloc ?_ _)); exact BK258.out) hb); replace HB := Aside0.mk (below_step (by repeat (first | (with_reducible first | exact HB.out | apply below_alloc | apply pw_below_drewN | apply below_drew1 | refine below_set ?_ GE243.out | refine below_set ?_ GE258.out) | exact HB.out)) hb); (try clear hb); (try clear hb2); (try clear hk); (try clear hi); (try clear ho0); (try clear ho1)) | ((with_reducible refine gate_dst (N := 6) rfl ?_); refine box_event ?hg (N := 6) ?hd (cs := #[.slice none 0 0, .slice none 0 0]) (t := 54) ?hr ?_; (case hd => rfl); (case hg => rfl); (case hr => first | (go_simp; done) | (go_simp; rfl)); intro gb265 hg w27 hbox hb; replace HO247 := Aside0.mk (Kd.R_below (by (with_reducible repeat (first | apply Kd.R_alloc | apply Kd.R_drewN | apply Kd.R_drew)); exact HO247.out) hb); replace HO250 := Aside0.mk (Kd.R_below (by (with_reducible repeat (first | apply Kd.R_alloc | apply Kd.R_drewN | apply Kd.R_drew)); exact HO250.out) hb); replace HO253 := Aside0.mk (Kd.R_below (by (with_reducible repeat (first | apply Kd.R_alloc | apply Kd.R_drewN | apply Kd.R_drew)); exact HO253.out) hb); replace HO256 := Aside0.mk (Kd.R_below (by (with_reducible repeat (first | apply Kd.R_alloc | apply Kd.R_drewN | apply Kd.R_drew)); exact HO256.out) hb); replace HO261 := Aside0.mk (Kd.R_below (by (with_reducible repeat (first | apply Kd.R_alloc | apply Kd.R_drewN | apply Kd.R_drew)); exact HO261.out) hb); replace HO264 := Aside0.mk (Kd.R_below (by (with_reducible repeat (first | apply Kd.R_alloc | apply Kd.R_drewN | apply Kd.R_drew)); exact HO264.out) hb); have BK265 := Aside0.mk (hbox); have GW265 := Aside0.mk ((by rw [hg]; exact (below_size (by repeat (first | (with_reducible first | exact HB.out | apply below_alloc | apply pw_below_drewN | apply below_drew1 | refine below_set ?_ GE243.out | refine below_set ?_ GE258.out) | exact HB.out))) : w.heap.size ≤ gb265)); have GE265 := Aside0.mk ((by rw [hg]; exact (below_size (by repeat (first | (with_reducible first | exact HB.out | apply below_alloc | apply pw_below_drewN | apply below_drew1 | refine below_set ?_ GE243.out | refine below_set ?_ GE258.out) | exact HB.out))) : w.heap.size ≤ gb265)); replace HB := Aside0.mk (below_step (by repeat (first | (with_reducible first | exact HB.out | apply below_alloc | apply pw_below_drewN | apply below_drew1 | refine below_set ?_ GE243.out | refine below_set ?_ GE258.out) | exact HB.out)) hb); have NB243_265 := Aside0.mk ((by rw [hg]; exact Nat.ne_of_lt (blk_lt (g := gb243) (o := .cells #[.slice A0_0 l0_0.length c0_0, .slice A0_1 l0_1.length c0_1] 51 (0, 0)) (by (with_reducible repeat (first | refine blk_drewN ?_ _ | refine blk_drew ?_ | refine blk_alloc ?_ _)); exact BK243.out)) : gb243 ≠ gb265)); have NB265_243 := Aside0.mk ((by rw [hg]; exact Nat.ne_of_gt (blk_lt (g := gb243) (o := .cells #[.slice A0_0 l0_0.length c0_0, .slice A0_1 l0_1.length c0_1] 51 (0, 0)) (by (with_reducible repeat (first | refine blk_drewN ?_ _ | refine blk_drew ?_ | refine blk_alloc ?_ _)); exact BK243.out)) : gb265 ≠ gb243)); replace BK243 := Aside0.mk (blk_below (g := gb243) (o := .cells #[.slice A0_0 l0_0.length c0_0, .slice A0_1 l0_1.length c0_1] 51 (0, 0)) (by (with_reducible repeat (first | refine blk_drewN ?_ _ | refine blk_drew ?_ | refine blk_alloc ?_ _)); exact BK243.out) hb); have NB258_265 := Aside0.mk ((by rw [hg]; exact Nat.ne_of_lt (blk_lt (g := gb258) (o := .cells #[.slice Ao21 t251.length co21, .slice Ao24 t254.length co24] 54 (0, 0)) (by (with_reducible repeat (first | refine blk_drewN ?_ _ | refine blk_drew ?_ | refine blk_alloc ?_ _)); exact BK258.out)) : gb258 ≠ gb265)); have NB265_258 := Aside0.mk ((by rw [hg]; exact Nat.ne_of_gt (blk_lt (g := gb258) (o := .cells #[.slice Ao21 t251.length co21, .slice Ao24 t254.length co24] 54 (0, 0)) (by (with_reducible repeat (first | refine blk_drewN ?_ _ | refine blk_drew ?_ | refine blk_alloc ?_ _)); exact BK258.out)) : gb265 ≠ gb258)); replace BK258 := Aside0.mk (blk_below (g := gb258) (o := .cells #[.slice Ao21 t251.length co21, .slice Ao24 t254.length co24] 54 (0, 0)) (by (with_reducible repeat (first | refine blk_drewN ?_ _ | refine blk_drew ?_ | refine blk_alloc ?_ _)); exact BK258.out) hb); clear hb hbox hg; obtain ⟨Ao28, co28, eo28⟩ := Kd.R_slice HO261.out; subst eo28; have hnb29 := NB265_243.out; have hnc29 := NB243_265.out; have hnb30 := NB265_258.out; have hnc30 := NB258_265.out; have hcz31_0 : w27.cell? ⟨gb265, 0, none⟩ = some (.slice none 0 0) := (blk_cell BK265.out 0).trans rfl; have hcz31_1 : w27.cell? ⟨gb265, 1, none⟩ = some (.slice none 0 0) := (blk_cell BK265.out 1).trans rfl; have hfz31_0 := blk_frozen BK265.out 0; have hfz31_1 := blk_frozen BK265.out 1; obtain ⟨Ao32, co32, eo32⟩ := Kd.R_slice HO264.out; subst eo32) | ((with_reducible refine gate_callee (f := 69) rfl ?_); refine goesL_ (some 29) rfl rfl Try.func69 (by kernel_rfl) rfl #[.agg #[.slice Ao28 t259.length co28, .slice Ao32 t262.length co32]] rfl (by (try simp only [List.map_toArray, List.map_cons, List.map_nil]); first | done | rfl | (simp only [List.length_drop, List.length_take]; rfl)) ?_; (with_reducible refine (impl_TurnPuzzle.calls k _ _ t259 _ _ t262 t266 t269 t272 _ ?side1 ?side2 ?side3 ?side4 A10.out).mono ?_); (case side1 => refine (Kd.R_reads' (e := 25) (base := w.heap.size) (ok := fun k_ => ((True ∧ some k_ ≠ (.slice Ao17 t245.length co17 : Value).ownBlock) ∧ some k_ ≠ (.slice Ao21 t251.length co21 : Value).ownBlock)) (n := t259.length) (c := co28) ?_).2.2; exact (by (with_reducible repeat (first | apply Kd.R_alloc | apply Kd.R_drewN | apply Kd.R_drew)); exact (Kd.R_mono (Kd.R_far (p := ⟨gb265, 1, none⟩) (Kd.R_far (p := ⟨gb265, 0, none⟩) (Kd.R_types HO261.out BK265.out (by decide)) (fun _ hk => hk.2) (.slice Ao28 t259.length co28)) (fun _ hk => hk.2) (.slice Ao32 t262.length co32)) (fun _ h_ => h_.1)))); (case side2 => exact (Kd.R_reads' HO261.out).2.1); (case side3 => refine (Kd.R_reads' (e := 3) (base := w.heap.size) (ok := fun k_ => ((True ∧ some k_ ≠ (.slice Ao18 t248.length co18 : Value).ownBlock) ∧ some k_ ≠ (.slice Ao24 t254.length co24 : Value).ownBlock)) (n := t262.length) (c := co32) ?_).2.2; exact (by (with_reducible repeat (first | apply Kd.R_alloc | apply Kd.R_drewN | apply Kd.R_drew)); exact (Kd.R_mono (Kd.R_far (p := ⟨gb265, 1, none⟩) (Kd.R_far (p := ⟨gb265, 0, none⟩) (Kd.R_types HO264.out BK265.out (by decide)) (fun _ hk => hk.2) (.slice Ao28 t259.length co28)) (fun _ hk => hk.2) (.slice Ao32 t262.length co32)) (fun _ h_ => h_.1)))); (case side4 => exact (Kd.R_reads' HO264.out).2.1); rintro e w33 ⟨v267, v270, rfl, ho0, ho1, hb⟩; refine ⟨_, rfl, ?_⟩; have HO268 := Aside0.mk (Kd.R_lower (Kd.R_new' (Kd.R_new' (Kd.R_new' ho0 (Kd.R_lt (by (with_reducible repeat (first | apply Kd.R_alloc | apply Kd.R_drewN | apply Kd.R_drew)); exact (Kd.R_mono (Kd.R_far (p := ⟨gb265, 1, none⟩) (Kd.R_far (p := ⟨gb265, 0, none⟩) (Kd.R_types HO247.out BK265.out (by decide)) (fun _ hk => hk.2) (.slice Ao28 t259.length co28)) (fun _ hk => hk.2) (.slice Ao32 t262.length co32)) (fun _ h_ => h_.1))))) (Kd.R_lt (by (with_reducible repeat (first | apply Kd.R_alloc | apply Kd.R_drewN | apply Kd.R_drew)); exact (Kd.R_mono (Kd.R_far (p := ⟨gb265, 1, none⟩) (Kd.R_far (p := ⟨gb265, 0, none⟩) (Kd.R_types HO253.out BK265.out (by decide)) (fun _ hk => hk.2) (.slice Ao28 t259.length co28)) (fun _ hk => hk.2) (.slice Ao32 t262.length co32)) (fun _ h_ => h_.1))))) (Kd.R_lt (by (with_reducible repeat (first | apply Kd.R_alloc | apply Kd.R_drewN | apply Kd.R_drew)); exact (Kd.R_mono (Kd.R_far (p := ⟨gb265, 1, none⟩) (Kd.R_far (p := ⟨gb265, 0, none⟩) (Kd.R_types HO261.out BK265.out (by decide)) (fun _ hk => hk.2) (.slice Ao28 t259.length co28)) (fun _ hk => hk.2) (.slice Ao32 t262.length co32)) (fun _ h_ => h_.1))))) (below_size (by repeat (first | (with_reducible first | exact HB.out | apply below_alloc | apply pw_below_drewN | apply below_drew1 | refine below_set ?_ GE243.out | refine below_set ?_ GE258.out | refine below_set ?_ GE265.out) | exact HB.out)))); replace HO247 := Aside0.mk (Kd.R_elder' (by (with_reducible repeat (first | apply Kd.R_alloc | apply Kd.R_drewN | apply Kd.R_drew)); exact (Kd.R_mono (Kd.R_far (p := ⟨gb265, 1, none⟩) (Kd.R_far (p := ⟨gb265, 0, none⟩) (Kd.R_types HO247.out BK265.out (by decide)) (fun _ hk => hk.2) (.slice Ao28 t259.length co28)) (fun _ hk => hk.2) (.slice Ao32 t262.length co32)) (fun _ h_ => h_.1))) (Kd.R_base ho0) hb); replace HO253 := Aside0.mk (Kd.R_elder' (by (with_reducible repeat (first | apply Kd.R_alloc | apply Kd.R_drewN | apply Kd.R_drew)); exact (Kd.R_mono (Kd.R_far (p := ⟨gb265, 1, none⟩) (Kd.R_far (p := ⟨gb265, 0, none⟩) (Kd.R_types HO253.out BK265.out (by decide)) (fun _ hk => hk.2) (.slice Ao28 t259.length co28)) (fun _ hk => hk.2) (.slice Ao32 t262.length co32)) (fun _ h_ => h_.1))) (Kd.R_base ho0) hb); replace HO261 := Aside0.mk (Kd.R_elder' (by (with_reducible repeat (first | apply Kd.R_alloc | apply Kd.R_drewN | apply Kd.R_drew)); exact (Kd.R_mono (Kd.R_far (p := ⟨gb265, 1, none⟩) (Kd.R_far (p := ⟨gb265, 0, none⟩) (Kd.R_types HO261.out BK265.out (by decide)) (fun _ hk => hk.2) (.slice Ao28 t259.length co28)) (fun _ hk => hk.2) (.slice Ao32 t262.length co32)) (fun _ h_ => h_.1))) (Kd.R_base ho0) hb); have HO271 := Aside0.mk (Kd.R_lower (Kd.R_new' (Kd.R_new' (Kd.R_new' ho1 (Kd.R_lt (by (with_reducible repeat (first | apply Kd.R_alloc | apply Kd.R_drewN | apply Kd.R_drew)); exact (Kd.R_mono (Kd.R_far (p := ⟨gb265, 1, none⟩) (Kd.R_far (p := ⟨gb265, 0, none⟩) (Kd.R_types HO250.out BK265.out (by decide)) (fun _ hk => hk.2) (.slice Ao28 t259.length co28)) (fun _ hk => hk.2) (.slice Ao32 t262.length co32)) (fun _ h_ => h_.1))))) (Kd.R_lt (by (with_reducible repeat (first | apply Kd.R_alloc | apply Kd.R_drewN | apply Kd.R_drew)); exact (Kd.R_mono (Kd.R_far (p := ⟨gb265, 1, none⟩) (Kd.R_far (p := ⟨gb265, 0, none⟩) (Kd.R_types HO256.out BK265.out (by decide)) (fun _ hk => hk.2) (.slice Ao28 t259.length co28)) (fun _ hk => hk.2) (.slice Ao32 t262.length co32)) (fun _ h_ => h_.1))))) (Kd.R_lt (by (with_reducible repeat (first | apply Kd.R_alloc | apply Kd.R_drewN | apply Kd.R_drew)); exact (Kd.R_mono (Kd.R_far (p := ⟨gb265, 1, none⟩) (Kd.R_far (p := ⟨gb265, 0, none⟩) (Kd.R_types HO264.out BK265.out (by decide)) (fun _ hk => hk.2) (.slice Ao28 t259.length co28)) (fun _ hk => hk.2) (.slice Ao32 t262.length co32)) (fun _ h_ => h_.1))))) (below_size (by repeat (first | (with_reducible first | exact HB.out | apply below_alloc | apply pw_below_drewN | apply below_drew1 | refine below_set ?_ GE243.out | refine below_set ?_ GE258.out | refine below_set ?_ GE265.out) | exact HB.out)))); replace HO250 := Aside0.mk (Kd.R_elder' (by (with_reducible repeat (first | apply Kd.R_alloc | apply Kd.R_drewN | apply Kd.R_drew)); exact (Kd.R_mono (Kd.R_far (p := ⟨gb265, 1, none⟩) (Kd.R_far (p := ⟨gb265, 0, none⟩) (Kd.R_types HO250.out BK265.out (by decide)) (fun _ hk => hk.2) (.slice Ao28 t259.length co28)) (fun _ hk => hk.2) (.slice Ao32 t262.length co32)) (fun _ h_ => h_.1))) (Kd.R_base ho1) hb); replace HO256 := Aside0.mk (Kd.R_elder' (by (with_reducible repeat (first | apply Kd.R_alloc | apply Kd.R_drewN | apply Kd.R_drew)); exact (Kd.R_mono (Kd.R_far (p := ⟨gb265, 1, none⟩) (Kd.R_far (p := ⟨gb265, 0, none⟩) (Kd.R_types HO256.out BK265.out (by decide)) (fun _ hk => hk.2) (.slice Ao28 t259.length co28)) (fun _ hk => hk.2) (.slice Ao32 t262.length co32)) (fun _ h_ => h_.1))) (Kd.R_base ho1) hb); replace HO264 := Aside0.mk (Kd.R_elder' (by (with_reducible repeat (first | apply Kd.R_alloc | apply Kd.R_drewN | apply Kd.R_drew)); exact (Kd.R_mono (Kd.R_far (p := ⟨gb265, 1, none⟩) (Kd.R_far (p := ⟨gb265, 0, none⟩) (Kd.R_types HO264.out BK265.out (by decide)) (fun _ hk => hk.2) (.slice Ao28 t259.length co28)) (fun _ hk => hk.2) (.slice Ao32 t262.length co32)) (fun _ h_ => h_.1))) (Kd.R_base ho1) hb); replace BK243 := Aside0.mk (blk_below (g := gb243) (o := .cells #[.slice A0_0 l0_0.length c0_0, .slice A0_1 l0_1.length c0_1] 51 (0, 0)) (by (with_reducible repeat (first | refine blk_drewN ?_ _ | refine blk_drew ?_ | refine blk_alloc ?_ _)); refine blk_far ?_ NB243_265.out _; (with_reducible repeat (first | refine blk_drewN ?_ _ | refine blk_drew ?_ | refine blk_alloc ?_ _)); refine blk_far ?_ NB243_265.out _; (with_reducible repeat (first | refine blk_drewN ?_ _ | refine blk_drew ?_ | refine blk_alloc ?_ _)); exact BK243.out) hb); replace BK258 := Aside0.mk (blk_below (g := gb258) (o := .cells #[.slice Ao21 t251.length co21, .slice Ao24 t254.length co24] 54 (0, 0)) (by (with_reducible repeat (first | refine blk_drewN ?_ _ | refine blk_drew ?_ | refine blk_alloc ?_ _)); refine blk_far ?_ NB258_265.out _; (with_reducible repeat (first | refine blk_drewN ?_ _ | refine blk_drew ?_ | refine blk_alloc ?_ _)); refine blk_far ?_ NB258_265.out _; (with_reducible repeat (first | refine blk_drewN ?_ _ | refine blk_drew ?_ | refine blk_alloc ?_ _)); exact BK258.out) hb); replace BK265 := Aside0.mk (blk_below (g := gb265) (o := .cells #[.slice Ao28 t259.length co28, .slice Ao32 t262.length co32] 54 (0, 0)) (by (with_reducible repeat (first | refine blk_drewN ?_ _ | refine blk_drew ?_ | refine blk_alloc ?_ _)); refine blk_put (cs := #[.slice Ao28 t259.length co28, .slice none 0 0]) ?_ 1 _ rfl; (with_reducible repeat (first | refine blk_drewN ?_ _ | refine blk_drew ?_ | refine blk_alloc ?_ _)); refine blk_put (cs := #[.slice none 0 0, .slice none 0 0]) ?_ 0 _ rfl; (with_reducible repeat (first | refine blk_drewN ?_ _ | refine blk_drew ?_ | refine blk_alloc ?_ _)); exact BK265.out) hb); replace HB := Aside0.mk (below_step (by repeat (first | (with_reducible first | exact HB.out | apply below_alloc | apply pw_below_drewN | apply below_drew1 | refine below_set ?_ GE243.out | refine below_set ?_ GE258.out | refine below_set ?_ GE265.out) | exact HB.out)) hb); (try clear hb); (try clear hb2); (try clear hk); (try clear hi); (try clear ho0); (try clear ho1)) | ((with_reducible refine gate_dst (N := 7) rfl ?_); refine box_event ?hg (N := 7) ?hd (cs := #[.slice none 0 0, .slice none 0 0]) (t := 54) ?hr ?_; (case hd => rfl); (case hg => rfl); (case hr => first | (go_simp; done) | (go_simp; rfl)); intro gb273 hg w34 hbox hb; replace HO247 := Aside0.mk (Kd.R_below (by (with_reducible repeat (first | apply Kd.R_alloc | apply Kd.R_drewN | apply Kd.R_drew)); exact HO247.out) hb); replace HO250 := Aside0.mk (Kd.R_below (by (with_reducible repeat (first | apply Kd.R_alloc | apply Kd.R_drewN | apply Kd.R_drew)); exact HO250.out) hb); replace HO253 := Aside0.mk (Kd.R_below (by (with_reducible repeat (first | apply Kd.R_alloc | apply Kd.R_drewN | apply Kd.R_drew)); exact HO253.out) hb); replace HO256 := Aside0.mk (Kd.R_below (by (with_reducible repeat (first | apply Kd.R_alloc | apply Kd.R_drewN | apply Kd.R_drew)); exact HO256.out) hb); replace HO261 := Aside0.mk (Kd.R_below (by (with_reducible repeat (first | apply Kd.R_alloc | apply Kd.R_drewN | apply Kd.R_drew)); exact HO261.out) hb); replace HO264 := Aside0.mk (Kd.R_below (by (with_reducible repeat (first | apply Kd.R_alloc | apply Kd.R_drewN | apply Kd.R_drew)); exact HO264.out) hb); replace HO268 := Aside0.mk (Kd.R_below (by (with_reducible repeat (first | apply Kd.R_alloc | apply Kd.R_drewN | apply Kd.R_drew)); exact HO268.out) hb); replace HO271 := Aside0.mk (Kd.R_below (by (with_reducible repeat (first | apply Kd.R_alloc | apply Kd.R_drewN | apply Kd.R_drew)); exact HO271.out) hb); have BK273 := Aside0.mk (hbox); have GW273 := Aside0.mk ((by rw [hg]; exact (below_size (by repeat (first | (with_reducible first | exact HB.out | apply below_alloc | apply pw_below_drewN | apply below_drew1 | refine below_set ?_ GE243.out | refine below_set ?_ GE258.out | refine below_set ?_ GE265.out) | exact HB.out))) : w.heap.size ≤ gb273)); have GE273 := Aside0.mk ((by rw [hg]; exact (below_size (by repeat (first | (with_reducible first | exact HB.out | apply below_alloc | apply pw_below_drewN | apply below_drew1 | refine below_set ?_ GE243.out | refine below_set ?_ GE258.out | refine below_set ?_ GE265.out) | exact HB.out))) : w.heap.size ≤ gb273)); replace HB := Aside0.mk (below_step (by repeat (first | (with_reducible first | exact HB.out | apply below_alloc | apply pw_below_drewN | apply below_drew1 | refine below_set ?_ GE243.out | refine below_set ?_ GE258.out | refine below_set ?_ GE265.out) | exact HB.out)) hb); have NB243_273 := Aside0.mk ((by rw [hg]; exact Nat.ne_of_lt (blk_lt (g := gb243) (o := .cells #[.slice A0_0 l0_0.length c0_0, .slice A0_1 l0_1.length c0_1] 51 (0, 0)) (by (with_reducible repeat (first | refine blk_drewN ?_ _ | refine blk_drew ?_ | refine blk_alloc ?_ _)); exact BK243.out)) : gb243 ≠ gb273)); have NB273_243 := Aside0.mk ((by rw [hg]; exact Nat.ne_of_gt (blk_lt (g := gb243) (o := .cells #[.slice A0_0 l0_0.length c0_0, .slice A0_1 l0_1.length c0_1] 51 (0, 0)) (by (with_reducible repeat (first | refine blk_drewN ?_ _ | refine blk_drew ?_ | refine blk_alloc ?_ _)); exact BK243.out)) : gb273 ≠ gb243)); replace BK243 := Aside0.mk (blk_below (g := gb243) (o := .cells #[.slice A0_0 l0_0.length c0_0, .slice A0_1 l0_1.length c0_1] 51 (0, 0)) (by (with_reducible repeat (first | refine blk_drewN ?_ _ | refine blk_drew ?_ | refine blk_alloc ?_ _)); exact BK243.out) hb); have NB258_273 := Aside0.mk ((by rw [hg]; exact Nat.ne_of_lt (blk_lt (g := gb258) (o := .cells #[.slice Ao21 t251.length co21, .slice Ao24 t254.length co24] 54 (0, 0)) (by (with_reducible repeat (first | refine blk_drewN ?_ _ | refine blk_drew ?_ | refine blk_alloc ?_ _)); exact BK258.out)) : gb258 ≠ gb273)); have NB273_258 := Aside0.mk ((by rw [hg]; exact Nat.ne_of_gt (blk_lt (g := gb258) (o := .cells #[.slice Ao21 t251.length co21, .slice Ao24 t254.length co24] 54 (0, 0)) (by (with_reducible repeat (first | refine blk_drewN ?_ _ | refine blk_drew ?_ | refine blk_alloc ?_ _)); exact BK258.out)) : gb273 ≠ gb258)); replace BK258 := Aside0.mk (blk_below (g := gb258) (o := .cells #[.slice Ao21 t251.length co21, .slice Ao24 t254.length co24] 54 (0, 0)) (by (with_reducible repeat (first | refine blk_drewN ?_ _ | refine blk_drew ?_ | refine blk_alloc ?_ _)); exact BK258.out) hb); have NB265_273 := Aside0.mk ((by rw [hg]; exact Nat.ne_of_lt (blk_lt (g := gb265) (o := .cells #[.slice Ao28 t259.length co28, .slice Ao32 t262.length co32] 54 (0, 0)) (by (with_reducible repeat (first | refine blk_drewN ?_ _ | refine blk_drew ?_ | refine blk_alloc ?_ _)); exact BK265.out)) : gb265 ≠ gb273)); have NB273_265 := Aside0.mk ((by rw [hg]; exact Nat.ne_of_gt (blk_lt (g := gb265) (o := .cells #[.slice Ao28 t259.length co28, .slice Ao32 t262.length co32] 54 (0, 0)) (by (with_reducible repeat (first | refine blk_drewN ?_ _ | refine blk_drew ?_ | refine blk_alloc ?_ _)); exact BK265.out)) : gb273 ≠ gb265)); replace BK265 := Aside0.mk (blk_below (g := gb265) (o := .cells #[.slice Ao28 t259.length co28, .slice Ao32 t262.length co32] 54 (0, 0)) (by (with_reducible repeat (first | refine blk_drewN ?_ _ | refine blk_drew ?_ | refine blk_alloc ?_ _)); exact BK265.out) hb); clear hb hbox hg; obtain ⟨Ao35, co35, eo35⟩ := Kd.R_slice HO268.out; subst eo35; have hnb36 := NB273_243.out; have hnc36 := NB243_273.out; have hnb37 := NB273_258.out; have hnc37 := NB258_273.out; have hnb38 := NB273_265.out; have hnc38 := NB265_273.out; have hcz39_0 : w34.cell? ⟨gb273, 0, none⟩ = some (.slice none 0 0) := (blk_cell BK273.out 0).trans rfl; have hcz39_1 : w34.cell? ⟨gb273, 1, none⟩ = some (.slice none 0 0) := (blk_cell BK273.out 1).trans rfl; have hfz39_0 := blk_frozen BK273.out 0; have hfz39_1 := blk_frozen BK273.out 1; obtain ⟨Ao40, co40, eo40⟩ := Kd.R_slice HO271.out; subst eo40))
  (try simp only [Act.put, List.setIfInBounds_toArray, List.set_cons_zero, List.set_cons_succ])
  go_cut [40] (fun v40 wc => ∃ (kq : Nat) (x40_10 : Bool), v40 = .bool x40_10 ∧ Aside0 (laws_FnExactTurnPuzzle.j0 kq t257 t272 x40_10 l0_0 l0_1 t251 t254 t259 t262 t266 t269 = some r) ∧ Aside0 (kq ≤ k) ∧ Aside0 (Kd.R k25 25 wc w.heap.size (fun k_ => some k_ ≠ ((.slice Ao28 t259.length co28) : Value).ownBlock ∧ some k_ ≠ ((.slice Ao35 t266.length co35) : Value).ownBlock) (.slice Ao21 t251.length co21) t251) ∧ Aside0 (Kd.R (Kd.int .i64) 3 wc w.heap.size (fun k_ => some k_ ≠ ((.slice Ao32 t262.length co32) : Value).ownBlock ∧ some k_ ≠ ((.slice Ao40 t269.length co40) : Value).ownBlock) (.slice Ao24 t254.length co24) t254) ∧ Aside0 (Kd.R k25 25 wc w.heap.size (fun k_ => some k_ ≠ ((.slice Ao21 t251.length co21) : Value).ownBlock ∧ some k_ ≠ ((.slice Ao35 t266.length co35) : Value).ownBlock) (.slice Ao28 t259.length co28) t259) ∧ Aside0 (Kd.R (Kd.int .i64) 3 wc w.heap.size (fun k_ => some k_ ≠ ((.slice Ao24 t254.length co24) : Value).ownBlock ∧ some k_ ≠ ((.slice Ao40 t269.length co40) : Value).ownBlock) (.slice Ao32 t262.length co32) t262) ∧ Aside0 (Kd.R k25 25 wc w.heap.size (fun k_ => some k_ ≠ ((.slice Ao21 t251.length co21) : Value).ownBlock ∧ some k_ ≠ ((.slice Ao28 t259.length co28) : Value).ownBlock) (.slice Ao35 t266.length co35) t266) ∧ Aside0 (Kd.R (Kd.int .i64) 3 wc w.heap.size (fun k_ => some k_ ≠ ((.slice Ao24 t254.length co24) : Value).ownBlock ∧ some k_ ≠ ((.slice Ao32 t262.length co32) : Value).ownBlock) (.slice Ao40 t269.length co40) t269) ∧ Aside0 (wc.heap[gb243]? = some (.cells #[(.slice A0_0 l0_0.length c0_0), (.slice A0_1 l0_1.length c0_1)] 51 (0, 0))) ∧ Aside0 (wc.heap[gb258]? = some (.cells #[(.slice Ao21 t251.length co21), (.slice Ao24 t254.length co24)] 54 (0, 0))) ∧ Aside0 (wc.heap[gb265]? = some (.cells #[(.slice Ao28 t259.length co28), (.slice Ao32 t262.length co32)] 54 (0, 0))) ∧ Aside0 (wc.heap[gb273]? = some (.cells #[(.slice Ao35 t266.length co35), (.slice Ao40 t269.length co40)] 54 (0, 0))) ∧ Aside0 (Below w.heap.size w wc))
  case first =>
   have H := HC11.out
   clear HC11
   replace H := Option.bind_eq_some_iff.mp H
   obtain ⟨t274, A410, H⟩ := H
   replace H : (if t274 = true then (laws_FnExactTurnPuzzle.j0 k t257 t272 (t272 != t257) l0_0 l0_1 t251 t254 t259 t262 t266 t269) else (laws_FnExactTurnPuzzle.j0 k t257 t272 true l0_0 l0_1 t251 t254 t259 t262 t266 t269)) = some r := H
   have A41 := Aside0.mk A410
   clear A410
   by_cases c42 : t274 = true
   ·subst c42
    have H1 : (laws_FnExactTurnPuzzle.j0 k t257 t272 (t272 != t257) l0_0 l0_1 t251 t254 t259 t262 t266 t269) = some r := by rw [if_pos rfl] at H; exact H
    clear H
    have H := H1
    clear H1
    have H' := Aside0.mk H
    clear H
    have hnb43 := NB273_243.out
    have hnc43 := NB243_273.out
    have hnb44 := NB273_258.out
    have hnc44 := NB258_273.out
    have hnb45 := NB273_265.out
    have hnc45 := NB265_273.out
    have hcz46_0 : w34.cell? ⟨gb273, 0, none⟩ = some (.slice none 0 0) := (blk_cell BK273.out 0).trans rfl
    have hcz46_1 : w34.cell? ⟨gb273, 1, none⟩ = some (.slice none 0 0) := (blk_cell BK273.out 1).trans rfl
    have hfz46_0 := blk_frozen BK273.out 0
    have hfz46_1 := blk_frozen BK273.out 1
    have hnb47 := NB258_243.out
    have hnc47 := NB243_258.out
    have hnb48 := NB258_265.out
    have hnc48 := NB265_258.out
    have hcz49_0 : w34.cell? ⟨gb258, 0, none⟩ = some (.slice Ao21 t251.length co21) := (blk_cell BK258.out 0).trans rfl
    have hcz49_1 : w34.cell? ⟨gb258, 1, none⟩ = some (.slice Ao24 t254.length co24) := (blk_cell BK258.out 1).trans rfl
    have hfz49_0 := blk_frozen BK258.out 0
    have hfz49_1 := blk_frozen BK258.out 1
    go_wp2_with (first | ((with_reducible refine gate_callee (f := 41) rfl ?_); refine goesL_ (some 34) rfl rfl Try.func41 (by kernel_rfl) rfl #[.agg #[.slice Ao35 t266.length co35, .slice Ao40 t269.length co40], .agg #[.slice Ao21 t251.length co21, .slice Ao24 t254.length co24]] rfl (by (try simp only [List.map_toArray, List.map_cons, List.map_nil]); first | done | rfl | (simp only [List.length_drop, List.length_take]; rfl)) ?_; (with_reducible refine (laws_eqPuzzle.calls k _ _ t266 _ _ t269 _ _ t251 _ _ t254 true _ ?side1 ?side2 ?side3 ?side4 ?side5 ?side6 ?side7 ?side8 A41.out).mono ?_); (case side1 => refine (Kd.R_reads' (e := 25) (base := w.heap.size) (ok := fun k_ => (((True ∧ some k_ ≠ (.slice Ao17 t245.length co17 : Value).ownBlock) ∧ some k_ ≠ (.slice Ao21 t251.length co21 : Value).ownBlock) ∧ some k_ ≠ (.slice Ao28 t259.length co28 : Value).ownBlock)) (n := t266.length) (c := co35) ?_).2.2; exact (by (with_reducible repeat (first | apply Kd.R_alloc | apply Kd.R_drewN | apply Kd.R_drew)); exact (Kd.R_mono (Kd.R_far (p := ⟨gb273, 1, none⟩) (Kd.R_far (p := ⟨gb273, 0, none⟩) (Kd.R_types HO268.out BK273.out (by decide)) (fun _ hk => hk.2) (.slice Ao35 t266.length co35)) (fun _ hk => hk.2) (.slice Ao40 t269.length co40)) (fun _ h_ => h_.1)))); (case side2 => exact (Kd.R_reads' HO268.out).2.1); (case side3 => refine (Kd.R_reads' (e := 3) (base := w.heap.size) (ok := fun k_ => (((True ∧ some k_ ≠ (.slice Ao18 t248.length co18 : Value).ownBlock) ∧ some k_ ≠ (.slice Ao24 t254.length co24 : Value).ownBlock) ∧ some k_ ≠ (.slice Ao32 t262.length co32 : Value).ownBlock)) (n := t269.length) (c := co40) ?_).2.2; exact (by (with_reducible repeat (first | apply Kd.R_alloc | apply Kd.R_drewN | apply Kd.R_drew)); exact (Kd.R_mono (Kd.R_far (p := ⟨gb273, 1, none⟩) (Kd.R_far (p := ⟨gb273, 0, none⟩) (Kd.R_types HO271.out BK273.out (by decide)) (fun _ hk => hk.2) (.slice Ao35 t266.length co35)) (fun _ hk => hk.2) (.slice Ao40 t269.length co40)) (fun _ h_ => h_.1)))); (case side4 => exact (Kd.R_reads' HO271.out).2.1); (case side5 => refine (Kd.R_reads' (e := 25) (base := w.heap.size) (ok := fun k_ => (((True ∧ some k_ ≠ (.slice Ao17 t245.length co17 : Value).ownBlock) ∧ some k_ ≠ (.slice Ao28 t259.length co28 : Value).ownBlock) ∧ some k_ ≠ (.slice Ao35 t266.length co35 : Value).ownBlock)) (n := t251.length) (c := co21) ?_).2.2; exact (by (with_reducible repeat (first | apply Kd.R_alloc | apply Kd.R_drewN | apply Kd.R_drew)); exact (Kd.R_mono (Kd.R_far (p := ⟨gb273, 1, none⟩) (Kd.R_far (p := ⟨gb273, 0, none⟩) (Kd.R_types HO253.out BK273.out (by decide)) (fun _ hk => hk.2) (.slice Ao35 t266.length co35)) (fun _ hk => hk.2) (.slice Ao40 t269.length co40)) (fun _ h_ => h_.1)))); (case side6 => exact (Kd.R_reads' HO253.out).2.1); (case side7 => refine (Kd.R_reads' (e := 3) (base := w.heap.size) (ok := fun k_ => (((True ∧ some k_ ≠ (.slice Ao18 t248.length co18 : Value).ownBlock) ∧ some k_ ≠ (.slice Ao32 t262.length co32 : Value).ownBlock) ∧ some k_ ≠ (.slice Ao40 t269.length co40 : Value).ownBlock)) (n := t254.length) (c := co24) ?_).2.2; exact (by (with_reducible repeat (first | apply Kd.R_alloc | apply Kd.R_drewN | apply Kd.R_drew)); exact (Kd.R_mono (Kd.R_far (p := ⟨gb273, 1, none⟩) (Kd.R_far (p := ⟨gb273, 0, none⟩) (Kd.R_types HO256.out BK273.out (by decide)) (fun _ hk => hk.2) (.slice Ao35 t266.length co35)) (fun _ hk => hk.2) (.slice Ao40 t269.length co40)) (fun _ h_ => h_.1)))); (case side8 => exact (Kd.R_reads' HO256.out).2.1); rintro e w50 ⟨rfl, hb⟩; refine ⟨_, rfl, ?_⟩; replace HO247 := Aside0.mk (Kd.R_below (by (with_reducible repeat (first | apply Kd.R_alloc | apply Kd.R_drewN | apply Kd.R_drew)); exact (Kd.R_mono (Kd.R_far (p := ⟨gb273, 1, none⟩) (Kd.R_far (p := ⟨gb273, 0, none⟩) (Kd.R_types HO247.out BK273.out (by decide)) (fun _ hk => hk.2) (.slice Ao35 t266.length co35)) (fun _ hk => hk.2) (.slice Ao40 t269.length co40)) (fun _ h_ => h_.1))) hb); replace HO250 := Aside0.mk (Kd.R_below (by (with_reducible repeat (first | apply Kd.R_alloc | apply Kd.R_drewN | apply Kd.R_drew)); exact (Kd.R_mono (Kd.R_far (p := ⟨gb273, 1, none⟩) (Kd.R_far (p := ⟨gb273, 0, none⟩) (Kd.R_types HO250.out BK273.out (by decide)) (fun _ hk => hk.2) (.slice Ao35 t266.length co35)) (fun _ hk => hk.2) (.slice Ao40 t269.length co40)) (fun _ h_ => h_.1))) hb); replace HO253 := Aside0.mk (Kd.R_below (by (with_reducible repeat (first | apply Kd.R_alloc | apply Kd.R_drewN | apply Kd.R_drew)); exact (Kd.R_mono (Kd.R_far (p := ⟨gb273, 1, none⟩) (Kd.R_far (p := ⟨gb273, 0, none⟩) (Kd.R_types HO253.out BK273.out (by decide)) (fun _ hk => hk.2) (.slice Ao35 t266.length co35)) (fun _ hk => hk.2) (.slice Ao40 t269.length co40)) (fun _ h_ => h_.1))) hb); replace HO256 := Aside0.mk (Kd.R_below (by (with_reducible repeat (first | apply Kd.R_alloc | apply Kd.R_drewN | apply Kd.R_drew)); exact (Kd.R_mono (Kd.R_far (p := ⟨gb273, 1, none⟩) (Kd.R_far (p := ⟨gb273, 0, none⟩) (Kd.R_types HO256.out BK273.out (by decide)) (fun _ hk => hk.2) (.slice Ao35 t266.length co35)) (fun _ hk => hk.2) (.slice Ao40 t269.length co40)) (fun _ h_ => h_.1))) hb); replace HO261 := Aside0.mk (Kd.R_below (by (with_reducible repeat (first | apply Kd.R_alloc | apply Kd.R_drewN | apply Kd.R_drew)); exact (Kd.R_mono (Kd.R_far (p := ⟨gb273, 1, none⟩) (Kd.R_far (p := ⟨gb273, 0, none⟩) (Kd.R_types HO261.out BK273.out (by decide)) (fun _ hk => hk.2) (.slice Ao35 t266.length co35)) (fun _ hk => hk.2) (.slice Ao40 t269.length co40)) (fun _ h_ => h_.1))) hb); replace HO264 := Aside0.mk (Kd.R_below (by (with_reducible repeat (first | apply Kd.R_alloc | apply Kd.R_drewN | apply Kd.R_drew)); exact (Kd.R_mono (Kd.R_far (p := ⟨gb273, 1, none⟩) (Kd.R_far (p := ⟨gb273, 0, none⟩) (Kd.R_types HO264.out BK273.out (by decide)) (fun _ hk => hk.2) (.slice Ao35 t266.length co35)) (fun _ hk => hk.2) (.slice Ao40 t269.length co40)) (fun _ h_ => h_.1))) hb); replace HO268 := Aside0.mk (Kd.R_below (by (with_reducible repeat (first | apply Kd.R_alloc | apply Kd.R_drewN | apply Kd.R_drew)); exact (Kd.R_mono (Kd.R_far (p := ⟨gb273, 1, none⟩) (Kd.R_far (p := ⟨gb273, 0, none⟩) (Kd.R_types HO268.out BK273.out (by decide)) (fun _ hk => hk.2) (.slice Ao35 t266.length co35)) (fun _ hk => hk.2) (.slice Ao40 t269.length co40)) (fun _ h_ => h_.1))) hb); replace HO271 := Aside0.mk (Kd.R_below (by (with_reducible repeat (first | apply Kd.R_alloc | apply Kd.R_drewN | apply Kd.R_drew)); exact (Kd.R_mono (Kd.R_far (p := ⟨gb273, 1, none⟩) (Kd.R_far (p := ⟨gb273, 0, none⟩) (Kd.R_types HO271.out BK273.out (by decide)) (fun _ hk => hk.2) (.slice Ao35 t266.length co35)) (fun _ hk => hk.2) (.slice Ao40 t269.length co40)) (fun _ h_ => h_.1))) hb); replace BK243 := Aside0.mk (blk_below (g := gb243) (o := .cells #[.slice A0_0 l0_0.length c0_0, .slice A0_1 l0_1.length c0_1] 51 (0, 0)) (by (with_reducible repeat (first | refine blk_drewN ?_ _ | refine blk_drew ?_ | refine blk_alloc ?_ _)); refine blk_far ?_ NB243_273.out _; (with_reducible repeat (first | refine blk_drewN ?_ _ | refine blk_drew ?_ | refine blk_alloc ?_ _)); refine blk_far ?_ NB243_273.out _; (with_reducible repeat (first | refine blk_drewN ?_ _ | refine blk_drew ?_ | refine blk_alloc ?_ _)); exact BK243.out) hb); replace BK258 := Aside0.mk (blk_below (g := gb258) (o := .cells #[.slice Ao21 t251.length co21, .slice Ao24 t254.length co24] 54 (0, 0)) (by (with_reducible repeat (first | refine blk_drewN ?_ _ | refine blk_drew ?_ | refine blk_alloc ?_ _)); refine blk_far ?_ NB258_273.out _; (with_reducible repeat (first | refine blk_drewN ?_ _ | refine blk_drew ?_ | refine blk_alloc ?_ _)); refine blk_far ?_ NB258_273.out _; (with_reducible repeat (first | refine blk_drewN ?_ _ | refine blk_drew ?_ | refine blk_alloc ?_ _)); exact BK258.out) hb); replace BK265 := Aside0.mk (blk_below (g := gb265) (o := .cells #[.slice Ao28 t259.length co28, .slice Ao32 t262.length co32] 54 (0, 0)) (by (with_reducible repeat (first | refine blk_drewN ?_ _ | refine blk_drew ?_ | refine blk_alloc ?_ _)); refine blk_far ?_ NB265_273.out _; (with_reducible repeat (first | refine blk_drewN ?_ _ | refine blk_drew ?_ | refine blk_alloc ?_ _)); refine blk_far ?_ NB265_273.out _; (with_reducible repeat (first | refine blk_drewN ?_ _ | refine blk_drew ?_ | refine blk_alloc ?_ _)); exact BK265.out) hb); replace BK273 := Aside0.mk (blk_below (g := gb273) (o := .cells #[.slice Ao35 t266.length co35, .slice Ao40 t269.length co40] 54 (0, 0)) (by (with_reducible repeat (first | refine blk_drewN ?_ _ | refine blk_drew ?_ | refine blk_alloc ?_ _)); refine blk_put (cs := #[.slice Ao35 t266.length co35, .slice none 0 0]) ?_ 1 _ rfl; (with_reducible repeat (first | refine blk_drewN ?_ _ | refine blk_drew ?_ | refine blk_alloc ?_ _)); refine blk_put (cs := #[.slice none 0 0, .slice none 0 0]) ?_ 0 _ rfl; (with_reducible repeat (first | refine blk_drewN ?_ _ | refine blk_drew ?_ | refine blk_alloc ?_ _)); exact BK273.out) hb); replace HB := Aside0.mk (below_step (by repeat (first | (with_reducible first | exact HB.out | apply below_alloc | apply pw_below_drewN | apply below_drew1 | refine below_set ?_ GE243.out | refine below_set ?_ GE258.out | refine below_set ?_ GE265.out | refine below_set ?_ GE273.out) | exact HB.out)) hb); (try clear hb); (try clear hb2); (try clear hk); (try clear hi)))
    go_meet
    case rel => exact ⟨_, ((t272 != t257)), (by first | rfl | (simp; done) | (simp [*]; done)), H', ⟨by first | omega | exact Nat.le_refl _⟩, ⟨by (with_reducible repeat (first | apply Kd.R_alloc | apply Kd.R_drewN | apply Kd.R_drew)); exact Kd.R_mono HO253.out (fun _ hk => ⟨hk.1.2, hk.2⟩)⟩, ⟨by (with_reducible repeat (first | apply Kd.R_alloc | apply Kd.R_drewN | apply Kd.R_drew)); exact Kd.R_mono HO256.out (fun _ hk => ⟨hk.1.2, hk.2⟩)⟩, ⟨by (with_reducible repeat (first | apply Kd.R_alloc | apply Kd.R_drewN | apply Kd.R_drew)); exact Kd.R_mono HO261.out (fun _ hk => ⟨hk.1.2, hk.2⟩)⟩, ⟨by (with_reducible repeat (first | apply Kd.R_alloc | apply Kd.R_drewN | apply Kd.R_drew)); exact Kd.R_mono HO264.out (fun _ hk => ⟨hk.1.2, hk.2⟩)⟩, ⟨by (with_reducible repeat (first | apply Kd.R_alloc | apply Kd.R_drewN | apply Kd.R_drew)); exact Kd.R_mono HO268.out (fun _ hk => ⟨hk.1.2, hk.2⟩)⟩, ⟨by (with_reducible repeat (first | apply Kd.R_alloc | apply Kd.R_drewN | apply Kd.R_drew)); exact Kd.R_mono HO271.out (fun _ hk => ⟨hk.1.2, hk.2⟩)⟩, ⟨by (with_reducible repeat (first | refine blk_drewN ?_ _ | refine blk_drew ?_ | refine blk_alloc ?_ _)); exact BK243.out⟩, ⟨by (with_reducible repeat (first | refine blk_drewN ?_ _ | refine blk_drew ?_ | refine blk_alloc ?_ _)); exact BK258.out⟩, ⟨by (with_reducible repeat (first | refine blk_drewN ?_ _ | refine blk_drew ?_ | refine blk_alloc ?_ _)); exact BK265.out⟩, ⟨by (with_reducible repeat (first | refine blk_drewN ?_ _ | refine blk_drew ?_ | refine blk_alloc ?_ _)); exact BK273.out⟩, ⟨by repeat (first | (with_reducible first | exact HB.out | apply below_alloc | apply pw_below_drewN | apply below_drew1 | refine below_set ?_ GE243.out | refine below_set ?_ GE258.out | refine below_set ?_ GE265.out | refine below_set ?_ GE273.out) | exact HB.out)⟩⟩
   ·replace c42 := Bool.eq_false_iff.mpr c42
    subst c42
    have H1 : (laws_FnExactTurnPuzzle.j0 k t257 t272 true l0_0 l0_1 t251 t254 t259 t262 t266 t269) = some r := by rw [if_neg (show ¬ (false = true) by decide)] at H; exact H
    clear H
    have H := H1
    clear H1
    have H' := Aside0.mk H
    clear H
    have hnb51 := NB273_243.out
    have hnc51 := NB243_273.out
    have hnb52 := NB273_258.out
    have hnc52 := NB258_273.out
    have hnb53 := NB273_265.out
    have hnc53 := NB265_273.out
    have hcz54_0 : w34.cell? ⟨gb273, 0, none⟩ = some (.slice none 0 0) := (blk_cell BK273.out 0).trans rfl
    have hcz54_1 : w34.cell? ⟨gb273, 1, none⟩ = some (.slice none 0 0) := (blk_cell BK273.out 1).trans rfl
    have hfz54_0 := blk_frozen BK273.out 0
    have hfz54_1 := blk_frozen BK273.out 1
    have hnb55 := NB258_243.out
    have hnc55 := NB243_258.out
    have hnb56 := NB258_265.out
    have hnc56 := NB265_258.out
    have hcz57_0 : w34.cell? ⟨gb258, 0, none⟩ = some (.slice Ao21 t251.length co21) := (blk_cell BK258.out 0).trans rfl
    have hcz57_1 : w34.cell? ⟨gb258, 1, none⟩ = some (.slice Ao24 t254.length co24) := (blk_cell BK258.out 1).trans rfl
    have hfz57_0 := blk_frozen BK258.out 0
    have hfz57_1 := blk_frozen BK258.out 1
    go_wp2_with (first | ((with_reducible refine gate_callee (f := 41) rfl ?_); refine goesL_ (some 34) rfl rfl Try.func41 (by kernel_rfl) rfl #[.agg #[.slice Ao35 t266.length co35, .slice Ao40 t269.length co40], .agg #[.slice Ao21 t251.length co21, .slice Ao24 t254.length co24]] rfl (by (try simp only [List.map_toArray, List.map_cons, List.map_nil]); first | done | rfl | (simp only [List.length_drop, List.length_take]; rfl)) ?_; (with_reducible refine (laws_eqPuzzle.calls k _ _ t266 _ _ t269 _ _ t251 _ _ t254 false _ ?side1 ?side2 ?side3 ?side4 ?side5 ?side6 ?side7 ?side8 A41.out).mono ?_); (case side1 => refine (Kd.R_reads' (e := 25) (base := w.heap.size) (ok := fun k_ => (((True ∧ some k_ ≠ (.slice Ao17 t245.length co17 : Value).ownBlock) ∧ some k_ ≠ (.slice Ao21 t251.length co21 : Value).ownBlock) ∧ some k_ ≠ (.slice Ao28 t259.length co28 : Value).ownBlock)) (n := t266.length) (c := co35) ?_).2.2; exact (by (with_reducible repeat (first | apply Kd.R_alloc | apply Kd.R_drewN | apply Kd.R_drew)); exact (Kd.R_mono (Kd.R_far (p := ⟨gb273, 1, none⟩) (Kd.R_far (p := ⟨gb273, 0, none⟩) (Kd.R_types HO268.out BK273.out (by decide)) (fun _ hk => hk.2) (.slice Ao35 t266.length co35)) (fun _ hk => hk.2) (.slice Ao40 t269.length co40)) (fun _ h_ => h_.1)))); (case side2 => exact (Kd.R_reads' HO268.out).2.1); (case side3 => refine (Kd.R_reads' (e := 3) (base := w.heap.size) (ok := fun k_ => (((True ∧ some k_ ≠ (.slice Ao18 t248.length co18 : Value).ownBlock) ∧ some k_ ≠ (.slice Ao24 t254.length co24 : Value).ownBlock) ∧ some k_ ≠ (.slice Ao32 t262.length co32 : Value).ownBlock)) (n := t269.length) (c := co40) ?_).2.2; exact (by (with_reducible repeat (first | apply Kd.R_alloc | apply Kd.R_drewN | apply Kd.R_drew)); exact (Kd.R_mono (Kd.R_far (p := ⟨gb273, 1, none⟩) (Kd.R_far (p := ⟨gb273, 0, none⟩) (Kd.R_types HO271.out BK273.out (by decide)) (fun _ hk => hk.2) (.slice Ao35 t266.length co35)) (fun _ hk => hk.2) (.slice Ao40 t269.length co40)) (fun _ h_ => h_.1)))); (case side4 => exact (Kd.R_reads' HO271.out).2.1); (case side5 => refine (Kd.R_reads' (e := 25) (base := w.heap.size) (ok := fun k_ => (((True ∧ some k_ ≠ (.slice Ao17 t245.length co17 : Value).ownBlock) ∧ some k_ ≠ (.slice Ao28 t259.length co28 : Value).ownBlock) ∧ some k_ ≠ (.slice Ao35 t266.length co35 : Value).ownBlock)) (n := t251.length) (c := co21) ?_).2.2; exact (by (with_reducible repeat (first | apply Kd.R_alloc | apply Kd.R_drewN | apply Kd.R_drew)); exact (Kd.R_mono (Kd.R_far (p := ⟨gb273, 1, none⟩) (Kd.R_far (p := ⟨gb273, 0, none⟩) (Kd.R_types HO253.out BK273.out (by decide)) (fun _ hk => hk.2) (.slice Ao35 t266.length co35)) (fun _ hk => hk.2) (.slice Ao40 t269.length co40)) (fun _ h_ => h_.1)))); (case side6 => exact (Kd.R_reads' HO253.out).2.1); (case side7 => refine (Kd.R_reads' (e := 3) (base := w.heap.size) (ok := fun k_ => (((True ∧ some k_ ≠ (.slice Ao18 t248.length co18 : Value).ownBlock) ∧ some k_ ≠ (.slice Ao32 t262.length co32 : Value).ownBlock) ∧ some k_ ≠ (.slice Ao40 t269.length co40 : Value).ownBlock)) (n := t254.length) (c := co24) ?_).2.2; exact (by (with_reducible repeat (first | apply Kd.R_alloc | apply Kd.R_drewN | apply Kd.R_drew)); exact (Kd.R_mono (Kd.R_far (p := ⟨gb273, 1, none⟩) (Kd.R_far (p := ⟨gb273, 0, none⟩) (Kd.R_types HO256.out BK273.out (by decide)) (fun _ hk => hk.2) (.slice Ao35 t266.length co35)) (fun _ hk => hk.2) (.slice Ao40 t269.length co40)) (fun _ h_ => h_.1)))); (case side8 => exact (Kd.R_reads' HO256.out).2.1); rintro e w58 ⟨rfl, hb⟩; refine ⟨_, rfl, ?_⟩; replace HO247 := Aside0.mk (Kd.R_below (by (with_reducible repeat (first | apply Kd.R_alloc | apply Kd.R_drewN | apply Kd.R_drew)); exact (Kd.R_mono (Kd.R_far (p := ⟨gb273, 1, none⟩) (Kd.R_far (p := ⟨gb273, 0, none⟩) (Kd.R_types HO247.out BK273.out (by decide)) (fun _ hk => hk.2) (.slice Ao35 t266.length co35)) (fun _ hk => hk.2) (.slice Ao40 t269.length co40)) (fun _ h_ => h_.1))) hb); replace HO250 := Aside0.mk (Kd.R_below (by (with_reducible repeat (first | apply Kd.R_alloc | apply Kd.R_drewN | apply Kd.R_drew)); exact (Kd.R_mono (Kd.R_far (p := ⟨gb273, 1, none⟩) (Kd.R_far (p := ⟨gb273, 0, none⟩) (Kd.R_types HO250.out BK273.out (by decide)) (fun _ hk => hk.2) (.slice Ao35 t266.length co35)) (fun _ hk => hk.2) (.slice Ao40 t269.length co40)) (fun _ h_ => h_.1))) hb); replace HO253 := Aside0.mk (Kd.R_below (by (with_reducible repeat (first | apply Kd.R_alloc | apply Kd.R_drewN | apply Kd.R_drew)); exact (Kd.R_mono (Kd.R_far (p := ⟨gb273, 1, none⟩) (Kd.R_far (p := ⟨gb273, 0, none⟩) (Kd.R_types HO253.out BK273.out (by decide)) (fun _ hk => hk.2) (.slice Ao35 t266.length co35)) (fun _ hk => hk.2) (.slice Ao40 t269.length co40)) (fun _ h_ => h_.1))) hb); replace HO256 := Aside0.mk (Kd.R_below (by (with_reducible repeat (first | apply Kd.R_alloc | apply Kd.R_drewN | apply Kd.R_drew)); exact (Kd.R_mono (Kd.R_far (p := ⟨gb273, 1, none⟩) (Kd.R_far (p := ⟨gb273, 0, none⟩) (Kd.R_types HO256.out BK273.out (by decide)) (fun _ hk => hk.2) (.slice Ao35 t266.length co35)) (fun _ hk => hk.2) (.slice Ao40 t269.length co40)) (fun _ h_ => h_.1))) hb); replace HO261 := Aside0.mk (Kd.R_below (by (with_reducible repeat (first | apply Kd.R_alloc | apply Kd.R_drewN | apply Kd.R_drew)); exact (Kd.R_mono (Kd.R_far (p := ⟨gb273, 1, none⟩) (Kd.R_far (p := ⟨gb273, 0, none⟩) (Kd.R_types HO261.out BK273.out (by decide)) (fun _ hk => hk.2) (.slice Ao35 t266.length co35)) (fun _ hk => hk.2) (.slice Ao40 t269.length co40)) (fun _ h_ => h_.1))) hb); replace HO264 := Aside0.mk (Kd.R_below (by (with_reducible repeat (first | apply Kd.R_alloc | apply Kd.R_drewN | apply Kd.R_drew)); exact (Kd.R_mono (Kd.R_far (p := ⟨gb273, 1, none⟩) (Kd.R_far (p := ⟨gb273, 0, none⟩) (Kd.R_types HO264.out BK273.out (by decide)) (fun _ hk => hk.2) (.slice Ao35 t266.length co35)) (fun _ hk => hk.2) (.slice Ao40 t269.length co40)) (fun _ h_ => h_.1))) hb); replace HO268 := Aside0.mk (Kd.R_below (by (with_reducible repeat (first | apply Kd.R_alloc | apply Kd.R_drewN | apply Kd.R_drew)); exact (Kd.R_mono (Kd.R_far (p := ⟨gb273, 1, none⟩) (Kd.R_far (p := ⟨gb273, 0, none⟩) (Kd.R_types HO268.out BK273.out (by decide)) (fun _ hk => hk.2) (.slice Ao35 t266.length co35)) (fun _ hk => hk.2) (.slice Ao40 t269.length co40)) (fun _ h_ => h_.1))) hb); replace HO271 := Aside0.mk (Kd.R_below (by (with_reducible repeat (first | apply Kd.R_alloc | apply Kd.R_drewN | apply Kd.R_drew)); exact (Kd.R_mono (Kd.R_far (p := ⟨gb273, 1, none⟩) (Kd.R_far (p := ⟨gb273, 0, none⟩) (Kd.R_types HO271.out BK273.out (by decide)) (fun _ hk => hk.2) (.slice Ao35 t266.length co35)) (fun _ hk => hk.2) (.slice Ao40 t269.length co40)) (fun _ h_ => h_.1))) hb); replace BK243 := Aside0.mk (blk_below (g := gb243) (o := .cells #[.slice A0_0 l0_0.length c0_0, .slice A0_1 l0_1.length c0_1] 51 (0, 0)) (by (with_reducible repeat (first | refine blk_drewN ?_ _ | refine blk_drew ?_ | refine blk_alloc ?_ _)); refine blk_far ?_ NB243_273.out _; (with_reducible repeat (first | refine blk_drewN ?_ _ | refine blk_drew ?_ | refine blk_alloc ?_ _)); refine blk_far ?_ NB243_273.out _; (with_reducible repeat (first | refine blk_drewN ?_ _ | refine blk_drew ?_ | refine blk_alloc ?_ _)); exact BK243.out) hb); replace BK258 := Aside0.mk (blk_below (g := gb258) (o := .cells #[.slice Ao21 t251.length co21, .slice Ao24 t254.length co24] 54 (0, 0)) (by (with_reducible repeat (first | refine blk_drewN ?_ _ | refine blk_drew ?_ | refine blk_alloc ?_ _)); refine blk_far ?_ NB258_273.out _; (with_reducible repeat (first | refine blk_drewN ?_ _ | refine blk_drew ?_ | refine blk_alloc ?_ _)); refine blk_far ?_ NB258_273.out _; (with_reducible repeat (first | refine blk_drewN ?_ _ | refine blk_drew ?_ | refine blk_alloc ?_ _)); exact BK258.out) hb); replace BK265 := Aside0.mk (blk_below (g := gb265) (o := .cells #[.slice Ao28 t259.length co28, .slice Ao32 t262.length co32] 54 (0, 0)) (by (with_reducible repeat (first | refine blk_drewN ?_ _ | refine blk_drew ?_ | refine blk_alloc ?_ _)); refine blk_far ?_ NB265_273.out _; (with_reducible repeat (first | refine blk_drewN ?_ _ | refine blk_drew ?_ | refine blk_alloc ?_ _)); refine blk_far ?_ NB265_273.out _; (with_reducible repeat (first | refine blk_drewN ?_ _ | refine blk_drew ?_ | refine blk_alloc ?_ _)); exact BK265.out) hb); replace BK273 := Aside0.mk (blk_below (g := gb273) (o := .cells #[.slice Ao35 t266.length co35, .slice Ao40 t269.length co40] 54 (0, 0)) (by (with_reducible repeat (first | refine blk_drewN ?_ _ | refine blk_drew ?_ | refine blk_alloc ?_ _)); refine blk_put (cs := #[.slice Ao35 t266.length co35, .slice none 0 0]) ?_ 1 _ rfl; (with_reducible repeat (first | refine blk_drewN ?_ _ | refine blk_drew ?_ | refine blk_alloc ?_ _)); refine blk_put (cs := #[.slice none 0 0, .slice none 0 0]) ?_ 0 _ rfl; (with_reducible repeat (first | refine blk_drewN ?_ _ | refine blk_drew ?_ | refine blk_alloc ?_ _)); exact BK273.out) hb); replace HB := Aside0.mk (below_step (by repeat (first | (with_reducible first | exact HB.out | apply below_alloc | apply pw_below_drewN | apply below_drew1 | refine below_set ?_ GE243.out | refine below_set ?_ GE258.out | refine below_set ?_ GE265.out | refine below_set ?_ GE273.out) | exact HB.out)) hb); (try clear hb); (try clear hb2); (try clear hk); (try clear hi)))
    go_meet
    case rel => exact ⟨_, (true), (by first | rfl | (simp; done) | (simp [*]; done)), H', ⟨by first | omega | exact Nat.le_refl _⟩, ⟨by (with_reducible repeat (first | apply Kd.R_alloc | apply Kd.R_drewN | apply Kd.R_drew)); exact Kd.R_mono HO253.out (fun _ hk => ⟨hk.1.2, hk.2⟩)⟩, ⟨by (with_reducible repeat (first | apply Kd.R_alloc | apply Kd.R_drewN | apply Kd.R_drew)); exact Kd.R_mono HO256.out (fun _ hk => ⟨hk.1.2, hk.2⟩)⟩, ⟨by (with_reducible repeat (first | apply Kd.R_alloc | apply Kd.R_drewN | apply Kd.R_drew)); exact Kd.R_mono HO261.out (fun _ hk => ⟨hk.1.2, hk.2⟩)⟩, ⟨by (with_reducible repeat (first | apply Kd.R_alloc | apply Kd.R_drewN | apply Kd.R_drew)); exact Kd.R_mono HO264.out (fun _ hk => ⟨hk.1.2, hk.2⟩)⟩, ⟨by (with_reducible repeat (first | apply Kd.R_alloc | apply Kd.R_drewN | apply Kd.R_drew)); exact Kd.R_mono HO268.out (fun _ hk => ⟨hk.1.2, hk.2⟩)⟩, ⟨by (with_reducible repeat (first | apply Kd.R_alloc | apply Kd.R_drewN | apply Kd.R_drew)); exact Kd.R_mono HO271.out (fun _ hk => ⟨hk.1.2, hk.2⟩)⟩, ⟨by (with_reducible repeat (first | refine blk_drewN ?_ _ | refine blk_drew ?_ | refine blk_alloc ?_ _)); exact BK243.out⟩, ⟨by (with_reducible repeat (first | refine blk_drewN ?_ _ | refine blk_drew ?_ | refine blk_alloc ?_ _)); exact BK258.out⟩, ⟨by (with_reducible repeat (first | refine blk_drewN ?_ _ | refine blk_drew ?_ | refine blk_alloc ?_ _)); exact BK265.out⟩, ⟨by (with_reducible repeat (first | refine blk_drewN ?_ _ | refine blk_drew ?_ | refine blk_alloc ?_ _)); exact BK273.out⟩, ⟨by repeat (first | (with_reducible first | exact HB.out | apply below_alloc | apply pw_below_drewN | apply below_drew1 | refine below_set ?_ GE243.out | refine below_set ?_ GE258.out | refine below_set ?_ GE265.out | refine below_set ?_ GE273.out) | exact HB.out)⟩⟩
  case rest =>
   clear HC11
   try clear c2
   try clear p2
   try clear c3
   try clear c3b0
   try clear c4
   try clear c5
   try clear c6
   try clear c8
   try clear c22
   try clear c29
   try clear c30
   try clear c36
   try clear c37
   try clear c38
   try clear c39
   try clear c41
   try clear c42
   try clear c43
   try clear c44
   try clear c45
   try clear c47
   try clear c48
   try clear c51
   try clear c52
   try clear c53
   try clear c55
   try clear c56
   try clear hcz13_0
   try clear hcz13_1
   try clear hcz15_0
   try clear hcz15_1
   try clear hcz23_0
   try clear hcz23_1
   try clear hcz25_0
   try clear hcz25_1
   try clear hcz31_0
   try clear hcz31_1
   try clear hcz39_0
   try clear hcz39_1
   try clear hcz46_0
   try clear hcz46_1
   try clear hcz49_0
   try clear hcz49_1
   try clear hcz54_0
   try clear hcz54_1
   try clear hcz57_0
   try clear hcz57_1
   try clear hcz5_0
   try clear hcz5_1
   try clear hfz13_0
   try clear hfz13_1
   try clear hfz15_0
   try clear hfz15_1
   try clear hfz23_0
   try clear hfz23_1
   try clear hfz25_0
   try clear hfz25_1
   try clear hfz31_0
   try clear hfz31_1
   try clear hfz39_0
   try clear hfz39_1
   try clear hfz46_0
   try clear hfz46_1
   try clear hfz49_0
   try clear hfz49_1
   try clear hfz54_0
   try clear hfz54_1
   try clear hfz57_0
   try clear hfz57_1
   try clear hfz5_0
   try clear hfz5_1
   obtain ⟨kq, x40_10, rfl, HA, HJ10, HO_259000, HO_259001, HO_266000, HO_266001, HO_274000, HO_274001, BK243, BK258, BK265, BK273, HB⟩ := hcut
   cases kq with
   | zero => exact absurd HA.out (by simp [laws_FnExactTurnPuzzle.j0])
   | succ kj10 =>
    have H := HA.out
    clear HA
    simp only [laws_FnExactTurnPuzzle.j0] at H
    by_cases c59 : x40_10 = true
    ·subst c59
     have H1 : (none) = some r := by rw [if_pos rfl] at H; exact H
     clear H
     have H := H1
     clear H1
     exact absurd H (by simp)
    ·replace c59 := Bool.eq_false_iff.mpr c59
     subst c59
     have H1 : ((laws_toPuzzle.f kj10 l0_0 l0_1).bind fun bt275 => ((laws_eqPuzzle.f kj10 t259 t262 bt275.1 bt275.2).bind fun t281 => (if t281 = true then ((laws_markPuzzle.f kj10 t259 t262 1).bind fun bt282 => (if bt282.1 < 0 then (laws_FnExactTurnPuzzle.j1 kj10 t257 true l0_0 l0_1 t251 t254 t266 t269) else ((laws_eqPuzzle.f kj10 t266 t269 t251 t254).bind fun t285 => (if t285 = true then (laws_FnExactTurnPuzzle.j1 kj10 t257 (t272 != t257) l0_0 l0_1 t251 t254 t266 t269) else (laws_FnExactTurnPuzzle.j1 kj10 t257 true l0_0 l0_1 t251 t254 t266 t269))))) else (none)))) = some r := by rw [if_neg (show ¬ (false = true) by decide)] at H; exact H
     clear H
     have H := H1
     clear H1
     replace H := Option.bind_eq_some_iff.mp H
     obtain ⟨⟨t275, t278⟩, A600, H⟩ := H
     replace H : ((laws_eqPuzzle.f kj10 t259 t262 t275 t278).bind fun t281 => (if t281 = true then ((laws_markPuzzle.f kj10 t259 t262 1).bind fun bt282 => (if bt282.1 < 0 then (laws_FnExactTurnPuzzle.j1 kj10 t257 true l0_0 l0_1 t251 t254 t266 t269) else ((laws_eqPuzzle.f kj10 t266 t269 t251 t254).bind fun t285 => (if t285 = true then (laws_FnExactTurnPuzzle.j1 kj10 t257 (t272 != t257) l0_0 l0_1 t251 t254 t266 t269) else (laws_FnExactTurnPuzzle.j1 kj10 t257 true l0_0 l0_1 t251 t254 t266 t269))))) else (none))) = some r := H
     have A60 := Aside0.mk A600
     clear A600
     replace H := Option.bind_eq_some_iff.mp H
     obtain ⟨t281, A610, H⟩ := H
     replace H : (if t281 = true then ((laws_markPuzzle.f kj10 t259 t262 1).bind fun bt282 => (if bt282.1 < 0 then (laws_FnExactTurnPuzzle.j1 kj10 t257 true l0_0 l0_1 t251 t254 t266 t269) else ((laws_eqPuzzle.f kj10 t266 t269 t251 t254).bind fun t285 => (if t285 = true then (laws_FnExactTurnPuzzle.j1 kj10 t257 (t272 != t257) l0_0 l0_1 t251 t254 t266 t269) else (laws_FnExactTurnPuzzle.j1 kj10 t257 true l0_0 l0_1 t251 t254 t266 t269))))) else (none)) = some r := H
     have A61 := Aside0.mk A610
     clear A610
     by_cases c62 : t281 = true
     ·subst c62
      have H1 : ((laws_markPuzzle.f kj10 t259 t262 1).bind fun bt282 => (if bt282.1 < 0 then (laws_FnExactTurnPuzzle.j1 kj10 t257 true l0_0 l0_1 t251 t254 t266 t269) else ((laws_eqPuzzle.f kj10 t266 t269 t251 t254).bind fun t285 => (if t285 = true then (laws_FnExactTurnPuzzle.j1 kj10 t257 (t272 != t257) l0_0 l0_1 t251 t254 t266 t269) else (laws_FnExactTurnPuzzle.j1 kj10 t257 true l0_0 l0_1 t251 t254 t266 t269))))) = some r := by rw [if_pos rfl] at H; exact H
      clear H
      have H := H1
      clear H1
      replace H := Option.bind_eq_some_iff.mp H
      obtain ⟨⟨t282, t283, t284⟩, A630, H⟩ := H
      replace H : (if t282 < 0 then (laws_FnExactTurnPuzzle.j1 kj10 t257 true l0_0 l0_1 t251 t254 t266 t269) else ((laws_eqPuzzle.f kj10 t266 t269 t251 t254).bind fun t285 => (if t285 = true then (laws_FnExactTurnPuzzle.j1 kj10 t257 (t272 != t257) l0_0 l0_1 t251 t254 t266 t269) else (laws_FnExactTurnPuzzle.j1 kj10 t257 true l0_0 l0_1 t251 t254 t266 t269)))) = some r := H
      have A63 := Aside0.mk A630
      clear A630
      have HC64 := Aside0.mk H
      clear H
      try go_wp2
      replace HO_259000 := Aside0.mk (Kd.R_drew HO_259000.out)
      replace HO_259001 := Aside0.mk (Kd.R_drew HO_259001.out)
      replace HO_266000 := Aside0.mk (Kd.R_drew HO_266000.out)
      replace HO_266001 := Aside0.mk (Kd.R_drew HO_266001.out)
      replace HO_274000 := Aside0.mk (Kd.R_drew HO_274000.out)
      replace HO_274001 := Aside0.mk (Kd.R_drew HO_274001.out)
      replace BK243 := Aside0.mk (blk_drew BK243.out)
      replace BK258 := Aside0.mk (blk_drew BK258.out)
      replace BK265 := Aside0.mk (blk_drew BK265.out)
      replace BK273 := Aside0.mk (blk_drew BK273.out)
      replace HB := Aside0.mk (below_drew1 HB.out)
      refine start_ (n := 5) (S := fun w' => w'.cell? ⟨gb265, 0, none⟩ = some (.slice Ao28 t259.length co28) ∧ w'.cell? ⟨gb265, 1, none⟩ = some (.slice Ao32 t262.length co32) ∧ w'.cell? ⟨gb243, 0, none⟩ = some (.slice A0_0 l0_0.length c0_0) ∧ w'.cell? ⟨gb243, 1, none⟩ = some (.slice A0_1 l0_1.length c0_1)) (ds := []) #[false, false, false, false, false] (by kernel_rfl) rfl rfl ⟨(blk_cell BK265.out 0).trans rfl, (blk_cell BK265.out 1).trans rfl, (blk_cell BK243.out 0).trans rfl, (blk_cell BK243.out 1).trans rfl⟩ (fun hHeld => ?_)
      generalize wc.drew = w65 at HO_259000 HO_259001 HO_266000 HO_266001 HO_274000 HO_274001 BK243 BK258 BK265 BK273 HB hHeld ⊢
      refine take_ (i := 0) (N := some 41) (v := ?_) (a' := ?_) #[true, false, false, false, false] rfl rfl (by kernel_rfl) (fun _ _ _ h => h) (Or.inl ⟨by rfl, ?_⟩) hHeld ?_ ?_
      rotate_left
      ·rintro w' ⟨s0, s1, s2, s3⟩
       go_simp
       with_reducible rfl
      rotate_left
      ·simp only [Act.put, List.setIfInBounds_toArray, List.set_cons_zero, List.set_cons_succ, i64_w, i32_w]
       rfl
      refine take_ (i := 1) (N := some 42) (v := ?_) (a' := ?_) #[true, true, false, false, false] rfl rfl (by kernel_rfl) (fun _ _ _ h => h) (Or.inl ⟨by rfl, ?_⟩) hHeld ?_ ?_
      rotate_left
      ·rintro w' ⟨s0, s1, s2, s3⟩
       go_simp
       with_reducible rfl
      rotate_left
      ·simp only [Act.put, List.setIfInBounds_toArray, List.set_cons_zero, List.set_cons_succ, i64_w, i32_w]
       rfl
      refine one_ (i := 2) (N := some 43) #[true, true, true, false, false] rfl rfl (by kernel_rfl) (by decide) (fun K hK => ?_)
      refine goes_ Try.func39 (by kernel_rfl) rfl #[.agg #[.slice A0_0 l0_0.length c0_0, .slice A0_1 l0_1.length c0_1]] (by rfl) rfl rfl (by (try simp only [List.map_toArray, List.map_cons, List.map_nil]); first | done | rfl | (simp only [List.length_drop, List.length_take]; rfl)) ?_
      with_reducible refine (laws_toPuzzle.calls kj10 _ _ l0_0 _ _ l0_1 t275 t278 _ ?side1 ?side2 ?side3 ?side4 A60.out).mono ?_
      (case side1 => repeat (first | exact (Kd.C_below HR0_0.out HB.out) | (with_reducible refine Kd.C_alloc ?_ _) | (with_reducible refine Kd.C_drewN ?_ _) | (with_reducible refine Kd.C_drew ?_)))
      (case side2 => exact HC0_0.out)
      (case side3 => repeat (first | exact (Kd.C_below HR0_1.out HB.out) | (with_reducible refine Kd.C_alloc ?_ _) | (with_reducible refine Kd.C_drewN ?_ _) | (with_reducible refine Kd.C_drew ?_)))
      (case side4 => exact HC0_1.out)
      rintro e w66 ⟨v276, v279, rfl, ho0, ho1, hb⟩
      refine ⟨_, rfl, ?_⟩
      have HO277 := Aside0.mk (Kd.R_lower (Kd.R_new' (Kd.R_new' (Kd.R_new' ho0 (Kd.R_lt (by (with_reducible repeat (first | apply Kd.R_alloc | apply Kd.R_drewN | apply Kd.R_drew)); exact HO_259000.out))) (Kd.R_lt (by (with_reducible repeat (first | apply Kd.R_alloc | apply Kd.R_drewN | apply Kd.R_drew)); exact HO_266000.out))) (Kd.R_lt (by (with_reducible repeat (first | apply Kd.R_alloc | apply Kd.R_drewN | apply Kd.R_drew)); exact HO_274000.out))) (below_size (by repeat (first | (with_reducible first | exact HB.out | apply below_alloc | apply pw_below_drewN | apply below_drew1 | refine below_set ?_ GE243.out | refine below_set ?_ GE258.out | refine below_set ?_ GE265.out | refine below_set ?_ GE273.out) | exact HB.out))))
      replace HO_259000 := Aside0.mk (Kd.R_elder' (by (with_reducible repeat (first | apply Kd.R_alloc | apply Kd.R_drewN | apply Kd.R_drew)); exact HO_259000.out) (Kd.R_base ho0) hb)
      replace HO_266000 := Aside0.mk (Kd.R_elder' (by (with_reducible repeat (first | apply Kd.R_alloc | apply Kd.R_drewN | apply Kd.R_drew)); exact HO_266000.out) (Kd.R_base ho0) hb)
      replace HO_274000 := Aside0.mk (Kd.R_elder' (by (with_reducible repeat (first | apply Kd.R_alloc | apply Kd.R_drewN | apply Kd.R_drew)); exact HO_274000.out) (Kd.R_base ho0) hb)
      have HO280 := Aside0.mk (Kd.R_lower (Kd.R_new' (Kd.R_new' (Kd.R_new' ho1 (Kd.R_lt (by (with_reducible repeat (first | apply Kd.R_alloc | apply Kd.R_drewN | apply Kd.R_drew)); exact HO_259001.out))) (Kd.R_lt (by (with_reducible repeat (first | apply Kd.R_alloc | apply Kd.R_drewN | apply Kd.R_drew)); exact HO_266001.out))) (Kd.R_lt (by (with_reducible repeat (first | apply Kd.R_alloc | apply Kd.R_drewN | apply Kd.R_drew)); exact HO_274001.out))) (below_size (by repeat (first | (with_reducible first | exact HB.out | apply below_alloc | apply pw_below_drewN | apply below_drew1 | refine below_set ?_ GE243.out | refine below_set ?_ GE258.out | refine below_set ?_ GE265.out | refine below_set ?_ GE273.out) | exact HB.out))))
      replace HO_259001 := Aside0.mk (Kd.R_elder' (by (with_reducible repeat (first | apply Kd.R_alloc | apply Kd.R_drewN | apply Kd.R_drew)); exact HO_259001.out) (Kd.R_base ho1) hb)
      replace HO_266001 := Aside0.mk (Kd.R_elder' (by (with_reducible repeat (first | apply Kd.R_alloc | apply Kd.R_drewN | apply Kd.R_drew)); exact HO_266001.out) (Kd.R_base ho1) hb)
      replace HO_274001 := Aside0.mk (Kd.R_elder' (by (with_reducible repeat (first | apply Kd.R_alloc | apply Kd.R_drewN | apply Kd.R_drew)); exact HO_274001.out) (Kd.R_base ho1) hb)
      replace BK243 := Aside0.mk (blk_below (g := gb243) (o := .cells #[.slice A0_0 l0_0.length c0_0, .slice A0_1 l0_1.length c0_1] 51 (0, 0)) (by (with_reducible repeat (first | refine blk_drewN ?_ _ | refine blk_drew ?_ | refine blk_alloc ?_ _)); exact BK243.out) hb)
      replace BK258 := Aside0.mk (blk_below (g := gb258) (o := .cells #[.slice Ao21 t251.length co21, .slice Ao24 t254.length co24] 54 (0, 0)) (by (with_reducible repeat (first | refine blk_drewN ?_ _ | refine blk_drew ?_ | refine blk_alloc ?_ _)); exact BK258.out) hb)
      replace BK265 := Aside0.mk (blk_below (g := gb265) (o := .cells #[.slice Ao28 t259.length co28, .slice Ao32 t262.length co32] 54 (0, 0)) (by (with_reducible repeat (first | refine blk_drewN ?_ _ | refine blk_drew ?_ | refine blk_alloc ?_ _)); exact BK265.out) hb)
      replace BK273 := Aside0.mk (blk_below (g := gb273) (o := .cells #[.slice Ao35 t266.length co35, .slice Ao40 t269.length co40] 54 (0, 0)) (by (with_reducible repeat (first | refine blk_drewN ?_ _ | refine blk_drew ?_ | refine blk_alloc ?_ _)); exact BK273.out) hb)
      replace HB := Aside0.mk (below_step (by repeat (first | (with_reducible first | exact HB.out | apply below_alloc | apply pw_below_drewN | apply below_drew1 | refine below_set ?_ GE243.out | refine below_set ?_ GE258.out | refine below_set ?_ GE265.out | refine below_set ?_ GE273.out) | exact HB.out)) hb)
      (try clear hb)
      (try clear hb2)
      (try clear hk)
      (try clear hi)
      (try clear ho0)
      (try clear ho1)
      obtain ⟨Ao67, co67, eo67⟩ := Kd.R_slice HO277.out
      (first | subst eo67 | (injection eo67 with f1_ f2_ f3_; have f4_ := f1_.symm; have f5_ := f3_.symm; clear f1_ f2_ f3_; subst f4_; subst f5_))
      obtain ⟨Ao68, co68, eo68⟩ := Kd.R_slice HO280.out
      (first | subst eo68 | (injection eo68 with f1_ f2_ f3_; have f4_ := f1_.symm; have f5_ := f3_.symm; clear f1_ f2_ f3_; subst f4_; subst f5_))
      refine hK.out _ _ ⟨(blk_cell BK265.out 0).trans rfl, (blk_cell BK265.out 1).trans rfl, (blk_cell BK243.out 0).trans rfl, (blk_cell BK243.out 1).trans rfl⟩ (fun hHeld => ?_)
      clear hK K
      refine norm_ (a' := ?_) ?_ ?_
      rotate_left
      ·show Act.put _ (some 43) _ = _
       simp only [Act.put, List.setIfInBounds_toArray, List.set_cons_zero, List.set_cons_succ, i64_w, i32_w]
       rfl
      refine one_ (i := 3) (N := some 44) #[true, true, true, true, false] rfl rfl (by kernel_rfl) (by decide) (fun K hK => ?_)
      refine goes_ Try.func41 (by kernel_rfl) rfl #[.agg #[.slice Ao28 t259.length co28, .slice Ao32 t262.length co32], .agg #[.slice Ao67 t275.length co67, .slice Ao68 t278.length co68]] (by rfl) rfl rfl (by (try simp only [List.map_toArray, List.map_cons, List.map_nil]); first | done | rfl | (simp only [List.length_drop, List.length_take]; rfl)) ?_
      with_reducible refine (laws_eqPuzzle.calls kj10 _ _ t259 _ _ t262 _ _ t275 _ _ t278 true _ ?side1 ?side2 ?side3 ?side4 ?side5 ?side6 ?side7 ?side8 A61.out).mono ?_
      (case side1 => repeat (first | exact (Kd.R_reads' HO_266000.out).2.2 | (with_reducible refine Kd.C_alloc ?_ _) | (with_reducible refine Kd.C_drewN ?_ _) | (with_reducible refine Kd.C_drew ?_)))
      (case side2 => exact (Kd.R_reads' HO_266000.out).2.1)
      (case side3 => repeat (first | exact (Kd.R_reads' HO_266001.out).2.2 | (with_reducible refine Kd.C_alloc ?_ _) | (with_reducible refine Kd.C_drewN ?_ _) | (with_reducible refine Kd.C_drew ?_)))
      (case side4 => exact (Kd.R_reads' HO_266001.out).2.1)
      (case side5 => repeat (first | exact (Kd.R_reads' HO277.out).2.2 | (with_reducible refine Kd.C_alloc ?_ _) | (with_reducible refine Kd.C_drewN ?_ _) | (with_reducible refine Kd.C_drew ?_)))
      (case side6 => exact (Kd.R_reads' HO277.out).2.1)
      (case side7 => repeat (first | exact (Kd.R_reads' HO280.out).2.2 | (with_reducible refine Kd.C_alloc ?_ _) | (with_reducible refine Kd.C_drewN ?_ _) | (with_reducible refine Kd.C_drew ?_)))
      (case side8 => exact (Kd.R_reads' HO280.out).2.1)
      rintro e w69 ⟨rfl, hb⟩
      refine ⟨_, rfl, ?_⟩
      replace HO_259000 := Aside0.mk (Kd.R_below (by (with_reducible repeat (first | apply Kd.R_alloc | apply Kd.R_drewN | apply Kd.R_drew)); exact HO_259000.out) hb)
      replace HO_259001 := Aside0.mk (Kd.R_below (by (with_reducible repeat (first | apply Kd.R_alloc | apply Kd.R_drewN | apply Kd.R_drew)); exact HO_259001.out) hb)
      replace HO_266000 := Aside0.mk (Kd.R_below (by (with_reducible repeat (first | apply Kd.R_alloc | apply Kd.R_drewN | apply Kd.R_drew)); exact HO_266000.out) hb)
      replace HO_266001 := Aside0.mk (Kd.R_below (by (with_reducible repeat (first | apply Kd.R_alloc | apply Kd.R_drewN | apply Kd.R_drew)); exact HO_266001.out) hb)
      replace HO_274000 := Aside0.mk (Kd.R_below (by (with_reducible repeat (first | apply Kd.R_alloc | apply Kd.R_drewN | apply Kd.R_drew)); exact HO_274000.out) hb)
      replace HO_274001 := Aside0.mk (Kd.R_below (by (with_reducible repeat (first | apply Kd.R_alloc | apply Kd.R_drewN | apply Kd.R_drew)); exact HO_274001.out) hb)
      replace HO277 := Aside0.mk (Kd.R_below (by (with_reducible repeat (first | apply Kd.R_alloc | apply Kd.R_drewN | apply Kd.R_drew)); exact HO277.out) hb)
      replace HO280 := Aside0.mk (Kd.R_below (by (with_reducible repeat (first | apply Kd.R_alloc | apply Kd.R_drewN | apply Kd.R_drew)); exact HO280.out) hb)
      replace BK243 := Aside0.mk (blk_below (g := gb243) (o := .cells #[.slice A0_0 l0_0.length c0_0, .slice A0_1 l0_1.length c0_1] 51 (0, 0)) (by (with_reducible repeat (first | refine blk_drewN ?_ _ | refine blk_drew ?_ | refine blk_alloc ?_ _)); exact BK243.out) hb)
      replace BK258 := Aside0.mk (blk_below (g := gb258) (o := .cells #[.slice Ao21 t251.length co21, .slice Ao24 t254.length co24] 54 (0, 0)) (by (with_reducible repeat (first | refine blk_drewN ?_ _ | refine blk_drew ?_ | refine blk_alloc ?_ _)); exact BK258.out) hb)
      replace BK265 := Aside0.mk (blk_below (g := gb265) (o := .cells #[.slice Ao28 t259.length co28, .slice Ao32 t262.length co32] 54 (0, 0)) (by (with_reducible repeat (first | refine blk_drewN ?_ _ | refine blk_drew ?_ | refine blk_alloc ?_ _)); exact BK265.out) hb)
      replace BK273 := Aside0.mk (blk_below (g := gb273) (o := .cells #[.slice Ao35 t266.length co35, .slice Ao40 t269.length co40] 54 (0, 0)) (by (with_reducible repeat (first | refine blk_drewN ?_ _ | refine blk_drew ?_ | refine blk_alloc ?_ _)); exact BK273.out) hb)
      replace HB := Aside0.mk (below_step (by repeat (first | (with_reducible first | exact HB.out | apply below_alloc | apply pw_below_drewN | apply below_drew1 | refine below_set ?_ GE243.out | refine below_set ?_ GE258.out | refine below_set ?_ GE265.out | refine below_set ?_ GE273.out) | exact HB.out)) hb)
      (try clear hb)
      (try clear hb2)
      (try clear hk)
      (try clear hi)
      refine hK.out _ _ ⟨(blk_cell BK265.out 0).trans rfl, (blk_cell BK265.out 1).trans rfl, (blk_cell BK243.out 0).trans rfl, (blk_cell BK243.out 1).trans rfl⟩ (fun hHeld => ?_)
      clear hK K
      refine norm_ (a' := ?_) ?_ ?_
      rotate_left
      ·show Act.put _ (some 44) _ = _
       simp only [Act.put, List.setIfInBounds_toArray, List.set_cons_zero, List.set_cons_succ, i64_w, i32_w]
       rfl
      refine pure_ (i := 4) (N := some 45) (v := ?_) (a' := ?_) #[true, true, true, true, true] rfl rfl (by kernel_rfl) (fun _ _ _ h => h) (Or.inl ⟨by rfl, ?_⟩) ?_ ?_
      rotate_left
      ·intro w'
       go_simp
       with_reducible rfl
      rotate_left
      ·simp only [Act.put, List.setIfInBounds_toArray, List.set_cons_zero, List.set_cons_succ, i64_w, i32_w]
       rfl
      refine done_ (by kernel_rfl) ?_
      have hnb70 := NB265_243.out
      have hnc70 := NB243_265.out
      have hnb71 := NB265_258.out
      have hnc71 := NB258_265.out
      have hnb72 := NB265_273.out
      have hnc72 := NB273_265.out
      have hcz73_0 : w69.cell? ⟨gb265, 0, none⟩ = some (.slice Ao28 t259.length co28) := (blk_cell BK265.out 0).trans rfl
      have hcz73_1 : w69.cell? ⟨gb265, 1, none⟩ = some (.slice Ao32 t262.length co32) := (blk_cell BK265.out 1).trans rfl
      have hfz73_0 := blk_frozen BK265.out 0
      have hfz73_1 := blk_frozen BK265.out 1
      go_upto_region 14 with (first | ((with_reducible refine gate_callee (f := 42) rfl ?_); refine goesL_ (some 48) rfl rfl Try.func42 (by kernel_rfl) rfl #[.agg #[.slice Ao28 t259.length co28, .slice Ao32 t262.length co32], .int .i64 1] rfl (by (try simp only [List.map_toArray, List.map_cons, List.map_nil]); first | done | rfl | (simp only [List.length_drop, List.length_take]; rfl)) ?_; (with_reducible refine (laws_markPuzzle.calls kj10 (fun k_ => some k_ = (.slice Ao28 t259.length co28 : Value).ownBlock) (.slice Ao28 t259.length co28) t259 (fun k_ => some k_ = (.slice Ao32 t262.length co32 : Value).ownBlock) (.slice Ao32 t262.length co32) t262 1 t282 t283 t284 w _ ?side1 ?side2 ?side3 A63.out).mono ?_); (case side1 => repeat (first | (with_reducible first | exact HB.out | apply below_alloc | apply pw_below_drewN | apply below_drew1 | refine below_set ?_ GE243.out | refine below_set ?_ GE258.out | refine below_set ?_ GE265.out | refine below_set ?_ GE273.out) | exact HB.out)); (case side2 => exact Kd.R_tight rfl HO_266000.out); (case side3 => exact Kd.R_tight rfl HO_266001.out); rintro e w74 ⟨rfl, hy0, hy1, hb, hkp⟩; refine ⟨_, rfl, ?_⟩; replace HO_259000 := Aside0.mk (Kd.R_mono (ok' := fun k_ => some k_ ≠ (.slice Ao28 t259.length co28 : Value).ownBlock ∧ some k_ ≠ (.slice Ao35 t266.length co35 : Value).ownBlock ∧ some k_ ≠ (.slice Ao67 t275.length co67 : Value).ownBlock) (Kd.R_keptB ((Kd.R_apart' HO_259000.out (Kd.R_typed HO_266001.out) (by decide))) hkp (fun k_ hk_ hs_ => Or.elim hs_ (fun e_ => (hk_.1.1.1) e_) (fun e_ => (hk_.2) e_))) (fun k_ hk_ => ⟨hk_.1.1.1.1, hk_.1.1.1.2, hk_.1.1.2⟩)); replace HO_259001 := Aside0.mk (Kd.R_mono (ok' := fun k_ => some k_ ≠ (.slice Ao32 t262.length co32 : Value).ownBlock ∧ some k_ ≠ (.slice Ao40 t269.length co40 : Value).ownBlock ∧ some k_ ≠ (.slice Ao68 t278.length co68 : Value).ownBlock) (Kd.R_keptB ((Kd.R_apart' HO_259001.out (Kd.R_typed HO_266000.out) (by decide))) hkp (fun k_ hk_ hs_ => Or.elim hs_ (fun e_ => (hk_.2) e_) (fun e_ => (hk_.1.1.1) e_))) (fun k_ hk_ => ⟨hk_.1.1.1.1, hk_.1.1.1.2, hk_.1.1.2⟩)); replace HO_274000 := Aside0.mk (Kd.R_mono (ok' := fun k_ => some k_ ≠ (.slice Ao21 t251.length co21 : Value).ownBlock ∧ some k_ ≠ (.slice Ao28 t259.length co28 : Value).ownBlock ∧ some k_ ≠ (.slice Ao67 t275.length co67 : Value).ownBlock) (Kd.R_keptB ((Kd.R_apart' HO_274000.out (Kd.R_typed HO_266001.out) (by decide))) hkp (fun k_ hk_ hs_ => Or.elim hs_ (fun e_ => (hk_.1.1.2) e_) (fun e_ => (hk_.2) e_))) (fun k_ hk_ => ⟨hk_.1.1.1.1, hk_.1.1.1.2, hk_.1.1.2⟩)); replace HO_274001 := Aside0.mk (Kd.R_mono (ok' := fun k_ => some k_ ≠ (.slice Ao24 t254.length co24 : Value).ownBlock ∧ some k_ ≠ (.slice Ao32 t262.length co32 : Value).ownBlock ∧ some k_ ≠ (.slice Ao68 t278.length co68 : Value).ownBlock) (Kd.R_keptB ((Kd.R_apart' HO_274001.out (Kd.R_typed HO_266000.out) (by decide))) hkp (fun k_ hk_ hs_ => Or.elim hs_ (fun e_ => (hk_.2) e_) (fun e_ => (hk_.1.1.2) e_))) (fun k_ hk_ => ⟨hk_.1.1.1.1, hk_.1.1.1.2, hk_.1.1.2⟩)); replace BK243 := Aside0.mk (blk_kept (by (with_reducible repeat (first | refine blk_drewN ?_ _ | refine blk_drew ?_ | refine blk_alloc ?_ _)); exact BK243.out) hkp (fun hs_ => Or.elim hs_ (fun e_ => (fun e_ => (Kd.R_ne HO_266000.out BK243.out (by decide)) e_) e_) (fun e_ => (fun e_ => (Kd.R_ne HO_266001.out BK243.out (by decide)) e_) e_))); replace BK258 := Aside0.mk (blk_kept (by (with_reducible repeat (first | refine blk_drewN ?_ _ | refine blk_drew ?_ | refine blk_alloc ?_ _)); exact BK258.out) hkp (fun hs_ => Or.elim hs_ (fun e_ => (fun e_ => (Kd.R_ne HO_266000.out BK258.out (by decide)) e_) e_) (fun e_ => (fun e_ => (Kd.R_ne HO_266001.out BK258.out (by decide)) e_) e_))); replace BK265 := Aside0.mk (blk_kept (by (with_reducible repeat (first | refine blk_drewN ?_ _ | refine blk_drew ?_ | refine blk_alloc ?_ _)); exact BK265.out) hkp (fun hs_ => Or.elim hs_ (fun e_ => (fun e_ => (Kd.R_ne HO_266000.out BK265.out (by decide)) e_) e_) (fun e_ => (fun e_ => (Kd.R_ne HO_266001.out BK265.out (by decide)) e_) e_))); replace BK273 := Aside0.mk (blk_kept (by (with_reducible repeat (first | refine blk_drewN ?_ _ | refine blk_drew ?_ | refine blk_alloc ?_ _)); exact BK273.out) hkp (fun hs_ => Or.elim hs_ (fun e_ => (fun e_ => (Kd.R_ne HO_266000.out BK273.out (by decide)) e_) e_) (fun e_ => (fun e_ => (Kd.R_ne HO_266001.out BK273.out (by decide)) e_) e_))); replace HO277 := Aside0.mk (Kd.R_mono (ok' := fun k_ => some k_ ≠ (.slice Ao21 t251.length co21 : Value).ownBlock ∧ some k_ ≠ (.slice Ao28 t259.length co28 : Value).ownBlock ∧ some k_ ≠ (.slice Ao35 t266.length co35 : Value).ownBlock) (Kd.R_keptB ((Kd.R_apart' HO277.out (Kd.R_typed HO_266001.out) (by decide))) hkp (fun k_ hk_ hs_ => Or.elim hs_ (fun e_ => (hk_.1.1.2) e_) (fun e_ => (hk_.2) e_))) (fun k_ hk_ => ⟨hk_.1.1.1.1.2, hk_.1.1.1.2, hk_.1.1.2⟩)); replace HO_266001 := Aside0.mk (Kd.R_reok rfl hy1 (fun k_ e_ => HO_266001.out.1 k_ e_)); replace HO280 := Aside0.mk (Kd.R_mono (ok' := fun k_ => some k_ ≠ (.slice Ao24 t254.length co24 : Value).ownBlock ∧ some k_ ≠ (.slice Ao32 t262.length co32 : Value).ownBlock ∧ some k_ ≠ (.slice Ao40 t269.length co40 : Value).ownBlock) (Kd.R_keptB ((Kd.R_apart' HO280.out (Kd.R_typed HO_266000.out) (by decide))) hkp (fun k_ hk_ hs_ => Or.elim hs_ (fun e_ => (hk_.2) e_) (fun e_ => (hk_.1.1.2) e_))) (fun k_ hk_ => ⟨hk_.1.1.1.1.2, hk_.1.1.1.2, hk_.1.1.2⟩)); replace HO_266000 := Aside0.mk (Kd.R_reok rfl hy0 (fun k_ e_ => HO_266000.out.1 k_ e_)); replace HB := Aside0.mk (hb); (try clear hb); (try clear hkp); (try clear hy0); (try clear hy1)))
      (try simp only [Act.put, List.setIfInBounds_toArray, List.set_cons_zero, List.set_cons_succ])
      go_cut [61] (fun v61 wc => ∃ (kq : Nat) (x61_63 : Bool), v61 = .bool x61_63 ∧ Aside0 (laws_FnExactTurnPuzzle.j1 kq t257 x61_63 l0_0 l0_1 t251 t254 t266 t269 = some r) ∧ Aside0 (kq ≤ kj10) ∧ Aside0 (Kd.R k25 25 wc w.heap.size (fun k_ => some k_ ≠ ((.slice Ao28 t259.length co28) : Value).ownBlock ∧ some k_ ≠ ((.slice Ao35 t266.length co35) : Value).ownBlock) (.slice Ao21 t251.length co21) t251) ∧ Aside0 (Kd.R (Kd.int .i64) 3 wc w.heap.size (fun k_ => some k_ ≠ ((.slice Ao32 t262.length co32) : Value).ownBlock ∧ some k_ ≠ ((.slice Ao40 t269.length co40) : Value).ownBlock) (.slice Ao24 t254.length co24) t254) ∧ Aside0 (Kd.R k25 25 wc w.heap.size (fun k_ => some k_ ≠ ((.slice Ao21 t251.length co21) : Value).ownBlock ∧ some k_ ≠ ((.slice Ao35 t266.length co35) : Value).ownBlock) (.slice Ao28 t259.length co28) t283) ∧ Aside0 (Kd.R (Kd.int .i64) 3 wc w.heap.size (fun k_ => some k_ ≠ ((.slice Ao24 t254.length co24) : Value).ownBlock ∧ some k_ ≠ ((.slice Ao40 t269.length co40) : Value).ownBlock) (.slice Ao32 t262.length co32) t284) ∧ Aside0 (Kd.R k25 25 wc w.heap.size (fun k_ => some k_ ≠ ((.slice Ao21 t251.length co21) : Value).ownBlock ∧ some k_ ≠ ((.slice Ao28 t259.length co28) : Value).ownBlock) (.slice Ao35 t266.length co35) t266) ∧ Aside0 (Kd.R (Kd.int .i64) 3 wc w.heap.size (fun k_ => some k_ ≠ ((.slice Ao24 t254.length co24) : Value).ownBlock ∧ some k_ ≠ ((.slice Ao32 t262.length co32) : Value).ownBlock) (.slice Ao40 t269.length co40) t269) ∧ Aside0 (wc.heap[gb243]? = some (.cells #[(.slice A0_0 l0_0.length c0_0), (.slice A0_1 l0_1.length c0_1)] 51 (0, 0))) ∧ Aside0 (wc.heap[gb258]? = some (.cells #[(.slice Ao21 t251.length co21), (.slice Ao24 t254.length co24)] 54 (0, 0))) ∧ Aside0 (wc.heap[gb265]? = some (.cells #[(.slice Ao28 t259.length co28), (.slice Ao32 t262.length co32)] 54 (0, 0))) ∧ Aside0 (wc.heap[gb273]? = some (.cells #[(.slice Ao35 t266.length co35), (.slice Ao40 t269.length co40)] 54 (0, 0))) ∧ Aside0 (Below w.heap.size w wc))
      case first =>
       have H := HC64.out
       clear HC64
       by_cases c75 : t282 < 0
       ·rw [if_pos c75] at H
        have c75b0 : decide (t282 < 0) = true := decide_eq_true c75
        clear c75
        (first | rw [c75b0] | (simp only [i64_w, i32_w]; rw [c75b0]) | skip)
        have H' := Aside0.mk H
        clear H
        go_wp2
        go_meet
        case rel => exact ⟨_, (true), (by first | rfl | (simp; done) | (simp [*]; done)), H', ⟨by have := HJ10.out; first | omega | exact Nat.le_refl _⟩, ⟨by (with_reducible repeat (first | apply Kd.R_alloc | apply Kd.R_drewN | apply Kd.R_drew)); exact Kd.R_mono HO_259000.out (fun _ hk => ⟨hk.1, hk.2.1⟩)⟩, ⟨by (with_reducible repeat (first | apply Kd.R_alloc | apply Kd.R_drewN | apply Kd.R_drew)); exact Kd.R_mono HO_259001.out (fun _ hk => ⟨hk.1, hk.2.1⟩)⟩, ⟨by (with_reducible repeat (first | apply Kd.R_alloc | apply Kd.R_drewN | apply Kd.R_drew)); exact Kd.R_mono HO_266000.out (fun _ hk => ⟨hk.1.1, hk.1.2⟩)⟩, ⟨by (with_reducible repeat (first | apply Kd.R_alloc | apply Kd.R_drewN | apply Kd.R_drew)); exact Kd.R_mono HO_266001.out (fun _ hk => ⟨hk.1.1, hk.1.2⟩)⟩, ⟨by (with_reducible repeat (first | apply Kd.R_alloc | apply Kd.R_drewN | apply Kd.R_drew)); exact Kd.R_mono HO_274000.out (fun _ hk => ⟨hk.1, hk.2.1⟩)⟩, ⟨by (with_reducible repeat (first | apply Kd.R_alloc | apply Kd.R_drewN | apply Kd.R_drew)); exact Kd.R_mono HO_274001.out (fun _ hk => ⟨hk.1, hk.2.1⟩)⟩, ⟨by (with_reducible repeat (first | refine blk_drewN ?_ _ | refine blk_drew ?_ | refine blk_alloc ?_ _)); exact BK243.out⟩, ⟨by (with_reducible repeat (first | refine blk_drewN ?_ _ | refine blk_drew ?_ | refine blk_alloc ?_ _)); exact BK258.out⟩, ⟨by (with_reducible repeat (first | refine blk_drewN ?_ _ | refine blk_drew ?_ | refine blk_alloc ?_ _)); exact BK265.out⟩, ⟨by (with_reducible repeat (first | refine blk_drewN ?_ _ | refine blk_drew ?_ | refine blk_alloc ?_ _)); exact BK273.out⟩, ⟨by repeat (first | (with_reducible first | exact HB.out | apply below_alloc | apply pw_below_drewN | apply below_drew1 | refine below_set ?_ GE243.out | refine below_set ?_ GE258.out | refine below_set ?_ GE265.out | refine below_set ?_ GE273.out) | exact HB.out)⟩⟩
       ·rw [if_neg c75] at H
        have c75b0 : decide (t282 < 0) = false := decide_eq_false c75
        clear c75
        (first | rw [c75b0] | (simp only [i64_w, i32_w]; rw [c75b0]) | skip)
        replace H := Option.bind_eq_some_iff.mp H
        obtain ⟨t285, A760, H⟩ := H
        replace H : (if t285 = true then (laws_FnExactTurnPuzzle.j1 kj10 t257 (t272 != t257) l0_0 l0_1 t251 t254 t266 t269) else (laws_FnExactTurnPuzzle.j1 kj10 t257 true l0_0 l0_1 t251 t254 t266 t269)) = some r := H
        have A76 := Aside0.mk A760
        clear A760
        by_cases c77 : t285 = true
        ·subst c77
         have H1 : (laws_FnExactTurnPuzzle.j1 kj10 t257 (t272 != t257) l0_0 l0_1 t251 t254 t266 t269) = some r := by rw [if_pos rfl] at H; exact H
         clear H
         have H := H1
         clear H1
         have H' := Aside0.mk H
         clear H
         have hnb78 := NB273_243.out
         have hnc78 := NB243_273.out
         have hnb79 := NB273_258.out
         have hnc79 := NB258_273.out
         have hnb80 := NB273_265.out
         have hnc80 := NB265_273.out
         have hcz81_0 : w74.cell? ⟨gb273, 0, none⟩ = some (.slice Ao35 t266.length co35) := (blk_cell BK273.out 0).trans rfl
         have hcz81_1 : w74.cell? ⟨gb273, 1, none⟩ = some (.slice Ao40 t269.length co40) := (blk_cell BK273.out 1).trans rfl
         have hfz81_0 := blk_frozen BK273.out 0
         have hfz81_1 := blk_frozen BK273.out 1
         have hnb82 := NB258_243.out
         have hnc82 := NB243_258.out
         have hnb83 := NB258_265.out
         have hnc83 := NB265_258.out
         have hcz84_0 : w74.cell? ⟨gb258, 0, none⟩ = some (.slice Ao21 t251.length co21) := (blk_cell BK258.out 0).trans rfl
         have hcz84_1 : w74.cell? ⟨gb258, 1, none⟩ = some (.slice Ao24 t254.length co24) := (blk_cell BK258.out 1).trans rfl
         have hfz84_0 := blk_frozen BK258.out 0
         have hfz84_1 := blk_frozen BK258.out 1
         go_wp2_with (first | (go_at_call 41; (with_reducible refine (laws_eqPuzzle.calls kj10 _ _ t266 _ _ t269 _ _ t251 _ _ t254 true _ ?side1 ?side2 ?side3 ?side4 ?side5 ?side6 ?side7 ?side8 A76.out).mono ?_); (case side1 => repeat (first | exact (Kd.R_reads' HO_274000.out).2.2 | (with_reducible refine Kd.C_alloc ?_ _) | (with_reducible refine Kd.C_drewN ?_ _) | (with_reducible refine Kd.C_drew ?_))); (case side2 => exact (Kd.R_reads' HO_274000.out).2.1); (case side3 => repeat (first | exact (Kd.R_reads' HO_274001.out).2.2 | (with_reducible refine Kd.C_alloc ?_ _) | (with_reducible refine Kd.C_drewN ?_ _) | (with_reducible refine Kd.C_drew ?_))); (case side4 => exact (Kd.R_reads' HO_274001.out).2.1); (case side5 => repeat (first | exact (Kd.R_reads' HO_259000.out).2.2 | (with_reducible refine Kd.C_alloc ?_ _) | (with_reducible refine Kd.C_drewN ?_ _) | (with_reducible refine Kd.C_drew ?_))); (case side6 => exact (Kd.R_reads' HO_259000.out).2.1); (case side7 => repeat (first | exact (Kd.R_reads' HO_259001.out).2.2 | (with_reducible refine Kd.C_alloc ?_ _) | (with_reducible refine Kd.C_drewN ?_ _) | (with_reducible refine Kd.C_drew ?_))); (case side8 => exact (Kd.R_reads' HO_259001.out).2.1); rintro e w85 ⟨rfl, hb⟩; replace HO_259000 := Aside0.mk (Kd.R_below (by (with_reducible repeat (first | apply Kd.R_alloc | apply Kd.R_drewN | apply Kd.R_drew)); exact HO_259000.out) hb); replace HO_259001 := Aside0.mk (Kd.R_below (by (with_reducible repeat (first | apply Kd.R_alloc | apply Kd.R_drewN | apply Kd.R_drew)); exact HO_259001.out) hb); replace HO_266000 := Aside0.mk (Kd.R_below (by (with_reducible repeat (first | apply Kd.R_alloc | apply Kd.R_drewN | apply Kd.R_drew)); exact HO_266000.out) hb); replace HO_266001 := Aside0.mk (Kd.R_below (by (with_reducible repeat (first | apply Kd.R_alloc | apply Kd.R_drewN | apply Kd.R_drew)); exact HO_266001.out) hb); replace HO_274000 := Aside0.mk (Kd.R_below (by (with_reducible repeat (first | apply Kd.R_alloc | apply Kd.R_drewN | apply Kd.R_drew)); exact HO_274000.out) hb); replace HO_274001 := Aside0.mk (Kd.R_below (by (with_reducible repeat (first | apply Kd.R_alloc | apply Kd.R_drewN | apply Kd.R_drew)); exact HO_274001.out) hb); replace HO277 := Aside0.mk (Kd.R_below (by (with_reducible repeat (first | apply Kd.R_alloc | apply Kd.R_drewN | apply Kd.R_drew)); exact HO277.out) hb); replace HO280 := Aside0.mk (Kd.R_below (by (with_reducible repeat (first | apply Kd.R_alloc | apply Kd.R_drewN | apply Kd.R_drew)); exact HO280.out) hb); replace BK243 := Aside0.mk (blk_below (g := gb243) (o := .cells #[.slice A0_0 l0_0.length c0_0, .slice A0_1 l0_1.length c0_1] 51 (0, 0)) (by (with_reducible repeat (first | refine blk_drewN ?_ _ | refine blk_drew ?_ | refine blk_alloc ?_ _)); exact BK243.out) hb); replace BK258 := Aside0.mk (blk_below (g := gb258) (o := .cells #[.slice Ao21 t251.length co21, .slice Ao24 t254.length co24] 54 (0, 0)) (by (with_reducible repeat (first | refine blk_drewN ?_ _ | refine blk_drew ?_ | refine blk_alloc ?_ _)); exact BK258.out) hb); replace BK265 := Aside0.mk (blk_below (g := gb265) (o := .cells #[.slice Ao28 t259.length co28, .slice Ao32 t262.length co32] 54 (0, 0)) (by (with_reducible repeat (first | refine blk_drewN ?_ _ | refine blk_drew ?_ | refine blk_alloc ?_ _)); exact BK265.out) hb); replace BK273 := Aside0.mk (blk_below (g := gb273) (o := .cells #[.slice Ao35 t266.length co35, .slice Ao40 t269.length co40] 54 (0, 0)) (by (with_reducible repeat (first | refine blk_drewN ?_ _ | refine blk_drew ?_ | refine blk_alloc ?_ _)); exact BK273.out) hb); replace HB := Aside0.mk (below_step (by repeat (first | (with_reducible first | exact HB.out | apply below_alloc | apply pw_below_drewN | apply below_drew1 | refine below_set ?_ GE243.out | refine below_set ?_ GE258.out | refine below_set ?_ GE265.out | refine below_set ?_ GE273.out) | exact HB.out)) hb); (try clear hb); (try clear hb2); (try clear hk); (try clear hi)))
         go_meet
         case rel => exact ⟨_, ((t272 != t257)), (by first | rfl | (simp; done) | (simp [*]; done)), H', ⟨by have := HJ10.out; first | omega | exact Nat.le_refl _⟩, ⟨by (with_reducible repeat (first | apply Kd.R_alloc | apply Kd.R_drewN | apply Kd.R_drew)); exact Kd.R_mono HO_259000.out (fun _ hk => ⟨hk.1, hk.2.1⟩)⟩, ⟨by (with_reducible repeat (first | apply Kd.R_alloc | apply Kd.R_drewN | apply Kd.R_drew)); exact Kd.R_mono HO_259001.out (fun _ hk => ⟨hk.1, hk.2.1⟩)⟩, ⟨by (with_reducible repeat (first | apply Kd.R_alloc | apply Kd.R_drewN | apply Kd.R_drew)); exact Kd.R_mono HO_266000.out (fun _ hk => ⟨hk.1.1, hk.1.2⟩)⟩, ⟨by (with_reducible repeat (first | apply Kd.R_alloc | apply Kd.R_drewN | apply Kd.R_drew)); exact Kd.R_mono HO_266001.out (fun _ hk => ⟨hk.1.1, hk.1.2⟩)⟩, ⟨by (with_reducible repeat (first | apply Kd.R_alloc | apply Kd.R_drewN | apply Kd.R_drew)); exact Kd.R_mono HO_274000.out (fun _ hk => ⟨hk.1, hk.2.1⟩)⟩, ⟨by (with_reducible repeat (first | apply Kd.R_alloc | apply Kd.R_drewN | apply Kd.R_drew)); exact Kd.R_mono HO_274001.out (fun _ hk => ⟨hk.1, hk.2.1⟩)⟩, ⟨by (with_reducible repeat (first | refine blk_drewN ?_ _ | refine blk_drew ?_ | refine blk_alloc ?_ _)); exact BK243.out⟩, ⟨by (with_reducible repeat (first | refine blk_drewN ?_ _ | refine blk_drew ?_ | refine blk_alloc ?_ _)); exact BK258.out⟩, ⟨by (with_reducible repeat (first | refine blk_drewN ?_ _ | refine blk_drew ?_ | refine blk_alloc ?_ _)); exact BK265.out⟩, ⟨by (with_reducible repeat (first | refine blk_drewN ?_ _ | refine blk_drew ?_ | refine blk_alloc ?_ _)); exact BK273.out⟩, ⟨by repeat (first | (with_reducible first | exact HB.out | apply below_alloc | apply pw_below_drewN | apply below_drew1 | refine below_set ?_ GE243.out | refine below_set ?_ GE258.out | refine below_set ?_ GE265.out | refine below_set ?_ GE273.out) | exact HB.out)⟩⟩
        ·replace c77 := Bool.eq_false_iff.mpr c77
         subst c77
         have H1 : (laws_FnExactTurnPuzzle.j1 kj10 t257 true l0_0 l0_1 t251 t254 t266 t269) = some r := by rw [if_neg (show ¬ (false = true) by decide)] at H; exact H
         clear H
         have H := H1
         clear H1
         have H' := Aside0.mk H
         clear H
         have hnb86 := NB273_243.out
         have hnc86 := NB243_273.out
         have hnb87 := NB273_258.out
         have hnc87 := NB258_273.out
         have hnb88 := NB273_265.out
         have hnc88 := NB265_273.out
         have hcz89_0 : w74.cell? ⟨gb273, 0, none⟩ = some (.slice Ao35 t266.length co35) := (blk_cell BK273.out 0).trans rfl
         have hcz89_1 : w74.cell? ⟨gb273, 1, none⟩ = some (.slice Ao40 t269.length co40) := (blk_cell BK273.out 1).trans rfl
         have hfz89_0 := blk_frozen BK273.out 0
         have hfz89_1 := blk_frozen BK273.out 1
         have hnb90 := NB258_243.out
         have hnc90 := NB243_258.out
         have hnb91 := NB258_265.out
         have hnc91 := NB265_258.out
         have hcz92_0 : w74.cell? ⟨gb258, 0, none⟩ = some (.slice Ao21 t251.length co21) := (blk_cell BK258.out 0).trans rfl
         have hcz92_1 : w74.cell? ⟨gb258, 1, none⟩ = some (.slice Ao24 t254.length co24) := (blk_cell BK258.out 1).trans rfl
         have hfz92_0 := blk_frozen BK258.out 0
         have hfz92_1 := blk_frozen BK258.out 1
         go_wp2_with (first | (go_at_call 41; (with_reducible refine (laws_eqPuzzle.calls kj10 _ _ t266 _ _ t269 _ _ t251 _ _ t254 false _ ?side1 ?side2 ?side3 ?side4 ?side5 ?side6 ?side7 ?side8 A76.out).mono ?_); (case side1 => repeat (first | exact (Kd.R_reads' HO_274000.out).2.2 | (with_reducible refine Kd.C_alloc ?_ _) | (with_reducible refine Kd.C_drewN ?_ _) | (with_reducible refine Kd.C_drew ?_))); (case side2 => exact (Kd.R_reads' HO_274000.out).2.1); (case side3 => repeat (first | exact (Kd.R_reads' HO_274001.out).2.2 | (with_reducible refine Kd.C_alloc ?_ _) | (with_reducible refine Kd.C_drewN ?_ _) | (with_reducible refine Kd.C_drew ?_))); (case side4 => exact (Kd.R_reads' HO_274001.out).2.1); (case side5 => repeat (first | exact (Kd.R_reads' HO_259000.out).2.2 | (with_reducible refine Kd.C_alloc ?_ _) | (with_reducible refine Kd.C_drewN ?_ _) | (with_reducible refine Kd.C_drew ?_))); (case side6 => exact (Kd.R_reads' HO_259000.out).2.1); (case side7 => repeat (first | exact (Kd.R_reads' HO_259001.out).2.2 | (with_reducible refine Kd.C_alloc ?_ _) | (with_reducible refine Kd.C_drewN ?_ _) | (with_reducible refine Kd.C_drew ?_))); (case side8 => exact (Kd.R_reads' HO_259001.out).2.1); rintro e w93 ⟨rfl, hb⟩; replace HO_259000 := Aside0.mk (Kd.R_below (by (with_reducible repeat (first | apply Kd.R_alloc | apply Kd.R_drewN | apply Kd.R_drew)); exact HO_259000.out) hb); replace HO_259001 := Aside0.mk (Kd.R_below (by (with_reducible repeat (first | apply Kd.R_alloc | apply Kd.R_drewN | apply Kd.R_drew)); exact HO_259001.out) hb); replace HO_266000 := Aside0.mk (Kd.R_below (by (with_reducible repeat (first | apply Kd.R_alloc | apply Kd.R_drewN | apply Kd.R_drew)); exact HO_266000.out) hb); replace HO_266001 := Aside0.mk (Kd.R_below (by (with_reducible repeat (first | apply Kd.R_alloc | apply Kd.R_drewN | apply Kd.R_drew)); exact HO_266001.out) hb); replace HO_274000 := Aside0.mk (Kd.R_below (by (with_reducible repeat (first | apply Kd.R_alloc | apply Kd.R_drewN | apply Kd.R_drew)); exact HO_274000.out) hb); replace HO_274001 := Aside0.mk (Kd.R_below (by (with_reducible repeat (first | apply Kd.R_alloc | apply Kd.R_drewN | apply Kd.R_drew)); exact HO_274001.out) hb); replace HO277 := Aside0.mk (Kd.R_below (by (with_reducible repeat (first | apply Kd.R_alloc | apply Kd.R_drewN | apply Kd.R_drew)); exact HO277.out) hb); replace HO280 := Aside0.mk (Kd.R_below (by (with_reducible repeat (first | apply Kd.R_alloc | apply Kd.R_drewN | apply Kd.R_drew)); exact HO280.out) hb); replace BK243 := Aside0.mk (blk_below (g := gb243) (o := .cells #[.slice A0_0 l0_0.length c0_0, .slice A0_1 l0_1.length c0_1] 51 (0, 0)) (by (with_reducible repeat (first | refine blk_drewN ?_ _ | refine blk_drew ?_ | refine blk_alloc ?_ _)); exact BK243.out) hb); replace BK258 := Aside0.mk (blk_below (g := gb258) (o := .cells #[.slice Ao21 t251.length co21, .slice Ao24 t254.length co24] 54 (0, 0)) (by (with_reducible repeat (first | refine blk_drewN ?_ _ | refine blk_drew ?_ | refine blk_alloc ?_ _)); exact BK258.out) hb); replace BK265 := Aside0.mk (blk_below (g := gb265) (o := .cells #[.slice Ao28 t259.length co28, .slice Ao32 t262.length co32] 54 (0, 0)) (by (with_reducible repeat (first | refine blk_drewN ?_ _ | refine blk_drew ?_ | refine blk_alloc ?_ _)); exact BK265.out) hb); replace BK273 := Aside0.mk (blk_below (g := gb273) (o := .cells #[.slice Ao35 t266.length co35, .slice Ao40 t269.length co40] 54 (0, 0)) (by (with_reducible repeat (first | refine blk_drewN ?_ _ | refine blk_drew ?_ | refine blk_alloc ?_ _)); exact BK273.out) hb); replace HB := Aside0.mk (below_step (by repeat (first | (with_reducible first | exact HB.out | apply below_alloc | apply pw_below_drewN | apply below_drew1 | refine below_set ?_ GE243.out | refine below_set ?_ GE258.out | refine below_set ?_ GE265.out | refine below_set ?_ GE273.out) | exact HB.out)) hb); (try clear hb); (try clear hb2); (try clear hk); (try clear hi)))
         go_meet
         case rel => exact ⟨_, (true), (by first | rfl | (simp; done) | (simp [*]; done)), H', ⟨by have := HJ10.out; first | omega | exact Nat.le_refl _⟩, ⟨by (with_reducible repeat (first | apply Kd.R_alloc | apply Kd.R_drewN | apply Kd.R_drew)); exact Kd.R_mono HO_259000.out (fun _ hk => ⟨hk.1, hk.2.1⟩)⟩, ⟨by (with_reducible repeat (first | apply Kd.R_alloc | apply Kd.R_drewN | apply Kd.R_drew)); exact Kd.R_mono HO_259001.out (fun _ hk => ⟨hk.1, hk.2.1⟩)⟩, ⟨by (with_reducible repeat (first | apply Kd.R_alloc | apply Kd.R_drewN | apply Kd.R_drew)); exact Kd.R_mono HO_266000.out (fun _ hk => ⟨hk.1.1, hk.1.2⟩)⟩, ⟨by (with_reducible repeat (first | apply Kd.R_alloc | apply Kd.R_drewN | apply Kd.R_drew)); exact Kd.R_mono HO_266001.out (fun _ hk => ⟨hk.1.1, hk.1.2⟩)⟩, ⟨by (with_reducible repeat (first | apply Kd.R_alloc | apply Kd.R_drewN | apply Kd.R_drew)); exact Kd.R_mono HO_274000.out (fun _ hk => ⟨hk.1, hk.2.1⟩)⟩, ⟨by (with_reducible repeat (first | apply Kd.R_alloc | apply Kd.R_drewN | apply Kd.R_drew)); exact Kd.R_mono HO_274001.out (fun _ hk => ⟨hk.1, hk.2.1⟩)⟩, ⟨by (with_reducible repeat (first | refine blk_drewN ?_ _ | refine blk_drew ?_ | refine blk_alloc ?_ _)); exact BK243.out⟩, ⟨by (with_reducible repeat (first | refine blk_drewN ?_ _ | refine blk_drew ?_ | refine blk_alloc ?_ _)); exact BK258.out⟩, ⟨by (with_reducible repeat (first | refine blk_drewN ?_ _ | refine blk_drew ?_ | refine blk_alloc ?_ _)); exact BK265.out⟩, ⟨by (with_reducible repeat (first | refine blk_drewN ?_ _ | refine blk_drew ?_ | refine blk_alloc ?_ _)); exact BK273.out⟩, ⟨by repeat (first | (with_reducible first | exact HB.out | apply below_alloc | apply pw_below_drewN | apply below_drew1 | refine below_set ?_ GE243.out | refine below_set ?_ GE258.out | refine below_set ?_ GE265.out | refine below_set ?_ GE273.out) | exact HB.out)⟩⟩
      case rest =>
       clear HC64
       try clear c2
       try clear p2
       try clear c3
       try clear c3b0
       try clear c4
       try clear c5
       try clear c6
       try clear c7
       try clear c8
       try clear c9
       try clear c22
       try clear c29
       try clear c30
       try clear c36
       try clear c37
       try clear c38
       try clear c39
       try clear c41
       try clear c42
       try clear c43
       try clear c44
       try clear c45
       try clear c47
       try clear c48
       try clear c51
       try clear c52
       try clear c53
       try clear c55
       try clear c56
       try clear c59
       try clear c62
       try clear c68
       try clear c69
       try clear c70
       try clear c71
       try clear c72
       try clear c75
       try clear c75b0
       try clear c77
       try clear c78
       try clear c79
       try clear c80
       try clear c82
       try clear c83
       try clear c86
       try clear c87
       try clear c88
       try clear c90
       try clear c91
       try clear hcz13_0
       try clear hcz13_1
       try clear hcz15_0
       try clear hcz15_1
       try clear hcz23_0
       try clear hcz23_1
       try clear hcz25_0
       try clear hcz25_1
       try clear hcz31_0
       try clear hcz31_1
       try clear hcz39_0
       try clear hcz39_1
       try clear hcz46_0
       try clear hcz46_1
       try clear hcz49_0
       try clear hcz49_1
       try clear hcz54_0
       try clear hcz54_1
       try clear hcz57_0
       try clear hcz57_1
       try clear hcz5_0
       try clear hcz5_1
       try clear hcz73_0
       try clear hcz73_1
       try clear hcz81_0
       try clear hcz81_1
       try clear hcz84_0
       try clear hcz84_1
       try clear hcz89_0
       try clear hcz89_1
       try clear hcz92_0
       try clear hcz92_1
       try clear hfz13_0
       try clear hfz13_1
       try clear hfz15_0
       try clear hfz15_1
       try clear hfz23_0
       try clear hfz23_1
       try clear hfz25_0
       try clear hfz25_1
       try clear hfz31_0
       try clear hfz31_1
       try clear hfz39_0
       try clear hfz39_1
       try clear hfz46_0
       try clear hfz46_1
       try clear hfz49_0
       try clear hfz49_1
       try clear hfz54_0
       try clear hfz54_1
       try clear hfz57_0
       try clear hfz57_1
       try clear hfz5_0
       try clear hfz5_1
       try clear hfz73_0
       try clear hfz73_1
       try clear hfz81_0
       try clear hfz81_1
       try clear hfz84_0
       try clear hfz84_1
       try clear hfz89_0
       try clear hfz89_1
       try clear hfz92_0
       try clear hfz92_1
       try clear p2
       obtain ⟨kq, x61_63, rfl, HA, HJ63, HO_259000, HO_259001, HO_266000, HO_266001, HO_274000, HO_274001, BK243, BK258, BK265, BK273, HB⟩ := hcut
       have hl266000_63 := (Kd.R_reads' HO_266000.out).1
       rw [hl266000_63] at HO_266000
       (try simp only [hl266000_63])
       (try simp only [hl266000_63] at BK243)
       (try simp only [hl266000_63] at BK258)
       (try simp only [hl266000_63] at BK265)
       (try simp only [hl266000_63] at BK273)
       (try simp only [hl266000_63] at HO_259000)
       (try simp only [hl266000_63] at HO_259001)
       (try simp only [hl266000_63] at HO_266001)
       (try simp only [hl266000_63] at HO_274000)
       (try simp only [hl266000_63] at HO_274001)
       have hl266001_63 := (Kd.R_reads' HO_266001.out).1
       rw [hl266001_63] at HO_266001
       (try simp only [hl266001_63])
       (try simp only [hl266001_63] at BK243)
       (try simp only [hl266001_63] at BK258)
       (try simp only [hl266001_63] at BK265)
       (try simp only [hl266001_63] at BK273)
       (try simp only [hl266001_63] at HO_259000)
       (try simp only [hl266001_63] at HO_259001)
       (try simp only [hl266001_63] at HO_266000)
       (try simp only [hl266001_63] at HO_274000)
       (try simp only [hl266001_63] at HO_274001)
       cases kq with
       | zero => exact absurd HA.out (by simp [laws_FnExactTurnPuzzle.j1])
       | succ kj63 =>
        have H := HA.out
        clear HA
        simp only [laws_FnExactTurnPuzzle.j1] at H
        by_cases c94 : x61_63 = true
        ·subst c94
         have H1 : (none) = some r := by rw [if_pos rfl] at H; exact H
         clear H
         have H := H1
         clear H1
         exact absurd H (by simp)
        ·replace c94 := Bool.eq_false_iff.mpr c94
         subst c94
         have H1 : ((laws_markPuzzle.f kj63 t266 t269 1).bind fun bt286 => ((laws_heldPuzzle.f kj63 bt286.2.1 bt286.2.2 1).bind fun t289 => (if t289 < 0 then (none) else (if t289 = bt286.1 then ((laws_toPuzzle.f kj63 l0_0 l0_1).bind fun bt290 => ((impl_TurnPuzzle.f kj63 bt290.1 bt290.2).bind fun bt296 => ((laws_eqPuzzle.f kj63 bt296.1 bt296.2.1 t251 t254).bind fun t304 => (if t304 = true then (laws_FnExactTurnPuzzle.j2 kj63 bt286.1 (bt296.2.2 != t257) bt286.2.1 bt286.2.2) else (laws_FnExactTurnPuzzle.j2 kj63 bt286.1 true bt286.2.1 bt286.2.2))))) else (none))))) = some r := by rw [if_neg (show ¬ (false = true) by decide)] at H; exact H
         clear H
         have H := H1
         clear H1
         replace H := Option.bind_eq_some_iff.mp H
         obtain ⟨⟨t286, t287, t288⟩, A950, H⟩ := H
         replace H : ((laws_heldPuzzle.f kj63 t287 t288 1).bind fun t289 => (if t289 < 0 then (none) else (if t289 = t286 then ((laws_toPuzzle.f kj63 l0_0 l0_1).bind fun bt290 => ((impl_TurnPuzzle.f kj63 bt290.1 bt290.2).bind fun bt296 => ((laws_eqPuzzle.f kj63 bt296.1 bt296.2.1 t251 t254).bind fun t304 => (if t304 = true then (laws_FnExactTurnPuzzle.j2 kj63 t286 (bt296.2.2 != t257) t287 t288) else (laws_FnExactTurnPuzzle.j2 kj63 t286 true t287 t288))))) else (none)))) = some r := H
         have A95 := Aside0.mk A950
         clear A950
         replace H := Option.bind_eq_some_iff.mp H
         obtain ⟨t289, A960, H⟩ := H
         replace H : (if t289 < 0 then (none) else (if t289 = t286 then ((laws_toPuzzle.f kj63 l0_0 l0_1).bind fun bt290 => ((impl_TurnPuzzle.f kj63 bt290.1 bt290.2).bind fun bt296 => ((laws_eqPuzzle.f kj63 bt296.1 bt296.2.1 t251 t254).bind fun t304 => (if t304 = true then (laws_FnExactTurnPuzzle.j2 kj63 t286 (bt296.2.2 != t257) t287 t288) else (laws_FnExactTurnPuzzle.j2 kj63 t286 true t287 t288))))) else (none))) = some r := H
         have A96 := Aside0.mk A960
         clear A960
         by_cases c97 : t289 < 0
         ·rw [if_pos c97] at H
          exact absurd H (by simp)
         ·rw [if_neg c97] at H
          have c97b0 : decide (t289 < 0) = false := decide_eq_false c97
          clear c97
          by_cases c98 : t289 = t286
          ·rw [if_pos c98] at H
           have c98b0 : (t289 == t286) = true := beq_iff_eq.mpr c98
           have c98b1 : (t289 != t286) = false := bne_eq_false_iff_eq.mpr c98
           clear c98
           replace H := Option.bind_eq_some_iff.mp H
           obtain ⟨⟨t290, t293⟩, A990, H⟩ := H
           replace H : ((impl_TurnPuzzle.f kj63 t290 t293).bind fun bt296 => ((laws_eqPuzzle.f kj63 bt296.1 bt296.2.1 t251 t254).bind fun t304 => (if t304 = true then (laws_FnExactTurnPuzzle.j2 kj63 t286 (bt296.2.2 != t257) t287 t288) else (laws_FnExactTurnPuzzle.j2 kj63 t286 true t287 t288)))) = some r := H
           have A99 := Aside0.mk A990
           clear A990
           replace H := Option.bind_eq_some_iff.mp H
           obtain ⟨⟨t296, t299, t302⟩, A1000, H⟩ := H
           replace H : ((laws_eqPuzzle.f kj63 t296 t299 t251 t254).bind fun t304 => (if t304 = true then (laws_FnExactTurnPuzzle.j2 kj63 t286 (t302 != t257) t287 t288) else (laws_FnExactTurnPuzzle.j2 kj63 t286 true t287 t288))) = some r := H
           have A100 := Aside0.mk A1000
           clear A1000
           have HC101 := Aside0.mk H
           clear H
           have hnb102 := NB273_243.out
           have hnc102 := NB243_273.out
           have hnb103 := NB273_258.out
           have hnc103 := NB258_273.out
           have hnb104 := NB273_265.out
           have hnc104 := NB265_273.out
           have hcz105_0 : wc.cell? ⟨gb273, 0, none⟩ = some (.slice Ao35 t266.length co35) := (blk_cell BK273.out 0).trans rfl
           have hcz105_1 : wc.cell? ⟨gb273, 1, none⟩ = some (.slice Ao40 t269.length co40) := (blk_cell BK273.out 1).trans rfl
           have hfz105_0 := blk_frozen BK273.out 0
           have hfz105_1 := blk_frozen BK273.out 1
           go_upto_region 25 with (first | ((with_reducible refine gate_callee (f := 42) rfl ?_); refine goesL_ (some 64) rfl rfl Try.func42 (by kernel_rfl) rfl #[.agg #[.slice Ao35 t266.length co35, .slice Ao40 t269.length co40], .int .i64 1] rfl (by (try simp only [List.map_toArray, List.map_cons, List.map_nil]); first | done | rfl | (simp only [List.length_drop, List.length_take]; rfl)) ?_; (with_reducible refine (laws_markPuzzle.calls kj63 (fun k_ => some k_ = (.slice Ao35 t266.length co35 : Value).ownBlock) (.slice Ao35 t266.length co35) t266 (fun k_ => some k_ = (.slice Ao40 t269.length co40 : Value).ownBlock) (.slice Ao40 t269.length co40) t269 1 t286 t287 t288 w _ ?side1 ?side2 ?side3 A95.out).mono ?_); (case side1 => repeat (first | (with_reducible first | exact HB.out | apply below_alloc | apply pw_below_drewN | apply below_drew1 | refine below_set ?_ GE243.out | refine below_set ?_ GE258.out | refine below_set ?_ GE265.out | refine below_set ?_ GE273.out) | exact HB.out)); (case side2 => exact Kd.R_tight rfl HO_274000.out); (case side3 => exact Kd.R_tight rfl HO_274001.out); rintro e w106 ⟨rfl, hy0, hy1, hb, hkp⟩; refine ⟨_, rfl, ?_⟩; replace HO_259000 := Aside0.mk (Kd.R_mono (ok' := fun k_ => some k_ ≠ (.slice Ao28 t283.length co28 : Value).ownBlock ∧ some k_ ≠ (.slice Ao35 t266.length co35 : Value).ownBlock) (Kd.R_keptB ((Kd.R_apart' HO_259000.out (Kd.R_typed HO_274001.out) (by decide))) hkp (fun k_ hk_ hs_ => Or.elim hs_ (fun e_ => (hk_.1.2) e_) (fun e_ => (hk_.2) e_))) (fun k_ hk_ => ⟨hk_.1.1.1, hk_.1.1.2⟩)); replace HO_259001 := Aside0.mk (Kd.R_mono (ok' := fun k_ => some k_ ≠ (.slice Ao32 t284.length co32 : Value).ownBlock ∧ some k_ ≠ (.slice Ao40 t269.length co40 : Value).ownBlock) (Kd.R_keptB ((Kd.R_apart' HO_259001.out (Kd.R_typed HO_274000.out) (by decide))) hkp (fun k_ hk_ hs_ => Or.elim hs_ (fun e_ => (hk_.2) e_) (fun e_ => (hk_.1.2) e_))) (fun k_ hk_ => ⟨hk_.1.1.1, hk_.1.1.2⟩)); replace HO_266000 := Aside0.mk (Kd.R_mono (ok' := fun k_ => some k_ ≠ (.slice Ao21 t251.length co21 : Value).ownBlock ∧ some k_ ≠ (.slice Ao35 t266.length co35 : Value).ownBlock) (Kd.R_keptB ((Kd.R_apart' HO_266000.out (Kd.R_typed HO_274001.out) (by decide))) hkp (fun k_ hk_ hs_ => Or.elim hs_ (fun e_ => (hk_.1.2) e_) (fun e_ => (hk_.2) e_))) (fun k_ hk_ => ⟨hk_.1.1.1, hk_.1.1.2⟩)); replace HO_266001 := Aside0.mk (Kd.R_mono (ok' := fun k_ => some k_ ≠ (.slice Ao24 t254.length co24 : Value).ownBlock ∧ some k_ ≠ (.slice Ao40 t269.length co40 : Value).ownBlock) (Kd.R_keptB ((Kd.R_apart' HO_266001.out (Kd.R_typed HO_274000.out) (by decide))) hkp (fun k_ hk_ hs_ => Or.elim hs_ (fun e_ => (hk_.2) e_) (fun e_ => (hk_.1.2) e_))) (fun k_ hk_ => ⟨hk_.1.1.1, hk_.1.1.2⟩)); replace BK243 := Aside0.mk (blk_kept (by (with_reducible repeat (first | refine blk_drewN ?_ _ | refine blk_drew ?_ | refine blk_alloc ?_ _)); exact BK243.out) hkp (fun hs_ => Or.elim hs_ (fun e_ => (fun e_ => (Kd.R_ne HO_274000.out BK243.out (by decide)) e_) e_) (fun e_ => (fun e_ => (Kd.R_ne HO_274001.out BK243.out (by decide)) e_) e_))); replace BK258 := Aside0.mk (blk_kept (by (with_reducible repeat (first | refine blk_drewN ?_ _ | refine blk_drew ?_ | refine blk_alloc ?_ _)); exact BK258.out) hkp (fun hs_ => Or.elim hs_ (fun e_ => (fun e_ => (Kd.R_ne HO_274000.out BK258.out (by decide)) e_) e_) (fun e_ => (fun e_ => (Kd.R_ne HO_274001.out BK258.out (by decide)) e_) e_))); replace BK265 := Aside0.mk (blk_kept (by (with_reducible repeat (first | refine blk_drewN ?_ _ | refine blk_drew ?_ | refine blk_alloc ?_ _)); exact BK265.out) hkp (fun hs_ => Or.elim hs_ (fun e_ => (fun e_ => (Kd.R_ne HO_274000.out BK265.out (by decide)) e_) e_) (fun e_ => (fun e_ => (Kd.R_ne HO_274001.out BK265.out (by decide)) e_) e_))); replace BK273 := Aside0.mk (blk_kept (by (with_reducible repeat (first | refine blk_drewN ?_ _ | refine blk_drew ?_ | refine blk_alloc ?_ _)); exact BK273.out) hkp (fun hs_ => Or.elim hs_ (fun e_ => (fun e_ => (Kd.R_ne HO_274000.out BK273.out (by decide)) e_) e_) (fun e_ => (fun e_ => (Kd.R_ne HO_274001.out BK273.out (by decide)) e_) e_))); replace HO_274000 := Aside0.mk (Kd.R_reok rfl hy0 (fun k_ e_ => HO_274000.out.1 k_ e_)); replace HO_274001 := Aside0.mk (Kd.R_reok rfl hy1 (fun k_ e_ => HO_274001.out.1 k_ e_)); replace HB := Aside0.mk (hb); (try clear hb); (try clear hkp); (try clear hy0); (try clear hy1); have hcz107_0 : w106.cell? ⟨gb273, 0, none⟩ = some (.slice Ao35 t266.length co35) := (blk_cell BK273.out 0).trans rfl; have hcz107_1 : w106.cell? ⟨gb273, 1, none⟩ = some (.slice Ao40 t269.length co40) := (blk_cell BK273.out 1).trans rfl; have hfz107_0 := blk_frozen BK273.out 0; have hfz107_1 := blk_frozen BK273.out 1) | ((with_reducible refine gate_callee (f := 43) rfl ?_); refine goesL_ (some 67) rfl rfl Try.func43 (by kernel_rfl) rfl #[.agg #[.slice Ao35 t287.length co35, .slice Ao40 t288.length co40], .int .i64 1] rfl (by (try simp only [List.map_toArray, List.map_cons, List.map_nil]); first | done | (rw [show t287.length = t266.length from (Kd.R_reads' HO_274000.out).1.symm, show t288.length = t269.length from (Kd.R_reads' HO_274001.out).1.symm] <;> rfl) | rfl | (simp only [List.length_drop, List.length_take]; rfl)) ?_; (with_reducible refine (laws_heldPuzzle.calls kj63 _ _ t287 _ _ t288 1 t289 _ ?side1 ?side2 ?side3 ?side4 A96.out).mono ?_); (case side1 => repeat (first | exact (Kd.R_reads' HO_274000.out).2.2 | (with_reducible refine Kd.C_alloc ?_ _) | (with_reducible refine Kd.C_drewN ?_ _) | (with_reducible refine Kd.C_drew ?_))); (case side2 => rw [show t287.length = t266.length from (Kd.R_reads' HO_274000.out).1.symm]; exact (Kd.R_reads' HO_274000.out).2.1); (case side3 => repeat (first | exact (Kd.R_reads' HO_274001.out).2.2 | (with_reducible refine Kd.C_alloc ?_ _) | (with_reducible refine Kd.C_drewN ?_ _) | (with_reducible refine Kd.C_drew ?_))); (case side4 => rw [show t288.length = t269.length from (Kd.R_reads' HO_274001.out).1.symm]; exact (Kd.R_reads' HO_274001.out).2.1); rintro e w108 ⟨rfl, hb⟩; refine ⟨_, rfl, ?_⟩; replace HO_259000 := Aside0.mk (Kd.R_below (by (with_reducible repeat (first | apply Kd.R_alloc | apply Kd.R_drewN | apply Kd.R_drew)); exact HO_259000.out) hb); replace HO_259001 := Aside0.mk (Kd.R_below (by (with_reducible repeat (first | apply Kd.R_alloc | apply Kd.R_drewN | apply Kd.R_drew)); exact HO_259001.out) hb); replace HO_266000 := Aside0.mk (Kd.R_below (by (with_reducible repeat (first | apply Kd.R_alloc | apply Kd.R_drewN | apply Kd.R_drew)); exact HO_266000.out) hb); replace HO_266001 := Aside0.mk (Kd.R_below (by (with_reducible repeat (first | apply Kd.R_alloc | apply Kd.R_drewN | apply Kd.R_drew)); exact HO_266001.out) hb); replace HO_274000 := Aside0.mk (Kd.R_below (by (with_reducible repeat (first | apply Kd.R_alloc | apply Kd.R_drewN | apply Kd.R_drew)); exact HO_274000.out) hb); replace HO_274001 := Aside0.mk (Kd.R_below (by (with_reducible repeat (first | apply Kd.R_alloc | apply Kd.R_drewN | apply Kd.R_drew)); exact HO_274001.out) hb); replace BK243 := Aside0.mk (blk_below (g := gb243) (o := .cells #[.slice A0_0 l0_0.length c0_0, .slice A0_1 l0_1.length c0_1] 51 (0, 0)) (by (with_reducible repeat (first | refine blk_drewN ?_ _ | refine blk_drew ?_ | refine blk_alloc ?_ _)); exact BK243.out) hb); replace BK258 := Aside0.mk (blk_below (g := gb258) (o := .cells #[.slice Ao21 t251.length co21, .slice Ao24 t254.length co24] 54 (0, 0)) (by (with_reducible repeat (first | refine blk_drewN ?_ _ | refine blk_drew ?_ | refine blk_alloc ?_ _)); exact BK258.out) hb); replace BK265 := Aside0.mk (blk_below (g := gb265) (o := .cells #[.slice Ao28 t283.length co28, .slice Ao32 t284.length co32] 54 (0, 0)) (by (with_reducible repeat (first | refine blk_drewN ?_ _ | refine blk_drew ?_ | refine blk_alloc ?_ _)); exact BK265.out) hb); replace BK273 := Aside0.mk (blk_below (g := gb273) (o := .cells #[.slice Ao35 t266.length co35, .slice Ao40 t269.length co40] 54 (0, 0)) (by (with_reducible repeat (first | refine blk_drewN ?_ _ | refine blk_drew ?_ | refine blk_alloc ?_ _)); exact BK273.out) hb); replace HB := Aside0.mk (below_step (by repeat (first | (with_reducible first | exact HB.out | apply below_alloc | apply pw_below_drewN | apply below_drew1 | refine below_set ?_ GE243.out | refine below_set ?_ GE258.out | refine below_set ?_ GE265.out | refine below_set ?_ GE273.out) | exact HB.out)) hb); (try clear hb); (try clear hb2); (try clear hk); (try clear hi); have hnb109 := NB243_258.out; have hnc109 := NB258_243.out; have hnb110 := NB243_265.out; have hnc110 := NB265_243.out; have hcz111_0 : w108.cell? ⟨gb243, 0, none⟩ = some (.slice A0_0 l0_0.length c0_0) := (blk_cell BK243.out 0).trans rfl; have hcz111_1 : w108.cell? ⟨gb243, 1, none⟩ = some (.slice A0_1 l0_1.length c0_1) := (blk_cell BK243.out 1).trans rfl; have hfz111_0 := blk_frozen BK243.out 0; have hfz111_1 := blk_frozen BK243.out 1) | ((with_reducible refine gate_callee (f := 39) rfl ?_); refine goesL_ (some 75) rfl rfl Try.func39 (by kernel_rfl) rfl #[.agg #[.slice A0_0 l0_0.length c0_0, .slice A0_1 l0_1.length c0_1]] rfl (by (try simp only [List.map_toArray, List.map_cons, List.map_nil]); first | done | rfl | (simp only [List.length_drop, List.length_take]; rfl)) ?_; (with_reducible refine (laws_toPuzzle.calls kj63 _ _ l0_0 _ _ l0_1 t290 t293 _ ?side1 ?side2 ?side3 ?side4 A99.out).mono ?_); (case side1 => repeat (first | exact (Kd.C_below HR0_0.out HB.out) | (with_reducible refine Kd.C_alloc ?_ _) | (with_reducible refine Kd.C_drewN ?_ _) | (with_reducible refine Kd.C_drew ?_))); (case side2 => exact HC0_0.out); (case side3 => repeat (first | exact (Kd.C_below HR0_1.out HB.out) | (with_reducible refine Kd.C_alloc ?_ _) | (with_reducible refine Kd.C_drewN ?_ _) | (with_reducible refine Kd.C_drew ?_))); (case side4 => exact HC0_1.out); rintro e w112 ⟨v291, v294, rfl, ho0, ho1, hb⟩; refine ⟨_, rfl, ?_⟩; have HO292 := Aside0.mk (Kd.R_lower (Kd.R_new' (Kd.R_new' (Kd.R_new' ho0 (Kd.R_lt (by (with_reducible repeat (first | apply Kd.R_alloc | apply Kd.R_drewN | apply Kd.R_drew)); exact HO_259000.out))) (Kd.R_lt (by (with_reducible repeat (first | apply Kd.R_alloc | apply Kd.R_drewN | apply Kd.R_drew)); exact HO_266000.out))) (Kd.R_lt (by (with_reducible repeat (first | apply Kd.R_alloc | apply Kd.R_drewN | apply Kd.R_drew)); exact HO_274000.out))) (below_size (by repeat (first | (with_reducible first | exact HB.out | apply below_alloc | apply pw_below_drewN | apply below_drew1 | refine below_set ?_ GE243.out | refine below_set ?_ GE258.out | refine below_set ?_ GE265.out | refine below_set ?_ GE273.out) | exact HB.out)))); replace HO_259000 := Aside0.mk (Kd.R_elder' (by (with_reducible repeat (first | apply Kd.R_alloc | apply Kd.R_drewN | apply Kd.R_drew)); exact HO_259000.out) (Kd.R_base ho0) hb); replace HO_266000 := Aside0.mk (Kd.R_elder' (by (with_reducible repeat (first | apply Kd.R_alloc | apply Kd.R_drewN | apply Kd.R_drew)); exact HO_266000.out) (Kd.R_base ho0) hb); replace HO_274000 := Aside0.mk (Kd.R_elder' (by (with_reducible repeat (first | apply Kd.R_alloc | apply Kd.R_drewN | apply Kd.R_drew)); exact HO_274000.out) (Kd.R_base ho0) hb); have HO295 := Aside0.mk (Kd.R_lower (Kd.R_new' (Kd.R_new' (Kd.R_new' ho1 (Kd.R_lt (by (with_reducible repeat (first | apply Kd.R_alloc | apply Kd.R_drewN | apply Kd.R_drew)); exact HO_259001.out))) (Kd.R_lt (by (with_reducible repeat (first | apply Kd.R_alloc | apply Kd.R_drewN | apply Kd.R_drew)); exact HO_266001.out))) (Kd.R_lt (by (with_reducible repeat (first | apply Kd.R_alloc | apply Kd.R_drewN | apply Kd.R_drew)); exact HO_274001.out))) (below_size (by repeat (first | (with_reducible first | exact HB.out | apply below_alloc | apply pw_below_drewN | apply below_drew1 | refine below_set ?_ GE243.out | refine below_set ?_ GE258.out | refine below_set ?_ GE265.out | refine below_set ?_ GE273.out) | exact HB.out)))); replace HO_259001 := Aside0.mk (Kd.R_elder' (by (with_reducible repeat (first | apply Kd.R_alloc | apply Kd.R_drewN | apply Kd.R_drew)); exact HO_259001.out) (Kd.R_base ho1) hb); replace HO_266001 := Aside0.mk (Kd.R_elder' (by (with_reducible repeat (first | apply Kd.R_alloc | apply Kd.R_drewN | apply Kd.R_drew)); exact HO_266001.out) (Kd.R_base ho1) hb); replace HO_274001 := Aside0.mk (Kd.R_elder' (by (with_reducible repeat (first | apply Kd.R_alloc | apply Kd.R_drewN | apply Kd.R_drew)); exact HO_274001.out) (Kd.R_base ho1) hb); replace BK243 := Aside0.mk (blk_below (g := gb243) (o := .cells #[.slice A0_0 l0_0.length c0_0, .slice A0_1 l0_1.length c0_1] 51 (0, 0)) (by (with_reducible repeat (first | refine blk_drewN ?_ _ | refine blk_drew ?_ | refine blk_alloc ?_ _)); exact BK243.out) hb); replace BK258 := Aside0.mk (blk_below (g := gb258) (o := .cells #[.slice Ao21 t251.length co21, .slice Ao24 t254.length co24] 54 (0, 0)) (by (with_reducible repeat (first | refine blk_drewN ?_ _ | refine blk_drew ?_ | refine blk_alloc ?_ _)); exact BK258.out) hb); replace BK265 := Aside0.mk (blk_below (g := gb265) (o := .cells #[.slice Ao28 t283.length co28, .slice Ao32 t284.length co32] 54 (0, 0)) (by (with_reducible repeat (first | refine blk_drewN ?_ _ | refine blk_drew ?_ | refine blk_alloc ?_ _)); exact BK265.out) hb); replace BK273 := Aside0.mk (blk_below (g := gb273) (o := .cells #[.slice Ao35 t266.length co35, .slice Ao40 t269.length co40] 54 (0, 0)) (by (with_reducible repeat (first | refine blk_drewN ?_ _ | refine blk_drew ?_ | refine blk_alloc ?_ _)); exact BK273.out) hb); replace HB := Aside0.mk (below_step (by repeat (first | (with_reducible first | exact HB.out | apply below_alloc | apply pw_below_drewN | apply below_drew1 | refine below_set ?_ GE243.out | refine below_set ?_ GE258.out | refine below_set ?_ GE265.out | refine below_set ?_ GE273.out) | exact HB.out)) hb); (try clear hb); (try clear hb2); (try clear hk); (try clear hi); (try clear ho0); (try clear ho1); obtain ⟨Ao113, co113, eo113⟩ := Kd.R_slice HO292.out; subst eo113; obtain ⟨Ao114, co114, eo114⟩ := Kd.R_slice HO295.out; subst eo114) | ((with_reducible refine gate_callee (f := 69) rfl ?_); refine goesL_ (some 76) rfl rfl Try.func69 (by kernel_rfl) rfl #[.agg #[.slice Ao113 t290.length co113, .slice Ao114 t293.length co114]] rfl (by (try simp only [List.map_toArray, List.map_cons, List.map_nil]); first | done | rfl | (simp only [List.length_drop, List.length_take]; rfl)) ?_; (with_reducible refine (impl_TurnPuzzle.calls kj63 _ _ t290 _ _ t293 t296 t299 t302 _ ?side1 ?side2 ?side3 ?side4 A100.out).mono ?_); (case side1 => repeat (first | exact (Kd.R_reads' HO292.out).2.2 | (with_reducible refine Kd.C_alloc ?_ _) | (with_reducible refine Kd.C_drewN ?_ _) | (with_reducible refine Kd.C_drew ?_))); (case side2 => exact (Kd.R_reads' HO292.out).2.1); (case side3 => repeat (first | exact (Kd.R_reads' HO295.out).2.2 | (with_reducible refine Kd.C_alloc ?_ _) | (with_reducible refine Kd.C_drewN ?_ _) | (with_reducible refine Kd.C_drew ?_))); (case side4 => exact (Kd.R_reads' HO295.out).2.1); rintro e w115 ⟨v297, v300, rfl, ho0, ho1, hb⟩; refine ⟨_, rfl, ?_⟩; have HO298 := Aside0.mk (Kd.R_lower (Kd.R_new' (Kd.R_new' (Kd.R_new' (Kd.R_new' ho0 (Kd.R_lt (by (with_reducible repeat (first | apply Kd.R_alloc | apply Kd.R_drewN | apply Kd.R_drew)); exact HO_259000.out))) (Kd.R_lt (by (with_reducible repeat (first | apply Kd.R_alloc | apply Kd.R_drewN | apply Kd.R_drew)); exact HO_266000.out))) (Kd.R_lt (by (with_reducible repeat (first | apply Kd.R_alloc | apply Kd.R_drewN | apply Kd.R_drew)); exact HO_274000.out))) (Kd.R_lt (by (with_reducible repeat (first | apply Kd.R_alloc | apply Kd.R_drewN | apply Kd.R_drew)); exact HO292.out))) (below_size (by repeat (first | (with_reducible first | exact HB.out | apply below_alloc | apply pw_below_drewN | apply below_drew1 | refine below_set ?_ GE243.out | refine below_set ?_ GE258.out | refine below_set ?_ GE265.out | refine below_set ?_ GE273.out) | exact HB.out)))); replace HO_259000 := Aside0.mk (Kd.R_elder' (by (with_reducible repeat (first | apply Kd.R_alloc | apply Kd.R_drewN | apply Kd.R_drew)); exact HO_259000.out) (Kd.R_base ho0) hb); replace HO_266000 := Aside0.mk (Kd.R_elder' (by (with_reducible repeat (first | apply Kd.R_alloc | apply Kd.R_drewN | apply Kd.R_drew)); exact HO_266000.out) (Kd.R_base ho0) hb); replace HO_274000 := Aside0.mk (Kd.R_elder' (by (with_reducible repeat (first | apply Kd.R_alloc | apply Kd.R_drewN | apply Kd.R_drew)); exact HO_274000.out) (Kd.R_base ho0) hb); replace HO292 := Aside0.mk (Kd.R_elder' (by (with_reducible repeat (first | apply Kd.R_alloc | apply Kd.R_drewN | apply Kd.R_drew)); exact HO292.out) (Kd.R_base ho0) hb); have HO301 := Aside0.mk (Kd.R_lower (Kd.R_new' (Kd.R_new' (Kd.R_new' (Kd.R_new' ho1 (Kd.R_lt (by (with_reducible repeat (first | apply Kd.R_alloc | apply Kd.R_drewN | apply Kd.R_drew)); exact HO_259001.out))) (Kd.R_lt (by (with_reducible repeat (first | apply Kd.R_alloc | apply Kd.R_drewN | apply Kd.R_drew)); exact HO_266001.out))) (Kd.R_lt (by (with_reducible repeat (first | apply Kd.R_alloc | apply Kd.R_drewN | apply Kd.R_drew)); exact HO_274001.out))) (Kd.R_lt (by (with_reducible repeat (first | apply Kd.R_alloc | apply Kd.R_drewN | apply Kd.R_drew)); exact HO295.out))) (below_size (by repeat (first | (with_reducible first | exact HB.out | apply below_alloc | apply pw_below_drewN | apply below_drew1 | refine below_set ?_ GE243.out | refine below_set ?_ GE258.out | refine below_set ?_ GE265.out | refine below_set ?_ GE273.out) | exact HB.out)))); replace HO_259001 := Aside0.mk (Kd.R_elder' (by (with_reducible repeat (first | apply Kd.R_alloc | apply Kd.R_drewN | apply Kd.R_drew)); exact HO_259001.out) (Kd.R_base ho1) hb); replace HO_266001 := Aside0.mk (Kd.R_elder' (by (with_reducible repeat (first | apply Kd.R_alloc | apply Kd.R_drewN | apply Kd.R_drew)); exact HO_266001.out) (Kd.R_base ho1) hb); replace HO_274001 := Aside0.mk (Kd.R_elder' (by (with_reducible repeat (first | apply Kd.R_alloc | apply Kd.R_drewN | apply Kd.R_drew)); exact HO_274001.out) (Kd.R_base ho1) hb); replace HO295 := Aside0.mk (Kd.R_elder' (by (with_reducible repeat (first | apply Kd.R_alloc | apply Kd.R_drewN | apply Kd.R_drew)); exact HO295.out) (Kd.R_base ho1) hb); replace BK243 := Aside0.mk (blk_below (g := gb243) (o := .cells #[.slice A0_0 l0_0.length c0_0, .slice A0_1 l0_1.length c0_1] 51 (0, 0)) (by (with_reducible repeat (first | refine blk_drewN ?_ _ | refine blk_drew ?_ | refine blk_alloc ?_ _)); exact BK243.out) hb); replace BK258 := Aside0.mk (blk_below (g := gb258) (o := .cells #[.slice Ao21 t251.length co21, .slice Ao24 t254.length co24] 54 (0, 0)) (by (with_reducible repeat (first | refine blk_drewN ?_ _ | refine blk_drew ?_ | refine blk_alloc ?_ _)); exact BK258.out) hb); replace BK265 := Aside0.mk (blk_below (g := gb265) (o := .cells #[.slice Ao28 t283.length co28, .slice Ao32 t284.length co32] 54 (0, 0)) (by (with_reducible repeat (first | refine blk_drewN ?_ _ | refine blk_drew ?_ | refine blk_alloc ?_ _)); exact BK265.out) hb); replace BK273 := Aside0.mk (blk_below (g := gb273) (o := .cells #[.slice Ao35 t266.length co35, .slice Ao40 t269.length co40] 54 (0, 0)) (by (with_reducible repeat (first | refine blk_drewN ?_ _ | refine blk_drew ?_ | refine blk_alloc ?_ _)); exact BK273.out) hb); replace HB := Aside0.mk (below_step (by repeat (first | (with_reducible first | exact HB.out | apply below_alloc | apply pw_below_drewN | apply below_drew1 | refine below_set ?_ GE243.out | refine below_set ?_ GE258.out | refine below_set ?_ GE265.out | refine below_set ?_ GE273.out) | exact HB.out)) hb); (try clear hb); (try clear hb2); (try clear hk); (try clear hi); (try clear ho0); (try clear ho1)) | ((with_reducible refine gate_dst (N := 12) rfl ?_); refine box_event ?hg (N := 12) ?hd (cs := #[.slice none 0 0, .slice none 0 0]) (t := 54) ?hr ?_; (case hd => rfl); (case hg => rfl); (case hr => first | (go_simp; done) | (go_simp; rfl)); intro gb303 hg w116 hbox hb; replace HO_259000 := Aside0.mk (Kd.R_below (by (with_reducible repeat (first | apply Kd.R_alloc | apply Kd.R_drewN | apply Kd.R_drew)); exact HO_259000.out) hb); replace HO_259001 := Aside0.mk (Kd.R_below (by (with_reducible repeat (first | apply Kd.R_alloc | apply Kd.R_drewN | apply Kd.R_drew)); exact HO_259001.out) hb); replace HO_266000 := Aside0.mk (Kd.R_below (by (with_reducible repeat (first | apply Kd.R_alloc | apply Kd.R_drewN | apply Kd.R_drew)); exact HO_266000.out) hb); replace HO_266001 := Aside0.mk (Kd.R_below (by (with_reducible repeat (first | apply Kd.R_alloc | apply Kd.R_drewN | apply Kd.R_drew)); exact HO_266001.out) hb); replace HO_274000 := Aside0.mk (Kd.R_below (by (with_reducible repeat (first | apply Kd.R_alloc | apply Kd.R_drewN | apply Kd.R_drew)); exact HO_274000.out) hb); replace HO_274001 := Aside0.mk (Kd.R_below (by (with_reducible repeat (first | apply Kd.R_alloc | apply Kd.R_drewN | apply Kd.R_drew)); exact HO_274001.out) hb); replace HO292 := Aside0.mk (Kd.R_below (by (with_reducible repeat (first | apply Kd.R_alloc | apply Kd.R_drewN | apply Kd.R_drew)); exact HO292.out) hb); replace HO295 := Aside0.mk (Kd.R_below (by (with_reducible repeat (first | apply Kd.R_alloc | apply Kd.R_drewN | apply Kd.R_drew)); exact HO295.out) hb); replace HO298 := Aside0.mk (Kd.R_below (by (with_reducible repeat (first | apply Kd.R_alloc | apply Kd.R_drewN | apply Kd.R_drew)); exact HO298.out) hb); replace HO301 := Aside0.mk (Kd.R_below (by (with_reducible repeat (first | apply Kd.R_alloc | apply Kd.R_drewN | apply Kd.R_drew)); exact HO301.out) hb); have BK303 := Aside0.mk (hbox); have GW303 := Aside0.mk ((by rw [hg]; exact (below_size (by repeat (first | (with_reducible first | exact HB.out | apply below_alloc | apply pw_below_drewN | apply below_drew1 | refine below_set ?_ GE243.out | refine below_set ?_ GE258.out | refine below_set ?_ GE265.out | refine below_set ?_ GE273.out) | exact HB.out))) : w.heap.size ≤ gb303)); have GE303 := Aside0.mk ((by rw [hg]; exact (below_size (by repeat (first | (with_reducible first | exact HB.out | apply below_alloc | apply pw_below_drewN | apply below_drew1 | refine below_set ?_ GE243.out | refine below_set ?_ GE258.out | refine below_set ?_ GE265.out | refine below_set ?_ GE273.out) | exact HB.out))) : w.heap.size ≤ gb303)); replace HB := Aside0.mk (below_step (by repeat (first | (with_reducible first | exact HB.out | apply below_alloc | apply pw_below_drewN | apply below_drew1 | refine below_set ?_ GE243.out | refine below_set ?_ GE258.out | refine below_set ?_ GE265.out | refine below_set ?_ GE273.out) | exact HB.out)) hb); have NB243_303 := Aside0.mk ((by rw [hg]; exact Nat.ne_of_lt (blk_lt (g := gb243) (o := .cells #[.slice A0_0 l0_0.length c0_0, .slice A0_1 l0_1.length c0_1] 51 (0, 0)) (by (with_reducible repeat (first | refine blk_drewN ?_ _ | refine blk_drew ?_ | refine blk_alloc ?_ _)); exact BK243.out)) : gb243 ≠ gb303)); have NB303_243 := Aside0.mk ((by rw [hg]; exact Nat.ne_of_gt (blk_lt (g := gb243) (o := .cells #[.slice A0_0 l0_0.length c0_0, .slice A0_1 l0_1.length c0_1] 51 (0, 0)) (by (with_reducible repeat (first | refine blk_drewN ?_ _ | refine blk_drew ?_ | refine blk_alloc ?_ _)); exact BK243.out)) : gb303 ≠ gb243)); replace BK243 := Aside0.mk (blk_below (g := gb243) (o := .cells #[.slice A0_0 l0_0.length c0_0, .slice A0_1 l0_1.length c0_1] 51 (0, 0)) (by (with_reducible repeat (first | refine blk_drewN ?_ _ | refine blk_drew ?_ | refine blk_alloc ?_ _)); exact BK243.out) hb); have NB258_303 := Aside0.mk ((by rw [hg]; exact Nat.ne_of_lt (blk_lt (g := gb258) (o := .cells #[.slice Ao21 t251.length co21, .slice Ao24 t254.length co24] 54 (0, 0)) (by (with_reducible repeat (first | refine blk_drewN ?_ _ | refine blk_drew ?_ | refine blk_alloc ?_ _)); exact BK258.out)) : gb258 ≠ gb303)); have NB303_258 := Aside0.mk ((by rw [hg]; exact Nat.ne_of_gt (blk_lt (g := gb258) (o := .cells #[.slice Ao21 t251.length co21, .slice Ao24 t254.length co24] 54 (0, 0)) (by (with_reducible repeat (first | refine blk_drewN ?_ _ | refine blk_drew ?_ | refine blk_alloc ?_ _)); exact BK258.out)) : gb303 ≠ gb258)); replace BK258 := Aside0.mk (blk_below (g := gb258) (o := .cells #[.slice Ao21 t251.length co21, .slice Ao24 t254.length co24] 54 (0, 0)) (by (with_reducible repeat (first | refine blk_drewN ?_ _ | refine blk_drew ?_ | refine blk_alloc ?_ _)); exact BK258.out) hb); have NB265_303 := Aside0.mk ((by rw [hg]; exact Nat.ne_of_lt (blk_lt (g := gb265) (o := .cells #[.slice Ao28 t283.length co28, .slice Ao32 t284.length co32] 54 (0, 0)) (by (with_reducible repeat (first | refine blk_drewN ?_ _ | refine blk_drew ?_ | refine blk_alloc ?_ _)); exact BK265.out)) : gb265 ≠ gb303)); have NB303_265 := Aside0.mk ((by rw [hg]; exact Nat.ne_of_gt (blk_lt (g := gb265) (o := .cells #[.slice Ao28 t283.length co28, .slice Ao32 t284.length co32] 54 (0, 0)) (by (with_reducible repeat (first | refine blk_drewN ?_ _ | refine blk_drew ?_ | refine blk_alloc ?_ _)); exact BK265.out)) : gb303 ≠ gb265)); replace BK265 := Aside0.mk (blk_below (g := gb265) (o := .cells #[.slice Ao28 t283.length co28, .slice Ao32 t284.length co32] 54 (0, 0)) (by (with_reducible repeat (first | refine blk_drewN ?_ _ | refine blk_drew ?_ | refine blk_alloc ?_ _)); exact BK265.out) hb); have NB273_303 := Aside0.mk ((by rw [hg]; exact Nat.ne_of_lt (blk_lt (g := gb273) (o := .cells #[.slice Ao35 t266.length co35, .slice Ao40 t269.length co40] 54 (0, 0)) (by (with_reducible repeat (first | refine blk_drewN ?_ _ | refine blk_drew ?_ | refine blk_alloc ?_ _)); exact BK273.out)) : gb273 ≠ gb303)); have NB303_273 := Aside0.mk ((by rw [hg]; exact Nat.ne_of_gt (blk_lt (g := gb273) (o := .cells #[.slice Ao35 t266.length co35, .slice Ao40 t269.length co40] 54 (0, 0)) (by (with_reducible repeat (first | refine blk_drewN ?_ _ | refine blk_drew ?_ | refine blk_alloc ?_ _)); exact BK273.out)) : gb303 ≠ gb273)); replace BK273 := Aside0.mk (blk_below (g := gb273) (o := .cells #[.slice Ao35 t266.length co35, .slice Ao40 t269.length co40] 54 (0, 0)) (by (with_reducible repeat (first | refine blk_drewN ?_ _ | refine blk_drew ?_ | refine blk_alloc ?_ _)); exact BK273.out) hb); clear hb hbox hg; obtain ⟨Ao117, co117, eo117⟩ := Kd.R_slice HO298.out; subst eo117; have hnb118 := NB303_243.out; have hnc118 := NB243_303.out; have hnb119 := NB303_258.out; have hnc119 := NB258_303.out; have hnb120 := NB303_265.out; have hnc120 := NB265_303.out; have hnb121 := NB303_273.out; have hnc121 := NB273_303.out; have hcz122_0 : w116.cell? ⟨gb303, 0, none⟩ = some (.slice none 0 0) := (blk_cell BK303.out 0).trans rfl; have hcz122_1 : w116.cell? ⟨gb303, 1, none⟩ = some (.slice none 0 0) := (blk_cell BK303.out 1).trans rfl; have hfz122_0 := blk_frozen BK303.out 0; have hfz122_1 := blk_frozen BK303.out 1; obtain ⟨Ao123, co123, eo123⟩ := Kd.R_slice HO301.out; subst eo123))
           (try simp only [Act.put, List.setIfInBounds_toArray, List.set_cons_zero, List.set_cons_succ])
           go_cut [87] (fun v87 wc => ∃ (kq : Nat) (x87_100 : Bool), v87 = .bool x87_100 ∧ Aside0 (laws_FnExactTurnPuzzle.j2 kq t286 x87_100 t287 t288 = some r) ∧ Aside0 (kq ≤ kj63) ∧ Aside0 (Kd.R k25 25 wc w.heap.size (fun k_ => some k_ ≠ ((.slice Ao28 t283.length co28) : Value).ownBlock ∧ some k_ ≠ ((.slice Ao35 t266.length co35) : Value).ownBlock ∧ some k_ ≠ ((.slice Ao117 t296.length co117) : Value).ownBlock) (.slice Ao21 t251.length co21) t251) ∧ Aside0 (Kd.R (Kd.int .i64) 3 wc w.heap.size (fun k_ => some k_ ≠ ((.slice Ao32 t284.length co32) : Value).ownBlock ∧ some k_ ≠ ((.slice Ao40 t269.length co40) : Value).ownBlock ∧ some k_ ≠ ((.slice Ao123 t299.length co123) : Value).ownBlock) (.slice Ao24 t254.length co24) t254) ∧ Aside0 (Kd.R k25 25 wc w.heap.size (fun k_ => some k_ ≠ ((.slice Ao21 t251.length co21) : Value).ownBlock ∧ some k_ ≠ ((.slice Ao35 t266.length co35) : Value).ownBlock ∧ some k_ ≠ ((.slice Ao117 t296.length co117) : Value).ownBlock) (.slice Ao28 t283.length co28) t283) ∧ Aside0 (Kd.R (Kd.int .i64) 3 wc w.heap.size (fun k_ => some k_ ≠ ((.slice Ao24 t254.length co24) : Value).ownBlock ∧ some k_ ≠ ((.slice Ao40 t269.length co40) : Value).ownBlock ∧ some k_ ≠ ((.slice Ao123 t299.length co123) : Value).ownBlock) (.slice Ao32 t284.length co32) t284) ∧ Aside0 (Kd.R k25 25 wc w.heap.size (fun k_ => some k_ ≠ ((.slice Ao21 t251.length co21) : Value).ownBlock ∧ some k_ ≠ ((.slice Ao28 t283.length co28) : Value).ownBlock ∧ some k_ ≠ ((.slice Ao117 t296.length co117) : Value).ownBlock) (.slice Ao35 t266.length co35) t287) ∧ Aside0 (Kd.R (Kd.int .i64) 3 wc w.heap.size (fun k_ => some k_ ≠ ((.slice Ao24 t254.length co24) : Value).ownBlock ∧ some k_ ≠ ((.slice Ao32 t284.length co32) : Value).ownBlock ∧ some k_ ≠ ((.slice Ao123 t299.length co123) : Value).ownBlock) (.slice Ao40 t269.length co40) t288) ∧ Aside0 (Kd.R k25 25 wc w.heap.size (fun k_ => some k_ ≠ ((.slice Ao21 t251.length co21) : Value).ownBlock ∧ some k_ ≠ ((.slice Ao28 t283.length co28) : Value).ownBlock ∧ some k_ ≠ ((.slice Ao35 t266.length co35) : Value).ownBlock) (.slice Ao117 t296.length co117) t296) ∧ Aside0 (Kd.R (Kd.int .i64) 3 wc w.heap.size (fun k_ => some k_ ≠ ((.slice Ao24 t254.length co24) : Value).ownBlock ∧ some k_ ≠ ((.slice Ao32 t284.length co32) : Value).ownBlock ∧ some k_ ≠ ((.slice Ao40 t269.length co40) : Value).ownBlock) (.slice Ao123 t299.length co123) t299) ∧ Aside0 (wc.heap[gb243]? = some (.cells #[(.slice A0_0 l0_0.length c0_0), (.slice A0_1 l0_1.length c0_1)] 51 (0, 0))) ∧ Aside0 (wc.heap[gb258]? = some (.cells #[(.slice Ao21 t251.length co21), (.slice Ao24 t254.length co24)] 54 (0, 0))) ∧ Aside0 (wc.heap[gb265]? = some (.cells #[(.slice Ao28 t283.length co28), (.slice Ao32 t284.length co32)] 54 (0, 0))) ∧ Aside0 (wc.heap[gb273]? = some (.cells #[(.slice Ao35 t266.length co35), (.slice Ao40 t269.length co40)] 54 (0, 0))) ∧ Aside0 (wc.heap[gb303]? = some (.cells #[(.slice Ao117 t296.length co117), (.slice Ao123 t299.length co123)] 54 (0, 0))) ∧ Aside0 (Below w.heap.size w wc))
           case first =>
            have H := HC101.out
            clear HC101
            replace H := Option.bind_eq_some_iff.mp H
            obtain ⟨t304, A1240, H⟩ := H
            replace H : (if t304 = true then (laws_FnExactTurnPuzzle.j2 kj63 t286 (t302 != t257) t287 t288) else (laws_FnExactTurnPuzzle.j2 kj63 t286 true t287 t288)) = some r := H
            have A124 := Aside0.mk A1240
            clear A1240
            by_cases c125 : t304 = true
            ·subst c125
             have H1 : (laws_FnExactTurnPuzzle.j2 kj63 t286 (t302 != t257) t287 t288) = some r := by rw [if_pos rfl] at H; exact H
             clear H
             have H := H1
             clear H1
             have H' := Aside0.mk H
             clear H
             have hnb126 := NB303_243.out
             have hnc126 := NB243_303.out
             have hnb127 := NB303_258.out
             have hnc127 := NB258_303.out
             have hnb128 := NB303_265.out
             have hnc128 := NB265_303.out
             have hnb129 := NB303_273.out
             have hnc129 := NB273_303.out
             have hcz130_0 : w116.cell? ⟨gb303, 0, none⟩ = some (.slice none 0 0) := (blk_cell BK303.out 0).trans rfl
             have hcz130_1 : w116.cell? ⟨gb303, 1, none⟩ = some (.slice none 0 0) := (blk_cell BK303.out 1).trans rfl
             have hfz130_0 := blk_frozen BK303.out 0
             have hfz130_1 := blk_frozen BK303.out 1
             have hnb131 := NB258_243.out
             have hnc131 := NB243_258.out
             have hnb132 := NB258_265.out
             have hnc132 := NB265_258.out
             have hnb133 := NB258_273.out
             have hnc133 := NB273_258.out
             have hcz134_0 : w116.cell? ⟨gb258, 0, none⟩ = some (.slice Ao21 t251.length co21) := (blk_cell BK258.out 0).trans rfl
             have hcz134_1 : w116.cell? ⟨gb258, 1, none⟩ = some (.slice Ao24 t254.length co24) := (blk_cell BK258.out 1).trans rfl
             have hfz134_0 := blk_frozen BK258.out 0
             have hfz134_1 := blk_frozen BK258.out 1
             go_wp2_with (first | ((with_reducible refine gate_callee (f := 41) rfl ?_); refine goesL_ (some 81) rfl rfl Try.func41 (by kernel_rfl) rfl #[.agg #[.slice Ao117 t296.length co117, .slice Ao123 t299.length co123], .agg #[.slice Ao21 t251.length co21, .slice Ao24 t254.length co24]] rfl (by (try simp only [List.map_toArray, List.map_cons, List.map_nil]); first | done | rfl | (simp only [List.length_drop, List.length_take]; rfl)) ?_; (with_reducible refine (laws_eqPuzzle.calls kj63 _ _ t296 _ _ t299 _ _ t251 _ _ t254 true _ ?side1 ?side2 ?side3 ?side4 ?side5 ?side6 ?side7 ?side8 A124.out).mono ?_); (case side1 => refine (Kd.R_reads' (e := 25) (base := w.heap.size) (ok := fun k_ => ((((True ∧ some k_ ≠ (.slice Ao21 t251.length co21 : Value).ownBlock) ∧ some k_ ≠ (.slice Ao28 t283.length co28 : Value).ownBlock) ∧ some k_ ≠ (.slice Ao35 t266.length co35 : Value).ownBlock) ∧ some k_ ≠ (.slice Ao113 t290.length co113 : Value).ownBlock)) (n := t296.length) (c := co117) ?_).2.2; exact (by (with_reducible repeat (first | apply Kd.R_alloc | apply Kd.R_drewN | apply Kd.R_drew)); exact (Kd.R_mono (Kd.R_far (p := ⟨gb303, 1, none⟩) (Kd.R_far (p := ⟨gb303, 0, none⟩) (Kd.R_types HO298.out BK303.out (by decide)) (fun _ hk => hk.2) (.slice Ao117 t296.length co117)) (fun _ hk => hk.2) (.slice Ao123 t299.length co123)) (fun _ h_ => h_.1)))); (case side2 => exact (Kd.R_reads' HO298.out).2.1); (case side3 => refine (Kd.R_reads' (e := 3) (base := w.heap.size) (ok := fun k_ => ((((True ∧ some k_ ≠ (.slice Ao24 t254.length co24 : Value).ownBlock) ∧ some k_ ≠ (.slice Ao32 t284.length co32 : Value).ownBlock) ∧ some k_ ≠ (.slice Ao40 t269.length co40 : Value).ownBlock) ∧ some k_ ≠ (.slice Ao114 t293.length co114 : Value).ownBlock)) (n := t299.length) (c := co123) ?_).2.2; exact (by (with_reducible repeat (first | apply Kd.R_alloc | apply Kd.R_drewN | apply Kd.R_drew)); exact (Kd.R_mono (Kd.R_far (p := ⟨gb303, 1, none⟩) (Kd.R_far (p := ⟨gb303, 0, none⟩) (Kd.R_types HO301.out BK303.out (by decide)) (fun _ hk => hk.2) (.slice Ao117 t296.length co117)) (fun _ hk => hk.2) (.slice Ao123 t299.length co123)) (fun _ h_ => h_.1)))); (case side4 => exact (Kd.R_reads' HO301.out).2.1); (case side5 => refine (Kd.R_reads' (e := 25) (base := w.heap.size) (ok := fun k_ => (((some k_ ≠ (.slice Ao28 t283.length co28 : Value).ownBlock ∧ some k_ ≠ (.slice Ao35 t266.length co35 : Value).ownBlock) ∧ some k_ ≠ (.slice Ao113 t290.length co113 : Value).ownBlock) ∧ some k_ ≠ (.slice Ao117 t296.length co117 : Value).ownBlock)) (n := t251.length) (c := co21) ?_).2.2; exact (by (with_reducible repeat (first | apply Kd.R_alloc | apply Kd.R_drewN | apply Kd.R_drew)); exact (Kd.R_mono (Kd.R_far (p := ⟨gb303, 1, none⟩) (Kd.R_far (p := ⟨gb303, 0, none⟩) (Kd.R_types HO_259000.out BK303.out (by decide)) (fun _ hk => hk.2) (.slice Ao117 t296.length co117)) (fun _ hk => hk.2) (.slice Ao123 t299.length co123)) (fun _ h_ => h_.1)))); (case side6 => exact (Kd.R_reads' HO_259000.out).2.1); (case side7 => refine (Kd.R_reads' (e := 3) (base := w.heap.size) (ok := fun k_ => (((some k_ ≠ (.slice Ao32 t284.length co32 : Value).ownBlock ∧ some k_ ≠ (.slice Ao40 t269.length co40 : Value).ownBlock) ∧ some k_ ≠ (.slice Ao114 t293.length co114 : Value).ownBlock) ∧ some k_ ≠ (.slice Ao123 t299.length co123 : Value).ownBlock)) (n := t254.length) (c := co24) ?_).2.2; exact (by (with_reducible repeat (first | apply Kd.R_alloc | apply Kd.R_drewN | apply Kd.R_drew)); exact (Kd.R_mono (Kd.R_far (p := ⟨gb303, 1, none⟩) (Kd.R_far (p := ⟨gb303, 0, none⟩) (Kd.R_types HO_259001.out BK303.out (by decide)) (fun _ hk => hk.2) (.slice Ao117 t296.length co117)) (fun _ hk => hk.2) (.slice Ao123 t299.length co123)) (fun _ h_ => h_.1)))); (case side8 => exact (Kd.R_reads' HO_259001.out).2.1); rintro e w135 ⟨rfl, hb⟩; refine ⟨_, rfl, ?_⟩; replace HO_259000 := Aside0.mk (Kd.R_below (by (with_reducible repeat (first | apply Kd.R_alloc | apply Kd.R_drewN | apply Kd.R_drew)); exact (Kd.R_mono (Kd.R_far (p := ⟨gb303, 1, none⟩) (Kd.R_far (p := ⟨gb303, 0, none⟩) (Kd.R_types HO_259000.out BK303.out (by decide)) (fun _ hk => hk.2) (.slice Ao117 t296.length co117)) (fun _ hk => hk.2) (.slice Ao123 t299.length co123)) (fun _ h_ => h_.1))) hb); replace HO_259001 := Aside0.mk (Kd.R_below (by (with_reducible repeat (first | apply Kd.R_alloc | apply Kd.R_drewN | apply Kd.R_drew)); exact (Kd.R_mono (Kd.R_far (p := ⟨gb303, 1, none⟩) (Kd.R_far (p := ⟨gb303, 0, none⟩) (Kd.R_types HO_259001.out BK303.out (by decide)) (fun _ hk => hk.2) (.slice Ao117 t296.length co117)) (fun _ hk => hk.2) (.slice Ao123 t299.length co123)) (fun _ h_ => h_.1))) hb); replace HO_266000 := Aside0.mk (Kd.R_below (by (with_reducible repeat (first | apply Kd.R_alloc | apply Kd.R_drewN | apply Kd.R_drew)); exact (Kd.R_mono (Kd.R_far (p := ⟨gb303, 1, none⟩) (Kd.R_far (p := ⟨gb303, 0, none⟩) (Kd.R_types HO_266000.out BK303.out (by decide)) (fun _ hk => hk.2) (.slice Ao117 t296.length co117)) (fun _ hk => hk.2) (.slice Ao123 t299.length co123)) (fun _ h_ => h_.1))) hb); replace HO_266001 := Aside0.mk (Kd.R_below (by (with_reducible repeat (first | apply Kd.R_alloc | apply Kd.R_drewN | apply Kd.R_drew)); exact (Kd.R_mono (Kd.R_far (p := ⟨gb303, 1, none⟩) (Kd.R_far (p := ⟨gb303, 0, none⟩) (Kd.R_types HO_266001.out BK303.out (by decide)) (fun _ hk => hk.2) (.slice Ao117 t296.length co117)) (fun _ hk => hk.2) (.slice Ao123 t299.length co123)) (fun _ h_ => h_.1))) hb); replace HO_274000 := Aside0.mk (Kd.R_below (by (with_reducible repeat (first | apply Kd.R_alloc | apply Kd.R_drewN | apply Kd.R_drew)); exact (Kd.R_mono (Kd.R_far (p := ⟨gb303, 1, none⟩) (Kd.R_far (p := ⟨gb303, 0, none⟩) (Kd.R_types HO_274000.out BK303.out (by decide)) (fun _ hk => hk.2) (.slice Ao117 t296.length co117)) (fun _ hk => hk.2) (.slice Ao123 t299.length co123)) (fun _ h_ => h_.1))) hb); replace HO_274001 := Aside0.mk (Kd.R_below (by (with_reducible repeat (first | apply Kd.R_alloc | apply Kd.R_drewN | apply Kd.R_drew)); exact (Kd.R_mono (Kd.R_far (p := ⟨gb303, 1, none⟩) (Kd.R_far (p := ⟨gb303, 0, none⟩) (Kd.R_types HO_274001.out BK303.out (by decide)) (fun _ hk => hk.2) (.slice Ao117 t296.length co117)) (fun _ hk => hk.2) (.slice Ao123 t299.length co123)) (fun _ h_ => h_.1))) hb); replace HO292 := Aside0.mk (Kd.R_below (by (with_reducible repeat (first | apply Kd.R_alloc | apply Kd.R_drewN | apply Kd.R_drew)); exact (Kd.R_mono (Kd.R_far (p := ⟨gb303, 1, none⟩) (Kd.R_far (p := ⟨gb303, 0, none⟩) (Kd.R_types HO292.out BK303.out (by decide)) (fun _ hk => hk.2) (.slice Ao117 t296.length co117)) (fun _ hk => hk.2) (.slice Ao123 t299.length co123)) (fun _ h_ => h_.1))) hb); replace HO295 := Aside0.mk (Kd.R_below (by (with_reducible repeat (first | apply Kd.R_alloc | apply Kd.R_drewN | apply Kd.R_drew)); exact (Kd.R_mono (Kd.R_far (p := ⟨gb303, 1, none⟩) (Kd.R_far (p := ⟨gb303, 0, none⟩) (Kd.R_types HO295.out BK303.out (by decide)) (fun _ hk => hk.2) (.slice Ao117 t296.length co117)) (fun _ hk => hk.2) (.slice Ao123 t299.length co123)) (fun _ h_ => h_.1))) hb); replace HO298 := Aside0.mk (Kd.R_below (by (with_reducible repeat (first | apply Kd.R_alloc | apply Kd.R_drewN | apply Kd.R_drew)); exact (Kd.R_mono (Kd.R_far (p := ⟨gb303, 1, none⟩) (Kd.R_far (p := ⟨gb303, 0, none⟩) (Kd.R_types HO298.out BK303.out (by decide)) (fun _ hk => hk.2) (.slice Ao117 t296.length co117)) (fun _ hk => hk.2) (.slice Ao123 t299.length co123)) (fun _ h_ => h_.1))) hb); replace HO301 := Aside0.mk (Kd.R_below (by (with_reducible repeat (first | apply Kd.R_alloc | apply Kd.R_drewN | apply Kd.R_drew)); exact (Kd.R_mono (Kd.R_far (p := ⟨gb303, 1, none⟩) (Kd.R_far (p := ⟨gb303, 0, none⟩) (Kd.R_types HO301.out BK303.out (by decide)) (fun _ hk => hk.2) (.slice Ao117 t296.length co117)) (fun _ hk => hk.2) (.slice Ao123 t299.length co123)) (fun _ h_ => h_.1))) hb); replace BK243 := Aside0.mk (blk_below (g := gb243) (o := .cells #[.slice A0_0 l0_0.length c0_0, .slice A0_1 l0_1.length c0_1] 51 (0, 0)) (by (with_reducible repeat (first | refine blk_drewN ?_ _ | refine blk_drew ?_ | refine blk_alloc ?_ _)); refine blk_far ?_ NB243_303.out _; (with_reducible repeat (first | refine blk_drewN ?_ _ | refine blk_drew ?_ | refine blk_alloc ?_ _)); refine blk_far ?_ NB243_303.out _; (with_reducible repeat (first | refine blk_drewN ?_ _ | refine blk_drew ?_ | refine blk_alloc ?_ _)); exact BK243.out) hb); replace BK258 := Aside0.mk (blk_below (g := gb258) (o := .cells #[.slice Ao21 t251.length co21, .slice Ao24 t254.length co24] 54 (0, 0)) (by (with_reducible repeat (first | refine blk_drewN ?_ _ | refine blk_drew ?_ | refine blk_alloc ?_ _)); refine blk_far ?_ NB258_303.out _; (with_reducible repeat (first | refine blk_drewN ?_ _ | refine blk_drew ?_ | refine blk_alloc ?_ _)); refine blk_far ?_ NB258_303.out _; (with_reducible repeat (first | refine blk_drewN ?_ _ | refine blk_drew ?_ | refine blk_alloc ?_ _)); exact BK258.out) hb); replace BK265 := Aside0.mk (blk_below (g := gb265) (o := .cells #[.slice Ao28 t283.length co28, .slice Ao32 t284.length co32] 54 (0, 0)) (by (with_reducible repeat (first | refine blk_drewN ?_ _ | refine blk_drew ?_ | refine blk_alloc ?_ _)); refine blk_far ?_ NB265_303.out _; (with_reducible repeat (first | refine blk_drewN ?_ _ | refine blk_drew ?_ | refine blk_alloc ?_ _)); refine blk_far ?_ NB265_303.out _; (with_reducible repeat (first | refine blk_drewN ?_ _ | refine blk_drew ?_ | refine blk_alloc ?_ _)); exact BK265.out) hb); replace BK273 := Aside0.mk (blk_below (g := gb273) (o := .cells #[.slice Ao35 t266.length co35, .slice Ao40 t269.length co40] 54 (0, 0)) (by (with_reducible repeat (first | refine blk_drewN ?_ _ | refine blk_drew ?_ | refine blk_alloc ?_ _)); refine blk_far ?_ NB273_303.out _; (with_reducible repeat (first | refine blk_drewN ?_ _ | refine blk_drew ?_ | refine blk_alloc ?_ _)); refine blk_far ?_ NB273_303.out _; (with_reducible repeat (first | refine blk_drewN ?_ _ | refine blk_drew ?_ | refine blk_alloc ?_ _)); exact BK273.out) hb); replace BK303 := Aside0.mk (blk_below (g := gb303) (o := .cells #[.slice Ao117 t296.length co117, .slice Ao123 t299.length co123] 54 (0, 0)) (by (with_reducible repeat (first | refine blk_drewN ?_ _ | refine blk_drew ?_ | refine blk_alloc ?_ _)); refine blk_put (cs := #[.slice Ao117 t296.length co117, .slice none 0 0]) ?_ 1 _ rfl; (with_reducible repeat (first | refine blk_drewN ?_ _ | refine blk_drew ?_ | refine blk_alloc ?_ _)); refine blk_put (cs := #[.slice none 0 0, .slice none 0 0]) ?_ 0 _ rfl; (with_reducible repeat (first | refine blk_drewN ?_ _ | refine blk_drew ?_ | refine blk_alloc ?_ _)); exact BK303.out) hb); replace HB := Aside0.mk (below_step (by repeat (first | (with_reducible first | exact HB.out | apply below_alloc | apply pw_below_drewN | apply below_drew1 | refine below_set ?_ GE243.out | refine below_set ?_ GE258.out | refine below_set ?_ GE265.out | refine below_set ?_ GE273.out | refine below_set ?_ GE303.out) | exact HB.out)) hb); (try clear hb); (try clear hb2); (try clear hk); (try clear hi)))
             go_meet
             case rel => exact ⟨_, ((t302 != t257)), (by first | rfl | (simp; done) | (simp [*]; done)), H', ⟨by have := HJ10.out; have := HJ63.out; first | omega | exact Nat.le_refl _⟩, ⟨by (try simp only [hl266000_63]); (try simp only [hl266001_63]); (with_reducible repeat (first | apply Kd.R_alloc | apply Kd.R_drewN | apply Kd.R_drew)); exact Kd.R_mono HO_259000.out (fun _ hk => ⟨hk.1.1.1, ⟨hk.1.1.2, hk.2⟩⟩)⟩, ⟨by (try simp only [hl266000_63]); (try simp only [hl266001_63]); (with_reducible repeat (first | apply Kd.R_alloc | apply Kd.R_drewN | apply Kd.R_drew)); exact Kd.R_mono HO_259001.out (fun _ hk => ⟨hk.1.1.1, ⟨hk.1.1.2, hk.2⟩⟩)⟩, ⟨by (try simp only [hl266000_63]); (try simp only [hl266001_63]); (with_reducible repeat (first | apply Kd.R_alloc | apply Kd.R_drewN | apply Kd.R_drew)); exact Kd.R_mono HO_266000.out (fun _ hk => ⟨hk.1.1.1, ⟨hk.1.1.2, hk.2⟩⟩)⟩, ⟨by (try simp only [hl266000_63]); (try simp only [hl266001_63]); (with_reducible repeat (first | apply Kd.R_alloc | apply Kd.R_drewN | apply Kd.R_drew)); exact Kd.R_mono HO_266001.out (fun _ hk => ⟨hk.1.1.1, ⟨hk.1.1.2, hk.2⟩⟩)⟩, ⟨by (try simp only [hl266000_63]); (try simp only [hl266001_63]); (with_reducible repeat (first | apply Kd.R_alloc | apply Kd.R_drewN | apply Kd.R_drew)); exact Kd.R_mono HO_274000.out (fun _ hk => ⟨hk.1.1.1, ⟨hk.1.1.2, hk.2⟩⟩)⟩, ⟨by (try simp only [hl266000_63]); (try simp only [hl266001_63]); (with_reducible repeat (first | apply Kd.R_alloc | apply Kd.R_drewN | apply Kd.R_drew)); exact Kd.R_mono HO_274001.out (fun _ hk => ⟨hk.1.1.1, ⟨hk.1.1.2, hk.2⟩⟩)⟩, ⟨by (try simp only [hl266000_63]); (try simp only [hl266001_63]); (with_reducible repeat (first | apply Kd.R_alloc | apply Kd.R_drewN | apply Kd.R_drew)); exact Kd.R_mono HO298.out (fun _ hk => ⟨hk.1.1.1.2, ⟨hk.1.1.2, hk.1.2⟩⟩)⟩, ⟨by (try simp only [hl266000_63]); (try simp only [hl266001_63]); (with_reducible repeat (first | apply Kd.R_alloc | apply Kd.R_drewN | apply Kd.R_drew)); exact Kd.R_mono HO301.out (fun _ hk => ⟨hk.1.1.1.2, ⟨hk.1.1.2, hk.1.2⟩⟩)⟩, ⟨by (try simp only [hl266000_63]); (try simp only [hl266001_63]); (with_reducible repeat (first | refine blk_drewN ?_ _ | refine blk_drew ?_ | refine blk_alloc ?_ _)); exact BK243.out⟩, ⟨by (try simp only [hl266000_63]); (try simp only [hl266001_63]); (with_reducible repeat (first | refine blk_drewN ?_ _ | refine blk_drew ?_ | refine blk_alloc ?_ _)); exact BK258.out⟩, ⟨by (try simp only [hl266000_63]); (try simp only [hl266001_63]); (with_reducible repeat (first | refine blk_drewN ?_ _ | refine blk_drew ?_ | refine blk_alloc ?_ _)); exact BK265.out⟩, ⟨by (try simp only [hl266000_63]); (try simp only [hl266001_63]); (with_reducible repeat (first | refine blk_drewN ?_ _ | refine blk_drew ?_ | refine blk_alloc ?_ _)); exact BK273.out⟩, ⟨by (try simp only [hl266000_63]); (try simp only [hl266001_63]); (with_reducible repeat (first | refine blk_drewN ?_ _ | refine blk_drew ?_ | refine blk_alloc ?_ _)); exact BK303.out⟩, ⟨by repeat (first | (with_reducible first | exact HB.out | apply below_alloc | apply pw_below_drewN | apply below_drew1 | refine below_set ?_ GE243.out | refine below_set ?_ GE258.out | refine below_set ?_ GE265.out | refine below_set ?_ GE273.out | refine below_set ?_ GE303.out) | exact HB.out)⟩⟩
            ·replace c125 := Bool.eq_false_iff.mpr c125
             subst c125
             have H1 : (laws_FnExactTurnPuzzle.j2 kj63 t286 true t287 t288) = some r := by rw [if_neg (show ¬ (false = true) by decide)] at H; exact H
             clear H
             have H := H1
             clear H1
             have H' := Aside0.mk H
             clear H
             have hnb136 := NB303_243.out
             have hnc136 := NB243_303.out
             have hnb137 := NB303_258.out
             have hnc137 := NB258_303.out
             have hnb138 := NB303_265.out
             have hnc138 := NB265_303.out
             have hnb139 := NB303_273.out
             have hnc139 := NB273_303.out
             have hcz140_0 : w116.cell? ⟨gb303, 0, none⟩ = some (.slice none 0 0) := (blk_cell BK303.out 0).trans rfl
             have hcz140_1 : w116.cell? ⟨gb303, 1, none⟩ = some (.slice none 0 0) := (blk_cell BK303.out 1).trans rfl
             have hfz140_0 := blk_frozen BK303.out 0
             have hfz140_1 := blk_frozen BK303.out 1
             have hnb141 := NB258_243.out
             have hnc141 := NB243_258.out
             have hnb142 := NB258_265.out
             have hnc142 := NB265_258.out
             have hnb143 := NB258_273.out
             have hnc143 := NB273_258.out
             have hcz144_0 : w116.cell? ⟨gb258, 0, none⟩ = some (.slice Ao21 t251.length co21) := (blk_cell BK258.out 0).trans rfl
             have hcz144_1 : w116.cell? ⟨gb258, 1, none⟩ = some (.slice Ao24 t254.length co24) := (blk_cell BK258.out 1).trans rfl
             have hfz144_0 := blk_frozen BK258.out 0
             have hfz144_1 := blk_frozen BK258.out 1
             go_wp2_with (first | ((with_reducible refine gate_callee (f := 41) rfl ?_); refine goesL_ (some 81) rfl rfl Try.func41 (by kernel_rfl) rfl #[.agg #[.slice Ao117 t296.length co117, .slice Ao123 t299.length co123], .agg #[.slice Ao21 t251.length co21, .slice Ao24 t254.length co24]] rfl (by (try simp only [List.map_toArray, List.map_cons, List.map_nil]); first | done | rfl | (simp only [List.length_drop, List.length_take]; rfl)) ?_; (with_reducible refine (laws_eqPuzzle.calls kj63 _ _ t296 _ _ t299 _ _ t251 _ _ t254 false _ ?side1 ?side2 ?side3 ?side4 ?side5 ?side6 ?side7 ?side8 A124.out).mono ?_); (case side1 => refine (Kd.R_reads' (e := 25) (base := w.heap.size) (ok := fun k_ => ((((True ∧ some k_ ≠ (.slice Ao21 t251.length co21 : Value).ownBlock) ∧ some k_ ≠ (.slice Ao28 t283.length co28 : Value).ownBlock) ∧ some k_ ≠ (.slice Ao35 t266.length co35 : Value).ownBlock) ∧ some k_ ≠ (.slice Ao113 t290.length co113 : Value).ownBlock)) (n := t296.length) (c := co117) ?_).2.2; exact (by (with_reducible repeat (first | apply Kd.R_alloc | apply Kd.R_drewN | apply Kd.R_drew)); exact (Kd.R_mono (Kd.R_far (p := ⟨gb303, 1, none⟩) (Kd.R_far (p := ⟨gb303, 0, none⟩) (Kd.R_types HO298.out BK303.out (by decide)) (fun _ hk => hk.2) (.slice Ao117 t296.length co117)) (fun _ hk => hk.2) (.slice Ao123 t299.length co123)) (fun _ h_ => h_.1)))); (case side2 => exact (Kd.R_reads' HO298.out).2.1); (case side3 => refine (Kd.R_reads' (e := 3) (base := w.heap.size) (ok := fun k_ => ((((True ∧ some k_ ≠ (.slice Ao24 t254.length co24 : Value).ownBlock) ∧ some k_ ≠ (.slice Ao32 t284.length co32 : Value).ownBlock) ∧ some k_ ≠ (.slice Ao40 t269.length co40 : Value).ownBlock) ∧ some k_ ≠ (.slice Ao114 t293.length co114 : Value).ownBlock)) (n := t299.length) (c := co123) ?_).2.2; exact (by (with_reducible repeat (first | apply Kd.R_alloc | apply Kd.R_drewN | apply Kd.R_drew)); exact (Kd.R_mono (Kd.R_far (p := ⟨gb303, 1, none⟩) (Kd.R_far (p := ⟨gb303, 0, none⟩) (Kd.R_types HO301.out BK303.out (by decide)) (fun _ hk => hk.2) (.slice Ao117 t296.length co117)) (fun _ hk => hk.2) (.slice Ao123 t299.length co123)) (fun _ h_ => h_.1)))); (case side4 => exact (Kd.R_reads' HO301.out).2.1); (case side5 => refine (Kd.R_reads' (e := 25) (base := w.heap.size) (ok := fun k_ => (((some k_ ≠ (.slice Ao28 t283.length co28 : Value).ownBlock ∧ some k_ ≠ (.slice Ao35 t266.length co35 : Value).ownBlock) ∧ some k_ ≠ (.slice Ao113 t290.length co113 : Value).ownBlock) ∧ some k_ ≠ (.slice Ao117 t296.length co117 : Value).ownBlock)) (n := t251.length) (c := co21) ?_).2.2; exact (by (with_reducible repeat (first | apply Kd.R_alloc | apply Kd.R_drewN | apply Kd.R_drew)); exact (Kd.R_mono (Kd.R_far (p := ⟨gb303, 1, none⟩) (Kd.R_far (p := ⟨gb303, 0, none⟩) (Kd.R_types HO_259000.out BK303.out (by decide)) (fun _ hk => hk.2) (.slice Ao117 t296.length co117)) (fun _ hk => hk.2) (.slice Ao123 t299.length co123)) (fun _ h_ => h_.1)))); (case side6 => exact (Kd.R_reads' HO_259000.out).2.1); (case side7 => refine (Kd.R_reads' (e := 3) (base := w.heap.size) (ok := fun k_ => (((some k_ ≠ (.slice Ao32 t284.length co32 : Value).ownBlock ∧ some k_ ≠ (.slice Ao40 t269.length co40 : Value).ownBlock) ∧ some k_ ≠ (.slice Ao114 t293.length co114 : Value).ownBlock) ∧ some k_ ≠ (.slice Ao123 t299.length co123 : Value).ownBlock)) (n := t254.length) (c := co24) ?_).2.2; exact (by (with_reducible repeat (first | apply Kd.R_alloc | apply Kd.R_drewN | apply Kd.R_drew)); exact (Kd.R_mono (Kd.R_far (p := ⟨gb303, 1, none⟩) (Kd.R_far (p := ⟨gb303, 0, none⟩) (Kd.R_types HO_259001.out BK303.out (by decide)) (fun _ hk => hk.2) (.slice Ao117 t296.length co117)) (fun _ hk => hk.2) (.slice Ao123 t299.length co123)) (fun _ h_ => h_.1)))); (case side8 => exact (Kd.R_reads' HO_259001.out).2.1); rintro e w145 ⟨rfl, hb⟩; refine ⟨_, rfl, ?_⟩; replace HO_259000 := Aside0.mk (Kd.R_below (by (with_reducible repeat (first | apply Kd.R_alloc | apply Kd.R_drewN | apply Kd.R_drew)); exact (Kd.R_mono (Kd.R_far (p := ⟨gb303, 1, none⟩) (Kd.R_far (p := ⟨gb303, 0, none⟩) (Kd.R_types HO_259000.out BK303.out (by decide)) (fun _ hk => hk.2) (.slice Ao117 t296.length co117)) (fun _ hk => hk.2) (.slice Ao123 t299.length co123)) (fun _ h_ => h_.1))) hb); replace HO_259001 := Aside0.mk (Kd.R_below (by (with_reducible repeat (first | apply Kd.R_alloc | apply Kd.R_drewN | apply Kd.R_drew)); exact (Kd.R_mono (Kd.R_far (p := ⟨gb303, 1, none⟩) (Kd.R_far (p := ⟨gb303, 0, none⟩) (Kd.R_types HO_259001.out BK303.out (by decide)) (fun _ hk => hk.2) (.slice Ao117 t296.length co117)) (fun _ hk => hk.2) (.slice Ao123 t299.length co123)) (fun _ h_ => h_.1))) hb); replace HO_266000 := Aside0.mk (Kd.R_below (by (with_reducible repeat (first | apply Kd.R_alloc | apply Kd.R_drewN | apply Kd.R_drew)); exact (Kd.R_mono (Kd.R_far (p := ⟨gb303, 1, none⟩) (Kd.R_far (p := ⟨gb303, 0, none⟩) (Kd.R_types HO_266000.out BK303.out (by decide)) (fun _ hk => hk.2) (.slice Ao117 t296.length co117)) (fun _ hk => hk.2) (.slice Ao123 t299.length co123)) (fun _ h_ => h_.1))) hb); replace HO_266001 := Aside0.mk (Kd.R_below (by (with_reducible repeat (first | apply Kd.R_alloc | apply Kd.R_drewN | apply Kd.R_drew)); exact (Kd.R_mono (Kd.R_far (p := ⟨gb303, 1, none⟩) (Kd.R_far (p := ⟨gb303, 0, none⟩) (Kd.R_types HO_266001.out BK303.out (by decide)) (fun _ hk => hk.2) (.slice Ao117 t296.length co117)) (fun _ hk => hk.2) (.slice Ao123 t299.length co123)) (fun _ h_ => h_.1))) hb); replace HO_274000 := Aside0.mk (Kd.R_below (by (with_reducible repeat (first | apply Kd.R_alloc | apply Kd.R_drewN | apply Kd.R_drew)); exact (Kd.R_mono (Kd.R_far (p := ⟨gb303, 1, none⟩) (Kd.R_far (p := ⟨gb303, 0, none⟩) (Kd.R_types HO_274000.out BK303.out (by decide)) (fun _ hk => hk.2) (.slice Ao117 t296.length co117)) (fun _ hk => hk.2) (.slice Ao123 t299.length co123)) (fun _ h_ => h_.1))) hb); replace HO_274001 := Aside0.mk (Kd.R_below (by (with_reducible repeat (first | apply Kd.R_alloc | apply Kd.R_drewN | apply Kd.R_drew)); exact (Kd.R_mono (Kd.R_far (p := ⟨gb303, 1, none⟩) (Kd.R_far (p := ⟨gb303, 0, none⟩) (Kd.R_types HO_274001.out BK303.out (by decide)) (fun _ hk => hk.2) (.slice Ao117 t296.length co117)) (fun _ hk => hk.2) (.slice Ao123 t299.length co123)) (fun _ h_ => h_.1))) hb); replace HO292 := Aside0.mk (Kd.R_below (by (with_reducible repeat (first | apply Kd.R_alloc | apply Kd.R_drewN | apply Kd.R_drew)); exact (Kd.R_mono (Kd.R_far (p := ⟨gb303, 1, none⟩) (Kd.R_far (p := ⟨gb303, 0, none⟩) (Kd.R_types HO292.out BK303.out (by decide)) (fun _ hk => hk.2) (.slice Ao117 t296.length co117)) (fun _ hk => hk.2) (.slice Ao123 t299.length co123)) (fun _ h_ => h_.1))) hb); replace HO295 := Aside0.mk (Kd.R_below (by (with_reducible repeat (first | apply Kd.R_alloc | apply Kd.R_drewN | apply Kd.R_drew)); exact (Kd.R_mono (Kd.R_far (p := ⟨gb303, 1, none⟩) (Kd.R_far (p := ⟨gb303, 0, none⟩) (Kd.R_types HO295.out BK303.out (by decide)) (fun _ hk => hk.2) (.slice Ao117 t296.length co117)) (fun _ hk => hk.2) (.slice Ao123 t299.length co123)) (fun _ h_ => h_.1))) hb); replace HO298 := Aside0.mk (Kd.R_below (by (with_reducible repeat (first | apply Kd.R_alloc | apply Kd.R_drewN | apply Kd.R_drew)); exact (Kd.R_mono (Kd.R_far (p := ⟨gb303, 1, none⟩) (Kd.R_far (p := ⟨gb303, 0, none⟩) (Kd.R_types HO298.out BK303.out (by decide)) (fun _ hk => hk.2) (.slice Ao117 t296.length co117)) (fun _ hk => hk.2) (.slice Ao123 t299.length co123)) (fun _ h_ => h_.1))) hb); replace HO301 := Aside0.mk (Kd.R_below (by (with_reducible repeat (first | apply Kd.R_alloc | apply Kd.R_drewN | apply Kd.R_drew)); exact (Kd.R_mono (Kd.R_far (p := ⟨gb303, 1, none⟩) (Kd.R_far (p := ⟨gb303, 0, none⟩) (Kd.R_types HO301.out BK303.out (by decide)) (fun _ hk => hk.2) (.slice Ao117 t296.length co117)) (fun _ hk => hk.2) (.slice Ao123 t299.length co123)) (fun _ h_ => h_.1))) hb); replace BK243 := Aside0.mk (blk_below (g := gb243) (o := .cells #[.slice A0_0 l0_0.length c0_0, .slice A0_1 l0_1.length c0_1] 51 (0, 0)) (by (with_reducible repeat (first | refine blk_drewN ?_ _ | refine blk_drew ?_ | refine blk_alloc ?_ _)); refine blk_far ?_ NB243_303.out _; (with_reducible repeat (first | refine blk_drewN ?_ _ | refine blk_drew ?_ | refine blk_alloc ?_ _)); refine blk_far ?_ NB243_303.out _; (with_reducible repeat (first | refine blk_drewN ?_ _ | refine blk_drew ?_ | refine blk_alloc ?_ _)); exact BK243.out) hb); replace BK258 := Aside0.mk (blk_below (g := gb258) (o := .cells #[.slice Ao21 t251.length co21, .slice Ao24 t254.length co24] 54 (0, 0)) (by (with_reducible repeat (first | refine blk_drewN ?_ _ | refine blk_drew ?_ | refine blk_alloc ?_ _)); refine blk_far ?_ NB258_303.out _; (with_reducible repeat (first | refine blk_drewN ?_ _ | refine blk_drew ?_ | refine blk_alloc ?_ _)); refine blk_far ?_ NB258_303.out _; (with_reducible repeat (first | refine blk_drewN ?_ _ | refine blk_drew ?_ | refine blk_alloc ?_ _)); exact BK258.out) hb); replace BK265 := Aside0.mk (blk_below (g := gb265) (o := .cells #[.slice Ao28 t283.length co28, .slice Ao32 t284.length co32] 54 (0, 0)) (by (with_reducible repeat (first | refine blk_drewN ?_ _ | refine blk_drew ?_ | refine blk_alloc ?_ _)); refine blk_far ?_ NB265_303.out _; (with_reducible repeat (first | refine blk_drewN ?_ _ | refine blk_drew ?_ | refine blk_alloc ?_ _)); refine blk_far ?_ NB265_303.out _; (with_reducible repeat (first | refine blk_drewN ?_ _ | refine blk_drew ?_ | refine blk_alloc ?_ _)); exact BK265.out) hb); replace BK273 := Aside0.mk (blk_below (g := gb273) (o := .cells #[.slice Ao35 t266.length co35, .slice Ao40 t269.length co40] 54 (0, 0)) (by (with_reducible repeat (first | refine blk_drewN ?_ _ | refine blk_drew ?_ | refine blk_alloc ?_ _)); refine blk_far ?_ NB273_303.out _; (with_reducible repeat (first | refine blk_drewN ?_ _ | refine blk_drew ?_ | refine blk_alloc ?_ _)); refine blk_far ?_ NB273_303.out _; (with_reducible repeat (first | refine blk_drewN ?_ _ | refine blk_drew ?_ | refine blk_alloc ?_ _)); exact BK273.out) hb); replace BK303 := Aside0.mk (blk_below (g := gb303) (o := .cells #[.slice Ao117 t296.length co117, .slice Ao123 t299.length co123] 54 (0, 0)) (by (with_reducible repeat (first | refine blk_drewN ?_ _ | refine blk_drew ?_ | refine blk_alloc ?_ _)); refine blk_put (cs := #[.slice Ao117 t296.length co117, .slice none 0 0]) ?_ 1 _ rfl; (with_reducible repeat (first | refine blk_drewN ?_ _ | refine blk_drew ?_ | refine blk_alloc ?_ _)); refine blk_put (cs := #[.slice none 0 0, .slice none 0 0]) ?_ 0 _ rfl; (with_reducible repeat (first | refine blk_drewN ?_ _ | refine blk_drew ?_ | refine blk_alloc ?_ _)); exact BK303.out) hb); replace HB := Aside0.mk (below_step (by repeat (first | (with_reducible first | exact HB.out | apply below_alloc | apply pw_below_drewN | apply below_drew1 | refine below_set ?_ GE243.out | refine below_set ?_ GE258.out | refine below_set ?_ GE265.out | refine below_set ?_ GE273.out | refine below_set ?_ GE303.out) | exact HB.out)) hb); (try clear hb); (try clear hb2); (try clear hk); (try clear hi)))
             go_meet
             case rel => exact ⟨_, (true), (by first | rfl | (simp; done) | (simp [*]; done)), H', ⟨by have := HJ10.out; have := HJ63.out; first | omega | exact Nat.le_refl _⟩, ⟨by (try simp only [hl266000_63]); (try simp only [hl266001_63]); (with_reducible repeat (first | apply Kd.R_alloc | apply Kd.R_drewN | apply Kd.R_drew)); exact Kd.R_mono HO_259000.out (fun _ hk => ⟨hk.1.1.1, ⟨hk.1.1.2, hk.2⟩⟩)⟩, ⟨by (try simp only [hl266000_63]); (try simp only [hl266001_63]); (with_reducible repeat (first | apply Kd.R_alloc | apply Kd.R_drewN | apply Kd.R_drew)); exact Kd.R_mono HO_259001.out (fun _ hk => ⟨hk.1.1.1, ⟨hk.1.1.2, hk.2⟩⟩)⟩, ⟨by (try simp only [hl266000_63]); (try simp only [hl266001_63]); (with_reducible repeat (first | apply Kd.R_alloc | apply Kd.R_drewN | apply Kd.R_drew)); exact Kd.R_mono HO_266000.out (fun _ hk => ⟨hk.1.1.1, ⟨hk.1.1.2, hk.2⟩⟩)⟩, ⟨by (try simp only [hl266000_63]); (try simp only [hl266001_63]); (with_reducible repeat (first | apply Kd.R_alloc | apply Kd.R_drewN | apply Kd.R_drew)); exact Kd.R_mono HO_266001.out (fun _ hk => ⟨hk.1.1.1, ⟨hk.1.1.2, hk.2⟩⟩)⟩, ⟨by (try simp only [hl266000_63]); (try simp only [hl266001_63]); (with_reducible repeat (first | apply Kd.R_alloc | apply Kd.R_drewN | apply Kd.R_drew)); exact Kd.R_mono HO_274000.out (fun _ hk => ⟨hk.1.1.1, ⟨hk.1.1.2, hk.2⟩⟩)⟩, ⟨by (try simp only [hl266000_63]); (try simp only [hl266001_63]); (with_reducible repeat (first | apply Kd.R_alloc | apply Kd.R_drewN | apply Kd.R_drew)); exact Kd.R_mono HO_274001.out (fun _ hk => ⟨hk.1.1.1, ⟨hk.1.1.2, hk.2⟩⟩)⟩, ⟨by (try simp only [hl266000_63]); (try simp only [hl266001_63]); (with_reducible repeat (first | apply Kd.R_alloc | apply Kd.R_drewN | apply Kd.R_drew)); exact Kd.R_mono HO298.out (fun _ hk => ⟨hk.1.1.1.2, ⟨hk.1.1.2, hk.1.2⟩⟩)⟩, ⟨by (try simp only [hl266000_63]); (try simp only [hl266001_63]); (with_reducible repeat (first | apply Kd.R_alloc | apply Kd.R_drewN | apply Kd.R_drew)); exact Kd.R_mono HO301.out (fun _ hk => ⟨hk.1.1.1.2, ⟨hk.1.1.2, hk.1.2⟩⟩)⟩, ⟨by (try simp only [hl266000_63]); (try simp only [hl266001_63]); (with_reducible repeat (first | refine blk_drewN ?_ _ | refine blk_drew ?_ | refine blk_alloc ?_ _)); exact BK243.out⟩, ⟨by (try simp only [hl266000_63]); (try simp only [hl266001_63]); (with_reducible repeat (first | refine blk_drewN ?_ _ | refine blk_drew ?_ | refine blk_alloc ?_ _)); exact BK258.out⟩, ⟨by (try simp only [hl266000_63]); (try simp only [hl266001_63]); (with_reducible repeat (first | refine blk_drewN ?_ _ | refine blk_drew ?_ | refine blk_alloc ?_ _)); exact BK265.out⟩, ⟨by (try simp only [hl266000_63]); (try simp only [hl266001_63]); (with_reducible repeat (first | refine blk_drewN ?_ _ | refine blk_drew ?_ | refine blk_alloc ?_ _)); exact BK273.out⟩, ⟨by (try simp only [hl266000_63]); (try simp only [hl266001_63]); (with_reducible repeat (first | refine blk_drewN ?_ _ | refine blk_drew ?_ | refine blk_alloc ?_ _)); exact BK303.out⟩, ⟨by repeat (first | (with_reducible first | exact HB.out | apply below_alloc | apply pw_below_drewN | apply below_drew1 | refine below_set ?_ GE243.out | refine below_set ?_ GE258.out | refine below_set ?_ GE265.out | refine below_set ?_ GE273.out | refine below_set ?_ GE303.out) | exact HB.out)⟩⟩
           case rest =>
            clear HC101
            try clear c1
            try clear c2
            try clear p2
            try clear c3
            try clear c3b0
            try clear c4
            try clear c5
            try clear c6
            try clear c7
            try clear c8
            try clear c9
            try clear c10
            try clear c11
            try clear c12
            try clear c13
            try clear c14
            try clear c22
            try clear c29
            try clear c30
            try clear c36
            try clear c37
            try clear c38
            try clear c39
            try clear c41
            try clear c42
            try clear c43
            try clear c44
            try clear c45
            try clear c47
            try clear c48
            try clear c51
            try clear c52
            try clear c53
            try clear c55
            try clear c56
            try clear c59
            try clear c62
            try clear c68
            try clear c69
            try clear c70
            try clear c71
            try clear c72
            try clear c75
            try clear c75b0
            try clear c77
            try clear c78
            try clear c79
            try clear c80
            try clear c82
            try clear c83
            try clear c86
            try clear c87
            try clear c88
            try clear c90
            try clear c91
            try clear c94
            try clear c97
            try clear c97b0
            try clear c98
            try clear c98b0
            try clear c98b1
            try clear c102
            try clear c103
            try clear c104
            try clear c109
            try clear c110
            try clear c118
            try clear c119
            try clear c120
            try clear c121
            try clear c125
            try clear c126
            try clear c127
            try clear c128
            try clear c129
            try clear c131
            try clear c132
            try clear c133
            try clear c136
            try clear c137
            try clear c138
            try clear c139
            try clear c141
            try clear c142
            try clear c143
            try clear hcz105_0
            try clear hcz105_1
            try clear hcz107_0
            try clear hcz107_1
            try clear hcz111_0
            try clear hcz111_1
            try clear hcz122_0
            try clear hcz122_1
            try clear hcz130_0
            try clear hcz130_1
            try clear hcz134_0
            try clear hcz134_1
            try clear hcz13_0
            try clear hcz13_1
            try clear hcz140_0
            try clear hcz140_1
            try clear hcz144_0
            try clear hcz144_1
            try clear hcz15_0
            try clear hcz15_1
            try clear hcz23_0
            try clear hcz23_1
            try clear hcz25_0
            try clear hcz25_1
            try clear hcz31_0
            try clear hcz31_1
            try clear hcz39_0
            try clear hcz39_1
            try clear hcz46_0
            try clear hcz46_1
            try clear hcz49_0
            try clear hcz49_1
            try clear hcz54_0
            try clear hcz54_1
            try clear hcz57_0
            try clear hcz57_1
            try clear hcz5_0
            try clear hcz5_1
            try clear hcz73_0
            try clear hcz73_1
            try clear hcz81_0
            try clear hcz81_1
            try clear hcz84_0
            try clear hcz84_1
            try clear hcz89_0
            try clear hcz89_1
            try clear hcz92_0
            try clear hcz92_1
            try clear hfz105_0
            try clear hfz105_1
            try clear hfz107_0
            try clear hfz107_1
            try clear hfz111_0
            try clear hfz111_1
            try clear hfz122_0
            try clear hfz122_1
            try clear hfz130_0
            try clear hfz130_1
            try clear hfz134_0
            try clear hfz134_1
            try clear hfz13_0
            try clear hfz13_1
            try clear hfz140_0
            try clear hfz140_1
            try clear hfz144_0
            try clear hfz144_1
            try clear hfz15_0
            try clear hfz15_1
            try clear hfz23_0
            try clear hfz23_1
            try clear hfz25_0
            try clear hfz25_1
            try clear hfz31_0
            try clear hfz31_1
            try clear hfz39_0
            try clear hfz39_1
            try clear hfz46_0
            try clear hfz46_1
            try clear hfz49_0
            try clear hfz49_1
            try clear hfz54_0
            try clear hfz54_1
            try clear hfz57_0
            try clear hfz57_1
            try clear hfz5_0
            try clear hfz5_1
            try clear hfz73_0
            try clear hfz73_1
            try clear hfz81_0
            try clear hfz81_1
            try clear hfz84_0
            try clear hfz84_1
            try clear hfz89_0
            try clear hfz89_1
            try clear hfz92_0
            try clear hfz92_1
            try clear p2
            obtain ⟨kq, x87_100, rfl, HA, HJ100, HO_259000, HO_259001, HO_266000, HO_266001, HO_274000, HO_274001, HO_304000, HO_304001, BK243, BK258, BK265, BK273, BK303, HB⟩ := hcut
            have hl274000_100 := (Kd.R_reads' HO_274000.out).1
            rw [hl274000_100] at HO_274000
            (try simp only [hl274000_100])
            (try simp only [hl274000_100] at BK243)
            (try simp only [hl274000_100] at BK258)
            (try simp only [hl274000_100] at BK265)
            (try simp only [hl274000_100] at BK273)
            (try simp only [hl274000_100] at BK303)
            (try simp only [hl274000_100] at HO_259000)
            (try simp only [hl274000_100] at HO_259001)
            (try simp only [hl274000_100] at HO_266000)
            (try simp only [hl274000_100] at HO_266001)
            (try simp only [hl274000_100] at HO_274001)
            (try simp only [hl274000_100] at HO_304000)
            (try simp only [hl274000_100] at HO_304001)
            have hl274001_100 := (Kd.R_reads' HO_274001.out).1
            rw [hl274001_100] at HO_274001
            (try simp only [hl274001_100])
            (try simp only [hl274001_100] at BK243)
            (try simp only [hl274001_100] at BK258)
            (try simp only [hl274001_100] at BK265)
            (try simp only [hl274001_100] at BK273)
            (try simp only [hl274001_100] at BK303)
            (try simp only [hl274001_100] at HO_259000)
            (try simp only [hl274001_100] at HO_259001)
            (try simp only [hl274001_100] at HO_266000)
            (try simp only [hl274001_100] at HO_266001)
            (try simp only [hl274001_100] at HO_274000)
            (try simp only [hl274001_100] at HO_304000)
            (try simp only [hl274001_100] at HO_304001)
            cases kq with
            | zero => exact absurd HA.out (by simp [laws_FnExactTurnPuzzle.j2])
            | succ kj100 =>
             have H := HA.out
             clear HA
             simp only [laws_FnExactTurnPuzzle.j2] at H
             by_cases c146 : x87_100 = true
             ·subst c146
              have H1 : (none) = some r := by rw [if_pos rfl] at H; exact H
              clear H
              have H := H1
              clear H1
              exact absurd H (by simp)
             ·replace c146 := Bool.eq_false_iff.mpr c146
              subst c146
              have H1 : ((laws_heldPuzzle.f kj100 t287 t288 1).bind fun t305 => (if t305 < 0 then (none) else (if t305 = t286 then (some true) else (none)))) = some r := by rw [if_neg (show ¬ (false = true) by decide)] at H; exact H
              clear H
              have H := H1
              clear H1
              replace H := Option.bind_eq_some_iff.mp H
              obtain ⟨t305, A1470, H⟩ := H
              replace H : (if t305 < 0 then (none) else (if t305 = t286 then (some true) else (none))) = some r := H
              have A147 := Aside0.mk A1470
              clear A1470
              by_cases c148 : t305 < 0
              ·rw [if_pos c148] at H
               exact absurd H (by simp)
              ·rw [if_neg c148] at H
               have c148b0 : decide (t305 < 0) = false := decide_eq_false c148
               clear c148
               by_cases c149 : t305 = t286
               ·rw [if_pos c149] at H
                have c149b0 : (t305 == t286) = true := beq_iff_eq.mpr c149
                have c149b1 : (t305 != t286) = false := bne_eq_false_iff_eq.mpr c149
                clear c149
                obtain rfl := Option.some.inj H
                have hnb150 := NB273_243.out
                have hnc150 := NB243_273.out
                have hnb151 := NB273_258.out
                have hnc151 := NB258_273.out
                have hnb152 := NB273_265.out
                have hnc152 := NB265_273.out
                have hnb153 := NB273_303.out
                have hnc153 := NB303_273.out
                have hcz154_0 : wc.cell? ⟨gb273, 0, none⟩ = some (.slice Ao35 t287.length co35) := (blk_cell BK273.out 0).trans rfl
                have hcz154_1 : wc.cell? ⟨gb273, 1, none⟩ = some (.slice Ao40 t288.length co40) := (blk_cell BK273.out 1).trans rfl
                have hfz154_0 := blk_frozen BK273.out 0
                have hfz154_1 := blk_frozen BK273.out 1
                go_wp2_with (first | ((with_reducible refine gate_callee (f := 43) rfl ?_); refine goesL_ (some 90) rfl rfl Try.func43 (by kernel_rfl) rfl #[.agg #[.slice Ao35 t287.length co35, .slice Ao40 t288.length co40], .int .i64 1] rfl (by (try simp only [List.map_toArray, List.map_cons, List.map_nil]); first | done | rfl | (simp only [List.length_drop, List.length_take]; rfl)) ?_; (with_reducible refine (laws_heldPuzzle.calls kj100 _ _ t287 _ _ t288 1 t305 _ ?side1 ?side2 ?side3 ?side4 A147.out).mono ?_); (case side1 => repeat (first | exact (Kd.R_reads' HO_274000.out).2.2 | (with_reducible refine Kd.C_alloc ?_ _) | (with_reducible refine Kd.C_drewN ?_ _) | (with_reducible refine Kd.C_drew ?_))); (case side2 => exact (Kd.R_reads' HO_274000.out).2.1); (case side3 => repeat (first | exact (Kd.R_reads' HO_274001.out).2.2 | (with_reducible refine Kd.C_alloc ?_ _) | (with_reducible refine Kd.C_drewN ?_ _) | (with_reducible refine Kd.C_drew ?_))); (case side4 => exact (Kd.R_reads' HO_274001.out).2.1); rintro e w155 ⟨rfl, hb⟩; refine ⟨_, rfl, ?_⟩; replace HO_259000 := Aside0.mk (Kd.R_below (by (with_reducible repeat (first | apply Kd.R_alloc | apply Kd.R_drewN | apply Kd.R_drew)); exact HO_259000.out) hb); replace HO_259001 := Aside0.mk (Kd.R_below (by (with_reducible repeat (first | apply Kd.R_alloc | apply Kd.R_drewN | apply Kd.R_drew)); exact HO_259001.out) hb); replace HO_266000 := Aside0.mk (Kd.R_below (by (with_reducible repeat (first | apply Kd.R_alloc | apply Kd.R_drewN | apply Kd.R_drew)); exact HO_266000.out) hb); replace HO_266001 := Aside0.mk (Kd.R_below (by (with_reducible repeat (first | apply Kd.R_alloc | apply Kd.R_drewN | apply Kd.R_drew)); exact HO_266001.out) hb); replace HO_274000 := Aside0.mk (Kd.R_below (by (with_reducible repeat (first | apply Kd.R_alloc | apply Kd.R_drewN | apply Kd.R_drew)); exact HO_274000.out) hb); replace HO_274001 := Aside0.mk (Kd.R_below (by (with_reducible repeat (first | apply Kd.R_alloc | apply Kd.R_drewN | apply Kd.R_drew)); exact HO_274001.out) hb); replace HO_304000 := Aside0.mk (Kd.R_below (by (with_reducible repeat (first | apply Kd.R_alloc | apply Kd.R_drewN | apply Kd.R_drew)); exact HO_304000.out) hb); replace HO_304001 := Aside0.mk (Kd.R_below (by (with_reducible repeat (first | apply Kd.R_alloc | apply Kd.R_drewN | apply Kd.R_drew)); exact HO_304001.out) hb); replace BK243 := Aside0.mk (blk_below (g := gb243) (o := .cells #[.slice A0_0 l0_0.length c0_0, .slice A0_1 l0_1.length c0_1] 51 (0, 0)) (by (with_reducible repeat (first | refine blk_drewN ?_ _ | refine blk_drew ?_ | refine blk_alloc ?_ _)); exact BK243.out) hb); replace BK258 := Aside0.mk (blk_below (g := gb258) (o := .cells #[.slice Ao21 t251.length co21, .slice Ao24 t254.length co24] 54 (0, 0)) (by (with_reducible repeat (first | refine blk_drewN ?_ _ | refine blk_drew ?_ | refine blk_alloc ?_ _)); exact BK258.out) hb); replace BK265 := Aside0.mk (blk_below (g := gb265) (o := .cells #[.slice Ao28 t283.length co28, .slice Ao32 t284.length co32] 54 (0, 0)) (by (with_reducible repeat (first | refine blk_drewN ?_ _ | refine blk_drew ?_ | refine blk_alloc ?_ _)); exact BK265.out) hb); replace BK273 := Aside0.mk (blk_below (g := gb273) (o := .cells #[.slice Ao35 t287.length co35, .slice Ao40 t288.length co40] 54 (0, 0)) (by (with_reducible repeat (first | refine blk_drewN ?_ _ | refine blk_drew ?_ | refine blk_alloc ?_ _)); exact BK273.out) hb); replace BK303 := Aside0.mk (blk_below (g := gb303) (o := .cells #[.slice Ao117 t296.length co117, .slice Ao123 t299.length co123] 54 (0, 0)) (by (with_reducible repeat (first | refine blk_drewN ?_ _ | refine blk_drew ?_ | refine blk_alloc ?_ _)); exact BK303.out) hb); replace HB := Aside0.mk (below_step (by repeat (first | (with_reducible first | exact HB.out | apply below_alloc | apply pw_below_drewN | apply below_drew1 | refine below_set ?_ GE243.out | refine below_set ?_ GE258.out | refine below_set ?_ GE265.out | refine below_set ?_ GE273.out | refine below_set ?_ GE303.out) | exact HB.out)) hb); (try clear hb); (try clear hb2); (try clear hk); (try clear hi)))
                go_ret
                exact ⟨by first | rfl | (simp [errW_none, errW_some] <;> rfl) | (simp [*, errW_none, errW_some] <;> rfl), by repeat (first | (with_reducible first | exact HB.out | apply below_alloc | apply pw_below_drewN | apply below_drew1 | refine below_set ?_ GE243.out | refine below_set ?_ GE258.out | refine below_set ?_ GE265.out | refine below_set ?_ GE273.out | refine below_set ?_ GE303.out) | exact HB.out)⟩
               ·rw [if_neg c149] at H
                exact absurd H (by simp)
          ·rw [if_neg c98] at H
           exact absurd H (by simp)
     ·replace c62 := Bool.eq_false_iff.mpr c62
      subst c62
      have H1 : (none) = some r := by rw [if_neg (show ¬ (false = true) by decide)] at H; exact H
      clear H
      have H := H1
      clear H1
      exact absurd H (by simp)

end Go.Proofs.Ytgcnlhebfnaaoaa.QFnExactTurnPuzzle
