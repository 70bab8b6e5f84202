-- WRITTEN BY A PROGRAM OF THIS CLAIM'S AUTHOR (wprint.py)
import Derived.Test.YtgcnlhebfnaaoaaQFnExactSolutionsx0
import Derived.Test.YtgcnlhebfnaaoaaQFnExactSolutionsx2
import Derived.Test.YtgcnlhebfnaaoaaQFnExactSolutionsx3
import Derived.Test.YtgcnlhebfnaaoaaQFnExactSolutionsx8
import Derived.Test.YtgcnlhebfnaaoaaQFnExactSolutionsx10
import Derived.Test.YtgcnlhebfnaaoaaQFnExactSolutionsx11
namespace Go.Proofs.Ytgcnlhebfnaaoaa.QFnExactSolutions
open Go.RowKit Go.Proofs.YtgcnlhebfnaaoaaW.PrintWords Go.Proofs.YtgcnlhebfnaaoaaW.PrintLast Go.Proofs.YtgcnlhebfnaaoaaW.PrintMore
attribute [local go_sem] max2_int min2_int max_two min_two max_three min_three max_four min_four   -- for this text's walks alone
set_option linter.unusedVariables false
set_option linter.unusedSimpArgs false

/-! ### laws_FnExactSolutions: function 14 -/
mutual
def laws_FnExactSolutions.j0 : Nat → List (List Int) → Bool → List (List Int) → Bool → Bool → List (S131) → List Int → List (S25) → List Int → Option (Bool)
  | 0, _, _, _, _, _, _, _, _, _ => none
  | k + 1, x4, x5, x7, x8, x40, x252000, x252001, x270000, x270001 => if x40 = true then (none) else ((laws_toPuzzle.f k x252000 x252001).bind fun bt275 => ((laws_eqPuzzle.f k x270000 x270001 bt275.1 bt275.2).bind fun t281 => (if t281 = true then ((laws_markPuzzle.f k x270000 x270001 1).bind fun bt282 => (if bt282.1 < 0 then (laws_FnExactSolutions.j1 k x4 x5 x7 true x252000 x252001) else ((laws_eqIntSS.f k x7 x4).bind fun t285 => (if t285 = true then (laws_FnExactSolutions.j1 k x4 x5 x7 (x8 != x5) x252000 x252001) else (laws_FnExactSolutions.j1 k x4 x5 x7 true x252000 x252001))))) else (none))))
def laws_FnExactSolutions.j1 : Nat → List (List Int) → Bool → List (List Int) → Bool → List (S131) → List Int → Option (Bool)
  | 0, _, _, _, _, _, _ => none
  | k + 1, x4, x5, x7, x61, x252000, x252001 => if x61 = true then (none) else ((laws_markIntSS.f k x7 1).bind fun bt286 => ((laws_heldIntSS.f k bt286.2 1).bind fun t288 => (if t288 < 0 then (none) else (if t288 = bt286.1 then ((laws_toPuzzle.f k x252000 x252001).bind fun bt289 => ((impl_Solutions.f k bt289.1 bt289.2).bind fun bt295 => ((laws_eqIntSS.f k bt295.1 x4).bind fun t299 => (if t299 = true then (laws_FnExactSolutions.j2 k bt286.2 bt286.1 (bt295.2 != x5)) else (laws_FnExactSolutions.j2 k bt286.2 bt286.1 true))))) else (none)))))
def laws_FnExactSolutions.j2 : Nat → List (List Int) → Int → Bool → Option (Bool)
  | 0, _, _, _ => none
  | k + 1, x7, x10, x87 => if x87 = true then (none) else ((laws_heldIntSS.f k x7 1).bind fun t300 => (if t300 < 0 then (none) else (if t300 = x10 then (some true) else (none))))
end
def laws_FnExactSolutions.f (k : Nat) (l0_0 : List (S131)) (l0_1 : List Int) : Option (Bool) := (laws_szPuzzle.f l0_0 l0_1 1048576).bind fun t252 => (if t252 < 0 then (some true) else ((laws_toPuzzle.f k l0_0 l0_1).bind fun bt253 => ((spec_Solutions.f k bt253.1 bt253.2).bind fun bt259 => ((laws_toPuzzle.f k l0_0 l0_1).bind fun bt263 => ((impl_Solutions.f k bt263.1 bt263.2).bind fun bt270 => ((laws_eqIntSS.f k bt270.1 bt259.1).bind fun t274 => (if t274 = true then (laws_FnExactSolutions.j0 k bt259.1 bt259.2 bt270.1 bt270.2 (bt270.2 != bt259.2) l0_0 l0_1 bt263.1 bt263.2) else (laws_FnExactSolutions.j0 k bt259.1 bt259.2 bt270.1 bt270.2 true l0_0 l0_1 bt263.1 bt263.2))))))))
theorem laws_FnExactSolutions.mono_l : ∀ k, (∀ y0 y1 y2 y3 y4 y5 y6 y7 y8, LeO (laws_FnExactSolutions.j0 k y0 y1 y2 y3 y4 y5 y6 y7 y8) (laws_FnExactSolutions.j0 (k + 1) y0 y1 y2 y3 y4 y5 y6 y7 y8)) ∧ (∀ y0 y1 y2 y3 y4 y5, LeO (laws_FnExactSolutions.j1 k y0 y1 y2 y3 y4 y5) (laws_FnExactSolutions.j1 (k + 1) y0 y1 y2 y3 y4 y5)) ∧ (∀ y0 y1 y2, LeO (laws_FnExactSolutions.j2 k y0 y1 y2) (laws_FnExactSolutions.j2 (k + 1) y0 y1 y2))
  | 0 => ⟨fun _ _ _ _ _ _ _ _ _ r h => by simp [laws_FnExactSolutions.j0] at h, fun _ _ _ _ _ _ r h => by simp [laws_FnExactSolutions.j1] at h, fun _ _ _ r h => by simp [laws_FnExactSolutions.j2] at h⟩
  | k + 1 => by
    obtain ⟨ih0, ih1, ih2⟩ := laws_FnExactSolutions.mono_l k
    refine ⟨?_, ?_, ?_⟩
    · intro y0 y1 y2 y3 y4 y5 y6 y7 y8
      unfold laws_FnExactSolutions.j0
      repeat' first
      | (with_reducible exact ih0 _ _ _ _ _ _ _ _ _)
      | (with_reducible exact ih1 _ _ _ _ _ _)
      | (with_reducible exact ih2 _ _ _)
      | (with_reducible exact impl_Solutions.mono _ _ _)
      | (with_reducible exact laws_eqIntSS.mono _ _ _)
      | (with_reducible exact laws_eqPuzzle.mono _ _ _ _ _)
      | (with_reducible exact laws_heldIntSS.mono _ _ _)
      | (with_reducible exact laws_markIntSS.mono _ _ _)
      | (with_reducible exact laws_markPuzzle.mono _ _ _ _)
      | (with_reducible exact laws_toPuzzle.mono _ _ _)
      | (with_reducible exact spec_Solutions.mono _ _ _)
      | (with_reducible exact LeO.refl _)
      | (with_reducible exact LeO.none _)
      | (with_reducible refine LeO.ite ?_ ?_)
      | (with_reducible refine LeO.bind ?_ (fun _ => ?_))
      | exact ih0 _ _ _ _ _ _ _ _ _
      | exact ih1 _ _ _ _ _ _
      | exact ih2 _ _ _
      | exact impl_Solutions.mono _ _ _
      | exact laws_eqIntSS.mono _ _ _
      | exact laws_eqPuzzle.mono _ _ _ _ _
      | exact laws_heldIntSS.mono _ _ _
      | exact laws_markIntSS.mono _ _ _
      | exact laws_markPuzzle.mono _ _ _ _
      | exact laws_toPuzzle.mono _ _ _
      | exact spec_Solutions.mono _ _ _
      | exact LeO.none _
      | refine LeO.ite ?_ ?_
      | refine LeO.bind ?_ (fun _ => ?_)
    · intro y0 y1 y2 y3 y4 y5
      unfold laws_FnExactSolutions.j1
      repeat' first
      | (with_reducible exact ih0 _ _ _ _ _ _ _ _ _)
      | (with_reducible exact ih1 _ _ _ _ _ _)
      | (with_reducible exact ih2 _ _ _)
      | (with_reducible exact impl_Solutions.mono _ _ _)
      | (with_reducible exact laws_eqIntSS.mono _ _ _)
      | (with_reducible exact laws_eqPuzzle.mono _ _ _ _ _)
      | (with_reducible exact laws_heldIntSS.mono _ _ _)
      | (with_reducible exact laws_markIntSS.mono _ _ _)
      | (with_reducible exact laws_markPuzzle.mono _ _ _ _)
      | (with_reducible exact laws_toPuzzle.mono _ _ _)
      | (with_reducible exact spec_Solutions.mono _ _ _)
      | (with_reducible exact LeO.refl _)
      | (with_reducible exact LeO.none _)
      | (with_reducible refine LeO.ite ?_ ?_)
      | (with_reducible refine LeO.bind ?_ (fun _ => ?_))
      | exact ih0 _ _ _ _ _ _ _ _ _
      | exact ih1 _ _ _ _ _ _
      | exact ih2 _ _ _
      | exact impl_Solutions.mono _ _ _
      | exact laws_eqIntSS.mono _ _ _
      | exact laws_eqPuzzle.mono _ _ _ _ _
      | exact laws_heldIntSS.mono _ _ _
      | exact laws_markIntSS.mono _ _ _
      | exact laws_markPuzzle.mono _ _ _ _
      | exact laws_toPuzzle.mono _ _ _
      | exact spec_Solutions.mono _ _ _
      | exact LeO.none _
      | refine LeO.ite ?_ ?_
      | refine LeO.bind ?_ (fun _ => ?_)
    · intro y0 y1 y2
      unfold laws_FnExactSolutions.j2
      repeat' first
      | (with_reducible exact ih0 _ _ _ _ _ _ _ _ _)
      | (with_reducible exact ih1 _ _ _ _ _ _)
      | (with_reducible exact ih2 _ _ _)
      | (with_reducible exact impl_Solutions.mono _ _ _)
      | (with_reducible exact laws_eqIntSS.mono _ _ _)
      | (with_reducible exact laws_eqPuzzle.mono _ _ _ _ _)
      | (with_reducible exact laws_heldIntSS.mono _ _ _)
      | (with_reducible exact laws_markIntSS.mono _ _ _)
      | (with_reducible exact laws_markPuzzle.mono _ _ _ _)
      | (with_reducible exact laws_toPuzzle.mono _ _ _)
      | (with_reducible exact spec_Solutions.mono _ _ _)
      | (with_reducible exact LeO.refl _)
      | (with_reducible exact LeO.none _)
      | (with_reducible refine LeO.ite ?_ ?_)
      | (with_reducible refine LeO.bind ?_ (fun _ => ?_))
      | exact ih0 _ _ _ _ _ _ _ _ _
      | exact ih1 _ _ _ _ _ _
      | exact ih2 _ _ _
      | exact impl_Solutions.mono _ _ _
      | exact laws_eqIntSS.mono _ _ _
      | exact laws_eqPuzzle.mono _ _ _ _ _
      | exact laws_heldIntSS.mono _ _ _
      | exact laws_markIntSS.mono _ _ _
      | exact laws_markPuzzle.mono _ _ _ _
      | exact laws_toPuzzle.mono _ _ _
      | exact spec_Solutions.mono _ _ _
      | exact LeO.none _
      | refine LeO.ite ?_ ?_
      | refine LeO.bind ?_ (fun _ => ?_)
theorem laws_FnExactSolutions.mono : ∀ a0 a1 k, LeO (laws_FnExactSolutions.f k a0 a1) (laws_FnExactSolutions.f (k + 1) a0 a1) := by
  intro a0 a1 k
  obtain ⟨ih0, ih1, ih2⟩ := laws_FnExactSolutions.mono_l k
  unfold laws_FnExactSolutions.f
  repeat' first
      | (with_reducible exact ih0 _ _ _ _ _ _ _ _ _)
      | (with_reducible exact ih1 _ _ _ _ _ _)
      | (with_reducible exact ih2 _ _ _)
      | (with_reducible exact impl_Solutions.mono _ _ _)
      | (with_reducible exact laws_eqIntSS.mono _ _ _)
      | (with_reducible exact laws_eqPuzzle.mono _ _ _ _ _)
      | (with_reducible exact laws_heldIntSS.mono _ _ _)
      | (with_reducible exact laws_markIntSS.mono _ _ _)
      | (with_reducible exact laws_markPuzzle.mono _ _ _ _)
      | (with_reducible exact laws_toPuzzle.mono _ _ _)
      | (with_reducible exact spec_Solutions.mono _ _ _)
      | (with_reducible exact LeO.refl _)
      | (with_reducible exact LeO.none _)
      | (with_reducible refine LeO.ite ?_ ?_)
      | (with_reducible refine LeO.bind ?_ (fun _ => ?_))
      | exact ih0 _ _ _ _ _ _ _ _ _
      | exact ih1 _ _ _ _ _ _
      | exact ih2 _ _ _
      | exact impl_Solutions.mono _ _ _
      | exact laws_eqIntSS.mono _ _ _
      | exact laws_eqPuzzle.mono _ _ _ _ _
      | exact laws_heldIntSS.mono _ _ _
      | exact laws_markIntSS.mono _ _ _
      | exact laws_markPuzzle.mono _ _ _ _
      | exact laws_toPuzzle.mono _ _ _
      | exact spec_Solutions.mono _ _ _
      | exact LeO.none _
      | refine LeO.ite ?_ ?_
      | refine LeO.bind ?_ (fun _ => ?_)
theorem lev_any (A : Option Addr) (n c m c2 : Nat) : (Value.slice A n c).ownBlock = (Value.slice A m c2).ownBlock := by
  cases A <;> rfl
theorem lev_ {W w1 : World} (_hb : Below W.heap.size W w1) : ∃ L : Nat, L = W.heap.size := ⟨_, rfl⟩
theorem lev_own {α : Type} {d : Kd α} {e L : Nat} {W w1 : World} {ok : Nat → Prop} {v : Value} {xs : List α} (eL : L = W.heap.size) (h : Kd.S d e w1 W.heap.size ok v xs) : Kd.S d e w1 W.heap.size (fun k => L ≤ k) v xs := by
  obtain ⟨f, h⟩ := h
  exact ⟨f, Kd.R_mono (Kd.R_bound h) (fun k hk => by have := hk.2.1; omega)⟩
theorem lev_old {α : Type} {d : Kd α} {e b L : Nat} {W w1 : World} {ok : Nat → Prop} {v : Value} {xs : List α} (eL : L = W.heap.size) (h : Kd.S d e W b ok v xs) (hb : Below W.heap.size W w1) : Kd.S d e w1 b (fun k => ok k ∧ k < L) v xs := by
  obtain ⟨f, h⟩ := h
  exact Kd.S_below ⟨f, Kd.R_mono (Kd.R_bound h) (fun k hk => ⟨hk.1, by have := hk.2.2.1; omega⟩)⟩ hb
theorem lev_blk {g L : Nat} {o : Obj} {W : World} (eL : L = W.heap.size) (h : W.heap[g]? = some o) : g < L := by
  rw [eL]
  exact blk_lt h
theorem lev_row {α : Type} {d : Kd α} {e b L : Nat} {W : World} {ok : Nat → Prop} {v : Value} {xs : List α} (eL : L = W.heap.size) (h : Kd.R d e W b ok v xs) : ∀ k, some k = v.ownBlock → k < L := fun k hk => by
  rw [eL]
  exact Kd.R_lt h k hk.symm
set_option maxHeartbeats 8000000 in
set_option maxRecDepth 100000 in
theorem laws_FnExactSolutions.calls (k : Nat) (A0_0 : Option Addr) (c0_0 : Nat) (l0_0 : List (S131)) (A0_1 : Option Addr) (c0_1 : Nat) (l0_1 : List Int) (r : Bool) (w : World) (hr0_0 : Kd.C k131 w A0_0 l0_0.length l0_0) (hc0_0 : l0_0.length ≤ c0_0) (hr0_1 : Kd.C (Kd.int .i64) w A0_1 l0_1.length l0_1) (hc0_1 : l0_1.length ≤ c0_1) (h : laws_FnExactSolutions.f k l0_0 l0_1 = some r) :
    Calls Try.prog 14 #[.agg #[.slice A0_0 l0_0.length c0_0, .slice A0_1 l0_1.length c0_1]] w fun e w' => e = .returned (.bool r) ∧ Below w.heap.size w w' := by
  have hu51 := Try.underlying51
  have hu54 := Try.underlying54
  have HR0_0 := Aside0.mk hr0_0
  have HC0_0 := Aside0.mk hc0_0
  clear hr0_0 hc0_0
  have HR0_1 := Aside0.mk hr0_1
  have HC0_1 := Aside0.mk hc0_1
  clear hr0_1 hc0_1
  have HB := Aside0.mk (Below.refl w.heap.size w)
  have H : ((laws_szPuzzle.f l0_0 l0_1 1048576).bind fun t252 => (if t252 < 0 then (some true) else ((laws_toPuzzle.f k l0_0 l0_1).bind fun bt253 => ((spec_Solutions.f k bt253.1 bt253.2).bind fun bt259 => ((laws_toPuzzle.f k l0_0 l0_1).bind fun bt263 => ((impl_Solutions.f k bt263.1 bt263.2).bind fun bt270 => ((laws_eqIntSS.f k bt270.1 bt259.1).bind fun t274 => (if t274 = true then (laws_FnExactSolutions.j0 k bt259.1 bt259.2 bt270.1 bt270.2 (bt270.2 != bt259.2) l0_0 l0_1 bt263.1 bt263.2) else (laws_FnExactSolutions.j0 k bt259.1 bt259.2 bt270.1 bt270.2 true l0_0 l0_1 bt263.1 bt263.2))))))))) = some r := h
  clear h
  replace H := Option.bind_eq_some_iff.mp H
  obtain ⟨t252, A20, H⟩ := H
  replace H : (if t252 < 0 then (some true) else ((laws_toPuzzle.f k l0_0 l0_1).bind fun bt253 => ((spec_Solutions.f k bt253.1 bt253.2).bind fun bt259 => ((laws_toPuzzle.f k l0_0 l0_1).bind fun bt263 => ((impl_Solutions.f k bt263.1 bt263.2).bind fun bt270 => ((laws_eqIntSS.f k bt270.1 bt259.1).bind fun t274 => (if t274 = true then (laws_FnExactSolutions.j0 k bt259.1 bt259.2 bt270.1 bt270.2 (bt270.2 != bt259.2) l0_0 l0_1 bt263.1 bt263.2) else (laws_FnExactSolutions.j0 k bt259.1 bt259.2 bt270.1 bt270.2 true l0_0 l0_1 bt263.1 bt263.2)))))))) = some r := H
  have A2 := Aside0.mk A20
  clear A20
  by_cases c3 : t252 < 0
  · rw [if_pos c3] at H
    have c3b0 : decide (t252 < 0) = true := decide_eq_true c3
    clear c3
    obtain rfl := Option.some.inj H
    go_enter Try.func14, Try.ntmps14
    go_wp2_with (first | ((with_reducible refine gate_dst (N := 1) rfl ?_); refine box_event ?hg (N := 1) ?hd (cs := #[.slice A0_0 l0_0.length c0_0, .slice A0_1 l0_1.length c0_1]) (t := 51) ?hr ?_; (case hd => rfl); (case hg => rfl); (case hr => first | (go_simp; done) | (go_simp; rfl)); intro gb251 hg w4 hbox hb; have BK251 := Aside0.mk (hbox); have GW251 := Aside0.mk ((by rw [hg]; exact (below_size (by repeat (first | (with_reducible first | exact HB.out | apply below_alloc | apply pw_below_drewN | apply below_drew1) | exact HB.out))) : w.heap.size ≤ gb251)); have GE251 := Aside0.mk ((by rw [hg]; exact (below_size (by repeat (first | (with_reducible first | exact HB.out | apply below_alloc | apply pw_below_drewN | apply below_drew1) | exact HB.out))) : w.heap.size ≤ gb251)); replace HB := Aside0.mk (below_step (by repeat (first | (with_reducible first | exact HB.out | apply below_alloc | apply pw_below_drewN | apply below_drew1) | exact HB.out)) hb); clear hb hbox hg; have hcz5_0 : w4.cell? ⟨gb251, 0, none⟩ = some (.slice A0_0 l0_0.length c0_0) := (blk_cell BK251.out 0).trans rfl; have hcz5_1 : w4.cell? ⟨gb251, 1, none⟩ = some (.slice A0_1 l0_1.length c0_1) := (blk_cell BK251.out 1).trans rfl; have hfz5_0 := blk_frozen BK251.out 0; have hfz5_1 := blk_frozen BK251.out 1) | ((with_reducible refine gate_callee (f := 37) rfl ?_); refine goesL_ (some 16) rfl rfl Try.func37 (by kernel_rfl) rfl #[.agg #[.slice A0_0 l0_0.length c0_0, .slice A0_1 l0_1.length c0_1], .int .i64 1048576] rfl (by (try simp only [List.map_toArray, List.map_cons, List.map_nil]); first | done | rfl | (simp only [List.length_drop, List.length_take]; rfl)) ?_; (with_reducible refine (laws_szPuzzle.calls _ _ l0_0 _ _ l0_1 1048576 t252 _ ?side1 ?side2 ?side3 ?side4 A2.out).mono ?_); (case side1 => repeat (first | exact (Kd.C_below HR0_0.out HB.out) | (with_reducible refine Kd.C_alloc ?_ _) | (with_reducible refine Kd.C_drewN ?_ _) | (with_reducible refine Kd.C_drew ?_))); (case side2 => exact HC0_0.out); (case side3 => repeat (first | exact (Kd.C_below HR0_1.out HB.out) | (with_reducible refine Kd.C_alloc ?_ _) | (with_reducible refine Kd.C_drewN ?_ _) | (with_reducible refine Kd.C_drew ?_))); (case side4 => exact HC0_1.out); rintro e w6 ⟨rfl, hb⟩; refine ⟨_, rfl, ?_⟩; replace BK251 := Aside0.mk (blk_below (g := gb251) (o := .cells #[.slice A0_0 l0_0.length c0_0, .slice A0_1 l0_1.length c0_1] 51 (0, 0)) (by (with_reducible repeat (first | refine blk_drewN ?_ _ | refine blk_drew ?_ | refine blk_alloc ?_ _)); exact BK251.out) hb); replace HB := Aside0.mk (below_step (by repeat (first | (with_reducible first | exact HB.out | apply below_alloc | apply pw_below_drewN | apply below_drew1 | refine below_set ?_ GE251.out) | exact HB.out)) hb); (try clear hb); (try clear hb2); (try clear hk); (try clear hi)))
    go_ret
    exact ⟨by first | rfl | (simp [errW_none, errW_some] <;> rfl) | (simp [*, errW_none, errW_some] <;> rfl), by repeat (first | (with_reducible first | exact HB.out | apply below_alloc | apply pw_below_drewN | apply below_drew1 | refine below_set ?_ GE251.out) | exact HB.out)⟩
  · rw [if_neg c3] at H
    have c3b0 : decide (t252 < 0) = false := decide_eq_false c3
    clear c3
    replace H := Option.bind_eq_some_iff.mp H
    obtain ⟨⟨t253, t256⟩, A70, H⟩ := H
    replace H : ((spec_Solutions.f k t253 t256).bind fun bt259 => ((laws_toPuzzle.f k l0_0 l0_1).bind fun bt263 => ((impl_Solutions.f k bt263.1 bt263.2).bind fun bt270 => ((laws_eqIntSS.f k bt270.1 bt259.1).bind fun t274 => (if t274 = true then (laws_FnExactSolutions.j0 k bt259.1 bt259.2 bt270.1 bt270.2 (bt270.2 != bt259.2) l0_0 l0_1 bt263.1 bt263.2) else (laws_FnExactSolutions.j0 k bt259.1 bt259.2 bt270.1 bt270.2 true l0_0 l0_1 bt263.1 bt263.2)))))) = some r := H
    have A7 := Aside0.mk A70
    clear A70
    replace H := Option.bind_eq_some_iff.mp H
    obtain ⟨⟨t259, t262⟩, A80, H⟩ := H
    replace H : ((laws_toPuzzle.f k l0_0 l0_1).bind fun bt263 => ((impl_Solutions.f k bt263.1 bt263.2).bind fun bt270 => ((laws_eqIntSS.f k bt270.1 t259).bind fun t274 => (if t274 = true then (laws_FnExactSolutions.j0 k t259 t262 bt270.1 bt270.2 (bt270.2 != t262) l0_0 l0_1 bt263.1 bt263.2) else (laws_FnExactSolutions.j0 k t259 t262 bt270.1 bt270.2 true l0_0 l0_1 bt263.1 bt263.2))))) = some r := H
    have A8 := Aside0.mk A80
    clear A80
    replace H := Option.bind_eq_some_iff.mp H
    obtain ⟨⟨t263, t266⟩, A90, H⟩ := H
    replace H : ((impl_Solutions.f k t263 t266).bind fun bt270 => ((laws_eqIntSS.f k bt270.1 t259).bind fun t274 => (if t274 = true then (laws_FnExactSolutions.j0 k t259 t262 bt270.1 bt270.2 (bt270.2 != t262) l0_0 l0_1 t263 t266) else (laws_FnExactSolutions.j0 k t259 t262 bt270.1 bt270.2 true l0_0 l0_1 t263 t266)))) = some r := H
    have A9 := Aside0.mk A90
    clear A90
    replace H := Option.bind_eq_some_iff.mp H
    obtain ⟨⟨t270, t273⟩, A100, H⟩ := H
    replace H : ((laws_eqIntSS.f k t270 t259).bind fun t274 => (if t274 = true then (laws_FnExactSolutions.j0 k t259 t262 t270 t273 (t273 != t262) l0_0 l0_1 t263 t266) else (laws_FnExactSolutions.j0 k t259 t262 t270 t273 true l0_0 l0_1 t263 t266))) = some r := H
    have A10 := Aside0.mk A100
    clear A100
    have HC11 := Aside0.mk H
    clear H
    go_enter Try.func14, Try.ntmps14
    go_upto_region 8 with (first | ((with_reducible refine gate_dst (N := 1) rfl ?_); refine box_event ?hg (N := 1) ?hd (cs := #[.slice A0_0 l0_0.length c0_0, .slice A0_1 l0_1.length c0_1]) (t := 51) ?hr ?_; (case hd => rfl); (case hg => rfl); (case hr => first | (go_simp; done) | (go_simp; rfl)); intro gb251 hg w12 hbox hb; have BK251 := Aside0.mk (hbox); have GW251 := Aside0.mk ((by rw [hg]; exact (below_size (by repeat (first | (with_reducible first | exact HB.out | apply below_alloc | apply pw_below_drewN | apply below_drew1) | exact HB.out))) : w.heap.size ≤ gb251)); have GE251 := Aside0.mk ((by rw [hg]; exact (below_size (by repeat (first | (with_reducible first | exact HB.out | apply below_alloc | apply pw_below_drewN | apply below_drew1) | exact HB.out))) : w.heap.size ≤ gb251)); replace HB := Aside0.mk (below_step (by repeat (first | (with_reducible first | exact HB.out | apply below_alloc | apply pw_below_drewN | apply below_drew1) | exact HB.out)) hb); clear hb hbox hg; have hcz13_0 : w12.cell? ⟨gb251, 0, none⟩ = some (.slice A0_0 l0_0.length c0_0) := (blk_cell BK251.out 0).trans rfl; have hcz13_1 : w12.cell? ⟨gb251, 1, none⟩ = some (.slice A0_1 l0_1.length c0_1) := (blk_cell BK251.out 1).trans rfl; have hfz13_0 := blk_frozen BK251.out 0; have hfz13_1 := blk_frozen BK251.out 1) | ((with_reducible refine gate_callee (f := 37) rfl ?_); refine goesL_ (some 16) rfl rfl Try.func37 (by kernel_rfl) rfl #[.agg #[.slice A0_0 l0_0.length c0_0, .slice A0_1 l0_1.length c0_1], .int .i64 1048576] rfl (by (try simp only [List.map_toArray, List.map_cons, List.map_nil]); first | done | rfl | (simp only [List.length_drop, List.length_take]; rfl)) ?_; (with_reducible refine (laws_szPuzzle.calls _ _ l0_0 _ _ l0_1 1048576 t252 _ ?side1 ?side2 ?side3 ?side4 A2.out).mono ?_); (case side1 => repeat (first | exact (Kd.C_below HR0_0.out HB.out) | (with_reducible refine Kd.C_alloc ?_ _) | (with_reducible refine Kd.C_drewN ?_ _) | (with_reducible refine Kd.C_drew ?_))); (case side2 => exact HC0_0.out); (case side3 => repeat (first | exact (Kd.C_below HR0_1.out HB.out) | (with_reducible refine Kd.C_alloc ?_ _) | (with_reducible refine Kd.C_drewN ?_ _) | (with_reducible refine Kd.C_drew ?_))); (case side4 => exact HC0_1.out); rintro e w14 ⟨rfl, hb⟩; refine ⟨_, rfl, ?_⟩; replace BK251 := Aside0.mk (blk_below (g := gb251) (o := .cells #[.slice A0_0 l0_0.length c0_0, .slice A0_1 l0_1.length c0_1] 51 (0, 0)) (by (with_reducible repeat (first | refine blk_drewN ?_ _ | refine blk_drew ?_ | refine blk_alloc ?_ _)); exact BK251.out) hb); replace HB := Aside0.mk (below_step (by repeat (first | (with_reducible first | exact HB.out | apply below_alloc | apply pw_below_drewN | apply below_drew1 | refine below_set ?_ GE251.out) | exact HB.out)) hb); (try clear hb); (try clear hb2); (try clear hk); (try clear hi); have hcz15_0 : w14.cell? ⟨gb251, 0, none⟩ = some (.slice A0_0 l0_0.length c0_0) := (blk_cell BK251.out 0).trans rfl; have hcz15_1 : w14.cell? ⟨gb251, 1, none⟩ = some (.slice A0_1 l0_1.length c0_1) := (blk_cell BK251.out 1).trans rfl; have hfz15_0 := blk_frozen BK251.out 0; have hfz15_1 := blk_frozen BK251.out 1) | ((with_reducible refine gate_callee (f := 39) rfl ?_); refine goesL_ (some 21) rfl rfl Try.func39 (by kernel_rfl) rfl #[.agg #[.slice A0_0 l0_0.length c0_0, .slice A0_1 l0_1.length c0_1]] rfl (by (try simp only [List.map_toArray, List.map_cons, List.map_nil]); first | done | rfl | (simp only [List.length_drop, List.length_take]; rfl)) ?_; (with_reducible refine (laws_toPuzzle.calls k _ _ l0_0 _ _ l0_1 t253 t256 _ ?side1 ?side2 ?side3 ?side4 A7.out).mono ?_); (case side1 => repeat (first | exact (Kd.C_below HR0_0.out HB.out) | (with_reducible refine Kd.C_alloc ?_ _) | (with_reducible refine Kd.C_drewN ?_ _) | (with_reducible refine Kd.C_drew ?_))); (case side2 => exact HC0_0.out); (case side3 => repeat (first | exact (Kd.C_below HR0_1.out HB.out) | (with_reducible refine Kd.C_alloc ?_ _) | (with_reducible refine Kd.C_drewN ?_ _) | (with_reducible refine Kd.C_drew ?_))); (case side4 => exact HC0_1.out); rintro e w16 ⟨v254, v257, rfl, ho0, ho1, hb⟩; refine ⟨_, rfl, ?_⟩; have HO255 := Aside0.mk (Kd.R_lower ho0 (below_size (by repeat (first | (with_reducible first | exact HB.out | apply below_alloc | apply pw_below_drewN | apply below_drew1 | refine below_set ?_ GE251.out) | exact HB.out)))); have HO258 := Aside0.mk (Kd.R_lower ho1 (below_size (by repeat (first | (with_reducible first | exact HB.out | apply below_alloc | apply pw_below_drewN | apply below_drew1 | refine below_set ?_ GE251.out) | exact HB.out)))); replace BK251 := Aside0.mk (blk_below (g := gb251) (o := .cells #[.slice A0_0 l0_0.length c0_0, .slice A0_1 l0_1.length c0_1] 51 (0, 0)) (by (with_reducible repeat (first | refine blk_drewN ?_ _ | refine blk_drew ?_ | refine blk_alloc ?_ _)); exact BK251.out) hb); replace HB := Aside0.mk (below_step (by repeat (first | (with_reducible first | exact HB.out | apply below_alloc | apply pw_below_drewN | apply below_drew1 | refine below_set ?_ GE251.out) | exact HB.out)) hb); (try clear hb); (try clear hb2); (try clear hk); (try clear hi); (try clear ho0); (try clear ho1); obtain ⟨Ao17, co17, eo17⟩ := Kd.R_slice HO255.out; subst eo17; obtain ⟨Ao18, co18, eo18⟩ := Kd.R_slice HO258.out; subst eo18) | ((with_reducible refine gate_callee (f := 83) rfl ?_); refine goesL_ (some 22) rfl rfl Try.func83 (by kernel_rfl) rfl #[.agg #[.slice Ao17 t253.length co17, .slice Ao18 t256.length co18]] rfl (by (try simp only [List.map_toArray, List.map_cons, List.map_nil]); first | done | rfl | (simp only [List.length_drop, List.length_take]; rfl)) ?_; (with_reducible refine (spec_Solutions.calls k _ _ t253 _ _ t256 t259 t262 _ ?side1 ?side2 ?side3 ?side4 A8.out).mono ?_); (case side1 => repeat (first | exact (Kd.R_reads' HO255.out).2.2 | (with_reducible refine Kd.C_alloc ?_ _) | (with_reducible refine Kd.C_drewN ?_ _) | (with_reducible refine Kd.C_drew ?_))); (case side2 => exact (Kd.R_reads' HO255.out).2.1); (case side3 => repeat (first | exact (Kd.R_reads' HO258.out).2.2 | (with_reducible refine Kd.C_alloc ?_ _) | (with_reducible refine Kd.C_drewN ?_ _) | (with_reducible refine Kd.C_drew ?_))); (case side4 => exact (Kd.R_reads' HO258.out).2.1); rintro e w19 ⟨v260, rfl, ho0, hb⟩; refine ⟨_, rfl, ?_⟩; replace HO255 := Aside0.mk (Kd.R_below (by (with_reducible repeat (first | apply Kd.R_alloc | apply Kd.R_drewN | apply Kd.R_drew)); exact HO255.out) hb); have HO261 := Aside0.mk (Kd.S_lower (Kd.S_new' ho0 (Kd.R_lt (by (with_reducible repeat (first | apply Kd.R_alloc | apply Kd.R_drewN | apply Kd.R_drew)); exact HO258.out))) (below_size (by repeat (first | (with_reducible first | exact HB.out | apply below_alloc | apply pw_below_drewN | apply below_drew1 | refine below_set ?_ GE251.out) | exact HB.out)))); replace HO258 := Aside0.mk (Kd.R_below (by (with_reducible repeat (first | apply Kd.R_alloc | apply Kd.R_drewN | apply Kd.R_drew)); exact HO258.out) hb); replace BK251 := Aside0.mk (blk_below (g := gb251) (o := .cells #[.slice A0_0 l0_0.length c0_0, .slice A0_1 l0_1.length c0_1] 51 (0, 0)) (by (with_reducible repeat (first | refine blk_drewN ?_ _ | refine blk_drew ?_ | refine blk_alloc ?_ _)); exact BK251.out) hb); replace HB := Aside0.mk (below_step (by repeat (first | (with_reducible first | exact HB.out | apply below_alloc | apply pw_below_drewN | apply below_drew1 | refine below_set ?_ GE251.out) | exact HB.out)) hb); (try clear hb); (try clear hb2); (try clear hk); (try clear hi); (try clear ho0); have hcz20_0 : w19.cell? ⟨gb251, 0, none⟩ = some (.slice A0_0 l0_0.length c0_0) := (blk_cell BK251.out 0).trans rfl; have hcz20_1 : w19.cell? ⟨gb251, 1, none⟩ = some (.slice A0_1 l0_1.length c0_1) := (blk_cell BK251.out 1).trans rfl; have hfz20_0 := blk_frozen BK251.out 0; have hfz20_1 := blk_frozen BK251.out 1) | ((with_reducible refine gate_callee (f := 39) rfl ?_); refine goesL_ (some 26) rfl rfl Try.func39 (by kernel_rfl) rfl #[.agg #[.slice A0_0 l0_0.length c0_0, .slice A0_1 l0_1.length c0_1]] rfl (by (try simp only [List.map_toArray, List.map_cons, List.map_nil]); first | done | rfl | (simp only [List.length_drop, List.length_take]; rfl)) ?_; (with_reducible refine (laws_toPuzzle.calls k _ _ l0_0 _ _ l0_1 t263 t266 _ ?side1 ?side2 ?side3 ?side4 A9.out).mono ?_); (case side1 => repeat (first | exact (Kd.C_below HR0_0.out HB.out) | (with_reducible refine Kd.C_alloc ?_ _) | (with_reducible refine Kd.C_drewN ?_ _) | (with_reducible refine Kd.C_drew ?_))); (case side2 => exact HC0_0.out); (case side3 => repeat (first | exact (Kd.C_below HR0_1.out HB.out) | (with_reducible refine Kd.C_alloc ?_ _) | (with_reducible refine Kd.C_drewN ?_ _) | (with_reducible refine Kd.C_drew ?_))); (case side4 => exact HC0_1.out); rintro e w21 ⟨v264, v267, rfl, ho0, ho1, hb⟩; refine ⟨_, rfl, ?_⟩; replace HO261 := Aside0.mk (Kd.S_elder' (by (with_reducible repeat (first | apply Kd.S_alloc | apply Kd.S_drewN | apply Kd.S_drew)); exact HO261.out) (Kd.R_base ho1) hb); have HO265 := Aside0.mk (Kd.R_lower (Kd.R_new' ho0 (Kd.R_lt (by (with_reducible repeat (first | apply Kd.R_alloc | apply Kd.R_drewN | apply Kd.R_drew)); exact HO255.out))) (below_size (by repeat (first | (with_reducible first | exact HB.out | apply below_alloc | apply pw_below_drewN | apply below_drew1 | refine below_set ?_ GE251.out) | exact HB.out)))); replace HO255 := Aside0.mk (Kd.R_elder' (by (with_reducible repeat (first | apply Kd.R_alloc | apply Kd.R_drewN | apply Kd.R_drew)); exact HO255.out) (Kd.R_base ho0) hb); have HO268 := Aside0.mk (Kd.R_lower (Kd.R_new' ho1 (Kd.R_lt (by (with_reducible repeat (first | apply Kd.R_alloc | apply Kd.R_drewN | apply Kd.R_drew)); exact HO258.out))) (below_size (by repeat (first | (with_reducible first | exact HB.out | apply below_alloc | apply pw_below_drewN | apply below_drew1 | refine below_set ?_ GE251.out) | exact HB.out)))); replace HO258 := Aside0.mk (Kd.R_elder' (by (with_reducible repeat (first | apply Kd.R_alloc | apply Kd.R_drewN | apply Kd.R_drew)); exact HO258.out) (Kd.R_base ho1) hb); replace BK251 := Aside0.mk (blk_below (g := gb251) (o := .cells #[.slice A0_0 l0_0.length c0_0, .slice A0_1 l0_1.length c0_1] 51 (0, 0)) (by (with_reducible repeat (first | refine blk_drewN ?_ _ | refine blk_drew ?_ | refine blk_alloc ?_ _)); exact BK251.out) hb); replace HB := Aside0.mk (below_step (by repeat (first | (with_reducible first | exact HB.out | apply below_alloc | apply pw_below_drewN | apply below_drew1 | refine below_set ?_ GE251.out) | exact HB.out)) hb); (try clear hb); (try clear hb2); (try clear hk); (try clear hi); (try clear ho0); (try clear ho1)) | ((with_reducible refine gate_dst (N := 6) rfl ?_); refine box_event ?hg (N := 6) ?hd (cs := #[.slice none 0 0, .slice none 0 0]) (t := 54) ?hr ?_; (case hd => rfl); (case hg => rfl); (case hr => first | (go_simp; done) | (go_simp; rfl)); intro gb269 hg w22 hbox hb; replace HO255 := Aside0.mk (Kd.R_below (by (with_reducible repeat (first | apply Kd.R_alloc | apply Kd.R_drewN | apply Kd.R_drew)); exact HO255.out) hb); replace HO258 := Aside0.mk (Kd.R_below (by (with_reducible repeat (first | apply Kd.R_alloc | apply Kd.R_drewN | apply Kd.R_drew)); exact HO258.out) hb); replace HO261 := Aside0.mk (Kd.S_below (by (with_reducible repeat (first | apply Kd.S_alloc | apply Kd.S_drewN | apply Kd.S_drew)); exact HO261.out) hb); replace HO265 := Aside0.mk (Kd.R_below (by (with_reducible repeat (first | apply Kd.R_alloc | apply Kd.R_drewN | apply Kd.R_drew)); exact HO265.out) hb); replace HO268 := Aside0.mk (Kd.R_below (by (with_reducible repeat (first | apply Kd.R_alloc | apply Kd.R_drewN | apply Kd.R_drew)); exact HO268.out) hb); have BK269 := Aside0.mk (hbox); have GW269 := Aside0.mk ((by rw [hg]; exact (below_size (by repeat (first | (with_reducible first | exact HB.out | apply below_alloc | apply pw_below_drewN | apply below_drew1 | refine below_set ?_ GE251.out) | exact HB.out))) : w.heap.size ≤ gb269)); have GE269 := Aside0.mk ((by rw [hg]; exact (below_size (by repeat (first | (with_reducible first | exact HB.out | apply below_alloc | apply pw_below_drewN | apply below_drew1 | refine below_set ?_ GE251.out) | exact HB.out))) : w.heap.size ≤ gb269)); replace HB := Aside0.mk (below_step (by repeat (first | (with_reducible first | exact HB.out | apply below_alloc | apply pw_below_drewN | apply below_drew1 | refine below_set ?_ GE251.out) | exact HB.out)) hb); have NB251_269 := Aside0.mk ((by rw [hg]; exact Nat.ne_of_lt (blk_lt (g := gb251) (o := .cells #[.slice A0_0 l0_0.length c0_0, .slice A0_1 l0_1.length c0_1] 51 (0, 0)) (by (with_reducible repeat (first | refine blk_drewN ?_ _ | refine blk_drew ?_ | refine blk_alloc ?_ _)); exact BK251.out)) : gb251 ≠ gb269)); have NB269_251 := Aside0.mk ((by rw [hg]; exact Nat.ne_of_gt (blk_lt (g := gb251) (o := .cells #[.slice A0_0 l0_0.length c0_0, .slice A0_1 l0_1.length c0_1] 51 (0, 0)) (by (with_reducible repeat (first | refine blk_drewN ?_ _ | refine blk_drew ?_ | refine blk_alloc ?_ _)); exact BK251.out)) : gb269 ≠ gb251)); replace BK251 := Aside0.mk (blk_below (g := gb251) (o := .cells #[.slice A0_0 l0_0.length c0_0, .slice A0_1 l0_1.length c0_1] 51 (0, 0)) (by (with_reducible repeat (first | refine blk_drewN ?_ _ | refine blk_drew ?_ | refine blk_alloc ?_ _)); exact BK251.out) hb); clear hb hbox hg; obtain ⟨Ao23, co23, eo23⟩ := Kd.R_slice HO265.out; subst eo23; have hnb24 := NB269_251.out; have hnc24 := NB251_269.out; have hcz25_0 : w22.cell? ⟨gb269, 0, none⟩ = some (.slice none 0 0) := (blk_cell BK269.out 0).trans rfl; have hcz25_1 : w22.cell? ⟨gb269, 1, none⟩ = some (.slice none 0 0) := (blk_cell BK269.out 1).trans rfl; have hfz25_0 := blk_frozen BK269.out 0; have hfz25_1 := blk_frozen BK269.out 1; obtain ⟨Ao26, co26, eo26⟩ := Kd.R_slice HO268.out; subst eo26) | ((with_reducible refine gate_callee (f := 84) rfl ?_); refine goesL_ (some 29) rfl rfl Try.func84 (by kernel_rfl) rfl #[.agg #[.slice Ao23 t263.length co23, .slice Ao26 t266.length co26]] rfl (by (try simp only [List.map_toArray, List.map_cons, List.map_nil]); first | done | rfl | (simp only [List.length_drop, List.length_take]; rfl)) ?_; (with_reducible refine (impl_Solutions.calls k _ _ t263 _ _ t266 t270 t273 _ ?side1 ?side2 ?side3 ?side4 A10.out).mono ?_); (case side1 => refine (Kd.R_reads' (e := 25) (base := w.heap.size) (ok := fun k_ => (True ∧ some k_ ≠ (.slice Ao17 t253.length co17 : Value).ownBlock)) (n := t263.length) (c := co23) ?_).2.2; exact (by (with_reducible repeat (first | apply Kd.R_alloc | apply Kd.R_drewN | apply Kd.R_drew)); exact (Kd.R_mono (Kd.R_far (p := ⟨gb269, 1, none⟩) (Kd.R_far (p := ⟨gb269, 0, none⟩) (Kd.R_types HO265.out BK269.out (by decide)) (fun _ hk => hk.2) (.slice Ao23 t263.length co23)) (fun _ hk => hk.2) (.slice Ao26 t266.length co26)) (fun _ h_ => h_.1)))); (case side2 => exact (Kd.R_reads' HO265.out).2.1); (case side3 => refine (Kd.R_reads' (e := 3) (base := w.heap.size) (ok := fun k_ => (True ∧ some k_ ≠ (.slice Ao18 t256.length co18 : Value).ownBlock)) (n := t266.length) (c := co26) ?_).2.2; exact (by (with_reducible repeat (first | apply Kd.R_alloc | apply Kd.R_drewN | apply Kd.R_drew)); exact (Kd.R_mono (Kd.R_far (p := ⟨gb269, 1, none⟩) (Kd.R_far (p := ⟨gb269, 0, none⟩) (Kd.R_types HO268.out BK269.out (by decide)) (fun _ hk => hk.2) (.slice Ao23 t263.length co23)) (fun _ hk => hk.2) (.slice Ao26 t266.length co26)) (fun _ h_ => h_.1)))); (case side4 => exact (Kd.R_reads' HO268.out).2.1); rintro e w27 ⟨v271, rfl, ho0, hb⟩; refine ⟨_, rfl, ?_⟩; obtain ⟨L_, eL_⟩ := lev_ hb; have HLb251_ := lev_blk (g := gb251) (o := .cells #[.slice A0_0 l0_0.length c0_0, .slice A0_1 l0_1.length c0_1] 51 (0, 0)) eL_ (by (with_reducible repeat (first | refine blk_drewN ?_ _ | refine blk_drew ?_ | refine blk_alloc ?_ _)); refine blk_far ?_ NB251_269.out _; (with_reducible repeat (first | refine blk_drewN ?_ _ | refine blk_drew ?_ | refine blk_alloc ?_ _)); refine blk_far ?_ NB251_269.out _; (with_reducible repeat (first | refine blk_drewN ?_ _ | refine blk_drew ?_ | refine blk_alloc ?_ _)); exact BK251.out); have HLb269_ := lev_blk (g := gb269) (o := .cells #[.slice Ao23 t263.length co23, .slice Ao26 t266.length co26] 54 (0, 0)) eL_ (by (with_reducible repeat (first | refine blk_drewN ?_ _ | refine blk_drew ?_ | refine blk_alloc ?_ _)); refine blk_put (cs := #[.slice Ao23 t263.length co23, .slice none 0 0]) ?_ 1 _ rfl; (with_reducible repeat (first | refine blk_drewN ?_ _ | refine blk_drew ?_ | refine blk_alloc ?_ _)); refine blk_put (cs := #[.slice none 0 0, .slice none 0 0]) ?_ 0 _ rfl; (with_reducible repeat (first | refine blk_drewN ?_ _ | refine blk_drew ?_ | refine blk_alloc ?_ _)); exact BK269.out); have HLrHO255_ := lev_row eL_ (by (with_reducible repeat (first | apply Kd.R_alloc | apply Kd.R_drewN | apply Kd.R_drew)); exact (Kd.R_mono (Kd.R_far (p := ⟨gb269, 1, none⟩) (Kd.R_far (p := ⟨gb269, 0, none⟩) (Kd.R_types HO255.out BK269.out (by decide)) (fun _ hk => hk.2) (.slice Ao23 t263.length co23)) (fun _ hk => hk.2) (.slice Ao26 t266.length co26)) (fun _ h_ => h_.1))); have HLrHO265_ := lev_row eL_ (by (with_reducible repeat (first | apply Kd.R_alloc | apply Kd.R_drewN | apply Kd.R_drew)); exact (Kd.R_mono (Kd.R_far (p := ⟨gb269, 1, none⟩) (Kd.R_far (p := ⟨gb269, 0, none⟩) (Kd.R_types HO265.out BK269.out (by decide)) (fun _ hk => hk.2) (.slice Ao23 t263.length co23)) (fun _ hk => hk.2) (.slice Ao26 t266.length co26)) (fun _ h_ => h_.1))); have HLrHO258_ := lev_row eL_ (by (with_reducible repeat (first | apply Kd.R_alloc | apply Kd.R_drewN | apply Kd.R_drew)); exact (Kd.R_mono (Kd.R_far (p := ⟨gb269, 1, none⟩) (Kd.R_far (p := ⟨gb269, 0, none⟩) (Kd.R_types HO258.out BK269.out (by decide)) (fun _ hk => hk.2) (.slice Ao23 t263.length co23)) (fun _ hk => hk.2) (.slice Ao26 t266.length co26)) (fun _ h_ => h_.1))); have HLrHO268_ := lev_row eL_ (by (with_reducible repeat (first | apply Kd.R_alloc | apply Kd.R_drewN | apply Kd.R_drew)); exact (Kd.R_mono (Kd.R_far (p := ⟨gb269, 1, none⟩) (Kd.R_far (p := ⟨gb269, 0, none⟩) (Kd.R_types HO268.out BK269.out (by decide)) (fun _ hk => hk.2) (.slice Ao23 t263.length co23)) (fun _ hk => hk.2) (.slice Ao26 t266.length co26)) (fun _ h_ => h_.1))); replace ho0 := lev_own eL_ ho0; replace HO255 := Aside0.mk (Kd.R_below (by (with_reducible repeat (first | apply Kd.R_alloc | apply Kd.R_drewN | apply Kd.R_drew)); exact (Kd.R_mono (Kd.R_far (p := ⟨gb269, 1, none⟩) (Kd.R_far (p := ⟨gb269, 0, none⟩) (Kd.R_types HO255.out BK269.out (by decide)) (fun _ hk => hk.2) (.slice Ao23 t263.length co23)) (fun _ hk => hk.2) (.slice Ao26 t266.length co26)) (fun _ h_ => h_.1))) hb); replace HO265 := Aside0.mk (Kd.R_below (by (with_reducible repeat (first | apply Kd.R_alloc | apply Kd.R_drewN | apply Kd.R_drew)); exact (Kd.R_mono (Kd.R_far (p := ⟨gb269, 1, none⟩) (Kd.R_far (p := ⟨gb269, 0, none⟩) (Kd.R_types HO265.out BK269.out (by decide)) (fun _ hk => hk.2) (.slice Ao23 t263.length co23)) (fun _ hk => hk.2) (.slice Ao26 t266.length co26)) (fun _ h_ => h_.1))) hb); have HO272 := Aside0.mk (Kd.S_lower (Kd.S_new' (Kd.S_new' (Kd.S_new' ho0 (Kd.R_lt (by (with_reducible repeat (first | apply Kd.R_alloc | apply Kd.R_drewN | apply Kd.R_drew)); exact (Kd.R_mono (Kd.R_far (p := ⟨gb269, 1, none⟩) (Kd.R_far (p := ⟨gb269, 0, none⟩) (Kd.R_types HO258.out BK269.out (by decide)) (fun _ hk => hk.2) (.slice Ao23 t263.length co23)) (fun _ hk => hk.2) (.slice Ao26 t266.length co26)) (fun _ h_ => h_.1))))) (Kd.S_lt (by (with_reducible repeat (first | apply Kd.S_alloc | apply Kd.S_drewN | apply Kd.S_drew)); exact (Kd.S_mono (Kd.S_far (p := ⟨gb269, 1, none⟩) (Kd.S_far (p := ⟨gb269, 0, none⟩) (Kd.S_types HO261.out BK269.out (by decide)) (fun _ hk => hk.2) (.slice Ao23 t263.length co23)) (fun _ hk => hk.2) (.slice Ao26 t266.length co26)) (fun _ h_ => h_.1))))) (Kd.R_lt (by (with_reducible repeat (first | apply Kd.R_alloc | apply Kd.R_drewN | apply Kd.R_drew)); exact (Kd.R_mono (Kd.R_far (p := ⟨gb269, 1, none⟩) (Kd.R_far (p := ⟨gb269, 0, none⟩) (Kd.R_types HO268.out BK269.out (by decide)) (fun _ hk => hk.2) (.slice Ao23 t263.length co23)) (fun _ hk => hk.2) (.slice Ao26 t266.length co26)) (fun _ h_ => h_.1))))) (below_size (by repeat (first | (with_reducible first | exact HB.out | apply below_alloc | apply pw_below_drewN | apply below_drew1 | refine below_set ?_ GE251.out | refine below_set ?_ GE269.out) | exact HB.out)))); replace HO258 := Aside0.mk (Kd.R_below (by (with_reducible repeat (first | apply Kd.R_alloc | apply Kd.R_drewN | apply Kd.R_drew)); exact (Kd.R_mono (Kd.R_far (p := ⟨gb269, 1, none⟩) (Kd.R_far (p := ⟨gb269, 0, none⟩) (Kd.R_types HO258.out BK269.out (by decide)) (fun _ hk => hk.2) (.slice Ao23 t263.length co23)) (fun _ hk => hk.2) (.slice Ao26 t266.length co26)) (fun _ h_ => h_.1))) hb); replace HO261 := Aside0.mk (lev_old eL_ (by (with_reducible repeat (first | apply Kd.S_alloc | apply Kd.S_drewN | apply Kd.S_drew)); exact (Kd.S_mono (Kd.S_far (p := ⟨gb269, 1, none⟩) (Kd.S_far (p := ⟨gb269, 0, none⟩) (Kd.S_types HO261.out BK269.out (by decide)) (fun _ hk => hk.2) (.slice Ao23 t263.length co23)) (fun _ hk => hk.2) (.slice Ao26 t266.length co26)) (fun _ h_ => h_.1))) hb); replace HO268 := Aside0.mk (Kd.R_below (by (with_reducible repeat (first | apply Kd.R_alloc | apply Kd.R_drewN | apply Kd.R_drew)); exact (Kd.R_mono (Kd.R_far (p := ⟨gb269, 1, none⟩) (Kd.R_far (p := ⟨gb269, 0, none⟩) (Kd.R_types HO268.out BK269.out (by decide)) (fun _ hk => hk.2) (.slice Ao23 t263.length co23)) (fun _ hk => hk.2) (.slice Ao26 t266.length co26)) (fun _ h_ => h_.1))) hb); replace BK251 := Aside0.mk (blk_below (g := gb251) (o := .cells #[.slice A0_0 l0_0.length c0_0, .slice A0_1 l0_1.length c0_1] 51 (0, 0)) (by (with_reducible repeat (first | refine blk_drewN ?_ _ | refine blk_drew ?_ | refine blk_alloc ?_ _)); refine blk_far ?_ NB251_269.out _; (with_reducible repeat (first | refine blk_drewN ?_ _ | refine blk_drew ?_ | refine blk_alloc ?_ _)); refine blk_far ?_ NB251_269.out _; (with_reducible repeat (first | refine blk_drewN ?_ _ | refine blk_drew ?_ | refine blk_alloc ?_ _)); exact BK251.out) hb); replace BK269 := Aside0.mk (blk_below (g := gb269) (o := .cells #[.slice Ao23 t263.length co23, .slice Ao26 t266.length co26] 54 (0, 0)) (by (with_reducible repeat (first | refine blk_drewN ?_ _ | refine blk_drew ?_ | refine blk_alloc ?_ _)); refine blk_put (cs := #[.slice Ao23 t263.length co23, .slice none 0 0]) ?_ 1 _ rfl; (with_reducible repeat (first | refine blk_drewN ?_ _ | refine blk_drew ?_ | refine blk_alloc ?_ _)); refine blk_put (cs := #[.slice none 0 0, .slice none 0 0]) ?_ 0 _ rfl; (with_reducible repeat (first | refine blk_drewN ?_ _ | refine blk_drew ?_ | refine blk_alloc ?_ _)); exact BK269.out) hb); replace HB := Aside0.mk (below_step (by repeat (first | (with_reducible first | exact HB.out | apply below_alloc | apply pw_below_drewN | apply below_drew1 | refine below_set ?_ GE251.out | refine below_set ?_ GE269.out) | exact HB.out)) hb); (try clear hb); (try clear hb2); (try clear hk); (try clear hi); (try clear ho0)))
    (try simp only [Act.put, List.setIfInBounds_toArray, List.set_cons_zero, List.set_cons_succ])
    go_cut [40] (fun v40 wc => ∃ (kq : Nat) (x40_10 : Bool), v40 = .bool x40_10 ∧ Aside0 (laws_FnExactSolutions.j0 kq t259 t262 t270 t273 x40_10 l0_0 l0_1 t263 t266 = some r) ∧ Aside0 (kq ≤ k) ∧ Aside0 (Kd.S (Kd.slice 3 (Kd.int .i64)) 49 wc w.heap.size (fun k_ => k_ < L_ ∧ some k_ ≠ ((.slice Ao26 t266.length co26) : Value).ownBlock) v260 t259) ∧ Aside0 (Kd.S (Kd.slice 3 (Kd.int .i64)) 49 wc w.heap.size (fun k_ => L_ ≤ k_ ∧ some k_ ≠ ((.slice Ao26 t266.length co26) : Value).ownBlock) v271 t270) ∧ Aside0 (Kd.R k25 25 wc w.heap.size (fun _ => True) (.slice Ao23 t263.length co23) t263) ∧ Aside0 (Kd.R (Kd.int .i64) 3 wc w.heap.size (fun _ => True) (.slice Ao26 t266.length co26) t266) ∧ Aside0 (wc.heap[gb251]? = some (.cells #[(.slice A0_0 l0_0.length c0_0), (.slice A0_1 l0_1.length c0_1)] 51 (0, 0))) ∧ Aside0 (wc.heap[gb269]? = some (.cells #[(.slice Ao23 t263.length co23), (.slice Ao26 t266.length co26)] 54 (0, 0))) ∧ Aside0 (Below w.heap.size w wc))
    case first =>
      have H := HC11.out
      clear HC11
      replace H := Option.bind_eq_some_iff.mp H
      obtain ⟨t274, A280, H⟩ := H
      replace H : (if t274 = true then (laws_FnExactSolutions.j0 k t259 t262 t270 t273 (t273 != t262) l0_0 l0_1 t263 t266) else (laws_FnExactSolutions.j0 k t259 t262 t270 t273 true l0_0 l0_1 t263 t266)) = some r := H
      have A28 := Aside0.mk A280
      clear A280
      by_cases c29 : t274 = true
      · subst c29
        have H1 : (laws_FnExactSolutions.j0 k t259 t262 t270 t273 (t273 != t262) l0_0 l0_1 t263 t266) = some r := by rw [if_pos rfl] at H; exact H
        clear H
        have H := H1
        clear H1
        have H' := Aside0.mk H
        clear H
        obtain ⟨Ao30, co30, eo30⟩ := Kd.S_slice HO272.out
        subst eo30
        obtain ⟨Ao31, co31, eo31⟩ := Kd.S_slice HO261.out
        subst eo31
        go_wp2_with (first | ((with_reducible refine gate_callee (f := 85) rfl ?_); refine goesL_ (some 34) rfl rfl Try.func85 (by kernel_rfl) rfl #[.slice Ao30 t270.length co30, .slice Ao31 t259.length co31] rfl (by (try simp only [List.map_toArray, List.map_cons, List.map_nil]); first | done | rfl | (simp only [List.length_drop, List.length_take]; rfl)) ?_; (with_reducible refine (laws_eqIntSS.calls k _ _ t270 _ _ t259 true _ ?side1 ?side2 ?side3 ?side4 A28.out).mono ?_); (case side1 => repeat (first | exact (Kd.S_reads' HO272.out).2.2 | (with_reducible refine Kd.C_alloc ?_ _) | (with_reducible refine Kd.C_drewN ?_ _) | (with_reducible refine Kd.C_drew ?_))); (case side2 => exact (Kd.S_reads' HO272.out).2.1); (case side3 => repeat (first | exact (Kd.S_reads' HO261.out).2.2 | (with_reducible refine Kd.C_alloc ?_ _) | (with_reducible refine Kd.C_drewN ?_ _) | (with_reducible refine Kd.C_drew ?_))); (case side4 => exact (Kd.S_reads' HO261.out).2.1); rintro e w' ⟨rfl, ⟨nd, rfl⟩⟩; refine ⟨_, rfl, ?_⟩))
        go_meet
        case rel => exact ⟨_, ((t273 != t262)), (by first | rfl | (simp; done) | (simp [*]; done)), H', ⟨by first | omega | exact Nat.le_refl _⟩, ⟨by (with_reducible repeat (first | apply Kd.S_alloc | apply Kd.S_drewN | apply Kd.S_drew)); exact Kd.S_mono HO261.out (fun _ hk => ⟨hk.2, hk.1.2⟩)⟩, ⟨by (with_reducible repeat (first | apply Kd.S_alloc | apply Kd.S_drewN | apply Kd.S_drew)); exact Kd.S_mono HO272.out (fun _ hk => ⟨hk.1.1.1, hk.2⟩)⟩, ⟨by (with_reducible repeat (first | apply Kd.R_alloc | apply Kd.R_drewN | apply Kd.R_drew)); exact Kd.R_mono HO265.out (fun _ hk => trivial)⟩, ⟨by (with_reducible repeat (first | apply Kd.R_alloc | apply Kd.R_drewN | apply Kd.R_drew)); exact Kd.R_mono HO268.out (fun _ hk => trivial)⟩, ⟨by (with_reducible repeat (first | refine blk_drewN ?_ _ | refine blk_drew ?_ | refine blk_alloc ?_ _)); exact BK251.out⟩, ⟨by (with_reducible repeat (first | refine blk_drewN ?_ _ | refine blk_drew ?_ | refine blk_alloc ?_ _)); exact BK269.out⟩, ⟨by repeat (first | (with_reducible first | exact HB.out | apply below_alloc | apply pw_below_drewN | apply below_drew1 | refine below_set ?_ GE251.out | refine below_set ?_ GE269.out) | exact HB.out)⟩⟩
      · replace c29 := Bool.eq_false_iff.mpr c29
        subst c29
        have H1 : (laws_FnExactSolutions.j0 k t259 t262 t270 t273 true l0_0 l0_1 t263 t266) = some r := by rw [if_neg (show ¬ (false = true) by decide)] at H; exact H
        clear H
        have H := H1
        clear H1
        have H' := Aside0.mk H
        clear H
        obtain ⟨Ao32, co32, eo32⟩ := Kd.S_slice HO272.out
        subst eo32
        obtain ⟨Ao33, co33, eo33⟩ := Kd.S_slice HO261.out
        subst eo33
        go_wp2_with (first | ((with_reducible refine gate_callee (f := 85) rfl ?_); refine goesL_ (some 34) rfl rfl Try.func85 (by kernel_rfl) rfl #[.slice Ao32 t270.length co32, .slice Ao33 t259.length co33] rfl (by (try simp only [List.map_toArray, List.map_cons, List.map_nil]); first | done | rfl | (simp only [List.length_drop, List.length_take]; rfl)) ?_; (with_reducible refine (laws_eqIntSS.calls k _ _ t270 _ _ t259 false _ ?side1 ?side2 ?side3 ?side4 A28.out).mono ?_); (case side1 => repeat (first | exact (Kd.S_reads' HO272.out).2.2 | (with_reducible refine Kd.C_alloc ?_ _) | (with_reducible refine Kd.C_drewN ?_ _) | (with_reducible refine Kd.C_drew ?_))); (case side2 => exact (Kd.S_reads' HO272.out).2.1); (case side3 => repeat (first | exact (Kd.S_reads' HO261.out).2.2 | (with_reducible refine Kd.C_alloc ?_ _) | (with_reducible refine Kd.C_drewN ?_ _) | (with_reducible refine Kd.C_drew ?_))); (case side4 => exact (Kd.S_reads' HO261.out).2.1); rintro e w' ⟨rfl, ⟨nd, rfl⟩⟩; refine ⟨_, rfl, ?_⟩))
        go_meet
        case rel => exact ⟨_, (true), (by first | rfl | (simp; done) | (simp [*]; done)), H', ⟨by first | omega | exact Nat.le_refl _⟩, ⟨by (with_reducible repeat (first | apply Kd.S_alloc | apply Kd.S_drewN | apply Kd.S_drew)); exact Kd.S_mono HO261.out (fun _ hk => ⟨hk.2, hk.1.2⟩)⟩, ⟨by (with_reducible repeat (first | apply Kd.S_alloc | apply Kd.S_drewN | apply Kd.S_drew)); exact Kd.S_mono HO272.out (fun _ hk => ⟨hk.1.1.1, hk.2⟩)⟩, ⟨by (with_reducible repeat (first | apply Kd.R_alloc | apply Kd.R_drewN | apply Kd.R_drew)); exact Kd.R_mono HO265.out (fun _ hk => trivial)⟩, ⟨by (with_reducible repeat (first | apply Kd.R_alloc | apply Kd.R_drewN | apply Kd.R_drew)); exact Kd.R_mono HO268.out (fun _ hk => trivial)⟩, ⟨by (with_reducible repeat (first | refine blk_drewN ?_ _ | refine blk_drew ?_ | refine blk_alloc ?_ _)); exact BK251.out⟩, ⟨by (with_reducible repeat (first | refine blk_drewN ?_ _ | refine blk_drew ?_ | refine blk_alloc ?_ _)); exact BK269.out⟩, ⟨by repeat (first | (with_reducible first | exact HB.out | apply below_alloc | apply pw_below_drewN | apply below_drew1 | refine below_set ?_ GE251.out | refine below_set ?_ GE269.out) | exact HB.out)⟩⟩
    case rest =>
      clear HC11
      try clear c1
      try clear c2
      try clear p2
      try clear c3
      try clear c3b0
      try clear c8
      try clear c14
      try clear c24
      try clear c29
      try clear hcz13_0
      try clear hcz13_1
      try clear hcz15_0
      try clear hcz15_1
      try clear hcz20_0
      try clear hcz20_1
      try clear hcz25_0
      try clear hcz25_1
      try clear hcz5_0
      try clear hcz5_1
      try clear hfz13_0
      try clear hfz13_1
      try clear hfz15_0
      try clear hfz15_1
      try clear hfz20_0
      try clear hfz20_1
      try clear hfz25_0
      try clear hfz25_1
      try clear hfz5_0
      try clear hfz5_1
      obtain ⟨kq, x40_10, rfl, HA, HJ10, HO_4, HO_7, HO_270000, HO_270001, BK251, BK269, HB⟩ := hcut
      cases kq with
      | zero => exact absurd HA.out (by simp [laws_FnExactSolutions.j0])
      | succ kj10 =>
        have H := HA.out
        clear HA
        simp only [laws_FnExactSolutions.j0] at H
        by_cases c34 : x40_10 = true
        · subst c34
          have H1 : (none) = some r := by rw [if_pos rfl] at H; exact H
          clear H
          have H := H1
          clear H1
          exact absurd H (by simp)
        · replace c34 := Bool.eq_false_iff.mpr c34
          subst c34
          have H1 : ((laws_toPuzzle.f kj10 l0_0 l0_1).bind fun bt275 => ((laws_eqPuzzle.f kj10 t263 t266 bt275.1 bt275.2).bind fun t281 => (if t281 = true then ((laws_markPuzzle.f kj10 t263 t266 1).bind fun bt282 => (if bt282.1 < 0 then (laws_FnExactSolutions.j1 kj10 t259 t262 t270 true l0_0 l0_1) else ((laws_eqIntSS.f kj10 t270 t259).bind fun t285 => (if t285 = true then (laws_FnExactSolutions.j1 kj10 t259 t262 t270 (t273 != t262) l0_0 l0_1) else (laws_FnExactSolutions.j1 kj10 t259 t262 t270 true l0_0 l0_1))))) else (none)))) = some r := by rw [if_neg (show ¬ (false = true) by decide)] at H; exact H
          clear H
          have H := H1
          clear H1
          replace H := Option.bind_eq_some_iff.mp H
          obtain ⟨⟨t275, t278⟩, A350, H⟩ := H
          replace H : ((laws_eqPuzzle.f kj10 t263 t266 t275 t278).bind fun t281 => (if t281 = true then ((laws_markPuzzle.f kj10 t263 t266 1).bind fun bt282 => (if bt282.1 < 0 then (laws_FnExactSolutions.j1 kj10 t259 t262 t270 true l0_0 l0_1) else ((laws_eqIntSS.f kj10 t270 t259).bind fun t285 => (if t285 = true then (laws_FnExactSolutions.j1 kj10 t259 t262 t270 (t273 != t262) l0_0 l0_1) else (laws_FnExactSolutions.j1 kj10 t259 t262 t270 true l0_0 l0_1))))) else (none))) = some r := H
          have A35 := Aside0.mk A350
          clear A350
          replace H := Option.bind_eq_some_iff.mp H
          obtain ⟨t281, A360, H⟩ := H
          replace H : (if t281 = true then ((laws_markPuzzle.f kj10 t263 t266 1).bind fun bt282 => (if bt282.1 < 0 then (laws_FnExactSolutions.j1 kj10 t259 t262 t270 true l0_0 l0_1) else ((laws_eqIntSS.f kj10 t270 t259).bind fun t285 => (if t285 = true then (laws_FnExactSolutions.j1 kj10 t259 t262 t270 (t273 != t262) l0_0 l0_1) else (laws_FnExactSolutions.j1 kj10 t259 t262 t270 true l0_0 l0_1))))) else (none)) = some r := H
          have A36 := Aside0.mk A360
          clear A360
          by_cases c37 : t281 = true
          · subst c37
            have H1 : ((laws_markPuzzle.f kj10 t263 t266 1).bind fun bt282 => (if bt282.1 < 0 then (laws_FnExactSolutions.j1 kj10 t259 t262 t270 true l0_0 l0_1) else ((laws_eqIntSS.f kj10 t270 t259).bind fun t285 => (if t285 = true then (laws_FnExactSolutions.j1 kj10 t259 t262 t270 (t273 != t262) l0_0 l0_1) else (laws_FnExactSolutions.j1 kj10 t259 t262 t270 true l0_0 l0_1))))) = some r := by rw [if_pos rfl] at H; exact H
            clear H
            have H := H1
            clear H1
            replace H := Option.bind_eq_some_iff.mp H
            obtain ⟨⟨t282, t283, t284⟩, A380, H⟩ := H
            replace H : (if t282 < 0 then (laws_FnExactSolutions.j1 kj10 t259 t262 t270 true l0_0 l0_1) else ((laws_eqIntSS.f kj10 t270 t259).bind fun t285 => (if t285 = true then (laws_FnExactSolutions.j1 kj10 t259 t262 t270 (t273 != t262) l0_0 l0_1) else (laws_FnExactSolutions.j1 kj10 t259 t262 t270 true l0_0 l0_1)))) = some r := H
            have A38 := Aside0.mk A380
            clear A380
            have HC39 := Aside0.mk H
            clear H
            try go_wp2
            replace HO_4 := Aside0.mk (Kd.S_drew HO_4.out)
            replace HO_7 := Aside0.mk (Kd.S_drew HO_7.out)
            replace HO_270000 := Aside0.mk (Kd.R_drew HO_270000.out)
            replace HO_270001 := Aside0.mk (Kd.R_drew HO_270001.out)
            replace BK251 := Aside0.mk (blk_drew BK251.out)
            replace BK269 := Aside0.mk (blk_drew BK269.out)
            replace HB := Aside0.mk (below_drew1 HB.out)
            refine start_ (n := 5) (S := fun w' => w'.cell? ⟨gb269, 0, none⟩ = some (.slice Ao23 t263.length co23) ∧ w'.cell? ⟨gb269, 1, none⟩ = some (.slice Ao26 t266.length co26) ∧ w'.cell? ⟨gb251, 0, none⟩ = some (.slice A0_0 l0_0.length c0_0) ∧ w'.cell? ⟨gb251, 1, none⟩ = some (.slice A0_1 l0_1.length c0_1)) (ds := []) #[false, false, false, false, false] (by kernel_rfl) rfl rfl ⟨(blk_cell BK269.out 0).trans rfl, (blk_cell BK269.out 1).trans rfl, (blk_cell BK251.out 0).trans rfl, (blk_cell BK251.out 1).trans rfl⟩ (fun hHeld => ?_)
            generalize wc.drew = w40 at HO_4 HO_7 HO_270000 HO_270001 BK251 BK269 HB hHeld ⊢
            refine take_ (i := 0) (N := some 41) (v := ?_) (a' := ?_) #[true, false, false, false, false] rfl rfl (by kernel_rfl) (fun _ _ _ h => h) (Or.inl ⟨by rfl, ?_⟩) hHeld ?_ ?_
            rotate_left
            · rintro w' ⟨s0, s1, s2, s3⟩
              go_simp
              with_reducible rfl
            rotate_left
            · simp only [Act.put, List.setIfInBounds_toArray, List.set_cons_zero, List.set_cons_succ, i64_w, i32_w]
              rfl
            refine take_ (i := 1) (N := some 42) (v := ?_) (a' := ?_) #[true, true, false, false, false] rfl rfl (by kernel_rfl) (fun _ _ _ h => h) (Or.inl ⟨by rfl, ?_⟩) hHeld ?_ ?_
            rotate_left
            · rintro w' ⟨s0, s1, s2, s3⟩
              go_simp
              with_reducible rfl
            rotate_left
            · simp only [Act.put, List.setIfInBounds_toArray, List.set_cons_zero, List.set_cons_succ, i64_w, i32_w]
              rfl
            refine one_ (i := 2) (N := some 43) #[true, true, true, false, false] rfl rfl (by kernel_rfl) (by decide) (fun K hK => ?_)
            refine goes_ Try.func39 (by kernel_rfl) rfl #[.agg #[.slice A0_0 l0_0.length c0_0, .slice A0_1 l0_1.length c0_1]] (by rfl) rfl rfl (by (try simp only [List.map_toArray, List.map_cons, List.map_nil]); first | done | rfl | (simp only [List.length_drop, List.length_take]; rfl)) ?_
            with_reducible refine (laws_toPuzzle.calls kj10 _ _ l0_0 _ _ l0_1 t275 t278 _ ?side1 ?side2 ?side3 ?side4 A35.out).mono ?_
            (case side1 => repeat (first | exact (Kd.C_below HR0_0.out HB.out) | (with_reducible refine Kd.C_alloc ?_ _) | (with_reducible refine Kd.C_drewN ?_ _) | (with_reducible refine Kd.C_drew ?_)))
            (case side2 => exact HC0_0.out)
            (case side3 => repeat (first | exact (Kd.C_below HR0_1.out HB.out) | (with_reducible refine Kd.C_alloc ?_ _) | (with_reducible refine Kd.C_drewN ?_ _) | (with_reducible refine Kd.C_drew ?_)))
            (case side4 => exact HC0_1.out)
            rintro e w41 ⟨v276, v279, rfl, ho0, ho1, hb⟩
            refine ⟨_, rfl, ?_⟩
            replace HO_4 := Aside0.mk (Kd.S_elder' (by (with_reducible repeat (first | apply Kd.S_alloc | apply Kd.S_drewN | apply Kd.S_drew)); exact HO_4.out) (Kd.R_base ho1) hb)
            replace HO_7 := Aside0.mk (Kd.S_elder' (by (with_reducible repeat (first | apply Kd.S_alloc | apply Kd.S_drewN | apply Kd.S_drew)); exact HO_7.out) (Kd.R_base ho1) hb)
            have HO277 := Aside0.mk (Kd.R_lower (Kd.R_new' ho0 (Kd.R_lt (by (with_reducible repeat (first | apply Kd.R_alloc | apply Kd.R_drewN | apply Kd.R_drew)); exact HO_270000.out))) (below_size (by repeat (first | (with_reducible first | exact HB.out | apply below_alloc | apply pw_below_drewN | apply below_drew1 | refine below_set ?_ GE251.out | refine below_set ?_ GE269.out) | exact HB.out))))
            replace HO_270000 := Aside0.mk (Kd.R_elder' (by (with_reducible repeat (first | apply Kd.R_alloc | apply Kd.R_drewN | apply Kd.R_drew)); exact HO_270000.out) (Kd.R_base ho0) hb)
            have HO280 := Aside0.mk (Kd.R_lower (Kd.R_new' ho1 (Kd.R_lt (by (with_reducible repeat (first | apply Kd.R_alloc | apply Kd.R_drewN | apply Kd.R_drew)); exact HO_270001.out))) (below_size (by repeat (first | (with_reducible first | exact HB.out | apply below_alloc | apply pw_below_drewN | apply below_drew1 | refine below_set ?_ GE251.out | refine below_set ?_ GE269.out) | exact HB.out))))
            replace HO_270001 := Aside0.mk (Kd.R_elder' (by (with_reducible repeat (first | apply Kd.R_alloc | apply Kd.R_drewN | apply Kd.R_drew)); exact HO_270001.out) (Kd.R_base ho1) hb)
            replace BK251 := Aside0.mk (blk_below (g := gb251) (o := .cells #[.slice A0_0 l0_0.length c0_0, .slice A0_1 l0_1.length c0_1] 51 (0, 0)) (by (with_reducible repeat (first | refine blk_drewN ?_ _ | refine blk_drew ?_ | refine blk_alloc ?_ _)); exact BK251.out) hb)
            replace BK269 := Aside0.mk (blk_below (g := gb269) (o := .cells #[.slice Ao23 t263.length co23, .slice Ao26 t266.length co26] 54 (0, 0)) (by (with_reducible repeat (first | refine blk_drewN ?_ _ | refine blk_drew ?_ | refine blk_alloc ?_ _)); exact BK269.out) hb)
            replace HB := Aside0.mk (below_step (by repeat (first | (with_reducible first | exact HB.out | apply below_alloc | apply pw_below_drewN | apply below_drew1 | refine below_set ?_ GE251.out | refine below_set ?_ GE269.out) | exact HB.out)) hb)
            (try clear hb)
            (try clear hb2)
            (try clear hk)
            (try clear hi)
            (try clear ho0)
            (try clear ho1)
            obtain ⟨Ao42, co42, eo42⟩ := Kd.R_slice HO277.out
            (first | subst eo42 | (injection eo42 with f1_ f2_ f3_; have f4_ := f1_.symm; have f5_ := f3_.symm; clear f1_ f2_ f3_; subst f4_; subst f5_))
            obtain ⟨Ao43, co43, eo43⟩ := Kd.R_slice HO280.out
            (first | subst eo43 | (injection eo43 with f1_ f2_ f3_; have f4_ := f1_.symm; have f5_ := f3_.symm; clear f1_ f2_ f3_; subst f4_; subst f5_))
            refine hK.out _ _ ⟨(blk_cell BK269.out 0).trans rfl, (blk_cell BK269.out 1).trans rfl, (blk_cell BK251.out 0).trans rfl, (blk_cell BK251.out 1).trans rfl⟩ (fun hHeld => ?_)
            clear hK K
            refine norm_ (a' := ?_) ?_ ?_
            rotate_left
            · show Act.put _ (some 43) _ = _
              simp only [Act.put, List.setIfInBounds_toArray, List.set_cons_zero, List.set_cons_succ, i64_w, i32_w]
              rfl
            refine one_ (i := 3) (N := some 44) #[true, true, true, true, false] rfl rfl (by kernel_rfl) (by decide) (fun K hK => ?_)
            refine goes_ Try.func41 (by kernel_rfl) rfl #[.agg #[.slice Ao23 t263.length co23, .slice Ao26 t266.length co26], .agg #[.slice Ao42 t275.length co42, .slice Ao43 t278.length co43]] (by rfl) rfl rfl (by (try simp only [List.map_toArray, List.map_cons, List.map_nil]); first | done | rfl | (simp only [List.length_drop, List.length_take]; rfl)) ?_
            with_reducible refine (laws_eqPuzzle.calls kj10 _ _ t263 _ _ t266 _ _ t275 _ _ t278 true _ ?side1 ?side2 ?side3 ?side4 ?side5 ?side6 ?side7 ?side8 A36.out).mono ?_
            (case side1 => repeat (first | exact (Kd.R_reads' HO_270000.out).2.2 | (with_reducible refine Kd.C_alloc ?_ _) | (with_reducible refine Kd.C_drewN ?_ _) | (with_reducible refine Kd.C_drew ?_)))
            (case side2 => exact (Kd.R_reads' HO_270000.out).2.1)
            (case side3 => repeat (first | exact (Kd.R_reads' HO_270001.out).2.2 | (with_reducible refine Kd.C_alloc ?_ _) | (with_reducible refine Kd.C_drewN ?_ _) | (with_reducible refine Kd.C_drew ?_)))
            (case side4 => exact (Kd.R_reads' HO_270001.out).2.1)
            (case side5 => repeat (first | exact (Kd.R_reads' HO277.out).2.2 | (with_reducible refine Kd.C_alloc ?_ _) | (with_reducible refine Kd.C_drewN ?_ _) | (with_reducible refine Kd.C_drew ?_)))
            (case side6 => exact (Kd.R_reads' HO277.out).2.1)
            (case side7 => repeat (first | exact (Kd.R_reads' HO280.out).2.2 | (with_reducible refine Kd.C_alloc ?_ _) | (with_reducible refine Kd.C_drewN ?_ _) | (with_reducible refine Kd.C_drew ?_)))
            (case side8 => exact (Kd.R_reads' HO280.out).2.1)
            rintro e w44 ⟨rfl, hb⟩
            refine ⟨_, rfl, ?_⟩
            replace HO_4 := Aside0.mk (Kd.S_below (by (with_reducible repeat (first | apply Kd.S_alloc | apply Kd.S_drewN | apply Kd.S_drew)); exact HO_4.out) hb)
            replace HO_7 := Aside0.mk (Kd.S_below (by (with_reducible repeat (first | apply Kd.S_alloc | apply Kd.S_drewN | apply Kd.S_drew)); exact HO_7.out) hb)
            replace HO_270000 := Aside0.mk (Kd.R_below (by (with_reducible repeat (first | apply Kd.R_alloc | apply Kd.R_drewN | apply Kd.R_drew)); exact HO_270000.out) hb)
            replace HO_270001 := Aside0.mk (Kd.R_below (by (with_reducible repeat (first | apply Kd.R_alloc | apply Kd.R_drewN | apply Kd.R_drew)); exact HO_270001.out) hb)
            replace HO277 := Aside0.mk (Kd.R_below (by (with_reducible repeat (first | apply Kd.R_alloc | apply Kd.R_drewN | apply Kd.R_drew)); exact HO277.out) hb)
            replace HO280 := Aside0.mk (Kd.R_below (by (with_reducible repeat (first | apply Kd.R_alloc | apply Kd.R_drewN | apply Kd.R_drew)); exact HO280.out) hb)
            replace BK251 := Aside0.mk (blk_below (g := gb251) (o := .cells #[.slice A0_0 l0_0.length c0_0, .slice A0_1 l0_1.length c0_1] 51 (0, 0)) (by (with_reducible repeat (first | refine blk_drewN ?_ _ | refine blk_drew ?_ | refine blk_alloc ?_ _)); exact BK251.out) hb)
            replace BK269 := Aside0.mk (blk_below (g := gb269) (o := .cells #[.slice Ao23 t263.length co23, .slice Ao26 t266.length co26] 54 (0, 0)) (by (with_reducible repeat (first | refine blk_drewN ?_ _ | refine blk_drew ?_ | refine blk_alloc ?_ _)); exact BK269.out) hb)
            replace HB := Aside0.mk (below_step (by repeat (first | (with_reducible first | exact HB.out | apply below_alloc | apply pw_below_drewN | apply below_drew1 | refine below_set ?_ GE251.out | refine below_set ?_ GE269.out) | exact HB.out)) hb)
            (try clear hb)
            (try clear hb2)
            (try clear hk)
            (try clear hi)
            refine hK.out _ _ ⟨(blk_cell BK269.out 0).trans rfl, (blk_cell BK269.out 1).trans rfl, (blk_cell BK251.out 0).trans rfl, (blk_cell BK251.out 1).trans rfl⟩ (fun hHeld => ?_)
            clear hK K
            refine norm_ (a' := ?_) ?_ ?_
            rotate_left
            · show Act.put _ (some 44) _ = _
              simp only [Act.put, List.setIfInBounds_toArray, List.set_cons_zero, List.set_cons_succ, i64_w, i32_w]
              rfl
            refine pure_ (i := 4) (N := some 45) (v := ?_) (a' := ?_) #[true, true, true, true, true] rfl rfl (by kernel_rfl) (fun _ _ _ h => h) (Or.inl ⟨by rfl, ?_⟩) ?_ ?_
            rotate_left
            · intro w'
              go_simp
              with_reducible rfl
            rotate_left
            · simp only [Act.put, List.setIfInBounds_toArray, List.set_cons_zero, List.set_cons_succ, i64_w, i32_w]
              rfl
            refine done_ (by kernel_rfl) ?_
            have hnb45 := NB269_251.out
            have hnc45 := NB251_269.out
            have hcz46_0 : w44.cell? ⟨gb269, 0, none⟩ = some (.slice Ao23 t263.length co23) := (blk_cell BK269.out 0).trans rfl
            have hcz46_1 : w44.cell? ⟨gb269, 1, none⟩ = some (.slice Ao26 t266.length co26) := (blk_cell BK269.out 1).trans rfl
            have hfz46_0 := blk_frozen BK269.out 0
            have hfz46_1 := blk_frozen BK269.out 1
            go_upto_region 14 with (first | ((with_reducible refine gate_callee (f := 42) rfl ?_); refine goesL_ (some 48) rfl rfl Try.func42 (by kernel_rfl) rfl #[.agg #[.slice Ao23 t263.length co23, .slice Ao26 t266.length co26], .int .i64 1] rfl (by (try simp only [List.map_toArray, List.map_cons, List.map_nil]); first | done | rfl | (simp only [List.length_drop, List.length_take]; rfl)) ?_; (with_reducible refine (laws_markPuzzle.calls kj10 (fun k_ => some k_ = (.slice Ao23 t263.length co23 : Value).ownBlock) (.slice Ao23 t263.length co23) t263 (fun k_ => some k_ = (.slice Ao26 t266.length co26 : Value).ownBlock) (.slice Ao26 t266.length co26) t266 1 t282 t283 t284 w _ ?side1 ?side2 ?side3 A38.out).mono ?_); (case side1 => repeat (first | (with_reducible first | exact HB.out | apply below_alloc | apply pw_below_drewN | apply below_drew1 | refine below_set ?_ GE251.out | refine below_set ?_ GE269.out) | exact HB.out)); (case side2 => exact Kd.R_tight rfl HO_270000.out); (case side3 => exact Kd.R_tight rfl HO_270001.out); rintro e w47 ⟨rfl, hy0, hy1, hb, hkp⟩; refine ⟨_, rfl, ?_⟩; replace HO_4 := Aside0.mk (Kd.S_mono (ok' := fun k_ => k_ < L_ ∧ some k_ ≠ (.slice Ao26 t266.length co26 : Value).ownBlock ∧ some k_ ≠ (.slice Ao43 t278.length co43 : Value).ownBlock) (Kd.S_keptB ((Kd.S_apart' HO_4.out (Kd.R_typed HO_270000.out) (by decide))) hkp (fun k_ hk_ hs_ => Or.elim hs_ (fun e_ => (hk_.2) e_) (fun e_ => (hk_.1.1.2) e_))) (fun k_ hk_ => ⟨hk_.1.1.1.1, hk_.1.1.1.2, hk_.1.1.2⟩)); replace HO_7 := Aside0.mk (Kd.S_mono (ok' := fun k_ => L_ ≤ k_ ∧ some k_ ≠ (.slice Ao26 t266.length co26 : Value).ownBlock ∧ some k_ ≠ (.slice Ao43 t278.length co43 : Value).ownBlock) (Kd.S_keptB ((Kd.S_apart' HO_7.out (Kd.R_typed HO_270000.out) (by decide))) hkp (fun k_ hk_ hs_ => Or.elim hs_ (fun e_ => (hk_.2) e_) (fun e_ => (hk_.1.1.2) e_))) (fun k_ hk_ => ⟨hk_.1.1.1.1, hk_.1.1.1.2, hk_.1.1.2⟩)); replace BK251 := Aside0.mk (blk_kept (by (with_reducible repeat (first | refine blk_drewN ?_ _ | refine blk_drew ?_ | refine blk_alloc ?_ _)); exact BK251.out) hkp (fun hs_ => Or.elim hs_ (fun e_ => (fun e_ => (Kd.R_ne HO_270000.out BK251.out (by decide)) e_) e_) (fun e_ => (fun e_ => (Kd.R_ne HO_270001.out BK251.out (by decide)) e_) e_))); replace BK269 := Aside0.mk (blk_kept (by (with_reducible repeat (first | refine blk_drewN ?_ _ | refine blk_drew ?_ | refine blk_alloc ?_ _)); exact BK269.out) hkp (fun hs_ => Or.elim hs_ (fun e_ => (fun e_ => (Kd.R_ne HO_270000.out BK269.out (by decide)) e_) e_) (fun e_ => (fun e_ => (Kd.R_ne HO_270001.out BK269.out (by decide)) e_) e_))); replace HO277 := Aside0.mk (Kd.R_mono (ok' := fun k_ => some k_ ≠ (.slice Ao23 t263.length co23 : Value).ownBlock) (Kd.R_keptB ((Kd.R_apart' HO277.out (Kd.R_typed HO_270001.out) (by decide))) hkp (fun k_ hk_ hs_ => Or.elim hs_ (fun e_ => (hk_.1.2) e_) (fun e_ => (hk_.2) e_))) (fun k_ hk_ => hk_.1.1.2)); replace HO_270001 := Aside0.mk (Kd.R_reok rfl hy1 (fun k_ e_ => HO_270001.out.1 k_ e_)); replace HO280 := Aside0.mk (Kd.R_mono (ok' := fun k_ => some k_ ≠ (.slice Ao26 t266.length co26 : Value).ownBlock) (Kd.R_keptB ((Kd.R_apart' HO280.out (Kd.R_typed HO_270000.out) (by decide))) hkp (fun k_ hk_ hs_ => Or.elim hs_ (fun e_ => (hk_.2) e_) (fun e_ => (hk_.1.2) e_))) (fun k_ hk_ => hk_.1.1.2)); replace HO_270000 := Aside0.mk (Kd.R_reok rfl hy0 (fun k_ e_ => HO_270000.out.1 k_ e_)); replace HB := Aside0.mk (hb); (try clear hb); (try clear hkp); (try clear hy0); (try clear hy1)))
            (try simp only [Act.put, List.setIfInBounds_toArray, List.set_cons_zero, List.set_cons_succ])
            go_cut [61] (fun v61 wc => ∃ (kq : Nat) (x61_38 : Bool), v61 = .bool x61_38 ∧ Aside0 (laws_FnExactSolutions.j1 kq t259 t262 t270 x61_38 l0_0 l0_1 = some r) ∧ Aside0 (kq ≤ kj10) ∧ Aside0 (Kd.S (Kd.slice 3 (Kd.int .i64)) 49 wc w.heap.size (fun k_ => k_ < L_ ∧ some k_ ≠ ((.slice Ao26 t266.length co26) : Value).ownBlock) v260 t259) ∧ Aside0 (Kd.S (Kd.slice 3 (Kd.int .i64)) 49 wc w.heap.size (fun k_ => L_ ≤ k_ ∧ some k_ ≠ ((.slice Ao26 t266.length co26) : Value).ownBlock) v271 t270) ∧ Aside0 (Kd.R k25 25 wc w.heap.size (fun _ => True) (.slice Ao23 t263.length co23) t283) ∧ Aside0 (Kd.R (Kd.int .i64) 3 wc w.heap.size (fun _ => True) (.slice Ao26 t266.length co26) t284) ∧ Aside0 (wc.heap[gb251]? = some (.cells #[(.slice A0_0 l0_0.length c0_0), (.slice A0_1 l0_1.length c0_1)] 51 (0, 0))) ∧ Aside0 (wc.heap[gb269]? = some (.cells #[(.slice Ao23 t263.length co23), (.slice Ao26 t266.length co26)] 54 (0, 0))) ∧ Aside0 (Below w.heap.size w wc))
            case first =>
              have H := HC39.out
              clear HC39
              by_cases c48 : t282 < 0
              · rw [if_pos c48] at H
                have c48b0 : decide (t282 < 0) = true := decide_eq_true c48
                clear c48
                (first | rw [c48b0] | (simp only [i64_w, i32_w]; rw [c48b0]) | skip)
                have H' := Aside0.mk H
                clear H
                go_wp2
                go_meet
                case rel => exact ⟨_, (true), (by first | rfl | (simp; done) | (simp [*]; done)), H', ⟨by have := HJ10.out; first | omega | exact Nat.le_refl _⟩, ⟨by (with_reducible repeat (first | apply Kd.S_alloc | apply Kd.S_drewN | apply Kd.S_drew)); exact Kd.S_mono HO_4.out (fun _ hk => ⟨hk.1, hk.2.1⟩)⟩, ⟨by (with_reducible repeat (first | apply Kd.S_alloc | apply Kd.S_drewN | apply Kd.S_drew)); exact Kd.S_mono HO_7.out (fun _ hk => ⟨hk.1, hk.2.1⟩)⟩, ⟨by (with_reducible repeat (first | apply Kd.R_alloc | apply Kd.R_drewN | apply Kd.R_drew)); exact Kd.R_mono HO_270000.out (fun _ hk => trivial)⟩, ⟨by (with_reducible repeat (first | apply Kd.R_alloc | apply Kd.R_drewN | apply Kd.R_drew)); exact Kd.R_mono HO_270001.out (fun _ hk => trivial)⟩, ⟨by (with_reducible repeat (first | refine blk_drewN ?_ _ | refine blk_drew ?_ | refine blk_alloc ?_ _)); exact BK251.out⟩, ⟨by (with_reducible repeat (first | refine blk_drewN ?_ _ | refine blk_drew ?_ | refine blk_alloc ?_ _)); exact BK269.out⟩, ⟨by repeat (first | (with_reducible first | exact HB.out | apply below_alloc | apply pw_below_drewN | apply below_drew1 | refine below_set ?_ GE251.out | refine below_set ?_ GE269.out) | exact HB.out)⟩⟩
              · rw [if_neg c48] at H
                have c48b0 : decide (t282 < 0) = false := decide_eq_false c48
                clear c48
                (first | rw [c48b0] | (simp only [i64_w, i32_w]; rw [c48b0]) | skip)
                replace H := Option.bind_eq_some_iff.mp H
                obtain ⟨t285, A490, H⟩ := H
                replace H : (if t285 = true then (laws_FnExactSolutions.j1 kj10 t259 t262 t270 (t273 != t262) l0_0 l0_1) else (laws_FnExactSolutions.j1 kj10 t259 t262 t270 true l0_0 l0_1)) = some r := H
                have A49 := Aside0.mk A490
                clear A490
                by_cases c50 : t285 = true
                · subst c50
                  have H1 : (laws_FnExactSolutions.j1 kj10 t259 t262 t270 (t273 != t262) l0_0 l0_1) = some r := by rw [if_pos rfl] at H; exact H
                  clear H
                  have H := H1
                  clear H1
                  have H' := Aside0.mk H
                  clear H
                  obtain ⟨Ao51, co51, eo51⟩ := Kd.S_slice HO_7.out
                  subst eo51
                  obtain ⟨Ao52, co52, eo52⟩ := Kd.S_slice HO_4.out
                  subst eo52
                  go_wp2_with (first | (go_at_call 85; (with_reducible refine (laws_eqIntSS.calls kj10 _ _ t270 _ _ t259 true _ ?side1 ?side2 ?side3 ?side4 A49.out).mono ?_); (case side1 => repeat (first | exact (Kd.S_reads' HO_7.out).2.2 | (with_reducible refine Kd.C_alloc ?_ _) | (with_reducible refine Kd.C_drewN ?_ _) | (with_reducible refine Kd.C_drew ?_))); (case side2 => exact (Kd.S_reads' HO_7.out).2.1); (case side3 => repeat (first | exact (Kd.S_reads' HO_4.out).2.2 | (with_reducible refine Kd.C_alloc ?_ _) | (with_reducible refine Kd.C_drewN ?_ _) | (with_reducible refine Kd.C_drew ?_))); (case side4 => exact (Kd.S_reads' HO_4.out).2.1); rintro e w' ⟨rfl, ⟨nd, rfl⟩⟩))
                  go_meet
                  case rel => exact ⟨_, ((t273 != t262)), (by first | rfl | (simp; done) | (simp [*]; done)), H', ⟨by have := HJ10.out; first | omega | exact Nat.le_refl _⟩, ⟨by (with_reducible repeat (first | apply Kd.S_alloc | apply Kd.S_drewN | apply Kd.S_drew)); exact Kd.S_mono HO_4.out (fun _ hk => ⟨hk.1, hk.2.1⟩)⟩, ⟨by (with_reducible repeat (first | apply Kd.S_alloc | apply Kd.S_drewN | apply Kd.S_drew)); exact Kd.S_mono HO_7.out (fun _ hk => ⟨hk.1, hk.2.1⟩)⟩, ⟨by (with_reducible repeat (first | apply Kd.R_alloc | apply Kd.R_drewN | apply Kd.R_drew)); exact Kd.R_mono HO_270000.out (fun _ hk => trivial)⟩, ⟨by (with_reducible repeat (first | apply Kd.R_alloc | apply Kd.R_drewN | apply Kd.R_drew)); exact Kd.R_mono HO_270001.out (fun _ hk => trivial)⟩, ⟨by (with_reducible repeat (first | refine blk_drewN ?_ _ | refine blk_drew ?_ | refine blk_alloc ?_ _)); exact BK251.out⟩, ⟨by (with_reducible repeat (first | refine blk_drewN ?_ _ | refine blk_drew ?_ | refine blk_alloc ?_ _)); exact BK269.out⟩, ⟨by repeat (first | (with_reducible first | exact HB.out | apply below_alloc | apply pw_below_drewN | apply below_drew1 | refine below_set ?_ GE251.out | refine below_set ?_ GE269.out) | exact HB.out)⟩⟩
                · replace c50 := Bool.eq_false_iff.mpr c50
                  subst c50
                  have H1 : (laws_FnExactSolutions.j1 kj10 t259 t262 t270 true l0_0 l0_1) = some r := by rw [if_neg (show ¬ (false = true) by decide)] at H; exact H
                  clear H
                  have H := H1
                  clear H1
                  have H' := Aside0.mk H
                  clear H
                  obtain ⟨Ao53, co53, eo53⟩ := Kd.S_slice HO_7.out
                  subst eo53
                  obtain ⟨Ao54, co54, eo54⟩ := Kd.S_slice HO_4.out
                  subst eo54
                  go_wp2_with (first | (go_at_call 85; (with_reducible refine (laws_eqIntSS.calls kj10 _ _ t270 _ _ t259 false _ ?side1 ?side2 ?side3 ?side4 A49.out).mono ?_); (case side1 => repeat (first | exact (Kd.S_reads' HO_7.out).2.2 | (with_reducible refine Kd.C_alloc ?_ _) | (with_reducible refine Kd.C_drewN ?_ _) | (with_reducible refine Kd.C_drew ?_))); (case side2 => exact (Kd.S_reads' HO_7.out).2.1); (case side3 => repeat (first | exact (Kd.S_reads' HO_4.out).2.2 | (with_reducible refine Kd.C_alloc ?_ _) | (with_reducible refine Kd.C_drewN ?_ _) | (with_reducible refine Kd.C_drew ?_))); (case side4 => exact (Kd.S_reads' HO_4.out).2.1); rintro e w' ⟨rfl, ⟨nd, rfl⟩⟩))
                  go_meet
                  case rel => exact ⟨_, (true), (by first | rfl | (simp; done) | (simp [*]; done)), H', ⟨by have := HJ10.out; first | omega | exact Nat.le_refl _⟩, ⟨by (with_reducible repeat (first | apply Kd.S_alloc | apply Kd.S_drewN | apply Kd.S_drew)); exact Kd.S_mono HO_4.out (fun _ hk => ⟨hk.1, hk.2.1⟩)⟩, ⟨by (with_reducible repeat (first | apply Kd.S_alloc | apply Kd.S_drewN | apply Kd.S_drew)); exact Kd.S_mono HO_7.out (fun _ hk => ⟨hk.1, hk.2.1⟩)⟩, ⟨by (with_reducible repeat (first | apply Kd.R_alloc | apply Kd.R_drewN | apply Kd.R_drew)); exact Kd.R_mono HO_270000.out (fun _ hk => trivial)⟩, ⟨by (with_reducible repeat (first | apply Kd.R_alloc | apply Kd.R_drewN | apply Kd.R_drew)); exact Kd.R_mono HO_270001.out (fun _ hk => trivial)⟩, ⟨by (with_reducible repeat (first | refine blk_drewN ?_ _ | refine blk_drew ?_ | refine blk_alloc ?_ _)); exact BK251.out⟩, ⟨by (with_reducible repeat (first | refine blk_drewN ?_ _ | refine blk_drew ?_ | refine blk_alloc ?_ _)); exact BK269.out⟩, ⟨by repeat (first | (with_reducible first | exact HB.out | apply below_alloc | apply pw_below_drewN | apply below_drew1 | refine below_set ?_ GE251.out | refine below_set ?_ GE269.out) | exact HB.out)⟩⟩
            case rest =>
              clear HC39
              try clear c1
              try clear c2
              try clear p2
              try clear c3
              try clear c3b0
              try clear c4
              try clear c5
              try clear c8
              try clear c14
              try clear c24
              try clear c29
              try clear c34
              try clear c37
              try clear c39
              try clear c41
              try clear c42
              try clear c45
              try clear c48
              try clear c48b0
              try clear c50
              try clear hcz13_0
              try clear hcz13_1
              try clear hcz15_0
              try clear hcz15_1
              try clear hcz20_0
              try clear hcz20_1
              try clear hcz25_0
              try clear hcz25_1
              try clear hcz46_0
              try clear hcz46_1
              try clear hcz5_0
              try clear hcz5_1
              try clear hfz13_0
              try clear hfz13_1
              try clear hfz15_0
              try clear hfz15_1
              try clear hfz20_0
              try clear hfz20_1
              try clear hfz25_0
              try clear hfz25_1
              try clear hfz46_0
              try clear hfz46_1
              try clear hfz5_0
              try clear hfz5_1
              try clear p2
              obtain ⟨kq, x61_38, rfl, HA, HJ38, HO_4, HO_7, HO_270000, HO_270001, BK251, BK269, HB⟩ := hcut
              have hl270000_38 := (Kd.R_reads' HO_270000.out).1
              rw [hl270000_38] at HO_270000
              (try simp only [hl270000_38])
              (try simp only [hl270000_38] at BK251)
              (try simp only [hl270000_38] at BK269)
              (try simp only [hl270000_38] at HO_4)
              (try simp only [hl270000_38] at HO_7)
              (try simp only [hl270000_38] at HO_270001)
              have hl270001_38 := (Kd.R_reads' HO_270001.out).1
              rw [hl270001_38] at HO_270001
              (try simp only [hl270001_38])
              (try simp only [hl270001_38] at BK251)
              (try simp only [hl270001_38] at BK269)
              (try simp only [hl270001_38] at HO_4)
              (try simp only [hl270001_38] at HO_7)
              (try simp only [hl270001_38] at HO_270000)
              cases kq with
              | zero => exact absurd HA.out (by simp [laws_FnExactSolutions.j1])
              | succ kj38 =>
                have H := HA.out
                clear HA
                simp only [laws_FnExactSolutions.j1] at H
                by_cases c55 : x61_38 = true
                · subst c55
                  have H1 : (none) = some r := by rw [if_pos rfl] at H; exact H
                  clear H
                  have H := H1
                  clear H1
                  exact absurd H (by simp)
                · replace c55 := Bool.eq_false_iff.mpr c55
                  subst c55
                  have H1 : ((laws_markIntSS.f kj38 t270 1).bind fun bt286 => ((laws_heldIntSS.f kj38 bt286.2 1).bind fun t288 => (if t288 < 0 then (none) else (if t288 = bt286.1 then ((laws_toPuzzle.f kj38 l0_0 l0_1).bind fun bt289 => ((impl_Solutions.f kj38 bt289.1 bt289.2).bind fun bt295 => ((laws_eqIntSS.f kj38 bt295.1 t259).bind fun t299 => (if t299 = true then (laws_FnExactSolutions.j2 kj38 bt286.2 bt286.1 (bt295.2 != t262)) else (laws_FnExactSolutions.j2 kj38 bt286.2 bt286.1 true))))) else (none))))) = some r := by rw [if_neg (show ¬ (false = true) by decide)] at H; exact H
                  clear H
                  have H := H1
                  clear H1
                  replace H := Option.bind_eq_some_iff.mp H
                  obtain ⟨⟨t286, t287⟩, A560, H⟩ := H
                  replace H : ((laws_heldIntSS.f kj38 t287 1).bind fun t288 => (if t288 < 0 then (none) else (if t288 = t286 then ((laws_toPuzzle.f kj38 l0_0 l0_1).bind fun bt289 => ((impl_Solutions.f kj38 bt289.1 bt289.2).bind fun bt295 => ((laws_eqIntSS.f kj38 bt295.1 t259).bind fun t299 => (if t299 = true then (laws_FnExactSolutions.j2 kj38 t287 t286 (bt295.2 != t262)) else (laws_FnExactSolutions.j2 kj38 t287 t286 true))))) else (none)))) = some r := H
                  have A56 := Aside0.mk A560
                  clear A560
                  replace H := Option.bind_eq_some_iff.mp H
                  obtain ⟨t288, A570, H⟩ := H
                  replace H : (if t288 < 0 then (none) else (if t288 = t286 then ((laws_toPuzzle.f kj38 l0_0 l0_1).bind fun bt289 => ((impl_Solutions.f kj38 bt289.1 bt289.2).bind fun bt295 => ((laws_eqIntSS.f kj38 bt295.1 t259).bind fun t299 => (if t299 = true then (laws_FnExactSolutions.j2 kj38 t287 t286 (bt295.2 != t262)) else (laws_FnExactSolutions.j2 kj38 t287 t286 true))))) else (none))) = some r := H
                  have A57 := Aside0.mk A570
                  clear A570
                  by_cases c58 : t288 < 0
                  · rw [if_pos c58] at H
                    exact absurd H (by simp)
                  · rw [if_neg c58] at H
                    have c58b0 : decide (t288 < 0) = false := decide_eq_false c58
                    clear c58
                    by_cases c59 : t288 = t286
                    · rw [if_pos c59] at H
                      have c59b0 : (t288 == t286) = true := beq_iff_eq.mpr c59
                      have c59b1 : (t288 != t286) = false := bne_eq_false_iff_eq.mpr c59
                      clear c59
                      replace H := Option.bind_eq_some_iff.mp H
                      obtain ⟨⟨t289, t292⟩, A600, H⟩ := H
                      replace H : ((impl_Solutions.f kj38 t289 t292).bind fun bt295 => ((laws_eqIntSS.f kj38 bt295.1 t259).bind fun t299 => (if t299 = true then (laws_FnExactSolutions.j2 kj38 t287 t286 (bt295.2 != t262)) else (laws_FnExactSolutions.j2 kj38 t287 t286 true)))) = some r := H
                      have A60 := Aside0.mk A600
                      clear A600
                      replace H := Option.bind_eq_some_iff.mp H
                      obtain ⟨⟨t295, t298⟩, A610, H⟩ := H
                      replace H : ((laws_eqIntSS.f kj38 t295 t259).bind fun t299 => (if t299 = true then (laws_FnExactSolutions.j2 kj38 t287 t286 (t298 != t262)) else (laws_FnExactSolutions.j2 kj38 t287 t286 true))) = some r := H
                      have A61 := Aside0.mk A610
                      clear A610
                      have HC62 := Aside0.mk H
                      clear H
                      obtain ⟨Ao63, co63, eo63⟩ := Kd.S_slice HO_7.out
                      subst eo63
                      go_upto_region 25 with (first | ((with_reducible refine gate_callee (f := 86) rfl ?_); refine goesL_ (some 64) rfl rfl Try.func86 (by kernel_rfl) rfl #[.slice Ao63 t270.length co63, .int .i64 1] rfl (by (try simp only [List.map_toArray, List.map_cons, List.map_nil]); first | done | rfl | (simp only [List.length_drop, List.length_take]; rfl)) ?_; (with_reducible refine (laws_markIntSS.calls kj38 (fun k_ => L_ ≤ k_ ∧ some k_ ≠ (.slice Ao26 t284.length co26 : Value).ownBlock) (.slice Ao63 t270.length co63) t270 1 t286 t287 w _ ?side1 ?side2 A56.out).mono ?_); (case side1 => repeat (first | (with_reducible first | exact HB.out | apply below_alloc | apply pw_below_drewN | apply below_drew1 | refine below_set ?_ GE251.out | refine below_set ?_ GE269.out) | exact HB.out)); (case side2 => exact HO_7.out); rintro e w64 ⟨rfl, hy0, hb, hkp⟩; refine ⟨_, rfl, ?_⟩; replace HO_4 := Aside0.mk (Kd.S_mono (ok' := fun k_ => k_ < L_ ∧ some k_ ≠ (.slice Ao26 t284.length co26 : Value).ownBlock) (Kd.S_keptB (HO_4.out) hkp (fun k_ hk_ hs_ => absurd hs_.1 (Nat.not_le.2 hk_.1))) (fun k_ hk_ => ⟨hk_.1.1, hk_.1.2⟩)); replace HO_270000 := Aside0.mk (Kd.R_mono (ok' := fun k_ => True) (Kd.R_keptB (Kd.R_tight rfl HO_270000.out) hkp (fun k_ hk_ hs_ => absurd hs_.1 (Nat.not_le.2 (by first | exact HLrHO255_ k_ (hk_.trans (lev_any _ _ _ _ _)) | exact HLrHO265_ k_ (hk_.trans (lev_any _ _ _ _ _)) | exact HLrHO258_ k_ (hk_.trans (lev_any _ _ _ _ _)) | exact HLrHO268_ k_ (hk_.trans (lev_any _ _ _ _ _)))))) (fun k_ hk_ => trivial)); replace HO_270001 := Aside0.mk (Kd.R_mono (ok' := fun k_ => True) (Kd.R_keptB (Kd.R_tight rfl HO_270001.out) hkp (fun k_ hk_ hs_ => absurd hs_.1 (Nat.not_le.2 (by first | exact HLrHO255_ k_ (hk_.trans (lev_any _ _ _ _ _)) | exact HLrHO265_ k_ (hk_.trans (lev_any _ _ _ _ _)) | exact HLrHO258_ k_ (hk_.trans (lev_any _ _ _ _ _)) | exact HLrHO268_ k_ (hk_.trans (lev_any _ _ _ _ _)))))) (fun k_ hk_ => trivial)); replace BK251 := Aside0.mk (blk_kept (by (with_reducible repeat (first | refine blk_drewN ?_ _ | refine blk_drew ?_ | refine blk_alloc ?_ _)); exact BK251.out) hkp (fun hs_ => absurd hs_.1 (Nat.not_le.2 HLb251_))); replace BK269 := Aside0.mk (blk_kept (by (with_reducible repeat (first | refine blk_drewN ?_ _ | refine blk_drew ?_ | refine blk_alloc ?_ _)); exact BK269.out) hkp (fun hs_ => absurd hs_.1 (Nat.not_le.2 HLb269_))); replace HO_7 := Aside0.mk hy0; replace HB := Aside0.mk (hb); (try clear hb); (try clear hkp); (try clear hy0)) | ((with_reducible refine gate_callee (f := 87) rfl ?_); refine goesL_ (some 67) rfl rfl Try.func87 (by kernel_rfl) rfl #[.slice Ao63 t287.length co63, .int .i64 1] rfl (by (try simp only [List.map_toArray, List.map_cons, List.map_nil]); first | done | (rw [show t287.length = t270.length from (Kd.S_reads' HO_7.out).1.symm] <;> rfl) | rfl | (simp only [List.length_drop, List.length_take]; rfl)) ?_; (with_reducible refine (laws_heldIntSS.calls kj38 _ _ t287 1 t288 _ ?side1 ?side2 A57.out).mono ?_); (case side1 => repeat (first | exact (Kd.S_reads' HO_7.out).2.2 | (with_reducible refine Kd.C_alloc ?_ _) | (with_reducible refine Kd.C_drewN ?_ _) | (with_reducible refine Kd.C_drew ?_))); (case side2 => rw [show t287.length = t270.length from (Kd.S_reads' HO_7.out).1.symm]; exact (Kd.S_reads' HO_7.out).2.1); rintro e w' ⟨rfl, ⟨nd, rfl⟩⟩; refine ⟨_, rfl, ?_⟩; have hnb65 := NB251_269.out; have hnc65 := NB269_251.out; have hcz66_0 : w64.cell? ⟨gb251, 0, none⟩ = some (.slice A0_0 l0_0.length c0_0) := (blk_cell BK251.out 0).trans rfl; have hcz66_1 : w64.cell? ⟨gb251, 1, none⟩ = some (.slice A0_1 l0_1.length c0_1) := (blk_cell BK251.out 1).trans rfl; have hfz66_0 := blk_frozen BK251.out 0; have hfz66_1 := blk_frozen BK251.out 1) | ((with_reducible refine gate_callee (f := 39) rfl ?_); refine goesL_ (some 75) rfl rfl Try.func39 (by kernel_rfl) rfl #[.agg #[.slice A0_0 l0_0.length c0_0, .slice A0_1 l0_1.length c0_1]] rfl (by (try simp only [List.map_toArray, List.map_cons, List.map_nil]); first | done | rfl | (simp only [List.length_drop, List.length_take]; rfl)) ?_; (with_reducible refine (laws_toPuzzle.calls kj38 _ _ l0_0 _ _ l0_1 t289 t292 _ ?side1 ?side2 ?side3 ?side4 A60.out).mono ?_); (case side1 => repeat (first | exact (Kd.C_below HR0_0.out (by repeat (first | (with_reducible first | exact HB.out | apply below_alloc | apply pw_below_drewN | apply below_drew1 | refine below_set ?_ GE251.out | refine below_set ?_ GE269.out) | exact HB.out))) | (with_reducible refine Kd.C_alloc ?_ _) | (with_reducible refine Kd.C_drewN ?_ _) | (with_reducible refine Kd.C_drew ?_))); (case side2 => exact HC0_0.out); (case side3 => repeat (first | exact (Kd.C_below HR0_1.out (by repeat (first | (with_reducible first | exact HB.out | apply below_alloc | apply pw_below_drewN | apply below_drew1 | refine below_set ?_ GE251.out | refine below_set ?_ GE269.out) | exact HB.out))) | (with_reducible refine Kd.C_alloc ?_ _) | (with_reducible refine Kd.C_drewN ?_ _) | (with_reducible refine Kd.C_drew ?_))); (case side4 => exact HC0_1.out); rintro e w67 ⟨v290, v293, rfl, ho0, ho1, hb⟩; refine ⟨_, rfl, ?_⟩; replace HO_4 := Aside0.mk (Kd.S_elder' (by (with_reducible repeat (first | apply Kd.S_alloc | apply Kd.S_drewN | apply Kd.S_drew)); exact HO_4.out) (Kd.R_base ho1) hb); replace HO_7 := Aside0.mk (Kd.S_elder' (by (with_reducible repeat (first | apply Kd.S_alloc | apply Kd.S_drewN | apply Kd.S_drew)); exact HO_7.out) (Kd.R_base ho1) hb); have HO291 := Aside0.mk (Kd.R_lower (Kd.R_new' ho0 (Kd.R_lt (by (with_reducible repeat (first | apply Kd.R_alloc | apply Kd.R_drewN | apply Kd.R_drew)); exact HO_270000.out))) (below_size (by repeat (first | (with_reducible first | exact HB.out | apply below_alloc | apply pw_below_drewN | apply below_drew1 | refine below_set ?_ GE251.out | refine below_set ?_ GE269.out) | exact HB.out)))); replace HO_270000 := Aside0.mk (Kd.R_elder' (by (with_reducible repeat (first | apply Kd.R_alloc | apply Kd.R_drewN | apply Kd.R_drew)); exact HO_270000.out) (Kd.R_base ho0) hb); have HO294 := Aside0.mk (Kd.R_lower (Kd.R_new' ho1 (Kd.R_lt (by (with_reducible repeat (first | apply Kd.R_alloc | apply Kd.R_drewN | apply Kd.R_drew)); exact HO_270001.out))) (below_size (by repeat (first | (with_reducible first | exact HB.out | apply below_alloc | apply pw_below_drewN | apply below_drew1 | refine below_set ?_ GE251.out | refine below_set ?_ GE269.out) | exact HB.out)))); replace HO_270001 := Aside0.mk (Kd.R_elder' (by (with_reducible repeat (first | apply Kd.R_alloc | apply Kd.R_drewN | apply Kd.R_drew)); exact HO_270001.out) (Kd.R_base ho1) hb); replace BK251 := Aside0.mk (blk_below (g := gb251) (o := .cells #[.slice A0_0 l0_0.length c0_0, .slice A0_1 l0_1.length c0_1] 51 (0, 0)) (by (with_reducible repeat (first | refine blk_drewN ?_ _ | refine blk_drew ?_ | refine blk_alloc ?_ _)); exact BK251.out) hb); replace BK269 := Aside0.mk (blk_below (g := gb269) (o := .cells #[.slice Ao23 t283.length co23, .slice Ao26 t284.length co26] 54 (0, 0)) (by (with_reducible repeat (first | refine blk_drewN ?_ _ | refine blk_drew ?_ | refine blk_alloc ?_ _)); exact BK269.out) hb); replace HB := Aside0.mk (below_step (by repeat (first | (with_reducible first | exact HB.out | apply below_alloc | apply pw_below_drewN | apply below_drew1 | refine below_set ?_ GE251.out | refine below_set ?_ GE269.out) | exact HB.out)) hb); (try clear hb); (try clear hb2); (try clear hk); (try clear hi); (try clear ho0); (try clear ho1); obtain ⟨Ao68, co68, eo68⟩ := Kd.R_slice HO291.out; subst eo68; obtain ⟨Ao69, co69, eo69⟩ := Kd.R_slice HO294.out; subst eo69) | ((with_reducible refine gate_callee (f := 84) rfl ?_); refine goesL_ (some 76) rfl rfl Try.func84 (by kernel_rfl) rfl #[.agg #[.slice Ao68 t289.length co68, .slice Ao69 t292.length co69]] rfl (by (try simp only [List.map_toArray, List.map_cons, List.map_nil]); first | done | rfl | (simp only [List.length_drop, List.length_take]; rfl)) ?_; (with_reducible refine (impl_Solutions.calls kj38 _ _ t289 _ _ t292 t295 t298 _ ?side1 ?side2 ?side3 ?side4 A61.out).mono ?_); (case side1 => repeat (first | exact (Kd.R_reads' HO291.out).2.2 | (with_reducible refine Kd.C_alloc ?_ _) | (with_reducible refine Kd.C_drewN ?_ _) | (with_reducible refine Kd.C_drew ?_))); (case side2 => exact (Kd.R_reads' HO291.out).2.1); (case side3 => repeat (first | exact (Kd.R_reads' HO294.out).2.2 | (with_reducible refine Kd.C_alloc ?_ _) | (with_reducible refine Kd.C_drewN ?_ _) | (with_reducible refine Kd.C_drew ?_))); (case side4 => exact (Kd.R_reads' HO294.out).2.1); rintro e w70 ⟨v296, rfl, ho0, hb⟩; refine ⟨_, rfl, ?_⟩; replace HO_270000 := Aside0.mk (Kd.R_below (by (with_reducible repeat (first | apply Kd.R_alloc | apply Kd.R_drewN | apply Kd.R_drew)); exact HO_270000.out) hb); replace HO291 := Aside0.mk (Kd.R_below (by (with_reducible repeat (first | apply Kd.R_alloc | apply Kd.R_drewN | apply Kd.R_drew)); exact HO291.out) hb); have HO297 := Aside0.mk (Kd.S_lower (Kd.S_new' (Kd.S_new' (Kd.S_new' (Kd.S_new' ho0 (Kd.S_lt (by (with_reducible repeat (first | apply Kd.S_alloc | apply Kd.S_drewN | apply Kd.S_drew)); exact HO_4.out))) (Kd.S_lt (by (with_reducible repeat (first | apply Kd.S_alloc | apply Kd.S_drewN | apply Kd.S_drew)); exact HO_7.out))) (Kd.R_lt (by (with_reducible repeat (first | apply Kd.R_alloc | apply Kd.R_drewN | apply Kd.R_drew)); exact HO_270001.out))) (Kd.R_lt (by (with_reducible repeat (first | apply Kd.R_alloc | apply Kd.R_drewN | apply Kd.R_drew)); exact HO294.out))) (below_size (by repeat (first | (with_reducible first | exact HB.out | apply below_alloc | apply pw_below_drewN | apply below_drew1 | refine below_set ?_ GE251.out | refine below_set ?_ GE269.out) | exact HB.out)))); replace HO_4 := Aside0.mk (Kd.S_elder' (by (with_reducible repeat (first | apply Kd.S_alloc | apply Kd.S_drewN | apply Kd.S_drew)); exact HO_4.out) (Kd.S_base ho0) hb); replace HO_7 := Aside0.mk (Kd.S_elder' (by (with_reducible repeat (first | apply Kd.S_alloc | apply Kd.S_drewN | apply Kd.S_drew)); exact HO_7.out) (Kd.S_base ho0) hb); replace HO_270001 := Aside0.mk (Kd.R_below (by (with_reducible repeat (first | apply Kd.R_alloc | apply Kd.R_drewN | apply Kd.R_drew)); exact HO_270001.out) hb); replace HO294 := Aside0.mk (Kd.R_below (by (with_reducible repeat (first | apply Kd.R_alloc | apply Kd.R_drewN | apply Kd.R_drew)); exact HO294.out) hb); replace BK251 := Aside0.mk (blk_below (g := gb251) (o := .cells #[.slice A0_0 l0_0.length c0_0, .slice A0_1 l0_1.length c0_1] 51 (0, 0)) (by (with_reducible repeat (first | refine blk_drewN ?_ _ | refine blk_drew ?_ | refine blk_alloc ?_ _)); exact BK251.out) hb); replace BK269 := Aside0.mk (blk_below (g := gb269) (o := .cells #[.slice Ao23 t283.length co23, .slice Ao26 t284.length co26] 54 (0, 0)) (by (with_reducible repeat (first | refine blk_drewN ?_ _ | refine blk_drew ?_ | refine blk_alloc ?_ _)); exact BK269.out) hb); replace HB := Aside0.mk (below_step (by repeat (first | (with_reducible first | exact HB.out | apply below_alloc | apply pw_below_drewN | apply below_drew1 | refine below_set ?_ GE251.out | refine below_set ?_ GE269.out) | exact HB.out)) hb); (try clear hb); (try clear hb2); (try clear hk); (try clear hi); (try clear ho0)))
                      (try simp only [Act.put, List.setIfInBounds_toArray, List.set_cons_zero, List.set_cons_succ])
                      go_cut [87] (fun v87 wc => ∃ (kq : Nat) (x87_61 : Bool), v87 = .bool x87_61 ∧ Aside0 (laws_FnExactSolutions.j2 kq t287 t286 x87_61 = some r) ∧ Aside0 (kq ≤ kj38) ∧ Aside0 (Kd.S (Kd.slice 3 (Kd.int .i64)) 49 wc w.heap.size (fun k_ => some k_ ≠ ((.slice Ao26 t284.length co26) : Value).ownBlock) (.slice Ao63 t270.length co63) t287) ∧ Aside0 (Kd.R k25 25 wc w.heap.size (fun _ => True) (.slice Ao23 t283.length co23) t283) ∧ Aside0 (Kd.R (Kd.int .i64) 3 wc w.heap.size (fun _ => True) (.slice Ao26 t284.length co26) t284) ∧ Aside0 (wc.heap[gb251]? = some (.cells #[(.slice A0_0 l0_0.length c0_0), (.slice A0_1 l0_1.length c0_1)] 51 (0, 0))) ∧ Aside0 (wc.heap[gb269]? = some (.cells #[(.slice Ao23 t283.length co23), (.slice Ao26 t284.length co26)] 54 (0, 0))) ∧ Aside0 (Below w.heap.size w wc))
                      case first =>
                        have H := HC62.out
                        clear HC62
                        replace H := Option.bind_eq_some_iff.mp H
                        obtain ⟨t299, A710, H⟩ := H
                        replace H : (if t299 = true then (laws_FnExactSolutions.j2 kj38 t287 t286 (t298 != t262)) else (laws_FnExactSolutions.j2 kj38 t287 t286 true)) = some r := H
                        have A71 := Aside0.mk A710
                        clear A710
                        by_cases c72 : t299 = true
                        · subst c72
                          have H1 : (laws_FnExactSolutions.j2 kj38 t287 t286 (t298 != t262)) = some r := by rw [if_pos rfl] at H; exact H
                          clear H
                          have H := H1
                          clear H1
                          have H' := Aside0.mk H
                          clear H
                          obtain ⟨Ao73, co73, eo73⟩ := Kd.S_slice HO297.out
                          subst eo73
                          obtain ⟨Ao74, co74, eo74⟩ := Kd.S_slice HO_4.out
                          subst eo74
                          go_wp2_with (first | ((with_reducible refine gate_callee (f := 85) rfl ?_); refine goesL_ (some 81) rfl rfl Try.func85 (by kernel_rfl) rfl #[.slice Ao73 t295.length co73, .slice Ao74 t259.length co74] rfl (by (try simp only [List.map_toArray, List.map_cons, List.map_nil]); first | done | rfl | (simp only [List.length_drop, List.length_take]; rfl)) ?_; (with_reducible refine (laws_eqIntSS.calls kj38 _ _ t295 _ _ t259 true _ ?side1 ?side2 ?side3 ?side4 A71.out).mono ?_); (case side1 => repeat (first | exact (Kd.S_reads' HO297.out).2.2 | (with_reducible refine Kd.C_alloc ?_ _) | (with_reducible refine Kd.C_drewN ?_ _) | (with_reducible refine Kd.C_drew ?_))); (case side2 => exact (Kd.S_reads' HO297.out).2.1); (case side3 => repeat (first | exact (Kd.S_reads' HO_4.out).2.2 | (with_reducible refine Kd.C_alloc ?_ _) | (with_reducible refine Kd.C_drewN ?_ _) | (with_reducible refine Kd.C_drew ?_))); (case side4 => exact (Kd.S_reads' HO_4.out).2.1); rintro e w' ⟨rfl, ⟨nd, rfl⟩⟩; refine ⟨_, rfl, ?_⟩))
                          go_meet
                          case rel => exact ⟨_, ((t298 != t262)), (by first | rfl | (simp; done) | (simp [*]; done)), H', ⟨by have := HJ10.out; have := HJ38.out; first | omega | exact Nat.le_refl _⟩, ⟨by (try simp only [hl270000_38]); (try simp only [hl270001_38]); (with_reducible repeat (first | apply Kd.S_alloc | apply Kd.S_drewN | apply Kd.S_drew)); exact Kd.S_mono HO_7.out (fun _ hk => hk.1.1.2)⟩, ⟨by (try simp only [hl270000_38]); (try simp only [hl270001_38]); (with_reducible repeat (first | apply Kd.R_alloc | apply Kd.R_drewN | apply Kd.R_drew)); exact Kd.R_mono HO_270000.out (fun _ hk => trivial)⟩, ⟨by (try simp only [hl270000_38]); (try simp only [hl270001_38]); (with_reducible repeat (first | apply Kd.R_alloc | apply Kd.R_drewN | apply Kd.R_drew)); exact Kd.R_mono HO_270001.out (fun _ hk => trivial)⟩, ⟨by (try simp only [hl270000_38]); (try simp only [hl270001_38]); (with_reducible repeat (first | refine blk_drewN ?_ _ | refine blk_drew ?_ | refine blk_alloc ?_ _)); exact BK251.out⟩, ⟨by (try simp only [hl270000_38]); (try simp only [hl270001_38]); (with_reducible repeat (first | refine blk_drewN ?_ _ | refine blk_drew ?_ | refine blk_alloc ?_ _)); exact BK269.out⟩, ⟨by repeat (first | (with_reducible first | exact HB.out | apply below_alloc | apply pw_below_drewN | apply below_drew1 | refine below_set ?_ GE251.out | refine below_set ?_ GE269.out) | exact HB.out)⟩⟩
                        · replace c72 := Bool.eq_false_iff.mpr c72
                          subst c72
                          have H1 : (laws_FnExactSolutions.j2 kj38 t287 t286 true) = some r := by rw [if_neg (show ¬ (false = true) by decide)] at H; exact H
                          clear H
                          have H := H1
                          clear H1
                          have H' := Aside0.mk H
                          clear H
                          obtain ⟨Ao75, co75, eo75⟩ := Kd.S_slice HO297.out
                          subst eo75
                          obtain ⟨Ao76, co76, eo76⟩ := Kd.S_slice HO_4.out
                          subst eo76
                          go_wp2_with (first | ((with_reducible refine gate_callee (f := 85) rfl ?_); refine goesL_ (some 81) rfl rfl Try.func85 (by kernel_rfl) rfl #[.slice Ao75 t295.length co75, .slice Ao76 t259.length co76] rfl (by (try simp only [List.map_toArray, List.map_cons, List.map_nil]); first | done | rfl | (simp only [List.length_drop, List.length_take]; rfl)) ?_; (with_reducible refine (laws_eqIntSS.calls kj38 _ _ t295 _ _ t259 false _ ?side1 ?side2 ?side3 ?side4 A71.out).mono ?_); (case side1 => repeat (first | exact (Kd.S_reads' HO297.out).2.2 | (with_reducible refine Kd.C_alloc ?_ _) | (with_reducible refine Kd.C_drewN ?_ _) | (with_reducible refine Kd.C_drew ?_))); (case side2 => exact (Kd.S_reads' HO297.out).2.1); (case side3 => repeat (first | exact (Kd.S_reads' HO_4.out).2.2 | (with_reducible refine Kd.C_alloc ?_ _) | (with_reducible refine Kd.C_drewN ?_ _) | (with_reducible refine Kd.C_drew ?_))); (case side4 => exact (Kd.S_reads' HO_4.out).2.1); rintro e w' ⟨rfl, ⟨nd, rfl⟩⟩; refine ⟨_, rfl, ?_⟩))
                          go_meet
                          case rel => exact ⟨_, (true), (by first | rfl | (simp; done) | (simp [*]; done)), H', ⟨by have := HJ10.out; have := HJ38.out; first | omega | exact Nat.le_refl _⟩, ⟨by (try simp only [hl270000_38]); (try simp only [hl270001_38]); (with_reducible repeat (first | apply Kd.S_alloc | apply Kd.S_drewN | apply Kd.S_drew)); exact Kd.S_mono HO_7.out (fun _ hk => hk.1.1.2)⟩, ⟨by (try simp only [hl270000_38]); (try simp only [hl270001_38]); (with_reducible repeat (first | apply Kd.R_alloc | apply Kd.R_drewN | apply Kd.R_drew)); exact Kd.R_mono HO_270000.out (fun _ hk => trivial)⟩, ⟨by (try simp only [hl270000_38]); (try simp only [hl270001_38]); (with_reducible repeat (first | apply Kd.R_alloc | apply Kd.R_drewN | apply Kd.R_drew)); exact Kd.R_mono HO_270001.out (fun _ hk => trivial)⟩, ⟨by (try simp only [hl270000_38]); (try simp only [hl270001_38]); (with_reducible repeat (first | refine blk_drewN ?_ _ | refine blk_drew ?_ | refine blk_alloc ?_ _)); exact BK251.out⟩, ⟨by (try simp only [hl270000_38]); (try simp only [hl270001_38]); (with_reducible repeat (first | refine blk_drewN ?_ _ | refine blk_drew ?_ | refine blk_alloc ?_ _)); exact BK269.out⟩, ⟨by repeat (first | (with_reducible first | exact HB.out | apply below_alloc | apply pw_below_drewN | apply below_drew1 | refine below_set ?_ GE251.out | refine below_set ?_ GE269.out) | exact HB.out)⟩⟩
                      case rest =>
                        clear HC62
                        try clear c1
                        try clear c2
                        try clear p2
                        try clear c3
                        try clear c3b0
                        try clear c4
                        try clear c5
                        try clear c6
                        try clear c7
                        try clear c8
                        try clear c14
                        try clear c24
                        try clear c29
                        try clear c34
                        try clear c37
                        try clear c39
                        try clear c41
                        try clear c42
                        try clear c45
                        try clear c48
                        try clear c48b0
                        try clear c50
                        try clear c55
                        try clear c58
                        try clear c58b0
                        try clear c59
                        try clear c59b0
                        try clear c59b1
                        try clear c65
                        try clear c72
                        try clear hcz13_0
                        try clear hcz13_1
                        try clear hcz15_0
                        try clear hcz15_1
                        try clear hcz20_0
                        try clear hcz20_1
                        try clear hcz25_0
                        try clear hcz25_1
                        try clear hcz46_0
                        try clear hcz46_1
                        try clear hcz5_0
                        try clear hcz5_1
                        try clear hcz66_0
                        try clear hcz66_1
                        try clear hfz13_0
                        try clear hfz13_1
                        try clear hfz15_0
                        try clear hfz15_1
                        try clear hfz20_0
                        try clear hfz20_1
                        try clear hfz25_0
                        try clear hfz25_1
                        try clear hfz46_0
                        try clear hfz46_1
                        try clear hfz5_0
                        try clear hfz5_1
                        try clear hfz66_0
                        try clear hfz66_1
                        try clear p2
                        obtain ⟨kq, x87_61, rfl, HA, HJ61, HO_7, HO_270000, HO_270001, BK251, BK269, HB⟩ := hcut
                        have hl7_61 := (Kd.S_reads' HO_7.out).1
                        rw [hl7_61] at HO_7
                        (try simp only [hl7_61])
                        (try simp only [hl7_61] at BK251)
                        (try simp only [hl7_61] at BK269)
                        (try simp only [hl7_61] at HO_270000)
                        (try simp only [hl7_61] at HO_270001)
                        cases kq with
                        | zero => exact absurd HA.out (by simp [laws_FnExactSolutions.j2])
                        | succ kj61 =>
                          have H := HA.out
                          clear HA
                          simp only [laws_FnExactSolutions.j2] at H
                          by_cases c77 : x87_61 = true
                          · subst c77
                            have H1 : (none) = some r := by rw [if_pos rfl] at H; exact H
                            clear H
                            have H := H1
                            clear H1
                            exact absurd H (by simp)
                          · replace c77 := Bool.eq_false_iff.mpr c77
                            subst c77
                            have H1 : ((laws_heldIntSS.f kj61 t287 1).bind fun t300 => (if t300 < 0 then (none) else (if t300 = t286 then (some true) else (none)))) = some r := by rw [if_neg (show ¬ (false = true) by decide)] at H; exact H
                            clear H
                            have H := H1
                            clear H1
                            replace H := Option.bind_eq_some_iff.mp H
                            obtain ⟨t300, A780, H⟩ := H
                            replace H : (if t300 < 0 then (none) else (if t300 = t286 then (some true) else (none))) = some r := H
                            have A78 := Aside0.mk A780
                            clear A780
                            by_cases c79 : t300 < 0
                            · rw [if_pos c79] at H
                              exact absurd H (by simp)
                            · rw [if_neg c79] at H
                              have c79b0 : decide (t300 < 0) = false := decide_eq_false c79
                              clear c79
                              by_cases c80 : t300 = t286
                              · rw [if_pos c80] at H
                                have c80b0 : (t300 == t286) = true := beq_iff_eq.mpr c80
                                have c80b1 : (t300 != t286) = false := bne_eq_false_iff_eq.mpr c80
                                clear c80
                                obtain rfl := Option.some.inj H
                                go_wp2_with (first | ((with_reducible refine gate_callee (f := 87) rfl ?_); refine goesL_ (some 90) rfl rfl Try.func87 (by kernel_rfl) rfl #[.slice Ao63 t287.length co63, .int .i64 1] rfl (by (try simp only [List.map_toArray, List.map_cons, List.map_nil]); first | done | rfl | (simp only [List.length_drop, List.length_take]; rfl)) ?_; (with_reducible refine (laws_heldIntSS.calls kj61 _ _ t287 1 t300 _ ?side1 ?side2 A78.out).mono ?_); (case side1 => repeat (first | exact (Kd.S_reads' HO_7.out).2.2 | (with_reducible refine Kd.C_alloc ?_ _) | (with_reducible refine Kd.C_drewN ?_ _) | (with_reducible refine Kd.C_drew ?_))); (case side2 => exact (Kd.S_reads' HO_7.out).2.1); rintro e w' ⟨rfl, ⟨nd, rfl⟩⟩; refine ⟨_, rfl, ?_⟩))
                                go_ret
                                exact ⟨by first | rfl | (simp [errW_none, errW_some] <;> rfl) | (simp [*, errW_none, errW_some] <;> rfl), by repeat (first | (with_reducible first | exact HB.out | apply below_alloc | apply pw_below_drewN | apply below_drew1 | refine below_set ?_ GE251.out | refine below_set ?_ GE269.out) | exact HB.out)⟩
                              · rw [if_neg c80] at H
                                exact absurd H (by simp)
                    · rw [if_neg c59] at H
                      exact absurd H (by simp)
          · replace c37 := Bool.eq_false_iff.mpr c37
            subst c37
            have H1 : (none) = some r := by rw [if_neg (show ¬ (false = true) by decide)] at H; exact H
            clear H
            have H := H1
            clear H1
            exact absurd H (by simp)

end Go.Proofs.Ytgcnlhebfnaaoaa.QFnExactSolutions
