-- WRITTEN BY A PROGRAM OF THIS CLAIM'S AUTHOR (wprint.py)
import Derived.Test.YtafcjfilhdpgdaaQFnChancesComparedx0
import Derived.Test.YtafcjfilhdpgdaaQFnChancesComparedx1
import Derived.Test.YtafcjfilhdpgdaaQFnChancesComparedx3
import Derived.Test.YtafcjfilhdpgdaaQFnChancesComparedx6
import Derived.Test.YtafcjfilhdpgdaaQFnChancesComparedx10
import Derived.Test.YtafcjfilhdpgdaaQFnChancesComparedx11
import Derived.Test.YtafcjfilhdpgdaaQFnChancesComparedx13
import Derived.Test.YtafcjfilhdpgdaaQFnChancesComparedx15
import Derived.Test.YtafcjfilhdpgdaaQFnChancesComparedx16
namespace Go.Proofs.Ytafcjfilhdpgdaa.QFnChancesCompared
open Go.RowKit Go.Proofs.YtafcjfilhdpgdaaW.PrintWords Go.Proofs.YtafcjfilhdpgdaaW.PrintLast Go.Proofs.YtafcjfilhdpgdaaW.PrintMore
attribute [local go_sem] max2_int min2_int max_two min_two max_three min_three max_four min_four   -- for this text's walks alone
set_option linter.unusedVariables false
set_option linter.unusedSimpArgs false

attribute [local go_sem high] eqA27
/-! ### laws_FnChancesCompared: function 3 -/
mutual
def laws_FnChancesCompared.j0 : Nat → List Int → Option (Bool)
 | 0, _ => none
 | k + 1, x1 => (spec_DrawChanceOfBoth.f x1).bind fun bt460 => ((impl_ChanceOfBoth.f k bt460.1 bt460.2.1 bt460.2.2).bind fun bt463 => ((spec_ChanceOfBoth.f k bt460.1 bt460.2.1 bt460.2.2).bind fun bt467 => (if (bt463.2.2 != bt467.2.2) = true then (none) else (if (!(bt463.1 == bt467.1) || (!(bt463.2.1 == bt467.2.1))) = true then (none) else (if bt463.2.2 = true then ((impl_ChanceOfBoth.f k bt460.1 bt460.2.2 bt460.2.1).bind fun bt471 => ((impl_ChanceOfDoubles.f k bt460.1 (wrap64 (bt460.2.1 + bt460.2.2)) 0).bind fun bt475 => (if bt471.2.2 = true then (if (!(bt471.1 == bt463.1) || (!(bt471.2.1 == bt463.2.1))) = true then (none) else (if bt475.2.2 = true then (if (!(bt475.1 == bt463.1) || (!(bt475.2.1 == bt463.2.1))) = true then (none) else (laws_FnChancesCompared.j1 k x1)) else (none))) else (none)))) else (laws_FnChancesCompared.j1 k x1))))))
def laws_FnChancesCompared.j1 : Nat → List Int → Option (Bool)
 | 0, _ => none
 | k + 1, x1 => (spec_DrawChanceWithout.f x1).bind fun bt479 => ((impl_ChanceWithout.f k bt479.1 bt479.2.1 bt479.2.2).bind fun bt482 => ((spec_ChanceWithout.f k bt479.1 bt479.2.1 bt479.2.2).bind fun bt486 => ((spec_DrawChanceOfTimes.f x1).bind fun bt490 => ((impl_ChanceOfTimes.f k bt490.1 bt490.2.1 bt490.2.2).bind fun bt493 => ((spec_ChanceOfTimes.f k bt490.1 bt490.2.1 bt490.2.2).bind fun bt497 => ((impl_ChanceOfDoubles.f k bt490.1 bt490.2.1 bt490.2.2).bind fun bt501 => ((spec_ChanceOfDoubles.f k bt490.1 bt490.2.1 bt490.2.2).bind fun bt505 => ((spec_DrawCountWithPips.f x1).bind fun bt509 => ((impl_CountWithPips.f k bt509.1 bt509.2.1 bt509.2.2).bind fun bt512 => ((spec_CountWithPips.f k bt509.1 bt509.2.1 bt509.2.2).bind fun bt514 => ((impl_ChanceOfPips.f k bt509.1 bt509.2.1 bt509.2.2).bind fun bt516 => ((spec_ChanceOfPips.f k bt509.1 bt509.2.1 bt509.2.2).bind fun bt520 => (if (bt482.2.2 != bt486.2.2) = true then (none) else (if (!(bt482.1 == bt486.1) || (!(bt482.2.1 == bt486.2.1))) = true then (none) else (if (bt493.2.2 != bt497.2.2) = true then (none) else (if (!(bt493.1 == bt497.1) || (!(bt493.2.1 == bt497.2.1))) = true then (none) else (if (bt501.2.2 != bt505.2.2) = true then (none) else (if (!(bt501.1 == bt505.1) || (!(bt501.2.1 == bt505.2.1))) = true then (none) else (if (bt512.2 != bt514.2) = true then (none) else (if bt512.1 = bt514.1 then (if (bt516.2.2 != bt520.2.2) = true then (none) else (if (!(bt516.1 == bt520.1) || (!(bt516.2.1 == bt520.2.1))) = true then (none) else (if (bt516.2.2 != bt512.2) = true then (none) else (if bt482.2.2 = true then (laws_FnChancesCompared.j2 k x1 bt479.1 bt479.2.1 bt479.2.2 (decide (bt479.2.2 > 0)) bt482.1 bt482.2.1) else (laws_FnChancesCompared.j2 k x1 bt479.1 bt479.2.1 bt479.2.2 false bt482.1 bt482.2.1))))) else (none)))))))))))))))))))))
def laws_FnChancesCompared.j2 : Nat → List Int → Int → Int → Int → Bool → Int → Int → Option (Bool)
 | 0, _, _, _, _, _, _, _ => none
 | k + 1, x1, x24, x25, x26, x327, x486000, x486001 => if x327 = true then ((impl_ChanceWithout.f k x24 x25 (wrap64 (x26 - 1))).bind fun bt524 => (if bt524.2.2 = true then (if (wrap64 (x486000 * bt524.2.1)) > (wrap64 (bt524.1 * x486001)) then (none) else (laws_FnChancesCompared.j3 k x1)) else (none))) else (laws_FnChancesCompared.j3 k x1)
def laws_FnChancesCompared.j3 : Nat → List Int → Option (Bool)
 | 0, _ => none
 | k + 1, x1 => (spec_DrawCompareRatios.f k x1).bind fun bt528 => ((impl_CompareRatios.f k bt528.1 bt528.2.1 bt528.2.2.1 bt528.2.2.2).bind fun bt534 => ((spec_CompareRatios.f k bt528.1 bt528.2.1 bt528.2.2.1 bt528.2.2.2).bind fun bt536 => ((impl_CompareRatios.f k bt528.2.2.1 bt528.2.2.2 bt528.1 bt528.2.1).bind fun bt538 => (if (bt534.2 == bt536.2) = true then (if bt534.1 = bt536.1 then (if (bt538.2 == bt534.2) = true then (if bt538.1 = (wrap64 (-bt534.1)) then (if bt534.2 = true then (some ((bt534.1 == 0) == (bt528.1 == bt528.2.2.1 && (bt528.2.1 == bt528.2.2.2)))) else (some true)) else (none)) else (none)) else (none)) else (none)))))
end
def laws_FnChancesCompared.f (k : Nat) (l0 : List Int) (l1 : List Int) : Option (Bool) := (laws_big.f l0 l1).bind fun t445 => (if t445 = true then (some true) else ((spec_DrawChanceOfChain.f l0).bind fun bt446 => ((impl_ChanceOfChain.f k bt446.1 bt446.2).bind fun bt448 => ((spec_ChanceOfChain.f k bt446.1 bt446.2).bind fun bt452 => (if (bt448.2.2 != bt452.2.2) = true then (none) else (if (!(bt448.1 == bt452.1) || (!(bt448.2.1 == bt452.2.1))) = true then (none) else (if bt448.2.2 = true then ((impl_CountHands.f k bt446.1 bt446.2).bind fun bt456 => (if bt456.2 = true then ((laws_iTimes.f bt448.1 bt448.2.1 bt456.1).bind fun t458 => (if t458 < 0 then (none) else ((laws_iTimes.f bt448.1 bt448.2.1 bt456.1).bind fun t459 => (if t459 > bt456.1 then (none) else (if bt446.2 = 1 then (if (!(bt448.1 == 1) || (!(bt448.2.1 == 1))) = true then (none) else (laws_FnChancesCompared.j0 k l1)) else (laws_FnChancesCompared.j0 k l1)))))) else (none))) else (laws_FnChancesCompared.j0 k l1))))))))
theorem box3 {g g' : Nat} {o : Obj} {W W' : World} (h : W.heap[g]? = some o) (hg : g' = W.heap.size) (hb : Below W.heap.size W W') : Aside0 (g ≠ g') ∧ Aside0 (g' ≠ g) ∧ Aside0 (W'.heap[g]? = some o) :=
 ⟨⟨by rw [hg]; exact Nat.ne_of_lt (blk_lt h)⟩, ⟨by rw [hg]; exact Nat.ne_of_gt (blk_lt h)⟩, ⟨blk_below h hb⟩⟩
theorem hb3 {g' : Nat} {V W W' : World} (h : Below V.heap.size V W) (hg : g' = W.heap.size) (hb : Below W.heap.size W W') : Aside0 (V.heap.size ≤ g') ∧ Aside0 (V.heap.size ≤ g') ∧ Aside0 (Below V.heap.size V W') :=
 ⟨⟨by rw [hg]; exact below_size h⟩, ⟨by rw [hg]; exact below_size h⟩, ⟨below_step h hb⟩⟩
abbrev o_ : Bool := false
set_option maxHeartbeats 8000000 in
set_option maxRecDepth 100000 in
theorem laws_FnChancesCompared.calls (k : Nat) (A0 : Option Addr) (c0 : Nat) (l0 : List Int) (A1 : Option Addr) (c1 : Nat) (l1 : List Int) (r : Bool) (w : World) (hr0 : Kd.C (Kd.int .u8) w A0 l0.length l0) (hc0 : l0.length ≤ c0) (hr1 : Kd.C (Kd.int .u8) w A1 l1.length l1) (hc1 : l1.length ≤ c1) (h : laws_FnChancesCompared.f k l0 l1 = some r) :
  Calls Try.prog 3 #[.slice A0 l0.length c0, .slice A1 l1.length c1] w fun e w' => e = .returned (.bool r) ∧ Below w.heap.size w w' := by
 have hu27 := Try.underlying27
 have HR0 := Aside0.mk hr0
 have HC0 := Aside0.mk hc0
 clear hr0 hc0
 have HR1 := Aside0.mk hr1
 have HC1 := Aside0.mk hc1
 clear hr1 hc1
 have HB := Aside0.mk (Below.refl w.heap.size w)
 have H : ((laws_big.f l0 l1).bind fun t445 => (if t445 = true then (some true) else ((spec_DrawChanceOfChain.f l0).bind fun bt446 => ((impl_ChanceOfChain.f k bt446.1 bt446.2).bind fun bt448 => ((spec_ChanceOfChain.f k bt446.1 bt446.2).bind fun bt452 => (if (bt448.2.2 != bt452.2.2) = true then (none) else (if (!(bt448.1 == bt452.1) || (!(bt448.2.1 == bt452.2.1))) = true then (none) else (if bt448.2.2 = true then ((impl_CountHands.f k bt446.1 bt446.2).bind fun bt456 => (if bt456.2 = true then ((laws_iTimes.f bt448.1 bt448.2.1 bt456.1).bind fun t458 => (if t458 < 0 then (none) else ((laws_iTimes.f bt448.1 bt448.2.1 bt456.1).bind fun t459 => (if t459 > bt456.1 then (none) else (if bt446.2 = 1 then (if (!(bt448.1 == 1) || (!(bt448.2.1 == 1))) = true then (none) else (laws_FnChancesCompared.j0 k l1)) else (laws_FnChancesCompared.j0 k l1)))))) else (none))) else (laws_FnChancesCompared.j0 k l1))))))))) = some r := h
 clear h
 replace H := Option.bind_eq_some_iff.mp H
 obtain ⟨t445, A30, H⟩ := H
 replace H : (if t445 = true then (some true) else ((spec_DrawChanceOfChain.f l0).bind fun bt446 => ((impl_ChanceOfChain.f k bt446.1 bt446.2).bind fun bt448 => ((spec_ChanceOfChain.f k bt446.1 bt446.2).bind fun bt452 => (if (bt448.2.2 != bt452.2.2) = true then (none) else (if (!(bt448.1 == bt452.1) || (!(bt448.2.1 == bt452.2.1))) = true then (none) else (if bt448.2.2 = true then ((impl_CountHands.f k bt446.1 bt446.2).bind fun bt456 => (if bt456.2 = true then ((laws_iTimes.f bt448.1 bt448.2.1 bt456.1).bind fun t458 => (if t458 < 0 then (none) else ((laws_iTimes.f bt448.1 bt448.2.1 bt456.1).bind fun t459 => (if t459 > bt456.1 then (none) else (if bt446.2 = 1 then (if (!(bt448.1 == 1) || (!(bt448.2.1 == 1))) = true then (none) else (laws_FnChancesCompared.j0 k l1)) else (laws_FnChancesCompared.j0 k l1)))))) else (none))) else (laws_FnChancesCompared.j0 k l1)))))))) = some r := H
 have A3 := Aside0.mk A30
 clear A30
 by_cases c4 : t445 = true
 ·subst c4
  have H1 : (some true) = some r := by rw [if_pos rfl] at H; exact H
  clear H
  have H := H1
  clear H1
  obtain rfl := Option.some.inj H
  go_enter Try.func3, Try.ntmps3
  go_wp2_with (first | ((with_reducible refine gate_callee (f := 4) rfl ?_); refine goesL_ (some 65) rfl rfl Try.func4 (by kernel_rfl) rfl #[.slice A0 l0.length c0, .slice A1 l1.length c1] rfl (by simp only [List.map_toArray, List.map_cons, List.map_nil] <;> rfl) ?_; (with_reducible refine (laws_big.calls _ _ l0 _ _ l1 true _ ?side1 ?side2 ?side3 ?side4 A3.out).mono ?_); (case side1 => repeat (first | exact HR0.out | (with_reducible refine Kd.C_alloc ?_ _) | (with_reducible refine Kd.C_drewN ?_ _) | (with_reducible refine Kd.C_drew ?_))); (case side2 => exact HC0.out); (case side3 => repeat (first | exact HR1.out | (with_reducible refine Kd.C_alloc ?_ _) | (with_reducible refine Kd.C_drewN ?_ _) | (with_reducible refine Kd.C_drew ?_))); (case side4 => exact HC1.out); rintro e w' ⟨rfl, ⟨nd, rfl⟩⟩; refine ⟨_, rfl, ?_⟩))
  go_ret
  exact ⟨by first | rfl | (simp [errW_none, errW_some] <;> rfl) | (simp [*, errW_none, errW_some] <;> rfl), by repeat (first | (with_reducible first | exact HB.out | apply below_alloc | apply pw_below_drewN | apply below_drew1) | exact HB.out)⟩
 replace c4 := Bool.eq_false_iff.mpr c4
 subst c4
 have H1 : ((spec_DrawChanceOfChain.f l0).bind fun bt446 => ((impl_ChanceOfChain.f k bt446.1 bt446.2).bind fun bt448 => ((spec_ChanceOfChain.f k bt446.1 bt446.2).bind fun bt452 => (if (bt448.2.2 != bt452.2.2) = true then (none) else (if (!(bt448.1 == bt452.1) || (!(bt448.2.1 == bt452.2.1))) = true then (none) else (if bt448.2.2 = true then ((impl_CountHands.f k bt446.1 bt446.2).bind fun bt456 => (if bt456.2 = true then ((laws_iTimes.f bt448.1 bt448.2.1 bt456.1).bind fun t458 => (if t458 < 0 then (none) else ((laws_iTimes.f bt448.1 bt448.2.1 bt456.1).bind fun t459 => (if t459 > bt456.1 then (none) else (if bt446.2 = 1 then (if (!(bt448.1 == 1) || (!(bt448.2.1 == 1))) = true then (none) else (laws_FnChancesCompared.j0 k l1)) else (laws_FnChancesCompared.j0 k l1)))))) else (none))) else (laws_FnChancesCompared.j0 k l1))))))) = some r := by rw [if_neg (show ¬ (false = true) by decide)] at H; exact H
 clear H
 have H := H1
 clear H1
 replace H := Option.bind_eq_some_iff.mp H
 obtain ⟨⟨t446, t447⟩, A50, H⟩ := H
 replace H : ((impl_ChanceOfChain.f k t446 t447).bind fun bt448 => ((spec_ChanceOfChain.f k t446 t447).bind fun bt452 => (if (bt448.2.2 != bt452.2.2) = true then (none) else (if (!(bt448.1 == bt452.1) || (!(bt448.2.1 == bt452.2.1))) = true then (none) else (if bt448.2.2 = true then ((impl_CountHands.f k t446 t447).bind fun bt456 => (if bt456.2 = true then ((laws_iTimes.f bt448.1 bt448.2.1 bt456.1).bind fun t458 => (if t458 < 0 then (none) else ((laws_iTimes.f bt448.1 bt448.2.1 bt456.1).bind fun t459 => (if t459 > bt456.1 then (none) else (if t447 = 1 then (if (!(bt448.1 == 1) || (!(bt448.2.1 == 1))) = true then (none) else (laws_FnChancesCompared.j0 k l1)) else (laws_FnChancesCompared.j0 k l1)))))) else (none))) else (laws_FnChancesCompared.j0 k l1)))))) = some r := H
 have A5 := Aside0.mk A50
 clear A50
 replace H := Option.bind_eq_some_iff.mp H
 obtain ⟨⟨t448, t449, t450⟩, A60, H⟩ := H
 replace H : ((spec_ChanceOfChain.f k t446 t447).bind fun bt452 => (if (t450 != bt452.2.2) = true then (none) else (if (!(t448 == bt452.1) || (!(t449 == bt452.2.1))) = true then (none) else (if t450 = true then ((impl_CountHands.f k t446 t447).bind fun bt456 => (if bt456.2 = true then ((laws_iTimes.f t448 t449 bt456.1).bind fun t458 => (if t458 < 0 then (none) else ((laws_iTimes.f t448 t449 bt456.1).bind fun t459 => (if t459 > bt456.1 then (none) else (if t447 = 1 then (if (!(t448 == 1) || (!(t449 == 1))) = true then (none) else (laws_FnChancesCompared.j0 k l1)) else (laws_FnChancesCompared.j0 k l1)))))) else (none))) else (laws_FnChancesCompared.j0 k l1))))) = some r := H
 have A6 := Aside0.mk A60
 clear A60
 replace H := Option.bind_eq_some_iff.mp H
 obtain ⟨⟨t452, t453, t454⟩, A70, H⟩ := H
 replace H : (if (t450 != t454) = true then (none) else (if (!(t448 == t452) || (!(t449 == t453))) = true then (none) else (if t450 = true then ((impl_CountHands.f k t446 t447).bind fun bt456 => (if bt456.2 = true then ((laws_iTimes.f t448 t449 bt456.1).bind fun t458 => (if t458 < 0 then (none) else ((laws_iTimes.f t448 t449 bt456.1).bind fun t459 => (if t459 > bt456.1 then (none) else (if t447 = 1 then (if (!(t448 == 1) || (!(t449 == 1))) = true then (none) else (laws_FnChancesCompared.j0 k l1)) else (laws_FnChancesCompared.j0 k l1)))))) else (none))) else (laws_FnChancesCompared.j0 k l1)))) = some r := H
 have A7 := Aside0.mk A70
 clear A70
 by_cases c8 : (t450 != t454) = true
 ·rw [if_pos c8] at H
  exact absurd H (by simp)
 rw [if_neg c8] at H
 have c8b0 : (t450 != t454) = false := by simpa using c8
 (try (have c8b1 : decide (t450 = t454) = true := by simpa using c8))
 (try (have c8b2 : (t450 == t454) = true := by simpa using c8))
 clear c8
 by_cases c9 : (!(t448 == t452) || (!(t449 == t453))) = true
 ·rw [if_pos c9] at H
  exact absurd H (by simp)
 rw [if_neg c9] at H
 have c9b0 : (!(t448 == t452) || (!(t449 == t453))) = false := by simpa using c9
 clear c9
 have HC10 := Aside0.mk H
 clear H
 go_enter Try.func3, Try.ntmps3
 go_upto_if 91 with (first | ((with_reducible refine gate_callee (f := 4) rfl ?_); refine goesL_ (some 65) rfl rfl Try.func4 (by kernel_rfl) rfl #[.slice A0 l0.length c0, .slice A1 l1.length c1] rfl (by simp only [List.map_toArray, List.map_cons, List.map_nil] <;> rfl) ?_; (with_reducible refine (laws_big.calls _ _ l0 _ _ l1 false _ ?side1 ?side2 ?side3 ?side4 A3.out).mono ?_); (case side1 => repeat (first | exact HR0.out | (with_reducible refine Kd.C_alloc ?_ _) | (with_reducible refine Kd.C_drewN ?_ _) | (with_reducible refine Kd.C_drew ?_))); (case side2 => exact HC0.out); (case side3 => repeat (first | exact HR1.out | (with_reducible refine Kd.C_alloc ?_ _) | (with_reducible refine Kd.C_drewN ?_ _) | (with_reducible refine Kd.C_drew ?_))); (case side4 => exact HC1.out); rintro e w' ⟨rfl, ⟨nd, rfl⟩⟩; refine ⟨_, rfl, ?_⟩) | ((with_reducible refine gate_callee (f := 5) rfl ?_); refine goesL_ (some 68) rfl rfl Try.func5 (by kernel_rfl) rfl #[.slice A0 l0.length c0] rfl (by simp only [List.map_toArray, List.map_cons, List.map_nil] <;> rfl) ?_; (with_reducible refine (spec_DrawChanceOfChain.calls _ _ l0 t446 t447 _ ?side1 ?side2 A5.out).mono ?_); (case side1 => repeat (first | exact HR0.out | (with_reducible refine Kd.C_alloc ?_ _) | (with_reducible refine Kd.C_drewN ?_ _) | (with_reducible refine Kd.C_drew ?_))); (case side2 => exact HC0.out); rintro e w11 ⟨rfl, hb⟩; refine ⟨_, rfl, ?_⟩; replace HB := Aside0.mk (below_step (by repeat (first | (with_reducible first | exact HB.out | apply below_alloc | apply pw_below_drewN | apply below_drew1) | exact HB.out)) hb)) | ((with_reducible refine gate_callee (f := 6) rfl ?_); refine goesL_ (some 74) rfl rfl Try.func6 (by kernel_rfl) rfl #[.int .i64 t446, .int .i64 t447] rfl (by simp only [List.map_toArray, List.map_cons, List.map_nil] <;> rfl) ?_; (with_reducible refine (impl_ChanceOfChain.calls k t446 t447 t448 t449 t450 _ A6.out).mono ?_); rintro e w12 ⟨rfl, hb⟩; refine ⟨_, rfl, ?_⟩; replace HB := Aside0.mk (below_step (by repeat (first | (with_reducible first | exact HB.out | apply below_alloc | apply pw_below_drewN | apply below_drew1) | exact HB.out)) hb)) | ((with_reducible refine gate_dst (N := 7) rfl ?_); refine box_event ?hg (N := 7) ?hd (cs := #[.int .i64 0, .int .i64 0]) (t := 27) ?hr ?_; (case hd => rfl); (case hg => rfl); (case hr => first | (go_simp; done) | (go_simp; rfl)); intro gb451 hg w13 hbox hb; have BK451 := Aside0.mk (hbox); have GW451 := Aside0.mk ((by rw [hg]; exact (below_size (by repeat (first | (with_reducible first | exact HB.out | apply below_alloc | apply pw_below_drewN | apply below_drew1) | exact HB.out))) : w.heap.size ≤ gb451)); have GE451 := Aside0.mk ((by rw [hg]; exact (below_size (by repeat (first | (with_reducible first | exact HB.out | apply below_alloc | apply pw_below_drewN | apply below_drew1) | exact HB.out))) : w.heap.size ≤ gb451)); replace HB := Aside0.mk (below_step (by repeat (first | (with_reducible first | exact HB.out | apply below_alloc | apply pw_below_drewN | apply below_drew1) | exact HB.out)) hb); clear hb hbox hg; have hcz14_0 : w13.cell? ⟨gb451, 0, none⟩ = some (.int .i64 0) := (blk_cell BK451.out 0).trans rfl; have hcz14_1 : w13.cell? ⟨gb451, 1, none⟩ = some (.int .i64 0) := (blk_cell BK451.out 1).trans rfl; have hfz14_0 := blk_frozen BK451.out 0; have hfz14_1 := blk_frozen BK451.out 1) | ((with_reducible refine gate_callee (f := 7) rfl ?_); refine goesL_ (some 80) rfl rfl Try.func7 (by kernel_rfl) rfl #[.int .i64 t446, .int .i64 t447] rfl (by simp only [List.map_toArray, List.map_cons, List.map_nil] <;> rfl) ?_; (with_reducible refine (spec_ChanceOfChain.calls k t446 t447 t452 t453 t454 _ A7.out).mono ?_); rintro e w15 ⟨rfl, hb⟩; refine ⟨_, rfl, ?_⟩; replace BK451 := Aside0.mk (blk_below (g := gb451) (o := .cells #[.int .i64 t448, .int .i64 t449] 27 (0, 0)) (by (with_reducible repeat (first | refine blk_drewN ?_ _ | refine blk_drew ?_ | refine blk_alloc ?_ _)); refine blk_put (cs := #[.int .i64 t448, .int .i64 0]) ?_ 1 _ rfl; (with_reducible repeat (first | refine blk_drewN ?_ _ | refine blk_drew ?_ | refine blk_alloc ?_ _)); refine blk_put (cs := #[.int .i64 0, .int .i64 0]) ?_ 0 _ rfl; (with_reducible repeat (first | refine blk_drewN ?_ _ | refine blk_drew ?_ | refine blk_alloc ?_ _)); exact BK451.out) hb); replace HB := Aside0.mk (below_step (by repeat (first | (with_reducible first | exact HB.out | apply below_alloc | apply pw_below_drewN | apply below_drew1 | refine below_set ?_ GE451.out) | exact HB.out)) hb)) | ((with_reducible refine gate_dst (N := 9) rfl ?_); refine box_event ?hg (N := 9) ?hd (cs := #[.int .i64 0, .int .i64 0]) (t := 27) ?hr ?_; (case hd => rfl); (case hg => rfl); (case hr => first | (go_simp; done) | (go_simp; rfl)); intro gb455 hg w16 hbox hb; have BK455 := Aside0.mk (hbox); have GW455 := Aside0.mk ((by rw [hg]; exact (below_size (by repeat (first | (with_reducible first | exact HB.out | apply below_alloc | apply pw_below_drewN | apply below_drew1 | refine below_set ?_ GE451.out) | exact HB.out))) : w.heap.size ≤ gb455)); have GE455 := Aside0.mk ((by rw [hg]; exact (below_size (by repeat (first | (with_reducible first | exact HB.out | apply below_alloc | apply pw_below_drewN | apply below_drew1 | refine below_set ?_ GE451.out) | exact HB.out))) : w.heap.size ≤ gb455)); replace HB := Aside0.mk (below_step (by repeat (first | (with_reducible first | exact HB.out | apply below_alloc | apply pw_below_drewN | apply below_drew1 | refine below_set ?_ GE451.out) | exact HB.out)) hb); have NB451_455 := Aside0.mk ((by rw [hg]; exact Nat.ne_of_lt (blk_lt (g := gb451) (o := .cells #[.int .i64 t448, .int .i64 t449] 27 (0, 0)) (by (with_reducible repeat (first | refine blk_drewN ?_ _ | refine blk_drew ?_ | refine blk_alloc ?_ _)); exact BK451.out)) : gb451 ≠ gb455)); have NB455_451 := Aside0.mk ((by rw [hg]; exact Nat.ne_of_gt (blk_lt (g := gb451) (o := .cells #[.int .i64 t448, .int .i64 t449] 27 (0, 0)) (by (with_reducible repeat (first | refine blk_drewN ?_ _ | refine blk_drew ?_ | refine blk_alloc ?_ _)); exact BK451.out)) : gb455 ≠ gb451)); replace BK451 := Aside0.mk (blk_below (g := gb451) (o := .cells #[.int .i64 t448, .int .i64 t449] 27 (0, 0)) (by (with_reducible repeat (first | refine blk_drewN ?_ _ | refine blk_drew ?_ | refine blk_alloc ?_ _)); exact BK451.out) hb); clear hb hbox hg; have hnb17 := NB455_451.out; have hnc17 := NB451_455.out; have hcz18_0 : w16.cell? ⟨gb455, 0, none⟩ = some (.int .i64 0) := (blk_cell BK455.out 0).trans rfl; have hcz18_1 : w16.cell? ⟨gb455, 1, none⟩ = some (.int .i64 0) := (blk_cell BK455.out 1).trans rfl; have hfz18_0 := blk_frozen BK455.out 0; have hfz18_1 := blk_frozen BK455.out 1; have hcz19_0 : w16.cell? ⟨gb451, 0, none⟩ = some (.int .i64 t448) := (blk_cell BK451.out 0).trans rfl; have hcz19_1 : w16.cell? ⟨gb451, 1, none⟩ = some (.int .i64 t449) := (blk_cell BK451.out 1).trans rfl; have hfz19_0 := blk_frozen BK451.out 0; have hfz19_1 := blk_frozen BK451.out 1))
 (try simp only [Act.put, List.setIfInBounds_toArray, List.set_cons_zero, List.set_cons_succ])
 go_cut [] (fun wc => ∃ (kq : Nat), Aside0 (laws_FnChancesCompared.j0 kq l1 = some r) ∧ Aside0 (kq ≤ k) ∧ Aside0 (Below w.heap.size w wc))
 case first => as_aux_lemma =>
  have H := HC10.out
  clear HC10
  by_cases c20 : t450 = true
  rotate_left
  ·replace c20 := Bool.eq_false_iff.mpr c20
   subst c20
   have H1 : (laws_FnChancesCompared.j0 k l1) = some r := by rw [if_neg (show ¬ (false = true) by decide)] at H; exact H
   clear H
   have H := H1
   clear H1
   have H' := Aside0.mk H
   clear H
   go_wp2
   go_meet
   case rel => exact ⟨_, H', ⟨by first | omega | exact Nat.le_refl _⟩, ⟨by repeat (first | (with_reducible first | exact HB.out | apply below_alloc | apply pw_below_drewN | apply below_drew1 | refine below_set ?_ GE451.out | refine below_set ?_ GE455.out) | exact HB.out)⟩⟩
  subst c20
  have H1 : ((impl_CountHands.f k t446 t447).bind fun bt456 => (if bt456.2 = true then ((laws_iTimes.f t448 t449 bt456.1).bind fun t458 => (if t458 < 0 then (none) else ((laws_iTimes.f t448 t449 bt456.1).bind fun t459 => (if t459 > bt456.1 then (none) else (if t447 = 1 then (if (!(t448 == 1) || (!(t449 == 1))) = true then (none) else (laws_FnChancesCompared.j0 k l1)) else (laws_FnChancesCompared.j0 k l1)))))) else (none))) = some r := by rw [if_pos rfl] at H; exact H
  clear H
  have H := H1
  clear H1
  replace H := Option.bind_eq_some_iff.mp H
  obtain ⟨⟨t456, t457⟩, A210, H⟩ := H
  replace H : (if t457 = true then ((laws_iTimes.f t448 t449 t456).bind fun t458 => (if t458 < 0 then (none) else ((laws_iTimes.f t448 t449 t456).bind fun t459 => (if t459 > t456 then (none) else (if t447 = 1 then (if (!(t448 == 1) || (!(t449 == 1))) = true then (none) else (laws_FnChancesCompared.j0 k l1)) else (laws_FnChancesCompared.j0 k l1)))))) else (none)) = some r := H
  have A21 := Aside0.mk A210
  clear A210
  by_cases c22 : t457 = true
  rotate_left
  ·replace c22 := Bool.eq_false_iff.mpr c22
   subst c22
   have H1 : (none) = some r := by rw [if_neg (show ¬ (false = true) by decide)] at H; exact H
   clear H
   have H := H1
   clear H1
   exact absurd H (by simp)
  subst c22
  have H1 : ((laws_iTimes.f t448 t449 t456).bind fun t458 => (if t458 < 0 then (none) else ((laws_iTimes.f t448 t449 t456).bind fun t459 => (if t459 > t456 then (none) else (if t447 = 1 then (if (!(t448 == 1) || (!(t449 == 1))) = true then (none) else (laws_FnChancesCompared.j0 k l1)) else (laws_FnChancesCompared.j0 k l1)))))) = some r := by rw [if_pos rfl] at H; exact H
  clear H
  have H := H1
  clear H1
  replace H := Option.bind_eq_some_iff.mp H
  obtain ⟨t458, A230, H⟩ := H
  replace H : (if t458 < 0 then (none) else ((laws_iTimes.f t448 t449 t456).bind fun t459 => (if t459 > t456 then (none) else (if t447 = 1 then (if (!(t448 == 1) || (!(t449 == 1))) = true then (none) else (laws_FnChancesCompared.j0 k l1)) else (laws_FnChancesCompared.j0 k l1))))) = some r := H
  have A23 := Aside0.mk A230
  clear A230
  by_cases c24 : t458 < 0
  ·rw [if_pos c24] at H
   exact absurd H (by simp)
  rw [if_neg c24] at H
  have c24b0 : decide (t458 < 0) = false := decide_eq_false c24
  clear c24
  (first | rw [c24b0] | (simp only [i64_w, i32_w]; rw [c24b0]) | skip)
  replace H := Option.bind_eq_some_iff.mp H
  obtain ⟨t459, A250, H⟩ := H
  replace H : (if t459 > t456 then (none) else (if t447 = 1 then (if (!(t448 == 1) || (!(t449 == 1))) = true then (none) else (laws_FnChancesCompared.j0 k l1)) else (laws_FnChancesCompared.j0 k l1))) = some r := H
  have A25 := Aside0.mk A250
  clear A250
  by_cases c26 : t459 > t456
  ·rw [if_pos c26] at H
   exact absurd H (by simp)
  rw [if_neg c26] at H
  have c26b0 : decide (t456 < t459) = false := decide_eq_false c26
  clear c26
  by_cases c27 : t447 = 1
  rotate_left
  ·rw [if_neg c27] at H
   have c27b0 : (t447 == 1) = false := beq_eq_false_iff_ne.mpr c27
   have c27b1 : (t447 != 1) = true := bne_iff_ne.mpr c27
   have H' := Aside0.mk H
   clear H
   go_wp2_with (first | ((with_reducible refine gate_callee (f := 8) rfl ?_); refine goesL_ (some 95) rfl rfl Try.func8 (by kernel_rfl) rfl #[.int .i64 t446, .int .i64 t447] rfl (by simp only [List.map_toArray, List.map_cons, List.map_nil] <;> rfl) ?_; (with_reducible refine (impl_CountHands.calls k t446 t447 t456 true _ A21.out).mono ?_); rintro e w' ⟨rfl, ⟨nd, rfl⟩⟩; refine ⟨_, rfl, ?_⟩; have hnb35 := NB451_455.out; have hnc35 := NB455_451.out; have hcz36_0 : w16.cell? ⟨gb451, 0, none⟩ = some (.int .i64 t448) := (blk_cell BK451.out 0).trans rfl; have hcz36_1 : w16.cell? ⟨gb451, 1, none⟩ = some (.int .i64 t449) := (blk_cell BK451.out 1).trans rfl; have hfz36_0 := blk_frozen BK451.out 0; have hfz36_1 := blk_frozen BK451.out 1) | (go_at_call 9; (with_reducible refine (laws_iTimes.calls t448 t449 t456 t458 _ A23.out).mono ?_); rintro e w37 ⟨rfl, hb⟩; replace BK451 := Aside0.mk (blk_below (g := gb451) (o := .cells #[.int .i64 t448, .int .i64 t449] 27 (0, 0)) (by (with_reducible repeat (first | refine blk_drewN ?_ _ | refine blk_drew ?_ | refine blk_alloc ?_ _)); refine blk_far ?_ NB451_455.out _; (with_reducible repeat (first | refine blk_drewN ?_ _ | refine blk_drew ?_ | refine blk_alloc ?_ _)); refine blk_far ?_ NB451_455.out _; (with_reducible repeat (first | refine blk_drewN ?_ _ | refine blk_drew ?_ | refine blk_alloc ?_ _)); exact BK451.out) hb); replace BK455 := Aside0.mk (blk_below (g := gb455) (o := .cells #[.int .i64 t452, .int .i64 t453] 27 (0, 0)) (by (with_reducible repeat (first | refine blk_drewN ?_ _ | refine blk_drew ?_ | refine blk_alloc ?_ _)); refine blk_put (cs := #[.int .i64 t452, .int .i64 0]) ?_ 1 _ rfl; (with_reducible repeat (first | refine blk_drewN ?_ _ | refine blk_drew ?_ | refine blk_alloc ?_ _)); refine blk_put (cs := #[.int .i64 0, .int .i64 0]) ?_ 0 _ rfl; (with_reducible repeat (first | refine blk_drewN ?_ _ | refine blk_drew ?_ | refine blk_alloc ?_ _)); exact BK455.out) hb); replace HB := Aside0.mk (below_step (by repeat (first | (with_reducible first | exact HB.out | apply below_alloc | apply pw_below_drewN | apply below_drew1 | refine below_set ?_ GE451.out | refine below_set ?_ GE455.out) | exact HB.out)) hb); have hcz38_0 : w37.cell? ⟨gb451, 0, none⟩ = some (.int .i64 t448) := (blk_cell BK451.out 0).trans rfl; have hcz38_1 : w37.cell? ⟨gb451, 1, none⟩ = some (.int .i64 t449) := (blk_cell BK451.out 1).trans rfl; have hfz38_0 := blk_frozen BK451.out 0; have hfz38_1 := blk_frozen BK451.out 1) | (go_at_call 9; (with_reducible refine (laws_iTimes.calls t448 t449 t456 t459 _ A25.out).mono ?_); rintro e w39 ⟨rfl, hb⟩; replace BK451 := Aside0.mk (blk_below (g := gb451) (o := .cells #[.int .i64 t448, .int .i64 t449] 27 (0, 0)) (by (with_reducible repeat (first | refine blk_drewN ?_ _ | refine blk_drew ?_ | refine blk_alloc ?_ _)); exact BK451.out) hb); replace BK455 := Aside0.mk (blk_below (g := gb455) (o := .cells #[.int .i64 t452, .int .i64 t453] 27 (0, 0)) (by (with_reducible repeat (first | refine blk_drewN ?_ _ | refine blk_drew ?_ | refine blk_alloc ?_ _)); exact BK455.out) hb); replace HB := Aside0.mk (below_step (by repeat (first | (with_reducible first | exact HB.out | apply below_alloc | apply pw_below_drewN | apply below_drew1 | refine below_set ?_ GE451.out | refine below_set ?_ GE455.out) | exact HB.out)) hb)))
   go_meet
   case rel => exact ⟨_, H', ⟨by first | omega | exact Nat.le_refl _⟩, ⟨by repeat (first | (with_reducible first | exact HB.out | apply below_alloc | apply pw_below_drewN | apply below_drew1 | refine below_set ?_ GE451.out | refine below_set ?_ GE455.out) | exact HB.out)⟩⟩
  rw [if_pos c27] at H
  have c27b0 : (t447 == 1) = true := beq_iff_eq.mpr c27
  have c27b1 : (t447 != 1) = false := bne_eq_false_iff_eq.mpr c27
  clear c27
  by_cases c28 : (!(t448 == 1) || (!(t449 == 1))) = true
  ·rw [if_pos c28] at H
   exact absurd H (by simp)
  rw [if_neg c28] at H
  have c28b0 : (!(t448 == 1) || (!(t449 == 1))) = false := by simpa using c28
  clear c28
  have H' := Aside0.mk H
  clear H
  go_wp2_with (first | ((with_reducible refine gate_callee (f := 8) rfl ?_); refine goesL_ (some 95) rfl rfl Try.func8 (by kernel_rfl) rfl #[.int .i64 t446, .int .i64 t447] rfl (by simp only [List.map_toArray, List.map_cons, List.map_nil] <;> rfl) ?_; (with_reducible refine (impl_CountHands.calls k t446 t447 t456 true _ A21.out).mono ?_); rintro e w' ⟨rfl, ⟨nd, rfl⟩⟩; refine ⟨_, rfl, ?_⟩; have hnb29 := NB451_455.out; have hnc29 := NB455_451.out; have hcz30_0 : w16.cell? ⟨gb451, 0, none⟩ = some (.int .i64 t448) := (blk_cell BK451.out 0).trans rfl; have hcz30_1 : w16.cell? ⟨gb451, 1, none⟩ = some (.int .i64 t449) := (blk_cell BK451.out 1).trans rfl; have hfz30_0 := blk_frozen BK451.out 0; have hfz30_1 := blk_frozen BK451.out 1) | (go_at_call 9; (with_reducible refine (laws_iTimes.calls t448 t449 t456 t458 _ A23.out).mono ?_); rintro e w31 ⟨rfl, hb⟩; replace BK451 := Aside0.mk (blk_below (g := gb451) (o := .cells #[.int .i64 t448, .int .i64 t449] 27 (0, 0)) (by (with_reducible repeat (first | refine blk_drewN ?_ _ | refine blk_drew ?_ | refine blk_alloc ?_ _)); refine blk_far ?_ NB451_455.out _; (with_reducible repeat (first | refine blk_drewN ?_ _ | refine blk_drew ?_ | refine blk_alloc ?_ _)); refine blk_far ?_ NB451_455.out _; (with_reducible repeat (first | refine blk_drewN ?_ _ | refine blk_drew ?_ | refine blk_alloc ?_ _)); exact BK451.out) hb); replace BK455 := Aside0.mk (blk_below (g := gb455) (o := .cells #[.int .i64 t452, .int .i64 t453] 27 (0, 0)) (by (with_reducible repeat (first | refine blk_drewN ?_ _ | refine blk_drew ?_ | refine blk_alloc ?_ _)); refine blk_put (cs := #[.int .i64 t452, .int .i64 0]) ?_ 1 _ rfl; (with_reducible repeat (first | refine blk_drewN ?_ _ | refine blk_drew ?_ | refine blk_alloc ?_ _)); refine blk_put (cs := #[.int .i64 0, .int .i64 0]) ?_ 0 _ rfl; (with_reducible repeat (first | refine blk_drewN ?_ _ | refine blk_drew ?_ | refine blk_alloc ?_ _)); exact BK455.out) hb); replace HB := Aside0.mk (below_step (by repeat (first | (with_reducible first | exact HB.out | apply below_alloc | apply pw_below_drewN | apply below_drew1 | refine below_set ?_ GE451.out | refine below_set ?_ GE455.out) | exact HB.out)) hb); have hcz32_0 : w31.cell? ⟨gb451, 0, none⟩ = some (.int .i64 t448) := (blk_cell BK451.out 0).trans rfl; have hcz32_1 : w31.cell? ⟨gb451, 1, none⟩ = some (.int .i64 t449) := (blk_cell BK451.out 1).trans rfl; have hfz32_0 := blk_frozen BK451.out 0; have hfz32_1 := blk_frozen BK451.out 1) | (go_at_call 9; (with_reducible refine (laws_iTimes.calls t448 t449 t456 t459 _ A25.out).mono ?_); rintro e w33 ⟨rfl, hb⟩; replace BK451 := Aside0.mk (blk_below (g := gb451) (o := .cells #[.int .i64 t448, .int .i64 t449] 27 (0, 0)) (by (with_reducible repeat (first | refine blk_drewN ?_ _ | refine blk_drew ?_ | refine blk_alloc ?_ _)); exact BK451.out) hb); replace BK455 := Aside0.mk (blk_below (g := gb455) (o := .cells #[.int .i64 t452, .int .i64 t453] 27 (0, 0)) (by (with_reducible repeat (first | refine blk_drewN ?_ _ | refine blk_drew ?_ | refine blk_alloc ?_ _)); exact BK455.out) hb); replace HB := Aside0.mk (below_step (by repeat (first | (with_reducible first | exact HB.out | apply below_alloc | apply pw_below_drewN | apply below_drew1 | refine below_set ?_ GE451.out | refine below_set ?_ GE455.out) | exact HB.out)) hb); have hcz34_0 : w33.cell? ⟨gb451, 0, none⟩ = some (.int .i64 t448) := (blk_cell BK451.out 0).trans rfl; have hcz34_1 : w33.cell? ⟨gb451, 1, none⟩ = some (.int .i64 t449) := (blk_cell BK451.out 1).trans rfl; have hfz34_0 := blk_frozen BK451.out 0; have hfz34_1 := blk_frozen BK451.out 1))
  go_meet
  case rel => exact ⟨_, H', ⟨by first | omega | exact Nat.le_refl _⟩, ⟨by repeat (first | (with_reducible first | exact HB.out | apply below_alloc | apply pw_below_drewN | apply below_drew1 | refine below_set ?_ GE451.out | refine below_set ?_ GE455.out) | exact HB.out)⟩⟩
 case rest => as_aux_lemma =>
  clear HC10
  try clear c1
  try clear c2
  try clear p2
  try clear c3
  try clear c4
  try clear c5
  try clear c6
  try clear c7
  try clear c8
  try clear c8b0
  try clear c8b1
  try clear c8b2
  try clear c9
  try clear c9b0
  try clear c17
  try clear c20
  try clear c22
  try clear c24
  try clear c24b0
  try clear c26
  try clear c26b0
  try clear c27
  try clear c27b0
  try clear c27b1
  try clear c28
  try clear c28b0
  try clear c29
  try clear c35
  try clear hcz14_0
  try clear hcz14_1
  try clear hcz18_0
  try clear hcz18_1
  try clear hcz19_0
  try clear hcz19_1
  try clear hcz30_0
  try clear hcz30_1
  try clear hcz32_0
  try clear hcz32_1
  try clear hcz34_0
  try clear hcz34_1
  try clear hcz36_0
  try clear hcz36_1
  try clear hcz38_0
  try clear hcz38_1
  try clear hfz14_0
  try clear hfz14_1
  try clear hfz18_0
  try clear hfz18_1
  try clear hfz19_0
  try clear hfz19_1
  try clear hfz30_0
  try clear hfz30_1
  try clear hfz32_0
  try clear hfz32_1
  try clear hfz34_0
  try clear hfz34_1
  try clear hfz36_0
  try clear hfz36_1
  try clear hfz38_0
  try clear hfz38_1
  obtain ⟨kq, HA, HJ9, HB⟩ := hcut
  cases kq with
  | zero => exact absurd HA.out (by simp [laws_FnChancesCompared.j0])
  | succ kj9 =>
   have H := HA.out
   clear HA
   simp only [laws_FnChancesCompared.j0] at H
   replace H := Option.bind_eq_some_iff.mp H
   obtain ⟨⟨t460, t461, t462⟩, A400, H⟩ := H
   replace H : ((impl_ChanceOfBoth.f kj9 t460 t461 t462).bind fun bt463 => ((spec_ChanceOfBoth.f kj9 t460 t461 t462).bind fun bt467 => (if (bt463.2.2 != bt467.2.2) = true then (none) else (if (!(bt463.1 == bt467.1) || (!(bt463.2.1 == bt467.2.1))) = true then (none) else (if bt463.2.2 = true then ((impl_ChanceOfBoth.f kj9 t460 t462 t461).bind fun bt471 => ((impl_ChanceOfDoubles.f kj9 t460 (wrap64 (t461 + t462)) 0).bind fun bt475 => (if bt471.2.2 = true then (if (!(bt471.1 == bt463.1) || (!(bt471.2.1 == bt463.2.1))) = true then (none) else (if bt475.2.2 = true then (if (!(bt475.1 == bt463.1) || (!(bt475.2.1 == bt463.2.1))) = true then (none) else (laws_FnChancesCompared.j1 kj9 l1)) else (none))) else (none)))) else (laws_FnChancesCompared.j1 kj9 l1)))))) = some r := H
   have A40 := Aside0.mk A400
   clear A400
   replace H := Option.bind_eq_some_iff.mp H
   obtain ⟨⟨t463, t464, t465⟩, A410, H⟩ := H
   replace H : ((spec_ChanceOfBoth.f kj9 t460 t461 t462).bind fun bt467 => (if (t465 != bt467.2.2) = true then (none) else (if (!(t463 == bt467.1) || (!(t464 == bt467.2.1))) = true then (none) else (if t465 = true then ((impl_ChanceOfBoth.f kj9 t460 t462 t461).bind fun bt471 => ((impl_ChanceOfDoubles.f kj9 t460 (wrap64 (t461 + t462)) 0).bind fun bt475 => (if bt471.2.2 = true then (if (!(bt471.1 == t463) || (!(bt471.2.1 == t464))) = true then (none) else (if bt475.2.2 = true then (if (!(bt475.1 == t463) || (!(bt475.2.1 == t464))) = true then (none) else (laws_FnChancesCompared.j1 kj9 l1)) else (none))) else (none)))) else (laws_FnChancesCompared.j1 kj9 l1))))) = some r := H
   have A41 := Aside0.mk A410
   clear A410
   replace H := Option.bind_eq_some_iff.mp H
   obtain ⟨⟨t467, t468, t469⟩, A420, H⟩ := H
   replace H : (if (t465 != t469) = true then (none) else (if (!(t463 == t467) || (!(t464 == t468))) = true then (none) else (if t465 = true then ((impl_ChanceOfBoth.f kj9 t460 t462 t461).bind fun bt471 => ((impl_ChanceOfDoubles.f kj9 t460 (wrap64 (t461 + t462)) 0).bind fun bt475 => (if bt471.2.2 = true then (if (!(bt471.1 == t463) || (!(bt471.2.1 == t464))) = true then (none) else (if bt475.2.2 = true then (if (!(bt475.1 == t463) || (!(bt475.2.1 == t464))) = true then (none) else (laws_FnChancesCompared.j1 kj9 l1)) else (none))) else (none)))) else (laws_FnChancesCompared.j1 kj9 l1)))) = some r := H
   have A42 := Aside0.mk A420
   clear A420
   by_cases c43 : (t465 != t469) = true
   ·rw [if_pos c43] at H
    exact absurd H (by simp)
   rw [if_neg c43] at H
   have c43b0 : (t465 != t469) = false := by simpa using c43
   (try (have c43b1 : decide (t465 = t469) = true := by simpa using c43))
   (try (have c43b2 : (t465 == t469) = true := by simpa using c43))
   clear c43
   by_cases c44 : (!(t463 == t467) || (!(t464 == t468))) = true
   ·rw [if_pos c44] at H
    exact absurd H (by simp)
   rw [if_neg c44] at H
   have c44b0 : (!(t463 == t467) || (!(t464 == t468))) = false := by simpa using c44
   clear c44
   have HC45 := Aside0.mk H
   clear H
   go_upto_if 150 with (first | ((with_reducible refine gate_callee (f := 10) rfl ?_); refine goesL_ (some 124) rfl rfl Try.func10 (by kernel_rfl) rfl #[.slice A1 l1.length c1] rfl (by simp only [List.map_toArray, List.map_cons, List.map_nil] <;> rfl) ?_; (with_reducible refine (spec_DrawChanceOfBoth.calls _ _ l1 t460 t461 t462 _ ?side1 ?side2 A40.out).mono ?_); (case side1 => repeat (first | exact (Kd.C_below HR1.out HB.out) | (with_reducible refine Kd.C_alloc ?_ _) | (with_reducible refine Kd.C_drewN ?_ _) | (with_reducible refine Kd.C_drew ?_))); (case side2 => exact HC1.out); rintro e w46 ⟨rfl, hb⟩; refine ⟨_, rfl, ?_⟩; replace HB := Aside0.mk (below_step HB.out hb)) | ((with_reducible refine gate_callee (f := 11) rfl ?_); refine goesL_ (some 132) rfl rfl Try.func11 (by kernel_rfl) rfl #[.int .i64 t460, .int .i64 t461, .int .i64 t462] rfl (by simp only [List.map_toArray, List.map_cons, List.map_nil] <;> rfl) ?_; (with_reducible refine (impl_ChanceOfBoth.calls kj9 t460 t461 t462 t463 t464 t465 _ A41.out).mono ?_); rintro e w47 ⟨rfl, hb⟩; refine ⟨_, rfl, ?_⟩; replace HB := Aside0.mk (below_step HB.out hb)) | ((with_reducible refine gate_dst (N := 16) rfl ?_); refine box_event ?hg (N := 16) ?hd (cs := #[.int .i64 0, .int .i64 0]) (t := 27) ?hr ?_; (case hd => rfl); (case hg => rfl); (case hr => first | (go_simp; done) | (go_simp; rfl)); intro gb466 hg w48 hbox hb; have BK466 := Aside0.mk (hbox); replace HB := hb3 HB.out hg hb; obtain ⟨GW466, GE466, HB⟩ := HB; clear hb hbox hg; have hcz49_0 : w48.cell? ⟨gb466, 0, none⟩ = some (.int .i64 0) := (blk_cell BK466.out 0).trans rfl; have hcz49_1 : w48.cell? ⟨gb466, 1, none⟩ = some (.int .i64 0) := (blk_cell BK466.out 1).trans rfl; have hfz49_0 := blk_frozen BK466.out 0; have hfz49_1 := blk_frozen BK466.out 1) | ((with_reducible refine gate_callee (f := 12) rfl ?_); refine goesL_ (some 139) rfl rfl Try.func12 (by kernel_rfl) rfl #[.int .i64 t460, .int .i64 t461, .int .i64 t462] rfl (by simp only [List.map_toArray, List.map_cons, List.map_nil] <;> rfl) ?_; (with_reducible refine (spec_ChanceOfBoth.calls kj9 t460 t461 t462 t467 t468 t469 _ A42.out).mono ?_); rintro e w50 ⟨rfl, hb⟩; refine ⟨_, rfl, ?_⟩; replace BK466 := Aside0.mk (blk_below (g := gb466) (o := .cells #[.int .i64 t463, .int .i64 t464] 27 (0, 0)) (blk_put (cs := #[.int .i64 t463, .int .i64 0]) (blk_put (cs := #[.int .i64 0, .int .i64 0]) BK466.out 0 _ rfl) 1 _ rfl) hb); replace HB := Aside0.mk (below_step (below_set (below_set HB.out GE466.out) GE466.out) hb)) | ((with_reducible refine gate_dst (N := 18) rfl ?_); refine box_event ?hg (N := 18) ?hd (cs := #[.int .i64 0, .int .i64 0]) (t := 27) ?hr ?_; (case hd => rfl); (case hg => rfl); (case hr => first | (go_simp; done) | (go_simp; rfl)); intro gb470 hg w51 hbox hb; have BK470 := Aside0.mk (hbox); replace HB := hb3 HB.out hg hb; obtain ⟨GW470, GE470, HB⟩ := HB; replace BK466 := box3 BK466.out hg hb; obtain ⟨NB466_470, NB470_466, BK466⟩ := BK466; clear hb hbox hg; have hnb52 := NB470_466.out; have hnc52 := NB466_470.out; have hcz53_0 : w51.cell? ⟨gb470, 0, none⟩ = some (.int .i64 0) := (blk_cell BK470.out 0).trans rfl; have hcz53_1 : w51.cell? ⟨gb470, 1, none⟩ = some (.int .i64 0) := (blk_cell BK470.out 1).trans rfl; have hfz53_0 := blk_frozen BK470.out 0; have hfz53_1 := blk_frozen BK470.out 1; have hcz54_0 : w51.cell? ⟨gb466, 0, none⟩ = some (.int .i64 t463) := (blk_cell BK466.out 0).trans rfl; have hcz54_1 : w51.cell? ⟨gb466, 1, none⟩ = some (.int .i64 t464) := (blk_cell BK466.out 1).trans rfl; have hfz54_0 := blk_frozen BK466.out 0; have hfz54_1 := blk_frozen BK466.out 1))
   (try simp only [Act.put, List.setIfInBounds_toArray, List.set_cons_zero, List.set_cons_succ])
   go_cut [] (fun wc => ∃ (kq : Nat), Aside0 (laws_FnChancesCompared.j1 kq l1 = some r) ∧ Aside0 (kq ≤ kj9) ∧ Aside0 (Below w.heap.size w wc))
   case first => as_aux_lemma =>
    have H := HC45.out
    clear HC45
    by_cases c55 : t465 = true
    rotate_left
    ·replace c55 := Bool.eq_false_iff.mpr c55
     subst c55
     have H1 : (laws_FnChancesCompared.j1 kj9 l1) = some r := by rw [if_neg (show ¬ (false = true) by decide)] at H; exact H
     clear H
     have H := H1
     clear H1
     have H' := Aside0.mk H
     clear H
     go_wp2
     go_meet
     case rel => exact ⟨_, H', ⟨by have := HJ9.out; first | omega | exact Nat.le_refl _⟩, ⟨by repeat (first | (with_reducible first | exact HB.out | apply below_alloc | apply pw_below_drewN | apply below_drew1 | refine below_set ?_ GE466.out | refine below_set ?_ GE470.out) | exact HB.out)⟩⟩
    subst c55
    have H1 : ((impl_ChanceOfBoth.f kj9 t460 t462 t461).bind fun bt471 => ((impl_ChanceOfDoubles.f kj9 t460 (wrap64 (t461 + t462)) 0).bind fun bt475 => (if bt471.2.2 = true then (if (!(bt471.1 == t463) || (!(bt471.2.1 == t464))) = true then (none) else (if bt475.2.2 = true then (if (!(bt475.1 == t463) || (!(bt475.2.1 == t464))) = true then (none) else (laws_FnChancesCompared.j1 kj9 l1)) else (none))) else (none)))) = some r := by rw [if_pos rfl] at H; exact H
    clear H
    have H := H1
    clear H1
    replace H := Option.bind_eq_some_iff.mp H
    obtain ⟨⟨t471, t472, t473⟩, A560, H⟩ := H
    replace H : ((impl_ChanceOfDoubles.f kj9 t460 (wrap64 (t461 + t462)) 0).bind fun bt475 => (if t473 = true then (if (!(t471 == t463) || (!(t472 == t464))) = true then (none) else (if bt475.2.2 = true then (if (!(bt475.1 == t463) || (!(bt475.2.1 == t464))) = true then (none) else (laws_FnChancesCompared.j1 kj9 l1)) else (none))) else (none))) = some r := H
    have A56 := Aside0.mk A560
    clear A560
    replace H := Option.bind_eq_some_iff.mp H
    obtain ⟨⟨t475, t476, t477⟩, A570, H⟩ := H
    replace H : (if t473 = true then (if (!(t471 == t463) || (!(t472 == t464))) = true then (none) else (if t477 = true then (if (!(t475 == t463) || (!(t476 == t464))) = true then (none) else (laws_FnChancesCompared.j1 kj9 l1)) else (none))) else (none)) = some r := H
    have A57 := Aside0.mk A570
    clear A570
    by_cases c58 : t473 = true
    rotate_left
    ·replace c58 := Bool.eq_false_iff.mpr c58
     subst c58
     have H1 : (none) = some r := by rw [if_neg (show ¬ (false = true) by decide)] at H; exact H
     clear H
     have H := H1
     clear H1
     exact absurd H (by simp)
    subst c58
    have H1 : (if (!(t471 == t463) || (!(t472 == t464))) = true then (none) else (if t477 = true then (if (!(t475 == t463) || (!(t476 == t464))) = true then (none) else (laws_FnChancesCompared.j1 kj9 l1)) else (none))) = some r := by rw [if_pos rfl] at H; exact H
    clear H
    have H := H1
    clear H1
    by_cases c59 : (!(t471 == t463) || (!(t472 == t464))) = true
    ·rw [if_pos c59] at H
     exact absurd H (by simp)
    rw [if_neg c59] at H
    have c59b0 : (!(t471 == t463) || (!(t472 == t464))) = false := by simpa using c59
    clear c59
    (first | rw [c59b0] | (simp only [i64_w, i32_w]; rw [c59b0]) | skip)
    by_cases c60 : t477 = true
    rotate_left
    ·replace c60 := Bool.eq_false_iff.mpr c60
     subst c60
     have H1 : (none) = some r := by rw [if_neg (show ¬ (false = true) by decide)] at H; exact H
     clear H
     have H := H1
     clear H1
     exact absurd H (by simp)
    subst c60
    have H1 : (if (!(t475 == t463) || (!(t476 == t464))) = true then (none) else (laws_FnChancesCompared.j1 kj9 l1)) = some r := by rw [if_pos rfl] at H; exact H
    clear H
    have H := H1
    clear H1
    by_cases c61 : (!(t475 == t463) || (!(t476 == t464))) = true
    ·rw [if_pos c61] at H
     exact absurd H (by simp)
    rw [if_neg c61] at H
    have c61b0 : (!(t475 == t463) || (!(t476 == t464))) = false := by simpa using c61
    clear c61
    have H' := Aside0.mk H
    clear H
    go_wp2_with (first | ((with_reducible refine gate_callee (f := 11) rfl ?_); refine goesL_ (some 155) rfl rfl Try.func11 (by kernel_rfl) rfl #[.int .i64 t460, .int .i64 t462, .int .i64 t461] rfl (by simp only [List.map_toArray, List.map_cons, List.map_nil] <;> rfl) ?_; (with_reducible refine (impl_ChanceOfBoth.calls kj9 t460 t462 t461 t471 t472 true _ A56.out).mono ?_); rintro e w62 ⟨rfl, hb⟩; refine ⟨_, rfl, ?_⟩; replace BK466 := Aside0.mk (blk_below (blk_far (blk_far BK466.out NB466_470.out _) NB466_470.out _) hb); replace BK470 := Aside0.mk (blk_below (g := gb470) (o := .cells #[.int .i64 t467, .int .i64 t468] 27 (0, 0)) (blk_put (cs := #[.int .i64 t467, .int .i64 0]) (blk_put (cs := #[.int .i64 0, .int .i64 0]) BK470.out 0 _ rfl) 1 _ rfl) hb); replace HB := Aside0.mk (below_step (below_set (below_set HB.out GE470.out) GE470.out) hb)) | ((with_reducible refine gate_dst (N := 20) rfl ?_); refine box_event ?hg (N := 20) ?hd (cs := #[.int .i64 0, .int .i64 0]) (t := 27) ?hr ?_; (case hd => rfl); (case hg => rfl); (case hr => first | (go_simp; done) | (go_simp; rfl)); intro gb474 hg w63 hbox hb; have BK474 := Aside0.mk (hbox); replace HB := hb3 HB.out hg hb; obtain ⟨GW474, GE474, HB⟩ := HB; replace BK466 := box3 BK466.out hg hb; obtain ⟨NB466_474, NB474_466, BK466⟩ := BK466; replace BK470 := box3 BK470.out hg hb; obtain ⟨NB470_474, NB474_470, BK470⟩ := BK470; clear hb hbox hg; have hnb64 := NB474_466.out; have hnc64 := NB466_474.out; have hnb65 := NB474_470.out; have hnc65 := NB470_474.out; have hcz66_0 : w63.cell? ⟨gb474, 0, none⟩ = some (.int .i64 0) := (blk_cell BK474.out 0).trans rfl; have hcz66_1 : w63.cell? ⟨gb474, 1, none⟩ = some (.int .i64 0) := (blk_cell BK474.out 1).trans rfl; have hfz66_0 := blk_frozen BK474.out 0; have hfz66_1 := blk_frozen BK474.out 1) | ((with_reducible refine gate_callee (f := 13) rfl ?_); refine goesL_ (some 163) rfl rfl Try.func13 (by kernel_rfl) rfl #[.int .i64 t460, .int .i64 (wrap64 (t461 + t462)), .int .i64 0] rfl (by simp only [List.map_toArray, List.map_cons, List.map_nil] <;> rfl) ?_; (with_reducible refine (impl_ChanceOfDoubles.calls kj9 t460 (wrap64 (t461 + t462)) 0 t475 t476 true _ A57.out).mono ?_); rintro e w67 ⟨rfl, hb⟩; refine ⟨_, rfl, ?_⟩; replace BK466 := Aside0.mk (blk_below (blk_far (blk_far BK466.out NB466_474.out _) NB466_474.out _) hb); replace BK470 := Aside0.mk (blk_below (blk_far (blk_far BK470.out NB470_474.out _) NB470_474.out _) hb); replace BK474 := Aside0.mk (blk_below (g := gb474) (o := .cells #[.int .i64 t471, .int .i64 t472] 27 (0, 0)) (blk_put (cs := #[.int .i64 t471, .int .i64 0]) (blk_put (cs := #[.int .i64 0, .int .i64 0]) BK474.out 0 _ rfl) 1 _ rfl) hb); replace HB := Aside0.mk (below_step (below_set (below_set HB.out GE474.out) GE474.out) hb)) | ((with_reducible refine gate_dst (N := 22) rfl ?_); refine box_event ?hg (N := 22) ?hd (cs := #[.int .i64 0, .int .i64 0]) (t := 27) ?hr ?_; (case hd => rfl); (case hg => rfl); (case hr => first | (go_simp; done) | (go_simp; rfl)); intro gb478 hg w68 hbox hb; have BK478 := Aside0.mk (hbox); replace HB := hb3 HB.out hg hb; obtain ⟨GW478, GE478, HB⟩ := HB; replace BK466 := box3 BK466.out hg hb; obtain ⟨NB466_478, NB478_466, BK466⟩ := BK466; replace BK470 := box3 BK470.out hg hb; obtain ⟨NB470_478, NB478_470, BK470⟩ := BK470; replace BK474 := box3 BK474.out hg hb; obtain ⟨NB474_478, NB478_474, BK474⟩ := BK474; clear hb hbox hg; have hnb69 := NB478_466.out; have hnc69 := NB466_478.out; have hnb70 := NB478_470.out; have hnc70 := NB470_478.out; have hnb71 := NB478_474.out; have hnc71 := NB474_478.out; have hcz72_0 : w68.cell? ⟨gb478, 0, none⟩ = some (.int .i64 0) := (blk_cell BK478.out 0).trans rfl; have hcz72_1 : w68.cell? ⟨gb478, 1, none⟩ = some (.int .i64 0) := (blk_cell BK478.out 1).trans rfl; have hfz72_0 := blk_frozen BK478.out 0; have hfz72_1 := blk_frozen BK478.out 1; have hcz73_0 : w68.cell? ⟨gb474, 0, none⟩ = some (.int .i64 t471) := (blk_cell BK474.out 0).trans rfl; have hcz73_1 : w68.cell? ⟨gb474, 1, none⟩ = some (.int .i64 t472) := (blk_cell BK474.out 1).trans rfl; have hfz73_0 := blk_frozen BK474.out 0; have hfz73_1 := blk_frozen BK474.out 1; have hnb74 := NB466_470.out; have hnc74 := NB470_466.out; have hcz75_0 : w68.cell? ⟨gb466, 0, none⟩ = some (.int .i64 t463) := (blk_cell BK466.out 0).trans rfl; have hcz75_1 : w68.cell? ⟨gb466, 1, none⟩ = some (.int .i64 t464) := (blk_cell BK466.out 1).trans rfl; have hfz75_0 := blk_frozen BK466.out 0; have hfz75_1 := blk_frozen BK466.out 1))
    go_meet
    case rel => exact ⟨_, H', ⟨by have := HJ9.out; first | omega | exact Nat.le_refl _⟩, ⟨by repeat (first | (with_reducible first | exact HB.out | apply below_alloc | apply pw_below_drewN | apply below_drew1 | refine below_set ?_ GE466.out | refine below_set ?_ GE470.out | refine below_set ?_ GE474.out | refine below_set ?_ GE478.out) | exact HB.out)⟩⟩
   case rest => as_aux_lemma =>
    clear HC45
    try clear c1
    try clear c2
    try clear p2
    try clear c3
    try clear c4
    try clear c5
    try clear c6
    try clear p6
    try clear c7
    try clear c8
    try clear c8b0
    try clear c8b1
    try clear c8b2
    try clear c9
    try clear c9b0
    try clear c10
    try clear c11
    try clear c12
    try clear c13
    try clear c17
    try clear c20
    try clear c22
    try clear c24
    try clear c24b0
    try clear c26
    try clear c26b0
    try clear c27
    try clear c27b0
    try clear c27b1
    try clear c28
    try clear c28b0
    try clear c29
    try clear c35
    try clear c43
    try clear c43b0
    try clear c43b1
    try clear c43b2
    try clear c44
    try clear c44b0
    try clear c52
    try clear c55
    try clear c58
    try clear c59
    try clear c59b0
    try clear c60
    try clear c61
    try clear c61b0
    try clear c64
    try clear p64
    try clear c65
    try clear c69
    try clear c70
    try clear c71
    try clear c74
    try clear hcz14_0
    try clear hcz14_1
    try clear hcz18_0
    try clear hcz18_1
    try clear hcz19_0
    try clear hcz19_1
    try clear hcz30_0
    try clear hcz30_1
    try clear hcz32_0
    try clear hcz32_1
    try clear hcz34_0
    try clear hcz34_1
    try clear hcz36_0
    try clear hcz36_1
    try clear hcz38_0
    try clear hcz38_1
    try clear hcz49_0
    try clear hcz49_1
    try clear hcz53_0
    try clear hcz53_1
    try clear hcz54_0
    try clear hcz54_1
    try clear hcz66_0
    try clear hcz66_1
    try clear hcz72_0
    try clear hcz72_1
    try clear hcz73_0
    try clear hcz73_1
    try clear hcz75_0
    try clear hcz75_1
    try clear hfz14_0
    try clear hfz14_1
    try clear hfz18_0
    try clear hfz18_1
    try clear hfz19_0
    try clear hfz19_1
    try clear hfz30_0
    try clear hfz30_1
    try clear hfz32_0
    try clear hfz32_1
    try clear hfz34_0
    try clear hfz34_1
    try clear hfz36_0
    try clear hfz36_1
    try clear hfz38_0
    try clear hfz38_1
    try clear hfz49_0
    try clear hfz49_1
    try clear hfz53_0
    try clear hfz53_1
    try clear hfz54_0
    try clear hfz54_1
    try clear hfz66_0
    try clear hfz66_1
    try clear hfz72_0
    try clear hfz72_1
    try clear hfz73_0
    try clear hfz73_1
    try clear hfz75_0
    try clear hfz75_1
    try clear p2
    obtain ⟨kq, HA, HJ44, HB⟩ := hcut
    cases kq with
    | zero => exact absurd HA.out (by simp [laws_FnChancesCompared.j1])
    | succ kj44 =>
     have H := HA.out
     clear HA
     simp only [laws_FnChancesCompared.j1] at H
     replace H := Option.bind_eq_some_iff.mp H
     obtain ⟨⟨t479, t480, t481⟩, A760, H⟩ := H
     replace H : ((impl_ChanceWithout.f kj44 t479 t480 t481).bind fun bt482 => ((spec_ChanceWithout.f kj44 t479 t480 t481).bind fun bt486 => ((spec_DrawChanceOfTimes.f l1).bind fun bt490 => ((impl_ChanceOfTimes.f kj44 bt490.1 bt490.2.1 bt490.2.2).bind fun bt493 => ((spec_ChanceOfTimes.f kj44 bt490.1 bt490.2.1 bt490.2.2).bind fun bt497 => ((impl_ChanceOfDoubles.f kj44 bt490.1 bt490.2.1 bt490.2.2).bind fun bt501 => ((spec_ChanceOfDoubles.f kj44 bt490.1 bt490.2.1 bt490.2.2).bind fun bt505 => ((spec_DrawCountWithPips.f l1).bind fun bt509 => ((impl_CountWithPips.f kj44 bt509.1 bt509.2.1 bt509.2.2).bind fun bt512 => ((spec_CountWithPips.f kj44 bt509.1 bt509.2.1 bt509.2.2).bind fun bt514 => ((impl_ChanceOfPips.f kj44 bt509.1 bt509.2.1 bt509.2.2).bind fun bt516 => ((spec_ChanceOfPips.f kj44 bt509.1 bt509.2.1 bt509.2.2).bind fun bt520 => (if (bt482.2.2 != bt486.2.2) = true then (none) else (if (!(bt482.1 == bt486.1) || (!(bt482.2.1 == bt486.2.1))) = true then (none) else (if (bt493.2.2 != bt497.2.2) = true then (none) else (if (!(bt493.1 == bt497.1) || (!(bt493.2.1 == bt497.2.1))) = true then (none) else (if (bt501.2.2 != bt505.2.2) = true then (none) else (if (!(bt501.1 == bt505.1) || (!(bt501.2.1 == bt505.2.1))) = true then (none) else (if (bt512.2 != bt514.2) = true then (none) else (if bt512.1 = bt514.1 then (if (bt516.2.2 != bt520.2.2) = true then (none) else (if (!(bt516.1 == bt520.1) || (!(bt516.2.1 == bt520.2.1))) = true then (none) else (if (bt516.2.2 != bt512.2) = true then (none) else (if bt482.2.2 = true then (laws_FnChancesCompared.j2 kj44 l1 t479 t480 t481 (decide (t481 > 0)) bt482.1 bt482.2.1) else (laws_FnChancesCompared.j2 kj44 l1 t479 t480 t481 false bt482.1 bt482.2.1))))) else (none))))))))))))))))))))) = some r := H
     have A76 := Aside0.mk A760
     clear A760
     replace H := Option.bind_eq_some_iff.mp H
     obtain ⟨⟨t482, t483, t484⟩, A770, H⟩ := H
     replace H : ((spec_ChanceWithout.f kj44 t479 t480 t481).bind fun bt486 => ((spec_DrawChanceOfTimes.f l1).bind fun bt490 => ((impl_ChanceOfTimes.f kj44 bt490.1 bt490.2.1 bt490.2.2).bind fun bt493 => ((spec_ChanceOfTimes.f kj44 bt490.1 bt490.2.1 bt490.2.2).bind fun bt497 => ((impl_ChanceOfDoubles.f kj44 bt490.1 bt490.2.1 bt490.2.2).bind fun bt501 => ((spec_ChanceOfDoubles.f kj44 bt490.1 bt490.2.1 bt490.2.2).bind fun bt505 => ((spec_DrawCountWithPips.f l1).bind fun bt509 => ((impl_CountWithPips.f kj44 bt509.1 bt509.2.1 bt509.2.2).bind fun bt512 => ((spec_CountWithPips.f kj44 bt509.1 bt509.2.1 bt509.2.2).bind fun bt514 => ((impl_ChanceOfPips.f kj44 bt509.1 bt509.2.1 bt509.2.2).bind fun bt516 => ((spec_ChanceOfPips.f kj44 bt509.1 bt509.2.1 bt509.2.2).bind fun bt520 => (if (t484 != bt486.2.2) = true then (none) else (if (!(t482 == bt486.1) || (!(t483 == bt486.2.1))) = true then (none) else (if (bt493.2.2 != bt497.2.2) = true then (none) else (if (!(bt493.1 == bt497.1) || (!(bt493.2.1 == bt497.2.1))) = true then (none) else (if (bt501.2.2 != bt505.2.2) = true then (none) else (if (!(bt501.1 == bt505.1) || (!(bt501.2.1 == bt505.2.1))) = true then (none) else (if (bt512.2 != bt514.2) = true then (none) else (if bt512.1 = bt514.1 then (if (bt516.2.2 != bt520.2.2) = true then (none) else (if (!(bt516.1 == bt520.1) || (!(bt516.2.1 == bt520.2.1))) = true then (none) else (if (bt516.2.2 != bt512.2) = true then (none) else (if t484 = true then (laws_FnChancesCompared.j2 kj44 l1 t479 t480 t481 (decide (t481 > 0)) t482 t483) else (laws_FnChancesCompared.j2 kj44 l1 t479 t480 t481 false t482 t483))))) else (none)))))))))))))))))))) = some r := H
     have A77 := Aside0.mk A770
     clear A770
     replace H := Option.bind_eq_some_iff.mp H
     obtain ⟨⟨t486, t487, t488⟩, A780, H⟩ := H
     replace H : ((spec_DrawChanceOfTimes.f l1).bind fun bt490 => ((impl_ChanceOfTimes.f kj44 bt490.1 bt490.2.1 bt490.2.2).bind fun bt493 => ((spec_ChanceOfTimes.f kj44 bt490.1 bt490.2.1 bt490.2.2).bind fun bt497 => ((impl_ChanceOfDoubles.f kj44 bt490.1 bt490.2.1 bt490.2.2).bind fun bt501 => ((spec_ChanceOfDoubles.f kj44 bt490.1 bt490.2.1 bt490.2.2).bind fun bt505 => ((spec_DrawCountWithPips.f l1).bind fun bt509 => ((impl_CountWithPips.f kj44 bt509.1 bt509.2.1 bt509.2.2).bind fun bt512 => ((spec_CountWithPips.f kj44 bt509.1 bt509.2.1 bt509.2.2).bind fun bt514 => ((impl_ChanceOfPips.f kj44 bt509.1 bt509.2.1 bt509.2.2).bind fun bt516 => ((spec_ChanceOfPips.f kj44 bt509.1 bt509.2.1 bt509.2.2).bind fun bt520 => (if (t484 != t488) = true then (none) else (if (!(t482 == t486) || (!(t483 == t487))) = true then (none) else (if (bt493.2.2 != bt497.2.2) = true then (none) else (if (!(bt493.1 == bt497.1) || (!(bt493.2.1 == bt497.2.1))) = true then (none) else (if (bt501.2.2 != bt505.2.2) = true then (none) else (if (!(bt501.1 == bt505.1) || (!(bt501.2.1 == bt505.2.1))) = true then (none) else (if (bt512.2 != bt514.2) = true then (none) else (if bt512.1 = bt514.1 then (if (bt516.2.2 != bt520.2.2) = true then (none) else (if (!(bt516.1 == bt520.1) || (!(bt516.2.1 == bt520.2.1))) = true then (none) else (if (bt516.2.2 != bt512.2) = true then (none) else (if t484 = true then (laws_FnChancesCompared.j2 kj44 l1 t479 t480 t481 (decide (t481 > 0)) t482 t483) else (laws_FnChancesCompared.j2 kj44 l1 t479 t480 t481 false t482 t483))))) else (none))))))))))))))))))) = some r := H
     have A78 := Aside0.mk A780
     clear A780
     replace H := Option.bind_eq_some_iff.mp H
     obtain ⟨⟨t490, t491, t492⟩, A790, H⟩ := H
     replace H : ((impl_ChanceOfTimes.f kj44 t490 t491 t492).bind fun bt493 => ((spec_ChanceOfTimes.f kj44 t490 t491 t492).bind fun bt497 => ((impl_ChanceOfDoubles.f kj44 t490 t491 t492).bind fun bt501 => ((spec_ChanceOfDoubles.f kj44 t490 t491 t492).bind fun bt505 => ((spec_DrawCountWithPips.f l1).bind fun bt509 => ((impl_CountWithPips.f kj44 bt509.1 bt509.2.1 bt509.2.2).bind fun bt512 => ((spec_CountWithPips.f kj44 bt509.1 bt509.2.1 bt509.2.2).bind fun bt514 => ((impl_ChanceOfPips.f kj44 bt509.1 bt509.2.1 bt509.2.2).bind fun bt516 => ((spec_ChanceOfPips.f kj44 bt509.1 bt509.2.1 bt509.2.2).bind fun bt520 => (if (t484 != t488) = true then (none) else (if (!(t482 == t486) || (!(t483 == t487))) = true then (none) else (if (bt493.2.2 != bt497.2.2) = true then (none) else (if (!(bt493.1 == bt497.1) || (!(bt493.2.1 == bt497.2.1))) = true then (none) else (if (bt501.2.2 != bt505.2.2) = true then (none) else (if (!(bt501.1 == bt505.1) || (!(bt501.2.1 == bt505.2.1))) = true then (none) else (if (bt512.2 != bt514.2) = true then (none) else (if bt512.1 = bt514.1 then (if (bt516.2.2 != bt520.2.2) = true then (none) else (if (!(bt516.1 == bt520.1) || (!(bt516.2.1 == bt520.2.1))) = true then (none) else (if (bt516.2.2 != bt512.2) = true then (none) else (if t484 = true then (laws_FnChancesCompared.j2 kj44 l1 t479 t480 t481 (decide (t481 > 0)) t482 t483) else (laws_FnChancesCompared.j2 kj44 l1 t479 t480 t481 false t482 t483))))) else (none)))))))))))))))))) = some r := H
     have A79 := Aside0.mk A790
     clear A790
     replace H := Option.bind_eq_some_iff.mp H
     obtain ⟨⟨t493, t494, t495⟩, A800, H⟩ := H
     replace H : ((spec_ChanceOfTimes.f kj44 t490 t491 t492).bind fun bt497 => ((impl_ChanceOfDoubles.f kj44 t490 t491 t492).bind fun bt501 => ((spec_ChanceOfDoubles.f kj44 t490 t491 t492).bind fun bt505 => ((spec_DrawCountWithPips.f l1).bind fun bt509 => ((impl_CountWithPips.f kj44 bt509.1 bt509.2.1 bt509.2.2).bind fun bt512 => ((spec_CountWithPips.f kj44 bt509.1 bt509.2.1 bt509.2.2).bind fun bt514 => ((impl_ChanceOfPips.f kj44 bt509.1 bt509.2.1 bt509.2.2).bind fun bt516 => ((spec_ChanceOfPips.f kj44 bt509.1 bt509.2.1 bt509.2.2).bind fun bt520 => (if (t484 != t488) = true then (none) else (if (!(t482 == t486) || (!(t483 == t487))) = true then (none) else (if (t495 != bt497.2.2) = true then (none) else (if (!(t493 == bt497.1) || (!(t494 == bt497.2.1))) = true then (none) else (if (bt501.2.2 != bt505.2.2) = true then (none) else (if (!(bt501.1 == bt505.1) || (!(bt501.2.1 == bt505.2.1))) = true then (none) else (if (bt512.2 != bt514.2) = true then (none) else (if bt512.1 = bt514.1 then (if (bt516.2.2 != bt520.2.2) = true then (none) else (if (!(bt516.1 == bt520.1) || (!(bt516.2.1 == bt520.2.1))) = true then (none) else (if (bt516.2.2 != bt512.2) = true then (none) else (if t484 = true then (laws_FnChancesCompared.j2 kj44 l1 t479 t480 t481 (decide (t481 > 0)) t482 t483) else (laws_FnChancesCompared.j2 kj44 l1 t479 t480 t481 false t482 t483))))) else (none))))))))))))))))) = some r := H
     have A80 := Aside0.mk A800
     clear A800
     replace H := Option.bind_eq_some_iff.mp H
     obtain ⟨⟨t497, t498, t499⟩, A810, H⟩ := H
     replace H : ((impl_ChanceOfDoubles.f kj44 t490 t491 t492).bind fun bt501 => ((spec_ChanceOfDoubles.f kj44 t490 t491 t492).bind fun bt505 => ((spec_DrawCountWithPips.f l1).bind fun bt509 => ((impl_CountWithPips.f kj44 bt509.1 bt509.2.1 bt509.2.2).bind fun bt512 => ((spec_CountWithPips.f kj44 bt509.1 bt509.2.1 bt509.2.2).bind fun bt514 => ((impl_ChanceOfPips.f kj44 bt509.1 bt509.2.1 bt509.2.2).bind fun bt516 => ((spec_ChanceOfPips.f kj44 bt509.1 bt509.2.1 bt509.2.2).bind fun bt520 => (if (t484 != t488) = true then (none) else (if (!(t482 == t486) || (!(t483 == t487))) = true then (none) else (if (t495 != t499) = true then (none) else (if (!(t493 == t497) || (!(t494 == t498))) = true then (none) else (if (bt501.2.2 != bt505.2.2) = true then (none) else (if (!(bt501.1 == bt505.1) || (!(bt501.2.1 == bt505.2.1))) = true then (none) else (if (bt512.2 != bt514.2) = true then (none) else (if bt512.1 = bt514.1 then (if (bt516.2.2 != bt520.2.2) = true then (none) else (if (!(bt516.1 == bt520.1) || (!(bt516.2.1 == bt520.2.1))) = true then (none) else (if (bt516.2.2 != bt512.2) = true then (none) else (if t484 = true then (laws_FnChancesCompared.j2 kj44 l1 t479 t480 t481 (decide (t481 > 0)) t482 t483) else (laws_FnChancesCompared.j2 kj44 l1 t479 t480 t481 false t482 t483))))) else (none)))))))))))))))) = some r := H
     have A81 := Aside0.mk A810
     clear A810
     replace H := Option.bind_eq_some_iff.mp H
     obtain ⟨⟨t501, t502, t503⟩, A820, H⟩ := H
     replace H : ((spec_ChanceOfDoubles.f kj44 t490 t491 t492).bind fun bt505 => ((spec_DrawCountWithPips.f l1).bind fun bt509 => ((impl_CountWithPips.f kj44 bt509.1 bt509.2.1 bt509.2.2).bind fun bt512 => ((spec_CountWithPips.f kj44 bt509.1 bt509.2.1 bt509.2.2).bind fun bt514 => ((impl_ChanceOfPips.f kj44 bt509.1 bt509.2.1 bt509.2.2).bind fun bt516 => ((spec_ChanceOfPips.f kj44 bt509.1 bt509.2.1 bt509.2.2).bind fun bt520 => (if (t484 != t488) = true then (none) else (if (!(t482 == t486) || (!(t483 == t487))) = true then (none) else (if (t495 != t499) = true then (none) else (if (!(t493 == t497) || (!(t494 == t498))) = true then (none) else (if (t503 != bt505.2.2) = true then (none) else (if (!(t501 == bt505.1) || (!(t502 == bt505.2.1))) = true then (none) else (if (bt512.2 != bt514.2) = true then (none) else (if bt512.1 = bt514.1 then (if (bt516.2.2 != bt520.2.2) = true then (none) else (if (!(bt516.1 == bt520.1) || (!(bt516.2.1 == bt520.2.1))) = true then (none) else (if (bt516.2.2 != bt512.2) = true then (none) else (if t484 = true then (laws_FnChancesCompared.j2 kj44 l1 t479 t480 t481 (decide (t481 > 0)) t482 t483) else (laws_FnChancesCompared.j2 kj44 l1 t479 t480 t481 false t482 t483))))) else (none))))))))))))))) = some r := H
     have A82 := Aside0.mk A820
     clear A820
     replace H := Option.bind_eq_some_iff.mp H
     obtain ⟨⟨t505, t506, t507⟩, A830, H⟩ := H
     replace H : ((spec_DrawCountWithPips.f l1).bind fun bt509 => ((impl_CountWithPips.f kj44 bt509.1 bt509.2.1 bt509.2.2).bind fun bt512 => ((spec_CountWithPips.f kj44 bt509.1 bt509.2.1 bt509.2.2).bind fun bt514 => ((impl_ChanceOfPips.f kj44 bt509.1 bt509.2.1 bt509.2.2).bind fun bt516 => ((spec_ChanceOfPips.f kj44 bt509.1 bt509.2.1 bt509.2.2).bind fun bt520 => (if (t484 != t488) = true then (none) else (if (!(t482 == t486) || (!(t483 == t487))) = true then (none) else (if (t495 != t499) = true then (none) else (if (!(t493 == t497) || (!(t494 == t498))) = true then (none) else (if (t503 != t507) = true then (none) else (if (!(t501 == t505) || (!(t502 == t506))) = true then (none) else (if (bt512.2 != bt514.2) = true then (none) else (if bt512.1 = bt514.1 then (if (bt516.2.2 != bt520.2.2) = true then (none) else (if (!(bt516.1 == bt520.1) || (!(bt516.2.1 == bt520.2.1))) = true then (none) else (if (bt516.2.2 != bt512.2) = true then (none) else (if t484 = true then (laws_FnChancesCompared.j2 kj44 l1 t479 t480 t481 (decide (t481 > 0)) t482 t483) else (laws_FnChancesCompared.j2 kj44 l1 t479 t480 t481 false t482 t483))))) else (none)))))))))))))) = some r := H
     have A83 := Aside0.mk A830
     clear A830
     replace H := Option.bind_eq_some_iff.mp H
     obtain ⟨⟨t509, t510, t511⟩, A840, H⟩ := H
     replace H : ((impl_CountWithPips.f kj44 t509 t510 t511).bind fun bt512 => ((spec_CountWithPips.f kj44 t509 t510 t511).bind fun bt514 => ((impl_ChanceOfPips.f kj44 t509 t510 t511).bind fun bt516 => ((spec_ChanceOfPips.f kj44 t509 t510 t511).bind fun bt520 => (if (t484 != t488) = true then (none) else (if (!(t482 == t486) || (!(t483 == t487))) = true then (none) else (if (t495 != t499) = true then (none) else (if (!(t493 == t497) || (!(t494 == t498))) = true then (none) else (if (t503 != t507) = true then (none) else (if (!(t501 == t505) || (!(t502 == t506))) = true then (none) else (if (bt512.2 != bt514.2) = true then (none) else (if bt512.1 = bt514.1 then (if (bt516.2.2 != bt520.2.2) = true then (none) else (if (!(bt516.1 == bt520.1) || (!(bt516.2.1 == bt520.2.1))) = true then (none) else (if (bt516.2.2 != bt512.2) = true then (none) else (if t484 = true then (laws_FnChancesCompared.j2 kj44 l1 t479 t480 t481 (decide (t481 > 0)) t482 t483) else (laws_FnChancesCompared.j2 kj44 l1 t479 t480 t481 false t482 t483))))) else (none))))))))))))) = some r := H
     have A84 := Aside0.mk A840
     clear A840
     replace H := Option.bind_eq_some_iff.mp H
     obtain ⟨⟨t512, t513⟩, A850, H⟩ := H
     replace H : ((spec_CountWithPips.f kj44 t509 t510 t511).bind fun bt514 => ((impl_ChanceOfPips.f kj44 t509 t510 t511).bind fun bt516 => ((spec_ChanceOfPips.f kj44 t509 t510 t511).bind fun bt520 => (if (t484 != t488) = true then (none) else (if (!(t482 == t486) || (!(t483 == t487))) = true then (none) else (if (t495 != t499) = true then (none) else (if (!(t493 == t497) || (!(t494 == t498))) = true then (none) else (if (t503 != t507) = true then (none) else (if (!(t501 == t505) || (!(t502 == t506))) = true then (none) else (if (t513 != bt514.2) = true then (none) else (if t512 = bt514.1 then (if (bt516.2.2 != bt520.2.2) = true then (none) else (if (!(bt516.1 == bt520.1) || (!(bt516.2.1 == bt520.2.1))) = true then (none) else (if (bt516.2.2 != t513) = true then (none) else (if t484 = true then (laws_FnChancesCompared.j2 kj44 l1 t479 t480 t481 (decide (t481 > 0)) t482 t483) else (laws_FnChancesCompared.j2 kj44 l1 t479 t480 t481 false t482 t483))))) else (none)))))))))))) = some r := H
     have A85 := Aside0.mk A850
     clear A850
     replace H := Option.bind_eq_some_iff.mp H
     obtain ⟨⟨t514, t515⟩, A860, H⟩ := H
     replace H : ((impl_ChanceOfPips.f kj44 t509 t510 t511).bind fun bt516 => ((spec_ChanceOfPips.f kj44 t509 t510 t511).bind fun bt520 => (if (t484 != t488) = true then (none) else (if (!(t482 == t486) || (!(t483 == t487))) = true then (none) else (if (t495 != t499) = true then (none) else (if (!(t493 == t497) || (!(t494 == t498))) = true then (none) else (if (t503 != t507) = true then (none) else (if (!(t501 == t505) || (!(t502 == t506))) = true then (none) else (if (t513 != t515) = true then (none) else (if t512 = t514 then (if (bt516.2.2 != bt520.2.2) = true then (none) else (if (!(bt516.1 == bt520.1) || (!(bt516.2.1 == bt520.2.1))) = true then (none) else (if (bt516.2.2 != t513) = true then (none) else (if t484 = true then (laws_FnChancesCompared.j2 kj44 l1 t479 t480 t481 (decide (t481 > 0)) t482 t483) else (laws_FnChancesCompared.j2 kj44 l1 t479 t480 t481 false t482 t483))))) else (none))))))))))) = some r := H
     have A86 := Aside0.mk A860
     clear A860
     replace H := Option.bind_eq_some_iff.mp H
     obtain ⟨⟨t516, t517, t518⟩, A870, H⟩ := H
     replace H : ((spec_ChanceOfPips.f kj44 t509 t510 t511).bind fun bt520 => (if (t484 != t488) = true then (none) else (if (!(t482 == t486) || (!(t483 == t487))) = true then (none) else (if (t495 != t499) = true then (none) else (if (!(t493 == t497) || (!(t494 == t498))) = true then (none) else (if (t503 != t507) = true then (none) else (if (!(t501 == t505) || (!(t502 == t506))) = true then (none) else (if (t513 != t515) = true then (none) else (if t512 = t514 then (if (t518 != bt520.2.2) = true then (none) else (if (!(t516 == bt520.1) || (!(t517 == bt520.2.1))) = true then (none) else (if (t518 != t513) = true then (none) else (if t484 = true then (laws_FnChancesCompared.j2 kj44 l1 t479 t480 t481 (decide (t481 > 0)) t482 t483) else (laws_FnChancesCompared.j2 kj44 l1 t479 t480 t481 false t482 t483))))) else (none)))))))))) = some r := H
     have A87 := Aside0.mk A870
     clear A870
     replace H := Option.bind_eq_some_iff.mp H
     obtain ⟨⟨t520, t521, t522⟩, A880, H⟩ := H
     replace H : (if (t484 != t488) = true then (none) else (if (!(t482 == t486) || (!(t483 == t487))) = true then (none) else (if (t495 != t499) = true then (none) else (if (!(t493 == t497) || (!(t494 == t498))) = true then (none) else (if (t503 != t507) = true then (none) else (if (!(t501 == t505) || (!(t502 == t506))) = true then (none) else (if (t513 != t515) = true then (none) else (if t512 = t514 then (if (t518 != t522) = true then (none) else (if (!(t516 == t520) || (!(t517 == t521))) = true then (none) else (if (t518 != t513) = true then (none) else (if t484 = true then (laws_FnChancesCompared.j2 kj44 l1 t479 t480 t481 (decide (t481 > 0)) t482 t483) else (laws_FnChancesCompared.j2 kj44 l1 t479 t480 t481 false t482 t483))))) else (none))))))))) = some r := H
     have A88 := Aside0.mk A880
     clear A880
     by_cases c89 : (t484 != t488) = true
     ·rw [if_pos c89] at H
      exact absurd H (by simp)
     rw [if_neg c89] at H
     have c89b0 : (t484 != t488) = false := by simpa using c89
     (try (have c89b1 : decide (t484 = t488) = true := by simpa using c89))
     (try (have c89b2 : (t484 == t488) = true := by simpa using c89))
     clear c89
     by_cases c90 : (!(t482 == t486) || (!(t483 == t487))) = true
     ·rw [if_pos c90] at H
      exact absurd H (by simp)
     rw [if_neg c90] at H
     have c90b0 : (!(t482 == t486) || (!(t483 == t487))) = false := by simpa using c90
     clear c90
     by_cases c91 : (t495 != t499) = true
     ·rw [if_pos c91] at H
      exact absurd H (by simp)
     rw [if_neg c91] at H
     have c91b0 : (t495 != t499) = false := by simpa using c91
     (try (have c91b1 : decide (t495 = t499) = true := by simpa using c91))
     (try (have c91b2 : (t495 == t499) = true := by simpa using c91))
     clear c91
     by_cases c92 : (!(t493 == t497) || (!(t494 == t498))) = true
     ·rw [if_pos c92] at H
      exact absurd H (by simp)
     rw [if_neg c92] at H
     have c92b0 : (!(t493 == t497) || (!(t494 == t498))) = false := by simpa using c92
     clear c92
     by_cases c93 : (t503 != t507) = true
     ·rw [if_pos c93] at H
      exact absurd H (by simp)
     rw [if_neg c93] at H
     have c93b0 : (t503 != t507) = false := by simpa using c93
     (try (have c93b1 : decide (t503 = t507) = true := by simpa using c93))
     (try (have c93b2 : (t503 == t507) = true := by simpa using c93))
     clear c93
     by_cases c94 : (!(t501 == t505) || (!(t502 == t506))) = true
     ·rw [if_pos c94] at H
      exact absurd H (by simp)
     rw [if_neg c94] at H
     have c94b0 : (!(t501 == t505) || (!(t502 == t506))) = false := by simpa using c94
     clear c94
     by_cases c95 : (t513 != t515) = true
     ·rw [if_pos c95] at H
      exact absurd H (by simp)
     rw [if_neg c95] at H
     have c95b0 : (t513 != t515) = false := by simpa using c95
     (try (have c95b1 : decide (t513 = t515) = true := by simpa using c95))
     (try (have c95b2 : (t513 == t515) = true := by simpa using c95))
     clear c95
     by_cases c96 : t512 = t514
     rotate_left
     ·rw [if_neg c96] at H
      exact absurd H (by simp)
     rw [if_pos c96] at H
     have c96b0 : (t512 == t514) = true := beq_iff_eq.mpr c96
     have c96b1 : (t512 != t514) = false := bne_eq_false_iff_eq.mpr c96
     clear c96
     by_cases c97 : (t518 != t522) = true
     ·rw [if_pos c97] at H
      exact absurd H (by simp)
     rw [if_neg c97] at H
     have c97b0 : (t518 != t522) = false := by simpa using c97
     (try (have c97b1 : decide (t518 = t522) = true := by simpa using c97))
     (try (have c97b2 : (t518 == t522) = true := by simpa using c97))
     clear c97
     by_cases c98 : (!(t516 == t520) || (!(t517 == t521))) = true
     ·rw [if_pos c98] at H
      exact absurd H (by simp)
     rw [if_neg c98] at H
     have c98b0 : (!(t516 == t520) || (!(t517 == t521))) = false := by simpa using c98
     clear c98
     by_cases c99 : (t518 != t513) = true
     ·rw [if_pos c99] at H
      exact absurd H (by simp)
     rw [if_neg c99] at H
     have c99b0 : (t518 != t513) = false := by simpa using c99
     (try (have c99b1 : decide (t518 = t513) = true := by simpa using c99))
     (try (have c99b2 : (t518 == t513) = true := by simpa using c99))
     clear c99
     have HC100 := Aside0.mk H
     clear H
     go_upto_region 37 with (first | ((with_reducible refine gate_callee (f := 14) rfl ?_); refine goesL_ (some 184) rfl rfl Try.func14 (by kernel_rfl) rfl #[.slice A1 l1.length c1] rfl (by simp only [List.map_toArray, List.map_cons, List.map_nil] <;> rfl) ?_; (with_reducible refine (spec_DrawChanceWithout.calls _ _ l1 t479 t480 t481 _ ?side1 ?side2 A76.out).mono ?_); (case side1 => repeat (first | exact (Kd.C_below HR1.out HB.out) | (with_reducible refine Kd.C_alloc ?_ _) | (with_reducible refine Kd.C_drewN ?_ _) | (with_reducible refine Kd.C_drew ?_))); (case side2 => exact HC1.out); rintro e w101 ⟨rfl, hb⟩; refine ⟨_, rfl, ?_⟩; replace HB := Aside0.mk (below_step HB.out hb)) | ((with_reducible refine gate_callee (f := 15) rfl ?_); refine goesL_ (some 192) rfl rfl Try.func15 (by kernel_rfl) rfl #[.int .i64 t479, .int .i64 t480, .int .i64 t481] rfl (by simp only [List.map_toArray, List.map_cons, List.map_nil] <;> rfl) ?_; (with_reducible refine (impl_ChanceWithout.calls kj44 t479 t480 t481 t482 t483 t484 _ A77.out).mono ?_); rintro e w102 ⟨rfl, hb⟩; refine ⟨_, rfl, ?_⟩; replace HB := Aside0.mk (below_step HB.out hb)) | ((with_reducible refine gate_dst (N := 27) rfl ?_); refine box_event ?hg (N := 27) ?hd (cs := #[.int .i64 0, .int .i64 0]) (t := 27) ?hr ?_; (case hd => rfl); (case hg => rfl); (case hr => first | (go_simp; done) | (go_simp; rfl)); intro gb485 hg w103 hbox hb; have BK485 := Aside0.mk (hbox); replace HB := hb3 HB.out hg hb; obtain ⟨GW485, GE485, HB⟩ := HB; clear hb hbox hg; have hcz104_0 : w103.cell? ⟨gb485, 0, none⟩ = some (.int .i64 0) := (blk_cell BK485.out 0).trans rfl; have hcz104_1 : w103.cell? ⟨gb485, 1, none⟩ = some (.int .i64 0) := (blk_cell BK485.out 1).trans rfl; have hfz104_0 := blk_frozen BK485.out 0; have hfz104_1 := blk_frozen BK485.out 1) | ((with_reducible refine gate_callee (f := 16) rfl ?_); refine goesL_ (some 199) rfl rfl Try.func16 (by kernel_rfl) rfl #[.int .i64 t479, .int .i64 t480, .int .i64 t481] rfl (by simp only [List.map_toArray, List.map_cons, List.map_nil] <;> rfl) ?_; (with_reducible refine (spec_ChanceWithout.calls kj44 t479 t480 t481 t486 t487 t488 _ A78.out).mono ?_); rintro e w105 ⟨rfl, hb⟩; refine ⟨_, rfl, ?_⟩; replace BK485 := Aside0.mk (blk_below (g := gb485) (o := .cells #[.int .i64 t482, .int .i64 t483] 27 (0, 0)) (blk_put (cs := #[.int .i64 t482, .int .i64 0]) (blk_put (cs := #[.int .i64 0, .int .i64 0]) BK485.out 0 _ rfl) 1 _ rfl) hb); replace HB := Aside0.mk (below_step (below_set (below_set HB.out GE485.out) GE485.out) hb)) | ((with_reducible refine gate_dst (N := 29) rfl ?_); refine box_event ?hg (N := 29) ?hd (cs := #[.int .i64 0, .int .i64 0]) (t := 27) ?hr ?_; (case hd => rfl); (case hg => rfl); (case hr => first | (go_simp; done) | (go_simp; rfl)); intro gb489 hg w106 hbox hb; have BK489 := Aside0.mk (hbox); replace HB := hb3 HB.out hg hb; obtain ⟨GW489, GE489, HB⟩ := HB; replace BK485 := box3 BK485.out hg hb; obtain ⟨NB485_489, NB489_485, BK485⟩ := BK485; clear hb hbox hg; have hnb107 := NB489_485.out; have hnc107 := NB485_489.out; have hcz108_0 : w106.cell? ⟨gb489, 0, none⟩ = some (.int .i64 0) := (blk_cell BK489.out 0).trans rfl; have hcz108_1 : w106.cell? ⟨gb489, 1, none⟩ = some (.int .i64 0) := (blk_cell BK489.out 1).trans rfl; have hfz108_0 := blk_frozen BK489.out 0; have hfz108_1 := blk_frozen BK489.out 1) | ((with_reducible refine gate_callee (f := 17) rfl ?_); refine goesL_ (some 204) rfl rfl Try.func17 (by kernel_rfl) rfl #[.slice A1 l1.length c1] rfl (by simp only [List.map_toArray, List.map_cons, List.map_nil] <;> rfl) ?_; (with_reducible refine (spec_DrawChanceOfTimes.calls _ _ l1 t490 t491 t492 _ ?side1 ?side2 A79.out).mono ?_); (case side1 => exact Kd.C_below HR1.out (below_set (below_set HB.out GE489.out) GE489.out)); (case side2 => exact HC1.out); rintro e w109 ⟨rfl, hb⟩; refine ⟨_, rfl, ?_⟩; replace BK485 := Aside0.mk (blk_below (blk_far (blk_far BK485.out NB485_489.out _) NB485_489.out _) hb); replace BK489 := Aside0.mk (blk_below (g := gb489) (o := .cells #[.int .i64 t486, .int .i64 t487] 27 (0, 0)) (blk_put (cs := #[.int .i64 t486, .int .i64 0]) (blk_put (cs := #[.int .i64 0, .int .i64 0]) BK489.out 0 _ rfl) 1 _ rfl) hb); replace HB := Aside0.mk (below_step (below_set (below_set HB.out GE489.out) GE489.out) hb)) | ((with_reducible refine gate_callee (f := 18) rfl ?_); refine goesL_ (some 212) rfl rfl Try.func18 (by kernel_rfl) rfl #[.int .i64 t490, .int .i64 t491, .int .i64 t492] rfl (by simp only [List.map_toArray, List.map_cons, List.map_nil] <;> rfl) ?_; (with_reducible refine (impl_ChanceOfTimes.calls kj44 t490 t491 t492 t493 t494 t495 _ A80.out).mono ?_); rintro e w110 ⟨rfl, hb⟩; refine ⟨_, rfl, ?_⟩; replace BK485 := Aside0.mk (blk_below BK485.out hb); replace BK489 := Aside0.mk (blk_below BK489.out hb); replace HB := Aside0.mk (below_step HB.out hb)) | ((with_reducible refine gate_dst (N := 34) rfl ?_); refine box_event ?hg (N := 34) ?hd (cs := #[.int .i64 0, .int .i64 0]) (t := 27) ?hr ?_; (case hd => rfl); (case hg => rfl); (case hr => first | (go_simp; done) | (go_simp; rfl)); intro gb496 hg w111 hbox hb; have BK496 := Aside0.mk (hbox); replace HB := hb3 HB.out hg hb; obtain ⟨GW496, GE496, HB⟩ := HB; replace BK485 := box3 BK485.out hg hb; obtain ⟨NB485_496, NB496_485, BK485⟩ := BK485; replace BK489 := box3 BK489.out hg hb; obtain ⟨NB489_496, NB496_489, BK489⟩ := BK489; clear hb hbox hg; have hnb112 := NB496_485.out; have hnc112 := NB485_496.out; have hnb113 := NB496_489.out; have hnc113 := NB489_496.out; have hcz114_0 : w111.cell? ⟨gb496, 0, none⟩ = some (.int .i64 0) := (blk_cell BK496.out 0).trans rfl; have hcz114_1 : w111.cell? ⟨gb496, 1, none⟩ = some (.int .i64 0) := (blk_cell BK496.out 1).trans rfl; have hfz114_0 := blk_frozen BK496.out 0; have hfz114_1 := blk_frozen BK496.out 1) | ((with_reducible refine gate_callee (f := 19) rfl ?_); refine goesL_ (some 219) rfl rfl Try.func19 (by kernel_rfl) rfl #[.int .i64 t490, .int .i64 t491, .int .i64 t492] rfl (by simp only [List.map_toArray, List.map_cons, List.map_nil] <;> rfl) ?_; (with_reducible refine (spec_ChanceOfTimes.calls kj44 t490 t491 t492 t497 t498 t499 _ A81.out).mono ?_); rintro e w115 ⟨rfl, hb⟩; refine ⟨_, rfl, ?_⟩; replace BK485 := Aside0.mk (blk_below (blk_far (blk_far BK485.out NB485_496.out _) NB485_496.out _) hb); replace BK489 := Aside0.mk (blk_below (blk_far (blk_far BK489.out NB489_496.out _) NB489_496.out _) hb); replace BK496 := Aside0.mk (blk_below (g := gb496) (o := .cells #[.int .i64 t493, .int .i64 t494] 27 (0, 0)) (blk_put (cs := #[.int .i64 t493, .int .i64 0]) (blk_put (cs := #[.int .i64 0, .int .i64 0]) BK496.out 0 _ rfl) 1 _ rfl) hb); replace HB := Aside0.mk (below_step (below_set (below_set HB.out GE496.out) GE496.out) hb)) | ((with_reducible refine gate_dst (N := 36) rfl ?_); refine box_event ?hg (N := 36) ?hd (cs := #[.int .i64 0, .int .i64 0]) (t := 27) ?hr ?_; (case hd => rfl); (case hg => rfl); (case hr => first | (go_simp; done) | (go_simp; rfl)); intro gb500 hg w116 hbox hb; have BK500 := Aside0.mk (hbox); replace HB := hb3 HB.out hg hb; obtain ⟨GW500, GE500, HB⟩ := HB; replace BK485 := box3 BK485.out hg hb; obtain ⟨NB485_500, NB500_485, BK485⟩ := BK485; replace BK489 := box3 BK489.out hg hb; obtain ⟨NB489_500, NB500_489, BK489⟩ := BK489; replace BK496 := box3 BK496.out hg hb; obtain ⟨NB496_500, NB500_496, BK496⟩ := BK496; clear hb hbox hg; have hnb117 := NB500_485.out; have hnc117 := NB485_500.out; have hnb118 := NB500_489.out; have hnc118 := NB489_500.out; have hnb119 := NB500_496.out; have hnc119 := NB496_500.out; have hcz120_0 : w116.cell? ⟨gb500, 0, none⟩ = some (.int .i64 0) := (blk_cell BK500.out 0).trans rfl; have hcz120_1 : w116.cell? ⟨gb500, 1, none⟩ = some (.int .i64 0) := (blk_cell BK500.out 1).trans rfl; have hfz120_0 := blk_frozen BK500.out 0; have hfz120_1 := blk_frozen BK500.out 1) | ((with_reducible refine gate_callee (f := 13) rfl ?_); refine goesL_ (some 226) rfl rfl Try.func13 (by kernel_rfl) rfl #[.int .i64 t490, .int .i64 t491, .int .i64 t492] rfl (by simp only [List.map_toArray, List.map_cons, List.map_nil] <;> rfl) ?_; (with_reducible refine (impl_ChanceOfDoubles.calls kj44 t490 t491 t492 t501 t502 t503 _ A82.out).mono ?_); rintro e w121 ⟨rfl, hb⟩; refine ⟨_, rfl, ?_⟩; replace BK485 := Aside0.mk (blk_below (blk_far (blk_far BK485.out NB485_500.out _) NB485_500.out _) hb); replace BK489 := Aside0.mk (blk_below (blk_far (blk_far BK489.out NB489_500.out _) NB489_500.out _) hb); replace BK496 := Aside0.mk (blk_below (blk_far (blk_far BK496.out NB496_500.out _) NB496_500.out _) hb); replace BK500 := Aside0.mk (blk_below (g := gb500) (o := .cells #[.int .i64 t497, .int .i64 t498] 27 (0, 0)) (blk_put (cs := #[.int .i64 t497, .int .i64 0]) (blk_put (cs := #[.int .i64 0, .int .i64 0]) BK500.out 0 _ rfl) 1 _ rfl) hb); replace HB := Aside0.mk (below_step (below_set (below_set HB.out GE500.out) GE500.out) hb)) | ((with_reducible refine gate_dst (N := 38) rfl ?_); refine box_event ?hg (N := 38) ?hd (cs := #[.int .i64 0, .int .i64 0]) (t := 27) ?hr ?_; (case hd => rfl); (case hg => rfl); (case hr => first | (go_simp; done) | (go_simp; rfl)); intro gb504 hg w122 hbox hb; have BK504 := Aside0.mk (hbox); replace HB := hb3 HB.out hg hb; obtain ⟨GW504, GE504, HB⟩ := HB; replace BK485 := box3 BK485.out hg hb; obtain ⟨NB485_504, NB504_485, BK485⟩ := BK485; replace BK489 := box3 BK489.out hg hb; obtain ⟨NB489_504, NB504_489, BK489⟩ := BK489; replace BK496 := box3 BK496.out hg hb; obtain ⟨NB496_504, NB504_496, BK496⟩ := BK496; replace BK500 := box3 BK500.out hg hb; obtain ⟨NB500_504, NB504_500, BK500⟩ := BK500; clear hb hbox hg; have hnb123 := NB504_485.out; have hnc123 := NB485_504.out; have hnb124 := NB504_489.out; have hnc124 := NB489_504.out; have hnb125 := NB504_496.out; have hnc125 := NB496_504.out; have hnb126 := NB504_500.out; have hnc126 := NB500_504.out; have hcz127_0 : w122.cell? ⟨gb504, 0, none⟩ = some (.int .i64 0) := (blk_cell BK504.out 0).trans rfl; have hcz127_1 : w122.cell? ⟨gb504, 1, none⟩ = some (.int .i64 0) := (blk_cell BK504.out 1).trans rfl; have hfz127_0 := blk_frozen BK504.out 0; have hfz127_1 := blk_frozen BK504.out 1) | ((with_reducible refine gate_callee (f := 20) rfl ?_); refine goesL_ (some 233) rfl rfl Try.func20 (by kernel_rfl) rfl #[.int .i64 t490, .int .i64 t491, .int .i64 t492] rfl (by simp only [List.map_toArray, List.map_cons, List.map_nil] <;> rfl) ?_; (with_reducible refine (spec_ChanceOfDoubles.calls kj44 t490 t491 t492 t505 t506 t507 _ A83.out).mono ?_); rintro e w128 ⟨rfl, hb⟩; refine ⟨_, rfl, ?_⟩; replace BK485 := Aside0.mk (blk_below (blk_far (blk_far BK485.out NB485_504.out _) NB485_504.out _) hb); replace BK489 := Aside0.mk (blk_below (blk_far (blk_far BK489.out NB489_504.out _) NB489_504.out _) hb); replace BK496 := Aside0.mk (blk_below (blk_far (blk_far BK496.out NB496_504.out _) NB496_504.out _) hb); replace BK500 := Aside0.mk (blk_below (blk_far (blk_far BK500.out NB500_504.out _) NB500_504.out _) hb); replace BK504 := Aside0.mk (blk_below (g := gb504) (o := .cells #[.int .i64 t501, .int .i64 t502] 27 (0, 0)) (blk_put (cs := #[.int .i64 t501, .int .i64 0]) (blk_put (cs := #[.int .i64 0, .int .i64 0]) BK504.out 0 _ rfl) 1 _ rfl) hb); replace HB := Aside0.mk (below_step (below_set (below_set HB.out GE504.out) GE504.out) hb)) | ((with_reducible refine gate_dst (N := 40) rfl ?_); refine box_event ?hg (N := 40) ?hd (cs := #[.int .i64 0, .int .i64 0]) (t := 27) ?hr ?_; (case hd => rfl); (case hg => rfl); (case hr => first | (go_simp; done) | (go_simp; rfl)); intro gb508 hg w129 hbox hb; have BK508 := Aside0.mk (hbox); replace HB := hb3 HB.out hg hb; obtain ⟨GW508, GE508, HB⟩ := HB; replace BK485 := box3 BK485.out hg hb; obtain ⟨NB485_508, NB508_485, BK485⟩ := BK485; replace BK489 := box3 BK489.out hg hb; obtain ⟨NB489_508, NB508_489, BK489⟩ := BK489; replace BK496 := box3 BK496.out hg hb; obtain ⟨NB496_508, NB508_496, BK496⟩ := BK496; replace BK500 := box3 BK500.out hg hb; obtain ⟨NB500_508, NB508_500, BK500⟩ := BK500; replace BK504 := box3 BK504.out hg hb; obtain ⟨NB504_508, NB508_504, BK504⟩ := BK504; clear hb hbox hg; have hnb130 := NB508_485.out; have hnc130 := NB485_508.out; have hnb131 := NB508_489.out; have hnc131 := NB489_508.out; have hnb132 := NB508_496.out; have hnc132 := NB496_508.out; have hnb133 := NB508_500.out; have hnc133 := NB500_508.out; have hnb134 := NB508_504.out; have hnc134 := NB504_508.out; have hcz135_0 : w129.cell? ⟨gb508, 0, none⟩ = some (.int .i64 0) := (blk_cell BK508.out 0).trans rfl; have hcz135_1 : w129.cell? ⟨gb508, 1, none⟩ = some (.int .i64 0) := (blk_cell BK508.out 1).trans rfl; have hfz135_0 := blk_frozen BK508.out 0; have hfz135_1 := blk_frozen BK508.out 1) | ((with_reducible refine gate_callee (f := 21) rfl ?_); refine goesL_ (some 238) rfl rfl Try.func21 (by kernel_rfl) rfl #[.slice A1 l1.length c1] rfl (by simp only [List.map_toArray, List.map_cons, List.map_nil] <;> rfl) ?_; (with_reducible refine (spec_DrawCountWithPips.calls _ _ l1 t509 t510 t511 _ ?side1 ?side2 A84.out).mono ?_); (case side1 => exact Kd.C_below HR1.out (below_set (below_set HB.out GE508.out) GE508.out)); (case side2 => exact HC1.out); rintro e w136 ⟨rfl, hb⟩; refine ⟨_, rfl, ?_⟩; replace BK485 := Aside0.mk (blk_below (blk_far (blk_far BK485.out NB485_508.out _) NB485_508.out _) hb); replace BK489 := Aside0.mk (blk_below (blk_far (blk_far BK489.out NB489_508.out _) NB489_508.out _) hb); replace BK496 := Aside0.mk (blk_below (blk_far (blk_far BK496.out NB496_508.out _) NB496_508.out _) hb); replace BK500 := Aside0.mk (blk_below (blk_far (blk_far BK500.out NB500_508.out _) NB500_508.out _) hb); replace BK504 := Aside0.mk (blk_below (blk_far (blk_far BK504.out NB504_508.out _) NB504_508.out _) hb); replace BK508 := Aside0.mk (blk_below (g := gb508) (o := .cells #[.int .i64 t505, .int .i64 t506] 27 (0, 0)) (blk_put (cs := #[.int .i64 t505, .int .i64 0]) (blk_put (cs := #[.int .i64 0, .int .i64 0]) BK508.out 0 _ rfl) 1 _ rfl) hb); replace HB := Aside0.mk (below_step (below_set (below_set HB.out GE508.out) GE508.out) hb)) | ((with_reducible refine gate_callee (f := 22) rfl ?_); refine goesL_ (some 246) rfl rfl Try.func22 (by kernel_rfl) rfl #[.int .i64 t509, .int .i64 t510, .int .i64 t511] rfl (by simp only [List.map_toArray, List.map_cons, List.map_nil] <;> rfl) ?_; (with_reducible refine (impl_CountWithPips.calls kj44 t509 t510 t511 t512 t513 _ A85.out).mono ?_); rintro e w137 ⟨rfl, hb⟩; refine ⟨_, rfl, ?_⟩; replace BK485 := Aside0.mk (blk_below BK485.out hb); replace BK489 := Aside0.mk (blk_below BK489.out hb); replace BK496 := Aside0.mk (blk_below BK496.out hb); replace BK500 := Aside0.mk (blk_below BK500.out hb); replace BK504 := Aside0.mk (blk_below BK504.out hb); replace BK508 := Aside0.mk (blk_below BK508.out hb); replace HB := Aside0.mk (below_step HB.out hb)) | ((with_reducible refine gate_callee (f := 23) rfl ?_); refine goesL_ (some 253) rfl rfl Try.func23 (by kernel_rfl) rfl #[.int .i64 t509, .int .i64 t510, .int .i64 t511] rfl (by simp only [List.map_toArray, List.map_cons, List.map_nil] <;> rfl) ?_; (with_reducible refine (spec_CountWithPips.calls kj44 t509 t510 t511 t514 t515 _ A86.out).mono ?_); rintro e w138 ⟨rfl, hb⟩; refine ⟨_, rfl, ?_⟩; replace BK485 := Aside0.mk (blk_below BK485.out hb); replace BK489 := Aside0.mk (blk_below BK489.out hb); replace BK496 := Aside0.mk (blk_below BK496.out hb); replace BK500 := Aside0.mk (blk_below BK500.out hb); replace BK504 := Aside0.mk (blk_below BK504.out hb); replace BK508 := Aside0.mk (blk_below BK508.out hb); replace HB := Aside0.mk (below_step HB.out hb)) | ((with_reducible refine gate_callee (f := 24) rfl ?_); refine goesL_ (some 260) rfl rfl Try.func24 (by kernel_rfl) rfl #[.int .i64 t509, .int .i64 t510, .int .i64 t511] rfl (by simp only [List.map_toArray, List.map_cons, List.map_nil] <;> rfl) ?_; (with_reducible refine (impl_ChanceOfPips.calls kj44 t509 t510 t511 t516 t517 t518 _ A87.out).mono ?_); rintro e w139 ⟨rfl, hb⟩; refine ⟨_, rfl, ?_⟩; replace BK485 := Aside0.mk (blk_below BK485.out hb); replace BK489 := Aside0.mk (blk_below BK489.out hb); replace BK496 := Aside0.mk (blk_below BK496.out hb); replace BK500 := Aside0.mk (blk_below BK500.out hb); replace BK504 := Aside0.mk (blk_below BK504.out hb); replace BK508 := Aside0.mk (blk_below BK508.out hb); replace HB := Aside0.mk (below_step HB.out hb)) | ((with_reducible refine gate_dst (N := 49) rfl ?_); refine box_event ?hg (N := 49) ?hd (cs := #[.int .i64 0, .int .i64 0]) (t := 27) ?hr ?_; (case hd => rfl); (case hg => rfl); (case hr => first | (go_simp; done) | (go_simp; rfl)); intro gb519 hg w140 hbox hb; have BK519 := Aside0.mk (hbox); replace HB := hb3 HB.out hg hb; obtain ⟨GW519, GE519, HB⟩ := HB; replace BK485 := box3 BK485.out hg hb; obtain ⟨NB485_519, NB519_485, BK485⟩ := BK485; replace BK489 := box3 BK489.out hg hb; obtain ⟨NB489_519, NB519_489, BK489⟩ := BK489; replace BK496 := box3 BK496.out hg hb; obtain ⟨NB496_519, NB519_496, BK496⟩ := BK496; replace BK500 := box3 BK500.out hg hb; obtain ⟨NB500_519, NB519_500, BK500⟩ := BK500; replace BK504 := box3 BK504.out hg hb; obtain ⟨NB504_519, NB519_504, BK504⟩ := BK504; replace BK508 := box3 BK508.out hg hb; obtain ⟨NB508_519, NB519_508, BK508⟩ := BK508; clear hb hbox hg; have hnb141 := NB519_485.out; have hnc141 := NB485_519.out; have hnb142 := NB519_489.out; have hnc142 := NB489_519.out; have hnb143 := NB519_496.out; have hnc143 := NB496_519.out; have hnb144 := NB519_500.out; have hnc144 := NB500_519.out; have hnb145 := NB519_504.out; have hnc145 := NB504_519.out; have hnb146 := NB519_508.out; have hnc146 := NB508_519.out; have hcz147_0 : w140.cell? ⟨gb519, 0, none⟩ = some (.int .i64 0) := (blk_cell BK519.out 0).trans rfl; have hcz147_1 : w140.cell? ⟨gb519, 1, none⟩ = some (.int .i64 0) := (blk_cell BK519.out 1).trans rfl; have hfz147_0 := blk_frozen BK519.out 0; have hfz147_1 := blk_frozen BK519.out 1) | ((with_reducible refine gate_callee (f := 25) rfl ?_); refine goesL_ (some 267) rfl rfl Try.func25 (by kernel_rfl) rfl #[.int .i64 t509, .int .i64 t510, .int .i64 t511] rfl (by simp only [List.map_toArray, List.map_cons, List.map_nil] <;> rfl) ?_; (with_reducible refine (spec_ChanceOfPips.calls kj44 t509 t510 t511 t520 t521 t522 _ A88.out).mono ?_); rintro e w148 ⟨rfl, hb⟩; refine ⟨_, rfl, ?_⟩; replace BK485 := Aside0.mk (blk_below (blk_far (blk_far BK485.out NB485_519.out _) NB485_519.out _) hb); replace BK489 := Aside0.mk (blk_below (blk_far (blk_far BK489.out NB489_519.out _) NB489_519.out _) hb); replace BK496 := Aside0.mk (blk_below (blk_far (blk_far BK496.out NB496_519.out _) NB496_519.out _) hb); replace BK500 := Aside0.mk (blk_below (blk_far (blk_far BK500.out NB500_519.out _) NB500_519.out _) hb); replace BK504 := Aside0.mk (blk_below (blk_far (blk_far BK504.out NB504_519.out _) NB504_519.out _) hb); replace BK508 := Aside0.mk (blk_below (blk_far (blk_far BK508.out NB508_519.out _) NB508_519.out _) hb); replace BK519 := Aside0.mk (blk_below (g := gb519) (o := .cells #[.int .i64 t516, .int .i64 t517] 27 (0, 0)) (blk_put (cs := #[.int .i64 t516, .int .i64 0]) (blk_put (cs := #[.int .i64 0, .int .i64 0]) BK519.out 0 _ rfl) 1 _ rfl) hb); replace HB := Aside0.mk (below_step (below_set (below_set HB.out GE519.out) GE519.out) hb)) | ((with_reducible refine gate_dst (N := 51) rfl ?_); refine box_event ?hg (N := 51) ?hd (cs := #[.int .i64 0, .int .i64 0]) (t := 27) ?hr ?_; (case hd => rfl); (case hg => rfl); (case hr => first | (go_simp; done) | (go_simp; rfl)); intro gb523 hg w149 hbox hb; have BK523 := Aside0.mk (hbox); replace HB := hb3 HB.out hg hb; obtain ⟨GW523, GE523, HB⟩ := HB; replace BK485 := box3 BK485.out hg hb; obtain ⟨NB485_523, NB523_485, BK485⟩ := BK485; replace BK489 := box3 BK489.out hg hb; obtain ⟨NB489_523, NB523_489, BK489⟩ := BK489; replace BK496 := box3 BK496.out hg hb; obtain ⟨NB496_523, NB523_496, BK496⟩ := BK496; replace BK500 := box3 BK500.out hg hb; obtain ⟨NB500_523, NB523_500, BK500⟩ := BK500; replace BK504 := box3 BK504.out hg hb; obtain ⟨NB504_523, NB523_504, BK504⟩ := BK504; replace BK508 := box3 BK508.out hg hb; obtain ⟨NB508_523, NB523_508, BK508⟩ := BK508; replace BK519 := box3 BK519.out hg hb; obtain ⟨NB519_523, NB523_519, BK519⟩ := BK519; clear hb hbox hg; have hnb150 := NB523_485.out; have hnc150 := NB485_523.out; have hnb151 := NB523_489.out; have hnc151 := NB489_523.out; have hnb152 := NB523_496.out; have hnc152 := NB496_523.out; have hnb153 := NB523_500.out; have hnc153 := NB500_523.out; have hnb154 := NB523_504.out; have hnc154 := NB504_523.out; have hnb155 := NB523_508.out; have hnc155 := NB508_523.out; have hnb156 := NB523_519.out; have hnc156 := NB519_523.out; have hcz157_0 : w149.cell? ⟨gb523, 0, none⟩ = some (.int .i64 0) := (blk_cell BK523.out 0).trans rfl; have hcz157_1 : w149.cell? ⟨gb523, 1, none⟩ = some (.int .i64 0) := (blk_cell BK523.out 1).trans rfl; have hfz157_0 := blk_frozen BK523.out 0; have hfz157_1 := blk_frozen BK523.out 1; have hcz158_0 : w149.cell? ⟨gb485, 0, none⟩ = some (.int .i64 t482) := (blk_cell BK485.out 0).trans rfl; have hcz158_1 : w149.cell? ⟨gb485, 1, none⟩ = some (.int .i64 t483) := (blk_cell BK485.out 1).trans rfl; have hfz158_0 := blk_frozen BK485.out 0; have hfz158_1 := blk_frozen BK485.out 1; have hcz159_0 : w149.cell? ⟨gb489, 0, none⟩ = some (.int .i64 t486) := (blk_cell BK489.out 0).trans rfl; have hcz159_1 : w149.cell? ⟨gb489, 1, none⟩ = some (.int .i64 t487) := (blk_cell BK489.out 1).trans rfl; have hfz159_0 := blk_frozen BK489.out 0; have hfz159_1 := blk_frozen BK489.out 1; have hcz160_0 : w149.cell? ⟨gb496, 0, none⟩ = some (.int .i64 t493) := (blk_cell BK496.out 0).trans rfl; have hcz160_1 : w149.cell? ⟨gb496, 1, none⟩ = some (.int .i64 t494) := (blk_cell BK496.out 1).trans rfl; have hfz160_0 := blk_frozen BK496.out 0; have hfz160_1 := blk_frozen BK496.out 1; have hcz161_0 : w149.cell? ⟨gb500, 0, none⟩ = some (.int .i64 t497) := (blk_cell BK500.out 0).trans rfl; have hcz161_1 : w149.cell? ⟨gb500, 1, none⟩ = some (.int .i64 t498) := (blk_cell BK500.out 1).trans rfl; have hfz161_0 := blk_frozen BK500.out 0; have hfz161_1 := blk_frozen BK500.out 1; have hcz162_0 : w149.cell? ⟨gb504, 0, none⟩ = some (.int .i64 t501) := (blk_cell BK504.out 0).trans rfl; have hcz162_1 : w149.cell? ⟨gb504, 1, none⟩ = some (.int .i64 t502) := (blk_cell BK504.out 1).trans rfl; have hfz162_0 := blk_frozen BK504.out 0; have hfz162_1 := blk_frozen BK504.out 1; have hcz163_0 : w149.cell? ⟨gb508, 0, none⟩ = some (.int .i64 t505) := (blk_cell BK508.out 0).trans rfl; have hcz163_1 : w149.cell? ⟨gb508, 1, none⟩ = some (.int .i64 t506) := (blk_cell BK508.out 1).trans rfl; have hfz163_0 := blk_frozen BK508.out 0; have hfz163_1 := blk_frozen BK508.out 1; have hcz164_0 : w149.cell? ⟨gb519, 0, none⟩ = some (.int .i64 t516) := (blk_cell BK519.out 0).trans rfl; have hcz164_1 : w149.cell? ⟨gb519, 1, none⟩ = some (.int .i64 t517) := (blk_cell BK519.out 1).trans rfl; have hfz164_0 := blk_frozen BK519.out 0; have hfz164_1 := blk_frozen BK519.out 1))
     (try simp only [Act.put, List.setIfInBounds_toArray, List.set_cons_zero, List.set_cons_succ])
     go_cut [327] (fun v327 wc => ∃ (kq : Nat) (x327_99 : Bool), v327 = .bool x327_99 ∧ Aside0 (laws_FnChancesCompared.j2 kq l1 t479 t480 t481 x327_99 t482 t483 = some r) ∧ Aside0 (kq ≤ kj44) ∧ Aside0 (wc.heap[gb485]? = some (.cells #[.int .i64 t482, .int .i64 t483] 27 (0, 0))) ∧ Aside0 (Below w.heap.size w wc))
     case first => as_aux_lemma =>
      have H := HC100.out
      clear HC100
      by_cases c165 : t484 = true
      ·subst c165
       have H1 : (laws_FnChancesCompared.j2 kj44 l1 t479 t480 t481 (decide (t481 > 0)) t482 t483) = some r := by rw [if_pos rfl] at H; exact H
       clear H
       have H := H1
       clear H1
       have H' := Aside0.mk H
       clear H
       go_wp2
       go_meet
       case rel => exact ⟨_, (decide (t481 > 0)), (by first | rfl | (simp; done) | (simp [*]; done)), H', ⟨by have := HJ9.out; have := HJ44.out; first | omega | exact Nat.le_refl _⟩, ⟨by (with_reducible repeat (first | refine blk_drewN ?_ _ | refine blk_drew ?_ | refine blk_alloc ?_ _)); refine blk_far ?_ NB485_523.out _; (with_reducible repeat (first | refine blk_drewN ?_ _ | refine blk_drew ?_ | refine blk_alloc ?_ _)); refine blk_far ?_ NB485_523.out _; (with_reducible repeat (first | refine blk_drewN ?_ _ | refine blk_drew ?_ | refine blk_alloc ?_ _)); exact BK485.out⟩, ⟨by repeat (first | (with_reducible first | exact HB.out | apply below_alloc | apply pw_below_drewN | apply below_drew1 | refine below_set ?_ GE485.out | refine below_set ?_ GE489.out | refine below_set ?_ GE496.out | refine below_set ?_ GE500.out | refine below_set ?_ GE504.out | refine below_set ?_ GE508.out | refine below_set ?_ GE519.out | refine below_set ?_ GE523.out) | exact HB.out)⟩⟩
      replace c165 := Bool.eq_false_iff.mpr c165
      subst c165
      have H1 : (laws_FnChancesCompared.j2 kj44 l1 t479 t480 t481 false t482 t483) = some r := by rw [if_neg (show ¬ (false = true) by decide)] at H; exact H
      clear H
      have H := H1
      clear H1
      have H' := Aside0.mk H
      clear H
      go_wp2
      go_meet
      case rel => exact ⟨_, (false), (by first | rfl | (simp; done) | (simp [*]; done)), H', ⟨by have := HJ9.out; have := HJ44.out; first | omega | exact Nat.le_refl _⟩, ⟨by (with_reducible repeat (first | refine blk_drewN ?_ _ | refine blk_drew ?_ | refine blk_alloc ?_ _)); refine blk_far ?_ NB485_523.out _; (with_reducible repeat (first | refine blk_drewN ?_ _ | refine blk_drew ?_ | refine blk_alloc ?_ _)); refine blk_far ?_ NB485_523.out _; (with_reducible repeat (first | refine blk_drewN ?_ _ | refine blk_drew ?_ | refine blk_alloc ?_ _)); exact BK485.out⟩, ⟨by repeat (first | (with_reducible first | exact HB.out | apply below_alloc | apply pw_below_drewN | apply below_drew1 | refine below_set ?_ GE485.out | refine below_set ?_ GE489.out | refine below_set ?_ GE496.out | refine below_set ?_ GE500.out | refine below_set ?_ GE504.out | refine below_set ?_ GE508.out | refine below_set ?_ GE519.out | refine below_set ?_ GE523.out) | exact HB.out)⟩⟩
     case rest => as_aux_lemma =>
      clear HC100
      try clear c1
      try clear c2
      try clear p2
      try clear c3
      try clear c4
      try clear c5
      try clear c6
      try clear p6
      try clear c7
      try clear c8
      try clear c8b0
      try clear c8b1
      try clear c8b2
      try clear c9
      try clear c9b0
      try clear c10
      try clear c11
      try clear c12
      try clear c13
      try clear c14
      try clear c15
      try clear c16
      try clear c17
      try clear c18
      try clear c19
      try clear c20
      try clear c21
      try clear c22
      try clear c23
      try clear c24
      try clear c24b0
      try clear c25
      try clear c26
      try clear c26b0
      try clear c27
      try clear c27b0
      try clear c27b1
      try clear c28
      try clear c28b0
      try clear c29
      try clear c35
      try clear c43
      try clear c43b0
      try clear c43b1
      try clear c43b2
      try clear c44
      try clear c44b0
      try clear c52
      try clear c55
      try clear c58
      try clear c59
      try clear c59b0
      try clear c60
      try clear c61
      try clear c61b0
      try clear c64
      try clear p64
      try clear c65
      try clear c69
      try clear c70
      try clear c71
      try clear c74
      try clear c89
      try clear c89b0
      try clear c89b1
      try clear c89b2
      try clear c90
      try clear c90b0
      try clear c91
      try clear c91b0
      try clear c91b1
      try clear c91b2
      try clear c92
      try clear c92b0
      try clear c93
      try clear c93b0
      try clear c93b1
      try clear c93b2
      try clear c94
      try clear c94b0
      try clear c95
      try clear c95b0
      try clear c95b1
      try clear c95b2
      try clear c96
      try clear c96b0
      try clear c96b1
      try clear c97
      try clear c97b0
      try clear c97b1
      try clear c97b2
      try clear c98
      try clear c98b0
      try clear c99
      try clear c99b0
      try clear c99b1
      try clear c99b2
      try clear c107
      try clear c112
      try clear c113
      try clear c117
      try clear c118
      try clear c119
      try clear c123
      try clear c124
      try clear c125
      try clear c126
      try clear c130
      try clear c131
      try clear c132
      try clear c133
      try clear c134
      try clear c141
      try clear c142
      try clear c143
      try clear c144
      try clear c145
      try clear c146
      try clear c150
      try clear c151
      try clear c152
      try clear c153
      try clear c154
      try clear c155
      try clear c156
      try clear c165
      try clear hcz104_0
      try clear hcz104_1
      try clear hcz108_0
      try clear hcz108_1
      try clear hcz114_0
      try clear hcz114_1
      try clear hcz120_0
      try clear hcz120_1
      try clear hcz127_0
      try clear hcz127_1
      try clear hcz135_0
      try clear hcz135_1
      try clear hcz147_0
      try clear hcz147_1
      try clear hcz14_0
      try clear hcz14_1
      try clear hcz157_0
      try clear hcz157_1
      try clear hcz158_0
      try clear hcz158_1
      try clear hcz159_0
      try clear hcz159_1
      try clear hcz160_0
      try clear hcz160_1
      try clear hcz161_0
      try clear hcz161_1
      try clear hcz162_0
      try clear hcz162_1
      try clear hcz163_0
      try clear hcz163_1
      try clear hcz164_0
      try clear hcz164_1
      try clear hcz18_0
      try clear hcz18_1
      try clear hcz19_0
      try clear hcz19_1
      try clear hcz30_0
      try clear hcz30_1
      try clear hcz32_0
      try clear hcz32_1
      try clear hcz34_0
      try clear hcz34_1
      try clear hcz36_0
      try clear hcz36_1
      try clear hcz38_0
      try clear hcz38_1
      try clear hcz49_0
      try clear hcz49_1
      try clear hcz53_0
      try clear hcz53_1
      try clear hcz54_0
      try clear hcz54_1
      try clear hcz66_0
      try clear hcz66_1
      try clear hcz72_0
      try clear hcz72_1
      try clear hcz73_0
      try clear hcz73_1
      try clear hcz75_0
      try clear hcz75_1
      try clear hfz104_0
      try clear hfz104_1
      try clear hfz108_0
      try clear hfz108_1
      try clear hfz114_0
      try clear hfz114_1
      try clear hfz120_0
      try clear hfz120_1
      try clear hfz127_0
      try clear hfz127_1
      try clear hfz135_0
      try clear hfz135_1
      try clear hfz147_0
      try clear hfz147_1
      try clear hfz14_0
      try clear hfz14_1
      try clear hfz157_0
      try clear hfz157_1
      try clear hfz158_0
      try clear hfz158_1
      try clear hfz159_0
      try clear hfz159_1
      try clear hfz160_0
      try clear hfz160_1
      try clear hfz161_0
      try clear hfz161_1
      try clear hfz162_0
      try clear hfz162_1
      try clear hfz163_0
      try clear hfz163_1
      try clear hfz164_0
      try clear hfz164_1
      try clear hfz18_0
      try clear hfz18_1
      try clear hfz19_0
      try clear hfz19_1
      try clear hfz30_0
      try clear hfz30_1
      try clear hfz32_0
      try clear hfz32_1
      try clear hfz34_0
      try clear hfz34_1
      try clear hfz36_0
      try clear hfz36_1
      try clear hfz38_0
      try clear hfz38_1
      try clear hfz49_0
      try clear hfz49_1
      try clear hfz53_0
      try clear hfz53_1
      try clear hfz54_0
      try clear hfz54_1
      try clear hfz66_0
      try clear hfz66_1
      try clear hfz72_0
      try clear hfz72_1
      try clear hfz73_0
      try clear hfz73_1
      try clear hfz75_0
      try clear hfz75_1
      try clear p2
      try clear p6
      try clear p64
      obtain ⟨kq, x327_99, rfl, HA, HJ99, BK485, HB⟩ := hcut
      cases kq with
      | zero => exact absurd HA.out (by simp [laws_FnChancesCompared.j2])
      | succ kj99 =>
       have H := HA.out
       clear HA
       simp only [laws_FnChancesCompared.j2] at H
       have HC166 := Aside0.mk H
       clear H
       go_upto_if 327 with (fail)
       go_cut [] (fun wc => ∃ (kq : Nat), Aside0 (laws_FnChancesCompared.j3 kq l1 = some r) ∧ Aside0 (kq ≤ kj99) ∧ Aside0 (Below w.heap.size w wc))
       case first => as_aux_lemma =>
        have H := HC166.out
        clear HC166
        by_cases c167 : x327_99 = true
        rotate_left
        ·replace c167 := Bool.eq_false_iff.mpr c167
         subst c167
         have H1 : (laws_FnChancesCompared.j3 kj99 l1) = some r := by rw [if_neg (show ¬ (false = true) by decide)] at H; exact H
         clear H
         have H := H1
         clear H1
         have H' := Aside0.mk H
         clear H
         go_wp2
         go_meet
         case rel => exact ⟨_, H', ⟨by have := HJ9.out; have := HJ44.out; have := HJ99.out; first | omega | exact Nat.le_refl _⟩, ⟨by repeat (first | (with_reducible first | exact HB.out | apply below_alloc | apply pw_below_drewN | apply below_drew1 | refine below_set ?_ GE485.out) | exact HB.out)⟩⟩
        subst c167
        have H1 : ((impl_ChanceWithout.f kj99 t479 t480 (wrap64 (t481 - 1))).bind fun bt524 => (if bt524.2.2 = true then (if (wrap64 (t482 * bt524.2.1)) > (wrap64 (bt524.1 * t483)) then (none) else (laws_FnChancesCompared.j3 kj99 l1)) else (none))) = some r := by rw [if_pos rfl] at H; exact H
        clear H
        have H := H1
        clear H1
        replace H := Option.bind_eq_some_iff.mp H
        obtain ⟨⟨t524, t525, t526⟩, A1680, H⟩ := H
        replace H : (if t526 = true then (if (wrap64 (t482 * t525)) > (wrap64 (t524 * t483)) then (none) else (laws_FnChancesCompared.j3 kj99 l1)) else (none)) = some r := H
        have A168 := Aside0.mk A1680
        clear A1680
        by_cases c169 : t526 = true
        rotate_left
        ·replace c169 := Bool.eq_false_iff.mpr c169
         subst c169
         have H1 : (none) = some r := by rw [if_neg (show ¬ (false = true) by decide)] at H; exact H
         clear H
         have H := H1
         clear H1
         exact absurd H (by simp)
        subst c169
        have H1 : (if (wrap64 (t482 * t525)) > (wrap64 (t524 * t483)) then (none) else (laws_FnChancesCompared.j3 kj99 l1)) = some r := by rw [if_pos rfl] at H; exact H
        clear H
        have H := H1
        clear H1
        by_cases c170 : (wrap64 (t482 * t525)) > (wrap64 (t524 * t483))
        ·rw [if_pos c170] at H
         exact absurd H (by simp)
        rw [if_neg c170] at H
        have c170b0 : decide ((wrap64 (t524 * t483)) < (wrap64 (t482 * t525))) = false := decide_eq_false c170
        clear c170
        (first | rw [c170b0] | (simp only [i64_w, i32_w]; rw [c170b0]) | skip)
        have H' := Aside0.mk H
        clear H
        go_wp2_with (first | ((with_reducible refine gate_callee (f := 15) rfl ?_); refine goesL_ (some 333) rfl rfl Try.func15 (by kernel_rfl) rfl #[.int .i64 t479, .int .i64 t480, .int .i64 (wrap64 (t481 - 1))] rfl (by simp only [List.map_toArray, List.map_cons, List.map_nil] <;> rfl) ?_; (with_reducible refine (impl_ChanceWithout.calls kj99 t479 t480 (wrap64 (t481 - 1)) t524 t525 true _ A168.out).mono ?_); rintro e w171 ⟨rfl, hb⟩; refine ⟨_, rfl, ?_⟩; replace BK485 := Aside0.mk (blk_below BK485.out hb); replace HB := Aside0.mk (below_step HB.out hb)) | ((with_reducible refine gate_dst (N := 53) rfl ?_); refine box_event ?hg (N := 53) ?hd (cs := #[.int .i64 0, .int .i64 0]) (t := 27) ?hr ?_; (case hd => rfl); (case hg => rfl); (case hr => first | (go_simp; done) | (go_simp; rfl)); intro gb527 hg w172 hbox hb; have BK527 := Aside0.mk (hbox); replace HB := hb3 HB.out hg hb; obtain ⟨GW527, GE527, HB⟩ := HB; replace BK485 := box3 BK485.out hg hb; obtain ⟨NB485_527, NB527_485, BK485⟩ := BK485; clear hb hbox hg; have hnb173 := NB527_485.out; have hnc173 := NB485_527.out; have hcz174_0 : w172.cell? ⟨gb527, 0, none⟩ = some (.int .i64 0) := (blk_cell BK527.out 0).trans rfl; have hcz174_1 : w172.cell? ⟨gb527, 1, none⟩ = some (.int .i64 0) := (blk_cell BK527.out 1).trans rfl; have hfz174_0 := blk_frozen BK527.out 0; have hfz174_1 := blk_frozen BK527.out 1; have hcz175_0 : w172.cell? ⟨gb485, 0, none⟩ = some (.int .i64 t482) := (blk_cell BK485.out 0).trans rfl; have hcz175_1 : w172.cell? ⟨gb485, 1, none⟩ = some (.int .i64 t483) := (blk_cell BK485.out 1).trans rfl; have hfz175_0 := blk_frozen BK485.out 0; have hfz175_1 := blk_frozen BK485.out 1))
        go_meet
        case rel => exact ⟨_, H', ⟨by have := HJ9.out; have := HJ44.out; have := HJ99.out; first | omega | exact Nat.le_refl _⟩, ⟨by repeat (first | (with_reducible first | exact HB.out | apply below_alloc | apply pw_below_drewN | apply below_drew1 | refine below_set ?_ GE485.out | refine below_set ?_ GE527.out) | exact HB.out)⟩⟩
       case rest => as_aux_lemma =>
        clear HC166
        try clear c1
        try clear c2
        try clear p2
        try clear c3
        try clear c4
        try clear c5
        try clear c6
        try clear p6
        try clear c7
        try clear c8
        try clear c8b0
        try clear c8b1
        try clear c8b2
        try clear c9
        try clear c9b0
        try clear c10
        try clear c11
        try clear c12
        try clear c13
        try clear c14
        try clear c15
        try clear c16
        try clear c17
        try clear c18
        try clear c19
        try clear c20
        try clear c21
        try clear c22
        try clear c23
        try clear c24
        try clear c24b0
        try clear c25
        try clear c26
        try clear c26b0
        try clear c27
        try clear c27b0
        try clear c27b1
        try clear c28
        try clear c28b0
        try clear c29
        try clear c35
        try clear c43
        try clear c43b0
        try clear c43b1
        try clear c43b2
        try clear c44
        try clear c44b0
        try clear c52
        try clear c55
        try clear c58
        try clear c59
        try clear c59b0
        try clear c60
        try clear c61
        try clear c61b0
        try clear c64
        try clear p64
        try clear c65
        try clear c69
        try clear c70
        try clear c71
        try clear c74
        try clear c89
        try clear c89b0
        try clear c89b1
        try clear c89b2
        try clear c90
        try clear c90b0
        try clear c91
        try clear c91b0
        try clear c91b1
        try clear c91b2
        try clear c92
        try clear c92b0
        try clear c93
        try clear c93b0
        try clear c93b1
        try clear c93b2
        try clear c94
        try clear c94b0
        try clear c95
        try clear c95b0
        try clear c95b1
        try clear c95b2
        try clear c96
        try clear c96b0
        try clear c96b1
        try clear c97
        try clear c97b0
        try clear c97b1
        try clear c97b2
        try clear c98
        try clear c98b0
        try clear c99
        try clear c99b0
        try clear c99b1
        try clear c99b2
        try clear c107
        try clear c112
        try clear c113
        try clear c117
        try clear c118
        try clear c119
        try clear c123
        try clear c124
        try clear c125
        try clear c126
        try clear c130
        try clear c131
        try clear c132
        try clear c133
        try clear c134
        try clear c141
        try clear c142
        try clear c143
        try clear c144
        try clear c145
        try clear c146
        try clear c150
        try clear c151
        try clear c152
        try clear c153
        try clear c154
        try clear c155
        try clear c156
        try clear c165
        try clear c167
        try clear c169
        try clear c170
        try clear c170b0
        try clear c173
        try clear hcz104_0
        try clear hcz104_1
        try clear hcz108_0
        try clear hcz108_1
        try clear hcz114_0
        try clear hcz114_1
        try clear hcz120_0
        try clear hcz120_1
        try clear hcz127_0
        try clear hcz127_1
        try clear hcz135_0
        try clear hcz135_1
        try clear hcz147_0
        try clear hcz147_1
        try clear hcz14_0
        try clear hcz14_1
        try clear hcz157_0
        try clear hcz157_1
        try clear hcz158_0
        try clear hcz158_1
        try clear hcz159_0
        try clear hcz159_1
        try clear hcz160_0
        try clear hcz160_1
        try clear hcz161_0
        try clear hcz161_1
        try clear hcz162_0
        try clear hcz162_1
        try clear hcz163_0
        try clear hcz163_1
        try clear hcz164_0
        try clear hcz164_1
        try clear hcz174_0
        try clear hcz174_1
        try clear hcz175_0
        try clear hcz175_1
        try clear hcz18_0
        try clear hcz18_1
        try clear hcz19_0
        try clear hcz19_1
        try clear hcz30_0
        try clear hcz30_1
        try clear hcz32_0
        try clear hcz32_1
        try clear hcz34_0
        try clear hcz34_1
        try clear hcz36_0
        try clear hcz36_1
        try clear hcz38_0
        try clear hcz38_1
        try clear hcz49_0
        try clear hcz49_1
        try clear hcz53_0
        try clear hcz53_1
        try clear hcz54_0
        try clear hcz54_1
        try clear hcz66_0
        try clear hcz66_1
        try clear hcz72_0
        try clear hcz72_1
        try clear hcz73_0
        try clear hcz73_1
        try clear hcz75_0
        try clear hcz75_1
        try clear hfz104_0
        try clear hfz104_1
        try clear hfz108_0
        try clear hfz108_1
        try clear hfz114_0
        try clear hfz114_1
        try clear hfz120_0
        try clear hfz120_1
        try clear hfz127_0
        try clear hfz127_1
        try clear hfz135_0
        try clear hfz135_1
        try clear hfz147_0
        try clear hfz147_1
        try clear hfz14_0
        try clear hfz14_1
        try clear hfz157_0
        try clear hfz157_1
        try clear hfz158_0
        try clear hfz158_1
        try clear hfz159_0
        try clear hfz159_1
        try clear hfz160_0
        try clear hfz160_1
        try clear hfz161_0
        try clear hfz161_1
        try clear hfz162_0
        try clear hfz162_1
        try clear hfz163_0
        try clear hfz163_1
        try clear hfz164_0
        try clear hfz164_1
        try clear hfz174_0
        try clear hfz174_1
        try clear hfz175_0
        try clear hfz175_1
        try clear hfz18_0
        try clear hfz18_1
        try clear hfz19_0
        try clear hfz19_1
        try clear hfz30_0
        try clear hfz30_1
        try clear hfz32_0
        try clear hfz32_1
        try clear hfz34_0
        try clear hfz34_1
        try clear hfz36_0
        try clear hfz36_1
        try clear hfz38_0
        try clear hfz38_1
        try clear hfz49_0
        try clear hfz49_1
        try clear hfz53_0
        try clear hfz53_1
        try clear hfz54_0
        try clear hfz54_1
        try clear hfz66_0
        try clear hfz66_1
        try clear hfz72_0
        try clear hfz72_1
        try clear hfz73_0
        try clear hfz73_1
        try clear hfz75_0
        try clear hfz75_1
        try clear p2
        try clear p6
        try clear p64
        obtain ⟨kq, HA, HJ165, HB⟩ := hcut
        cases kq with
        | zero => exact absurd HA.out (by simp [laws_FnChancesCompared.j3])
        | succ kj165 =>
         have H := HA.out
         clear HA
         simp only [laws_FnChancesCompared.j3] at H
         replace H := Option.bind_eq_some_iff.mp H
         obtain ⟨⟨t528, t529, t530, t531⟩, A1760, H⟩ := H
         replace H : ((impl_CompareRatios.f kj165 t528 t529 t530 t531).bind fun bt534 => ((spec_CompareRatios.f kj165 t528 t529 t530 t531).bind fun bt536 => ((impl_CompareRatios.f kj165 t530 t531 t528 t529).bind fun bt538 => (if (bt534.2 == bt536.2) = true then (if bt534.1 = bt536.1 then (if (bt538.2 == bt534.2) = true then (if bt538.1 = (wrap64 (-bt534.1)) then (if bt534.2 = true then (some ((bt534.1 == 0) == (t528 == t530 && (t529 == t531)))) else (some true)) else (none)) else (none)) else (none)) else (none))))) = some r := H
         have A176 := Aside0.mk A1760
         clear A1760
         replace H := Option.bind_eq_some_iff.mp H
         obtain ⟨⟨t534, t535⟩, A1770, H⟩ := H
         replace H : ((spec_CompareRatios.f kj165 t528 t529 t530 t531).bind fun bt536 => ((impl_CompareRatios.f kj165 t530 t531 t528 t529).bind fun bt538 => (if (t535 == bt536.2) = true then (if t534 = bt536.1 then (if (bt538.2 == t535) = true then (if bt538.1 = (wrap64 (-t534)) then (if t535 = true then (some ((t534 == 0) == (t528 == t530 && (t529 == t531)))) else (some true)) else (none)) else (none)) else (none)) else (none)))) = some r := H
         have A177 := Aside0.mk A1770
         clear A1770
         replace H := Option.bind_eq_some_iff.mp H
         obtain ⟨⟨t536, t537⟩, A1780, H⟩ := H
         replace H : ((impl_CompareRatios.f kj165 t530 t531 t528 t529).bind fun bt538 => (if (t535 == t537) = true then (if t534 = t536 then (if (bt538.2 == t535) = true then (if bt538.1 = (wrap64 (-t534)) then (if t535 = true then (some ((t534 == 0) == (t528 == t530 && (t529 == t531)))) else (some true)) else (none)) else (none)) else (none)) else (none))) = some r := H
         have A178 := Aside0.mk A1780
         clear A1780
         replace H := Option.bind_eq_some_iff.mp H
         obtain ⟨⟨t538, t539⟩, A1790, H⟩ := H
         replace H : (if (t535 == t537) = true then (if t534 = t536 then (if (t539 == t535) = true then (if t538 = (wrap64 (-t534)) then (if t535 = true then (some ((t534 == 0) == (t528 == t530 && (t529 == t531)))) else (some true)) else (none)) else (none)) else (none)) else (none)) = some r := H
         have A179 := Aside0.mk A1790
         clear A1790
         by_cases c180 : (t535 == t537) = true
         rotate_left
         ·rw [if_neg c180] at H
          exact absurd H (by simp)
         rw [if_pos c180] at H
         have c180b0 : (t535 == t537) = true := c180
         (try (have c180b1 : decide (t535 = t537) = true := by simpa using c180))
         (try (have c180b2 : (t535 == t537) = true := by simpa using c180))
         clear c180
         by_cases c181 : t534 = t536
         rotate_left
         ·rw [if_neg c181] at H
          exact absurd H (by simp)
         rw [if_pos c181] at H
         have c181b0 : (t534 == t536) = true := beq_iff_eq.mpr c181
         have c181b1 : (t534 != t536) = false := bne_eq_false_iff_eq.mpr c181
         clear c181
         by_cases c182 : (t539 == t535) = true
         rotate_left
         ·rw [if_neg c182] at H
          exact absurd H (by simp)
         rw [if_pos c182] at H
         have c182b0 : (t539 == t535) = true := c182
         (try (have c182b1 : decide (t539 = t535) = true := by simpa using c182))
         (try (have c182b2 : (t539 == t535) = true := by simpa using c182))
         clear c182
         by_cases c183 : t538 = (wrap64 (-t534))
         rotate_left
         ·rw [if_neg c183] at H
          exact absurd H (by simp)
         rw [if_pos c183] at H
         have c183b0 : (t538 == (wrap64 (-t534))) = true := beq_iff_eq.mpr c183
         have c183b1 : (t538 != (wrap64 (-t534))) = false := bne_eq_false_iff_eq.mpr c183
         clear c183
         by_cases c184 : t535 = true
         ·subst c184
          have H1 : (some ((t534 == 0) == (t528 == t530 && (t529 == t531)))) = some r := by rw [if_pos rfl] at H; exact H
          clear H
          have H := H1
          clear H1
          obtain rfl := Option.some.inj H
          go_wp2_with (first | ((with_reducible refine gate_callee (f := 26) rfl ?_); refine goesL_ (some 353) rfl rfl Try.func26 (by kernel_rfl) rfl #[.slice A1 l1.length c1] rfl (by simp only [List.map_toArray, List.map_cons, List.map_nil] <;> rfl) ?_; (with_reducible refine (spec_DrawCompareRatios.calls kj165 _ _ l1 t528 t529 t530 t531 _ ?side1 ?side2 A176.out).mono ?_); (case side1 => repeat (first | exact (Kd.C_below HR1.out HB.out) | (with_reducible refine Kd.C_alloc ?_ _) | (with_reducible refine Kd.C_drewN ?_ _) | (with_reducible refine Kd.C_drew ?_))); (case side2 => exact HC1.out); rintro e w185 ⟨rfl, hb⟩; refine ⟨_, rfl, ?_⟩; replace HB := Aside0.mk (below_step HB.out hb)) | ((with_reducible refine gate_dst (N := 55) rfl ?_); refine box_event ?hg (N := 55) ?hd (cs := #[.int .i64 0, .int .i64 0]) (t := 27) ?hr ?_; (case hd => rfl); (case hg => rfl); (case hr => first | (go_simp; done) | (go_simp; rfl)); intro gb532 hg w186 hbox hb; have BK532 := Aside0.mk (hbox); replace HB := hb3 HB.out hg hb; obtain ⟨GW532, GE532, HB⟩ := HB; clear hb hbox hg) | ((with_reducible refine gate_dst (N := 56) rfl ?_); refine box_event ?hg (N := 56) ?hd (cs := #[.int .i64 0, .int .i64 0]) (t := 27) ?hr ?_; (case hd => rfl); (case hg => rfl); (case hr => first | (go_simp; done) | (go_simp; rfl)); intro gb533 hg w187 hbox hb; have BK533 := Aside0.mk (hbox); replace HB := hb3 HB.out hg hb; obtain ⟨GW533, GE533, HB⟩ := HB; replace BK532 := box3 BK532.out hg hb; obtain ⟨NB532_533, NB533_532, BK532⟩ := BK532; clear hb hbox hg; have hnb188 := NB532_533.out; have hnc188 := NB533_532.out; have hcz189_0 : w187.cell? ⟨gb532, 0, none⟩ = some (.int .i64 0) := (blk_cell BK532.out 0).trans rfl; have hcz189_1 : w187.cell? ⟨gb532, 1, none⟩ = some (.int .i64 0) := (blk_cell BK532.out 1).trans rfl; have hfz189_0 := blk_frozen BK532.out 0; have hfz189_1 := blk_frozen BK532.out 1; have hcz190_0 : w187.cell? ⟨gb533, 0, none⟩ = some (.int .i64 0) := (blk_cell BK533.out 0).trans rfl; have hcz190_1 : w187.cell? ⟨gb533, 1, none⟩ = some (.int .i64 0) := (blk_cell BK533.out 1).trans rfl; have hfz190_0 := blk_frozen BK533.out 0; have hfz190_1 := blk_frozen BK533.out 1) | ((with_reducible refine gate_callee (f := 27) rfl ?_); refine goesL_ (some 359) rfl rfl Try.func27 (by kernel_rfl) rfl #[.agg #[.int .i64 t528, .int .i64 t529], .agg #[.int .i64 t530, .int .i64 t531]] rfl (by simp only [List.map_toArray, List.map_cons, List.map_nil] <;> rfl) ?_; (with_reducible refine (impl_CompareRatios.calls kj165 t528 t529 t530 t531 t534 true _ A177.out).mono ?_); rintro e w191 ⟨rfl, hb⟩; refine ⟨_, rfl, ?_⟩; replace BK532 := Aside0.mk (blk_below (blk_far (blk_far (blk_put (cs := #[.int .i64 t528, .int .i64 0]) (blk_put (cs := #[.int .i64 0, .int .i64 0]) BK532.out 0 _ rfl) 1 _ rfl) NB532_533.out _) NB532_533.out _) hb); replace BK533 := Aside0.mk (blk_below (g := gb533) (o := .cells #[.int .i64 t530, .int .i64 t531] 27 (0, 0)) (blk_put (cs := #[.int .i64 t530, .int .i64 0]) (blk_put (cs := #[.int .i64 0, .int .i64 0]) (blk_far (blk_far BK533.out NB533_532.out _) NB533_532.out _) 0 _ rfl) 1 _ rfl) hb); replace HB := Aside0.mk (below_step (below_set (below_set (below_set (below_set HB.out GE532.out) GE532.out) GE533.out) GE533.out) hb); have hcz192_0 : w191.cell? ⟨gb532, 0, none⟩ = some (.int .i64 t528) := (blk_cell BK532.out 0).trans rfl; have hcz192_1 : w191.cell? ⟨gb532, 1, none⟩ = some (.int .i64 t529) := (blk_cell BK532.out 1).trans rfl; have hfz192_0 := blk_frozen BK532.out 0; have hfz192_1 := blk_frozen BK532.out 1; have hcz193_0 : w191.cell? ⟨gb533, 0, none⟩ = some (.int .i64 t530) := (blk_cell BK533.out 0).trans rfl; have hcz193_1 : w191.cell? ⟨gb533, 1, none⟩ = some (.int .i64 t531) := (blk_cell BK533.out 1).trans rfl; have hfz193_0 := blk_frozen BK533.out 0; have hfz193_1 := blk_frozen BK533.out 1) | ((with_reducible refine gate_callee (f := 28) rfl ?_); refine goesL_ (some 365) rfl rfl Try.func28 (by kernel_rfl) rfl #[.agg #[.int .i64 t528, .int .i64 t529], .agg #[.int .i64 t530, .int .i64 t531]] rfl (by simp only [List.map_toArray, List.map_cons, List.map_nil] <;> rfl) ?_; (with_reducible refine (spec_CompareRatios.calls kj165 t528 t529 t530 t531 t536 t537 _ A178.out).mono ?_); rintro e w194 ⟨rfl, hb⟩; refine ⟨_, rfl, ?_⟩; replace BK532 := Aside0.mk (blk_below BK532.out hb); replace BK533 := Aside0.mk (blk_below BK533.out hb); replace HB := Aside0.mk (below_step HB.out hb); have hcz195_0 : w194.cell? ⟨gb533, 0, none⟩ = some (.int .i64 t530) := (blk_cell BK533.out 0).trans rfl; have hcz195_1 : w194.cell? ⟨gb533, 1, none⟩ = some (.int .i64 t531) := (blk_cell BK533.out 1).trans rfl; have hfz195_0 := blk_frozen BK533.out 0; have hfz195_1 := blk_frozen BK533.out 1; have hcz196_0 : w194.cell? ⟨gb532, 0, none⟩ = some (.int .i64 t528) := (blk_cell BK532.out 0).trans rfl; have hcz196_1 : w194.cell? ⟨gb532, 1, none⟩ = some (.int .i64 t529) := (blk_cell BK532.out 1).trans rfl; have hfz196_0 := blk_frozen BK532.out 0; have hfz196_1 := blk_frozen BK532.out 1) | ((with_reducible refine gate_callee (f := 27) rfl ?_); refine goesL_ (some 371) rfl rfl Try.func27 (by kernel_rfl) rfl #[.agg #[.int .i64 t530, .int .i64 t531], .agg #[.int .i64 t528, .int .i64 t529]] rfl (by simp only [List.map_toArray, List.map_cons, List.map_nil] <;> rfl) ?_; (with_reducible refine (impl_CompareRatios.calls kj165 t530 t531 t528 t529 t538 t539 _ A179.out).mono ?_); rintro e w197 ⟨rfl, hb⟩; refine ⟨_, rfl, ?_⟩; replace BK532 := Aside0.mk (blk_below BK532.out hb); replace BK533 := Aside0.mk (blk_below BK533.out hb); replace HB := Aside0.mk (below_step HB.out hb); have hcz198_0 : w197.cell? ⟨gb532, 0, none⟩ = some (.int .i64 t528) := (blk_cell BK532.out 0).trans rfl; have hcz198_1 : w197.cell? ⟨gb532, 1, none⟩ = some (.int .i64 t529) := (blk_cell BK532.out 1).trans rfl; have hfz198_0 := blk_frozen BK532.out 0; have hfz198_1 := blk_frozen BK532.out 1; have hcz199_0 : w197.cell? ⟨gb533, 0, none⟩ = some (.int .i64 t530) := (blk_cell BK533.out 0).trans rfl; have hcz199_1 : w197.cell? ⟨gb533, 1, none⟩ = some (.int .i64 t531) := (blk_cell BK533.out 1).trans rfl; have hfz199_0 := blk_frozen BK533.out 0; have hfz199_1 := blk_frozen BK533.out 1))
          go_ret
          exact ⟨by first | rfl | (simp [errW_none, errW_some] <;> rfl) | (simp [*, errW_none, errW_some] <;> rfl), by repeat (first | (with_reducible first | exact HB.out | apply below_alloc | apply pw_below_drewN | apply below_drew1 | refine below_set ?_ GE532.out | refine below_set ?_ GE533.out) | exact HB.out)⟩
         replace c184 := Bool.eq_false_iff.mpr c184
         subst c184
         have H1 : (some true) = some r := by rw [if_neg (show ¬ (false = true) by decide)] at H; exact H
         clear H
         have H := H1
         clear H1
         obtain rfl := Option.some.inj H
         go_wp2_with (first | ((with_reducible refine gate_callee (f := 26) rfl ?_); refine goesL_ (some 353) rfl rfl Try.func26 (by kernel_rfl) rfl #[.slice A1 l1.length c1] rfl (by simp only [List.map_toArray, List.map_cons, List.map_nil] <;> rfl) ?_; (with_reducible refine (spec_DrawCompareRatios.calls kj165 _ _ l1 t528 t529 t530 t531 _ ?side1 ?side2 A176.out).mono ?_); (case side1 => repeat (first | exact (Kd.C_below HR1.out HB.out) | (with_reducible refine Kd.C_alloc ?_ _) | (with_reducible refine Kd.C_drewN ?_ _) | (with_reducible refine Kd.C_drew ?_))); (case side2 => exact HC1.out); rintro e w200 ⟨rfl, hb⟩; refine ⟨_, rfl, ?_⟩; replace HB := Aside0.mk (below_step HB.out hb)) | ((with_reducible refine gate_dst (N := 55) rfl ?_); refine box_event ?hg (N := 55) ?hd (cs := #[.int .i64 0, .int .i64 0]) (t := 27) ?hr ?_; (case hd => rfl); (case hg => rfl); (case hr => first | (go_simp; done) | (go_simp; rfl)); intro gb532 hg w201 hbox hb; have BK532 := Aside0.mk (hbox); replace HB := hb3 HB.out hg hb; obtain ⟨GW532, GE532, HB⟩ := HB; clear hb hbox hg) | ((with_reducible refine gate_dst (N := 56) rfl ?_); refine box_event ?hg (N := 56) ?hd (cs := #[.int .i64 0, .int .i64 0]) (t := 27) ?hr ?_; (case hd => rfl); (case hg => rfl); (case hr => first | (go_simp; done) | (go_simp; rfl)); intro gb533 hg w202 hbox hb; have BK533 := Aside0.mk (hbox); replace HB := hb3 HB.out hg hb; obtain ⟨GW533, GE533, HB⟩ := HB; replace BK532 := box3 BK532.out hg hb; obtain ⟨NB532_533, NB533_532, BK532⟩ := BK532; clear hb hbox hg; have hnb203 := NB532_533.out; have hnc203 := NB533_532.out; have hcz204_0 : w202.cell? ⟨gb532, 0, none⟩ = some (.int .i64 0) := (blk_cell BK532.out 0).trans rfl; have hcz204_1 : w202.cell? ⟨gb532, 1, none⟩ = some (.int .i64 0) := (blk_cell BK532.out 1).trans rfl; have hfz204_0 := blk_frozen BK532.out 0; have hfz204_1 := blk_frozen BK532.out 1; have hcz205_0 : w202.cell? ⟨gb533, 0, none⟩ = some (.int .i64 0) := (blk_cell BK533.out 0).trans rfl; have hcz205_1 : w202.cell? ⟨gb533, 1, none⟩ = some (.int .i64 0) := (blk_cell BK533.out 1).trans rfl; have hfz205_0 := blk_frozen BK533.out 0; have hfz205_1 := blk_frozen BK533.out 1) | ((with_reducible refine gate_callee (f := 27) rfl ?_); refine goesL_ (some 359) rfl rfl Try.func27 (by kernel_rfl) rfl #[.agg #[.int .i64 t528, .int .i64 t529], .agg #[.int .i64 t530, .int .i64 t531]] rfl (by simp only [List.map_toArray, List.map_cons, List.map_nil] <;> rfl) ?_; (with_reducible refine (impl_CompareRatios.calls kj165 t528 t529 t530 t531 t534 false _ A177.out).mono ?_); rintro e w206 ⟨rfl, hb⟩; refine ⟨_, rfl, ?_⟩; replace BK532 := Aside0.mk (blk_below (blk_far (blk_far (blk_put (cs := #[.int .i64 t528, .int .i64 0]) (blk_put (cs := #[.int .i64 0, .int .i64 0]) BK532.out 0 _ rfl) 1 _ rfl) NB532_533.out _) NB532_533.out _) hb); replace BK533 := Aside0.mk (blk_below (g := gb533) (o := .cells #[.int .i64 t530, .int .i64 t531] 27 (0, 0)) (blk_put (cs := #[.int .i64 t530, .int .i64 0]) (blk_put (cs := #[.int .i64 0, .int .i64 0]) (blk_far (blk_far BK533.out NB533_532.out _) NB533_532.out _) 0 _ rfl) 1 _ rfl) hb); replace HB := Aside0.mk (below_step (below_set (below_set (below_set (below_set HB.out GE532.out) GE532.out) GE533.out) GE533.out) hb); have hcz207_0 : w206.cell? ⟨gb532, 0, none⟩ = some (.int .i64 t528) := (blk_cell BK532.out 0).trans rfl; have hcz207_1 : w206.cell? ⟨gb532, 1, none⟩ = some (.int .i64 t529) := (blk_cell BK532.out 1).trans rfl; have hfz207_0 := blk_frozen BK532.out 0; have hfz207_1 := blk_frozen BK532.out 1; have hcz208_0 : w206.cell? ⟨gb533, 0, none⟩ = some (.int .i64 t530) := (blk_cell BK533.out 0).trans rfl; have hcz208_1 : w206.cell? ⟨gb533, 1, none⟩ = some (.int .i64 t531) := (blk_cell BK533.out 1).trans rfl; have hfz208_0 := blk_frozen BK533.out 0; have hfz208_1 := blk_frozen BK533.out 1) | ((with_reducible refine gate_callee (f := 28) rfl ?_); refine goesL_ (some 365) rfl rfl Try.func28 (by kernel_rfl) rfl #[.agg #[.int .i64 t528, .int .i64 t529], .agg #[.int .i64 t530, .int .i64 t531]] rfl (by simp only [List.map_toArray, List.map_cons, List.map_nil] <;> rfl) ?_; (with_reducible refine (spec_CompareRatios.calls kj165 t528 t529 t530 t531 t536 t537 _ A178.out).mono ?_); rintro e w209 ⟨rfl, hb⟩; refine ⟨_, rfl, ?_⟩; replace BK532 := Aside0.mk (blk_below BK532.out hb); replace BK533 := Aside0.mk (blk_below BK533.out hb); replace HB := Aside0.mk (below_step HB.out hb); have hcz210_0 : w209.cell? ⟨gb533, 0, none⟩ = some (.int .i64 t530) := (blk_cell BK533.out 0).trans rfl; have hcz210_1 : w209.cell? ⟨gb533, 1, none⟩ = some (.int .i64 t531) := (blk_cell BK533.out 1).trans rfl; have hfz210_0 := blk_frozen BK533.out 0; have hfz210_1 := blk_frozen BK533.out 1; have hcz211_0 : w209.cell? ⟨gb532, 0, none⟩ = some (.int .i64 t528) := (blk_cell BK532.out 0).trans rfl; have hcz211_1 : w209.cell? ⟨gb532, 1, none⟩ = some (.int .i64 t529) := (blk_cell BK532.out 1).trans rfl; have hfz211_0 := blk_frozen BK532.out 0; have hfz211_1 := blk_frozen BK532.out 1) | ((with_reducible refine gate_callee (f := 27) rfl ?_); refine goesL_ (some 371) rfl rfl Try.func27 (by kernel_rfl) rfl #[.agg #[.int .i64 t530, .int .i64 t531], .agg #[.int .i64 t528, .int .i64 t529]] rfl (by simp only [List.map_toArray, List.map_cons, List.map_nil] <;> rfl) ?_; (with_reducible refine (impl_CompareRatios.calls kj165 t530 t531 t528 t529 t538 t539 _ A179.out).mono ?_); rintro e w212 ⟨rfl, hb⟩; refine ⟨_, rfl, ?_⟩; replace BK532 := Aside0.mk (blk_below BK532.out hb); replace BK533 := Aside0.mk (blk_below BK533.out hb); replace HB := Aside0.mk (below_step HB.out hb)))
         go_ret
         exact ⟨by first | rfl | (simp [errW_none, errW_some] <;> rfl) | (simp [*, errW_none, errW_some] <;> rfl), by repeat (first | (with_reducible first | exact HB.out | apply below_alloc | apply pw_below_drewN | apply below_drew1 | refine below_set ?_ GE532.out | refine below_set ?_ GE533.out) | exact HB.out)⟩

/-- THE ONE PURE STATEMENT of laws_FnChancesCompared: yours. -/
def laws_FnChancesCompared.Pure : Prop := ∀ (l0 : List Int) (l1 : List Int), l0.length ≤ maxLen → l0.length * 1 ≤ 140737488351232 → (∀ x ∈ l0, (Lit.int .u8 x).wf = true) → l1.length ≤ maxLen → l1.length * 1 ≤ 140737488351232 → (∀ x ∈ l1, (Lit.int .u8 x).wf = true) → ∃ k, laws_FnChancesCompared.f k l0 l1 = some true
theorem laws_FnChancesCompared.walk (P : laws_FnChancesCompared.Pure) (a0 : Option Addr) (len0 cap0 : Nat) (z0 : List Int) (a1 : Option Addr) (len1 cap1 : Nat) (z1 : List Int) (w : World) (w0 : (a0 = none ∧ len0 = 0 ∧ cap0 = 0 ∧ z0 = []) ∨ ∃ x, a0 = some x ∧ len0 ≤ cap0 ∧ cap0 ≤ maxLen ∧ z0.length = cap0 ∧ (∀ i, i < z0.length → w.cell? (x.add i) = some (.int .u8 (z0.getD i 0))) ∧ ∀ n ∈ z0, (Lit.int .u8 n).wf = true) (y0 : len0 * 1 ≤ 140737488351232) (w1 : (a1 = none ∧ len1 = 0 ∧ cap1 = 0 ∧ z1 = []) ∨ ∃ x, a1 = some x ∧ len1 ≤ cap1 ∧ cap1 ≤ maxLen ∧ z1.length = cap1 ∧ (∀ i, i < z1.length → w.cell? (x.add i) = some (.int .u8 (z1.getD i 0))) ∧ ∀ n ∈ z1, (Lit.int .u8 n).wf = true) (y1 : len1 * 1 ≤ 140737488351232) :
  Calls Try.prog 3 #[.slice a0 len0 cap0, .slice a1 len1 cap1] w fun e w' => e = .returned (.bool true) ∧ Below w.heap.size w w' := by
 obtain ⟨l0, rfl, hr0, hm0, hw0, hc0⟩ := ReadsInt.ofRowC w0
 obtain ⟨l1, rfl, hr1, hm1, hw1, hc1⟩ := ReadsInt.ofRowC w1
 obtain ⟨k, h⟩ := P l0 l1 hm0 y0 hw0 hm1 y1 hw1
 refine (laws_FnChancesCompared.calls k _ _ l0 _ _ l1 true w (Kd.C_of_reads (d := (0 : Int)) (h1 := fun _ => rfl) hr0) hc0 (Kd.C_of_reads (d := (0 : Int)) (h1 := fun _ => rfl) hr1) hc1 h).mono ?_
 rintro e w' ⟨rfl, hd⟩
 exact ⟨rfl, hd⟩

end Go.Proofs.Ytafcjfilhdpgdaa.QFnChancesCompared
