-- WRITTEN BY A PROGRAM OF THIS CLAIM'S AUTHOR (wprint.py)
import Derived.Test.YtafcjfilhdpgdaaQFnChancesComparedx0
import Derived.Test.YtafcjfilhdpgdaaQFnChancesComparedx3
import Derived.Test.YtafcjfilhdpgdaaQFnChancesComparedx11
import Derived.Test.YtafcjfilhdpgdaaQFnChancesComparedx12
namespace Go.Proofs.Ytafcjfilhdpgdaa.QFnChancesCompared
open Go.RowKit Go.Proofs.YtafcjfilhdpgdaaW.PrintWords Go.Proofs.YtafcjfilhdpgdaaW.PrintLast Go.Proofs.YtafcjfilhdpgdaaW.PrintMore
attribute [local go_sem] max2_int min2_int max_two min_two max_three min_three max_four min_four   -- for this text's walks alone
set_option linter.unusedVariables false
set_option linter.unusedSimpArgs false

/-! ### impl_CountWithPips: function 22 -/
def impl_CountWithPips.f (k : Nat) (a0 : Int) (a1 : Int) (a2 : Int) : Option (Int × Bool) := (impl_isDrawn.f a0 a1).bind fun bt333 => (if bt333.2 = true then ((impl_isSum.f a2).bind fun t335 => (if t335 = true then ((impl_withPips.f k a0 a1).bind fun t336 => (if 0 ≤ a2 then (if a2 < (t336.length : Int) then (some (rd t336 a2, true)) else (none)) else (none))) else (some (0, false)))) else (some (0, false)))
theorem impl_CountWithPips.mono : ∀ a0 a1 a2 k, LeO (impl_CountWithPips.f k a0 a1 a2) (impl_CountWithPips.f (k + 1) a0 a1 a2) := by
 intro a0 a1 a2 k
 unfold impl_CountWithPips.f
 repeat' first
   | (with_reducible exact impl_withPips.mono _ _ _)
   | (with_reducible exact LeO.refl _)
   | (with_reducible exact LeO.none _)
   | (with_reducible refine LeO.ite ?_ ?_)
   | (with_reducible refine LeO.bind ?_ (fun _ => ?_))
   | exact impl_withPips.mono _ _ _
   | exact LeO.none _
   | refine LeO.ite ?_ ?_
   | refine LeO.bind ?_ (fun _ => ?_)
set_option maxHeartbeats 8000000 in
set_option maxRecDepth 100000 in
theorem impl_CountWithPips.calls (k : Nat) (a0 : Int) (a1 : Int) (a2 : Int) (r1 : Int) (r2 : Bool) (w : World) (h : impl_CountWithPips.f k a0 a1 a2 = some (r1, r2)) :
  Calls Try.prog 22 #[.int .i64 a0, .int .i64 a1, .int .i64 a2] w fun e w' => e = .returned (.tuple #[.int .i64 r1, .bool r2]) ∧ Below w.heap.size w w' := by
 have HB := Aside0.mk (Below.refl w.heap.size w)
 have H : ((impl_isDrawn.f a0 a1).bind fun bt333 => (if bt333.2 = true then ((impl_isSum.f a2).bind fun t335 => (if t335 = true then ((impl_withPips.f k a0 a1).bind fun t336 => (if 0 ≤ a2 then (if a2 < (t336.length : Int) then (some (rd t336 a2, true)) else (none)) else (none))) else (some (0, false)))) else (some (0, false)))) = some (r1, r2) := h
 clear h
 replace H := Option.bind_eq_some_iff.mp H
 obtain ⟨⟨t333, t334⟩, A40, H⟩ := H
 replace H : (if t334 = true then ((impl_isSum.f a2).bind fun t335 => (if t335 = true then ((impl_withPips.f k a0 a1).bind fun t336 => (if 0 ≤ a2 then (if a2 < (t336.length : Int) then (some (rd t336 a2, true)) else (none)) else (none))) else (some (0, false)))) else (some (0, false))) = some (r1, r2) := H
 have A4 := Aside0.mk A40
 clear A40
 by_cases c5 : t334 = true
 ·subst c5
  have H1 : ((impl_isSum.f a2).bind fun t335 => (if t335 = true then ((impl_withPips.f k a0 a1).bind fun t336 => (if 0 ≤ a2 then (if a2 < (t336.length : Int) then (some (rd t336 a2, true)) else (none)) else (none))) else (some (0, false)))) = some (r1, r2) := by rw [if_pos rfl] at H; exact H
  clear H
  have H := H1
  clear H1
  replace H := Option.bind_eq_some_iff.mp H
  obtain ⟨t335, A60, H⟩ := H
  replace H : (if t335 = true then ((impl_withPips.f k a0 a1).bind fun t336 => (if 0 ≤ a2 then (if a2 < (t336.length : Int) then (some (rd t336 a2, true)) else (none)) else (none))) else (some (0, false))) = some (r1, r2) := H
  have A6 := Aside0.mk A60
  clear A60
  by_cases c7 : t335 = true
  ·subst c7
   have H1 : ((impl_withPips.f k a0 a1).bind fun t336 => (if 0 ≤ a2 then (if a2 < (t336.length : Int) then (some (rd t336 a2, true)) else (none)) else (none))) = some (r1, r2) := by rw [if_pos rfl] at H; exact H
   clear H
   have H := H1
   clear H1
   replace H := Option.bind_eq_some_iff.mp H
   obtain ⟨t336, A80, H⟩ := H
   replace H : (if 0 ≤ a2 then (if a2 < (t336.length : Int) then (some (rd t336 a2, true)) else (none)) else (none)) = some (r1, r2) := H
   have A8 := Aside0.mk A80
   clear A80
   by_cases c9 : 0 ≤ a2
   ·rw [if_pos c9] at H
    have c9b0 : decide (0 ≤ a2) = true := decide_eq_true c9
    clear c9
    by_cases c10 : a2 < (t336.length : Int)
    ·rw [if_pos c10] at H
     have c10b0 : decide (a2 < (t336.length : Int)) = true := decide_eq_true c10
     clear c10
     simp only [Option.some.injEq, Prod.mk.injEq] at H
     obtain ⟨rfl, rfl⟩ := H
     go_enter Try.func22, Try.ntmps22
     go_wp2_with (first | ((with_reducible refine gate_callee (f := 30) rfl ?_); refine goesL_ (some 13) rfl rfl Try.func30 (by kernel_rfl) rfl #[.int .i64 a0, .int .i64 a1] rfl (by (try simp only [List.map_toArray, List.map_cons, List.map_nil]); first | done | rfl | (simp only [List.length_drop, List.length_take]; rfl)) ?_; (with_reducible refine (impl_isDrawn.calls a0 a1 t333 true _ A4.out).mono ?_); rintro e w' ⟨rfl, ⟨nd, rfl⟩⟩; refine ⟨_, rfl, ?_⟩) | (go_at_call 52; (with_reducible refine (impl_isSum.calls a2 true _ A6.out).mono ?_); rintro e w' ⟨rfl, ⟨nd, rfl⟩⟩) | ((with_reducible refine gate_callee (f := 53) rfl ?_); refine goesL_ (some 25) rfl rfl Try.func53 (by kernel_rfl) rfl #[.int .i64 a0, .int .i64 a1] rfl (by (try simp only [List.map_toArray, List.map_cons, List.map_nil]); first | done | rfl | (simp only [List.length_drop, List.length_take]; rfl)) ?_; (with_reducible refine (impl_withPips.calls k a0 a1 t336 _ A8.out).mono ?_); rintro e w11 ⟨v337, rfl, ho0, hb⟩; refine ⟨_, rfl, ?_⟩; have HO338 := Aside0.mk (Kd.R_lower ho0 (below_size (by repeat (first | (with_reducible first | exact HB.out | apply below_alloc | apply pw_below_drewN | apply below_drew1) | exact HB.out)))); replace HB := Aside0.mk (below_step (by repeat (first | (with_reducible first | exact HB.out | apply below_alloc | apply pw_below_drewN | apply below_drew1) | exact HB.out)) hb); (try clear hb); (try clear hb2); (try clear hk); (try clear hi); (try clear ho0); obtain ⟨Ao12, co12, eo12⟩ := Kd.R_slice HO338.out; subst eo12; have p339 : 0 ≤ (a2 : Int) := of_decide_eq_true (by first | (with_reducible assumption) | assumption); have q339 : a2 < (t336.length : Int) := of_decide_eq_true (by first | (with_reducible assumption) | assumption); obtain ⟨ad339, e339, hx339_0⟩ := Kd.at_int (Kd.R_reads' HO338.out).2.2 a2 p339 q339; cases e339; replace p339 := eq_true p339; replace q339 := eq_true q339))
     go_ret2
     exact ⟨by first | rfl | (simp [errW_none, errW_some] <;> rfl) | (simp [*, errW_none, errW_some] <;> rfl), by repeat (first | (with_reducible first | exact HB.out | apply below_alloc | apply pw_below_drewN | apply below_drew1) | exact HB.out)⟩
    ·rw [if_neg c10] at H
     exact absurd H (by simp)
   ·rw [if_neg c9] at H
    exact absurd H (by simp)
  ·replace c7 := Bool.eq_false_iff.mpr c7
   subst c7
   have H1 : (some (0, false)) = some (r1, r2) := by rw [if_neg (show ¬ (false = true) by decide)] at H; exact H
   clear H
   have H := H1
   clear H1
   simp only [Option.some.injEq, Prod.mk.injEq] at H
   obtain ⟨rfl, rfl⟩ := H
   go_enter Try.func22, Try.ntmps22
   go_wp2_with (first | ((with_reducible refine gate_callee (f := 30) rfl ?_); refine goesL_ (some 13) rfl rfl Try.func30 (by kernel_rfl) rfl #[.int .i64 a0, .int .i64 a1] rfl (by (try simp only [List.map_toArray, List.map_cons, List.map_nil]); first | done | rfl | (simp only [List.length_drop, List.length_take]; rfl)) ?_; (with_reducible refine (impl_isDrawn.calls a0 a1 t333 true _ A4.out).mono ?_); rintro e w' ⟨rfl, ⟨nd, rfl⟩⟩; refine ⟨_, rfl, ?_⟩) | (go_at_call 52; (with_reducible refine (impl_isSum.calls a2 false _ A6.out).mono ?_); rintro e w' ⟨rfl, ⟨nd, rfl⟩⟩))
   go_ret2
   exact ⟨by first | rfl | (simp [errW_none, errW_some] <;> rfl) | (simp [*, errW_none, errW_some] <;> rfl), by repeat (first | (with_reducible first | exact HB.out | apply below_alloc | apply pw_below_drewN | apply below_drew1) | exact HB.out)⟩
 ·replace c5 := Bool.eq_false_iff.mpr c5
  subst c5
  have H1 : (some (0, false)) = some (r1, r2) := by rw [if_neg (show ¬ (false = true) by decide)] at H; exact H
  clear H
  have H := H1
  clear H1
  simp only [Option.some.injEq, Prod.mk.injEq] at H
  obtain ⟨rfl, rfl⟩ := H
  go_enter Try.func22, Try.ntmps22
  go_wp2_with (first | ((with_reducible refine gate_callee (f := 30) rfl ?_); refine goesL_ (some 13) rfl rfl Try.func30 (by kernel_rfl) rfl #[.int .i64 a0, .int .i64 a1] rfl (by (try simp only [List.map_toArray, List.map_cons, List.map_nil]); first | done | rfl | (simp only [List.length_drop, List.length_take]; rfl)) ?_; (with_reducible refine (impl_isDrawn.calls a0 a1 t333 false _ A4.out).mono ?_); rintro e w' ⟨rfl, ⟨nd, rfl⟩⟩; refine ⟨_, rfl, ?_⟩))
  go_ret2
  exact ⟨by first | rfl | (simp [errW_none, errW_some] <;> rfl) | (simp [*, errW_none, errW_some] <;> rfl), by repeat (first | (with_reducible first | exact HB.out | apply below_alloc | apply pw_below_drewN | apply below_drew1) | exact HB.out)⟩

end Go.Proofs.Ytafcjfilhdpgdaa.QFnChancesCompared
