-- WRITTEN BY A PROGRAM OF THIS CLAIM'S AUTHOR (wprint.py)
import Derived.Test.YtmgdndgaiicaiaaQFnChainsLaidx0
import Derived.Test.YtmgdndgaiicaiaaQFnChainsLaidx2
import Derived.Test.YtmgdndgaiicaiaaQFnChainsLaidx3
import Derived.Test.YtmgdndgaiicaiaaQFnChainsLaidx4
namespace Go.Proofs.Ytmgdndgaiicaiaa.QFnChainsLaid
open Go.RowKit Go.Proofs.YtmgdndgaiicaiaaW.PrintWords Go.Proofs.YtmgdndgaiicaiaaW.PrintLast Go.Proofs.YtmgdndgaiicaiaaW.PrintMore
attribute [local go_sem] max2_int min2_int max_two min_two max_three min_three max_four min_four   -- for this text's walks alone
set_option linter.unusedVariables false
set_option linter.unusedSimpArgs false

/-! ### spec_l1Cur_one: function 60 -/
def spec_l1Cur_one.f (s0_0 : List Int) (s0_1 : Int) (s0_2 : Int) (a1 : Int) : Option (Bool × Int × Int) := (spec_l1Cur_pick.f s0_0 s0_1 s0_2 a1).bind fun bt354 => (some ((bt354.1 == 0), bt354.2.1, bt354.2.2))
set_option maxHeartbeats 8000000 in
set_option maxRecDepth 100000 in
theorem spec_l1Cur_one.calls (g : Nat) (s0_0 : List Int) (s0_1 : Int) (s0_2 : Int) (a1 : Int) (r1 : Bool) (r2 : Int) (r3 : Int) (w0 w : World) (hI : IsS70 w0 w g s0_0 s0_1 s0_2) (hB : Below w0.heap.size w0 w) (h : spec_l1Cur_one.f s0_0 s0_1 s0_2 a1 = some (r1, r2, r3)) :
  Calls Try.prog 60 #[.pointer (some ⟨g, 0, none⟩), .int .i64 a1] w fun e w' => e = .returned (.bool r1) ∧ IsS70 w0 w' g s0_0 r2 r3 ∧ Below w0.heap.size w0 w' ∧ KeepBut w w' g none := by
 have HI0 := Aside0.mk hI
 have HK := Aside0.mk (KeepBut.refl w g none)
 have HL := Aside0.mk hB.size
 clear hI
 have HW0 := Aside0.mk hB.size
 have HB := Aside0.mk hB
 clear hB
 have H : ((spec_l1Cur_pick.f s0_0 s0_1 s0_2 a1).bind fun bt354 => (some ((bt354.1 == 0), bt354.2.1, bt354.2.2))) = some (r1, r2, r3) := h
 clear h
 replace H := Option.bind_eq_some_iff.mp H
 obtain ⟨⟨t354, t355, t356⟩, A30, H⟩ := H
 replace H : (some ((t354 == 0), t355, t356)) = some (r1, r2, r3) := H
 have A3 := Aside0.mk A30
 clear A30
 simp only [Option.some.injEq, Prod.mk.injEq] at H
 obtain ⟨rfl, rfl, rfl⟩ := H
 go_enter Try.func60, Try.ntmps60
 go_wp2_with (first | ((with_reducible refine gate_callee (f := 54) rfl ?_); refine goesL_ (some 7) rfl rfl Try.func54 (by kernel_rfl) rfl #[.pointer (some ⟨g, 0, none⟩), .int .i64 a1] rfl (by simp only [List.map_toArray, List.map_cons, List.map_nil] <;> rfl) ?_; (with_reducible refine (spec_l1Cur_pick.calls g s0_0 s0_1 s0_2 a1 t354 t355 t356 w0 _ ?side1 ?side2 A3.out).mono ?_); (case side1 => repeat (first | (with_reducible first | exact HI0.out | apply IsS70.alloc | apply IsS70.drewN | apply IsS70.drew | apply IsS70.set_1 | apply IsS70.set_2) | exact HI0.out)); (case side2 => repeat (first | (with_reducible first | exact HB.out | apply below_alloc | apply pw_below_drewN | apply below_drew1 | refine below_set ?_ (IsS70.ge HI0.out)) | exact HB.out)); rintro e w4 ⟨rfl, hi, hb, hk⟩; refine ⟨_, rfl, ?_⟩; replace HK := Aside0.mk (KeepBut.trans (kl_ HK.out) hk (.inl rfl)); replace HB := Aside0.mk (hb); replace HI0 := Aside0.mk (hi); clear hb hk hi))
 go_ret
 exact ⟨by first | rfl | (simp [errW_none, errW_some] <;> rfl) | (simp [*, errW_none, errW_some] <;> rfl), by repeat (first | (with_reducible first | exact HI0.out | apply IsS70.alloc | apply IsS70.drewN | apply IsS70.drew | apply IsS70.set_1 | apply IsS70.set_2) | exact HI0.out), by repeat (first | (with_reducible first | exact HB.out | apply below_alloc | apply pw_below_drewN | apply below_drew1 | refine below_set ?_ (IsS70.ge HI0.out)) | exact HB.out), kl_ HK.out⟩

/-! ### spec_l1Cur_ring: function 53 -/
def spec_l1Cur_ring.j0 : Nat → List Int → Bool → List Int → Int → Int → Option (List Int × Int × Int)
 | 0, _, _, _, _, _ => none
 | k + 1, x3, x14, x1000, x1001, x1002 => if x14 = true then ((spec_l1Own.f x3).bind fun t365 => (if 0 < (x3.length : Int) then ((some (([rd x3 0] : List Int) : List Int)).bind fun y369 => (if t365.length + y369.length < 17592186044416 then ((some (t365 ++ y369 : List Int)).bind fun y372 => ((spec_haGood.f k y372).bind fun t375 => (if t375 = true then (some (y372, x1001, x1002)) else (some (x3, x1001, x1002))))) else (none))) else (none))) else (some (x3, x1001, x1002))
def spec_l1Cur_ring.f (k : Nat) (s0_0 : List Int) (s0_1 : Int) (s0_2 : Int) : Option (List Int × Int × Int) := (spec_l1Cur_chain.f k s0_0 s0_1 s0_2 7 4).bind fun bt357 => (if (bt357.1.length : Int) > 0 then ((spec_l1Cur_one.f s0_0 bt357.2.1 bt357.2.2 4).bind fun bt362 => (spec_l1Cur_ring.j0 k bt357.1 (!bt362.1) s0_0 bt362.2.1 bt362.2.2)) else (spec_l1Cur_ring.j0 k bt357.1 false s0_0 bt357.2.1 bt357.2.2))
theorem spec_l1Cur_ring.mono_l : ∀ k, (∀ y0 y1 y2 y3 y4, LeO (spec_l1Cur_ring.j0 k y0 y1 y2 y3 y4) (spec_l1Cur_ring.j0 (k + 1) y0 y1 y2 y3 y4))
 | 0 => fun _ _ _ _ _ r h => by simp [spec_l1Cur_ring.j0] at h
 | k + 1 => by
  have ih0 := spec_l1Cur_ring.mono_l k
  ·intro y0 y1 y2 y3 y4
   unfold spec_l1Cur_ring.j0
   repeat' first
   | (with_reducible exact ih0 _ _ _ _ _)
   | (with_reducible exact spec_haGood.mono _ _)
   | (with_reducible exact spec_l1Cur_chain.mono _ _ _ _ _ _)
   | (with_reducible exact LeO.refl _)
   | (with_reducible exact LeO.none _)
   | (with_reducible refine LeO.ite ?_ ?_)
   | (with_reducible refine LeO.bind ?_ (fun _ => ?_))
   | exact ih0 _ _ _ _ _
   | exact spec_haGood.mono _ _
   | exact spec_l1Cur_chain.mono _ _ _ _ _ _
   | exact LeO.none _
   | refine LeO.ite ?_ ?_
   | refine LeO.bind ?_ (fun _ => ?_)
theorem spec_l1Cur_ring.mono : ∀ a0 a1 a2 k, LeO (spec_l1Cur_ring.f k a0 a1 a2) (spec_l1Cur_ring.f (k + 1) a0 a1 a2) := by
 intro a0 a1 a2 k
 have ih0 := spec_l1Cur_ring.mono_l k
 unfold spec_l1Cur_ring.f
 repeat' first
   | (with_reducible exact ih0 _ _ _ _ _)
   | (with_reducible exact spec_haGood.mono _ _)
   | (with_reducible exact spec_l1Cur_chain.mono _ _ _ _ _ _)
   | (with_reducible exact LeO.refl _)
   | (with_reducible exact LeO.none _)
   | (with_reducible refine LeO.ite ?_ ?_)
   | (with_reducible refine LeO.bind ?_ (fun _ => ?_))
   | exact ih0 _ _ _ _ _
   | exact spec_haGood.mono _ _
   | exact spec_l1Cur_chain.mono _ _ _ _ _ _
   | exact LeO.none _
   | refine LeO.ite ?_ ?_
   | refine LeO.bind ?_ (fun _ => ?_)
def spec_l1Cur_ring.T3 : Bool × List (List Nat × List Nat) := (true, [([], []), ([0], [0]), ([], []), ([2], [2]), ([3], [3]), ([4], [4]), ([1, 5, 1], [1, 5]), ([6, 6, 0, 1, 2, 3, 4, 5, 6], [6])])
def spec_l1Cur_ring.B3 : List Nat := [0, 1, 0, 4, 12, 28, 63, 127]
theorem spec_l1Cur_ring.tab3 : rtab .any (opsOf Try.f53 3) = spec_l1Cur_ring.T3 := by kernel_rfl
theorem spec_l1Cur_ring.bits3 : waitsOk spec_l1Cur_ring.T3.2 spec_l1Cur_ring.B3 = true := by kernel_rfl
set_option maxHeartbeats 8000000 in
set_option maxRecDepth 100000 in
theorem spec_l1Cur_ring.calls (k : Nat) (g : Nat) (s0_0 : List Int) (s0_1 : Int) (s0_2 : Int) (r1 : List Int) (r2 : Int) (r3 : Int) (w0 w : World) (hI : IsS70 w0 w g s0_0 s0_1 s0_2) (hB : Below w0.heap.size w0 w) (h : spec_l1Cur_ring.f k s0_0 s0_1 s0_2 = some (r1, r2, r3)) :
  Calls Try.prog 53 #[.pointer (some ⟨g, 0, none⟩)] w fun e w' => ∃ v0_ : Value, e = .returned (v0_) ∧ Kd.R (Kd.int .i64) 3 w' w.heap.size (fun _ => True) v0_ r1 ∧ IsS70 w0 w' g s0_0 r2 r3 ∧ Below w0.heap.size w0 w' ∧ KeepBut w w' g none := by
 have HI0 := Aside0.mk hI
 have HK := Aside0.mk (KeepBut.refl w g none)
 have HL := Aside0.mk hB.size
 clear hI
 have HW0 := Aside0.mk hB.size
 have HB := Aside0.mk hB
 clear hB
 have H : ((spec_l1Cur_chain.f k s0_0 s0_1 s0_2 7 4).bind fun bt357 => (if (bt357.1.length : Int) > 0 then ((spec_l1Cur_one.f s0_0 bt357.2.1 bt357.2.2 4).bind fun bt362 => (spec_l1Cur_ring.j0 k bt357.1 (!bt362.1) s0_0 bt362.2.1 bt362.2.2)) else (spec_l1Cur_ring.j0 k bt357.1 false s0_0 bt357.2.1 bt357.2.2))) = some (r1, r2, r3) := h
 clear h
 replace H := Option.bind_eq_some_iff.mp H
 obtain ⟨⟨t357, t360, t361⟩, A20, H⟩ := H
 replace H : (if (t357.length : Int) > 0 then ((spec_l1Cur_one.f s0_0 t360 t361 4).bind fun bt362 => (spec_l1Cur_ring.j0 k t357 (!bt362.1) s0_0 bt362.2.1 bt362.2.2)) else (spec_l1Cur_ring.j0 k t357 false s0_0 t360 t361)) = some (r1, r2, r3) := H
 have A2 := Aside0.mk A20
 clear A20
 have HC3 := Aside0.mk H
 clear H
 go_enter Try.func53, Try.ntmps53
 go_upto_region 2 with (first | ((with_reducible refine gate_callee (f := 59) rfl ?_); refine goesL_ (some 6) rfl rfl Try.func59 (by kernel_rfl) rfl #[.pointer (some ⟨g, 0, none⟩), .int .i64 7, .int .i64 4] rfl (by simp only [List.map_toArray, List.map_cons, List.map_nil] <;> rfl) ?_; (with_reducible refine (spec_l1Cur_chain.calls k g s0_0 s0_1 s0_2 7 4 t357 t360 t361 w0 _ ?side1 ?side2 A2.out).mono ?_); (case side1 => repeat (first | (with_reducible first | exact HI0.out | apply IsS70.alloc | apply IsS70.drewN | apply IsS70.drew | apply IsS70.set_1 | apply IsS70.set_2) | exact HI0.out)); (case side2 => repeat (first | (with_reducible first | exact HB.out | apply below_alloc | apply pw_below_drewN | apply below_drew1 | refine below_set ?_ (IsS70.ge HI0.out)) | exact HB.out)); rintro e w4 ⟨v358, rfl, ho0, hi, hb, hk⟩; refine ⟨_, rfl, ?_⟩; have HO359 := Aside0.mk (Kd.R_lower ho0 (keep_size (w := w) (g := g) (row := none) (kl_ HK.out))); replace HK := Aside0.mk (KeepBut.trans (kl_ HK.out) hk (.inl rfl)); replace HB := Aside0.mk (hb); replace HI0 := Aside0.mk (hi); clear hb hk hi; (try clear ho0)))
 (try simp only [Act.put, List.setIfInBounds_toArray, List.set_cons_zero, List.set_cons_succ])
 go_cut [14] (fun v14 wc => ∃ (kq : Nat) (x14_2 : Bool) (x1001_2 : Int) (x1002_2 : Int), v14 = .bool x14_2 ∧ Aside0 (spec_l1Cur_ring.j0 kq t357 x14_2 s0_0 x1001_2 x1002_2 = some (r1, r2, r3)) ∧ Aside0 (kq ≤ k) ∧ Aside0 (Kd.R (Kd.int .i64) 3 wc w.heap.size (fun _ => True) v358 t357) ∧ Aside0 (IsS70 w0 wc g s0_0 x1001_2 x1002_2) ∧ Aside0 (KeepBut w wc g none) ∧ Aside0 (Below w0.heap.size w0 wc))
 case first =>
  have H := HC3.out
  clear HC3
  by_cases c5 : (t357.length : Int) > 0
  ·rw [if_pos c5] at H
   have c5b0 : decide (0 < (t357.length : Int)) = true := decide_eq_true c5
   have c5b1 : decide (0 < t357.length) = true := decide_eq_true (by omega)
   clear c5
   (first | rw [c5b0] | (simp only [i64_w, i32_w]; rw [c5b0]) | skip)
   replace H := Option.bind_eq_some_iff.mp H
   obtain ⟨⟨t362, t363, t364⟩, A60, H⟩ := H
   replace H : (spec_l1Cur_ring.j0 k t357 (!t362) s0_0 t363 t364) = some (r1, r2, r3) := H
   have A6 := Aside0.mk A60
   clear A60
   have H' := Aside0.mk H
   clear H
   obtain ⟨Ao7, co7, eo7⟩ := Kd.R_slice HO359.out
   subst eo7
   go_wp2_with (first | (go_at_call 60; (with_reducible refine (spec_l1Cur_one.calls g s0_0 t360 t361 4 t362 t363 t364 w0 _ ?side1 ?side2 A6.out).mono ?_); (case side1 => repeat (first | (with_reducible first | exact HI0.out | apply IsS70.alloc | apply IsS70.drewN | apply IsS70.drew | apply IsS70.set_1 | apply IsS70.set_2) | exact HI0.out)); (case side2 => repeat (first | (with_reducible first | exact HB.out | apply below_alloc | apply pw_below_drewN | apply below_drew1 | refine below_set ?_ (IsS70.ge HI0.out)) | exact HB.out)); rintro e w8 ⟨rfl, hi, hb, hk⟩; replace HO359 := Aside0.mk (Kd.R_mono (Kd.R_keep (IsS70.apart (show IsS70 w0 _ g s0_0 t360 t361 from by repeat (first | (with_reducible first | exact HI0.out | apply IsS70.alloc | apply IsS70.drewN | apply IsS70.drew | apply IsS70.set_1 | apply IsS70.set_2) | exact HI0.out)) (Rl_ HO359.out) (by decide)) hk (fun _ h => h.2)) (fun _ h => h.1)); replace HK := Aside0.mk (KeepBut.trans (kl_ HK.out) hk (.inl rfl)); replace HB := Aside0.mk (hb); replace HI0 := Aside0.mk (hi); clear hb hk hi))
   go_meet
   case rel => exact ⟨_, (!t362), (t363), (t364), (by first | rfl | (simp; done) | (simp [*]; done)), H', ⟨by first | omega | exact Nat.le_refl _⟩, ⟨Rl_ HO359.out⟩, ⟨by repeat (first | (with_reducible first | exact HI0.out | apply IsS70.alloc | apply IsS70.drewN | apply IsS70.drew | apply IsS70.set_1 | apply IsS70.set_2) | exact HI0.out)⟩, ⟨kl_ HK.out⟩, ⟨by repeat (first | (with_reducible first | exact HB.out | apply below_alloc | apply pw_below_drewN | apply below_drew1 | refine below_set ?_ (IsS70.ge HI0.out)) | exact HB.out)⟩⟩
  ·rw [if_neg c5] at H
   have c5b0 : decide (0 < (t357.length : Int)) = false := decide_eq_false c5
   have c5b1 : decide (0 < t357.length) = false := decide_eq_false (by omega)
   clear c5
   (first | rw [c5b0] | (simp only [i64_w, i32_w]; rw [c5b0]) | skip)
   have H' := Aside0.mk H
   clear H
   obtain ⟨Ao9, co9, eo9⟩ := Kd.R_slice HO359.out
   subst eo9
   go_wp2
   go_meet
   case rel => exact ⟨_, (false), (t360), (t361), (by first | rfl | (simp; done) | (simp [*]; done)), H', ⟨by first | omega | exact Nat.le_refl _⟩, ⟨Rl_ HO359.out⟩, ⟨by repeat (first | (with_reducible first | exact HI0.out | apply IsS70.alloc | apply IsS70.drewN | apply IsS70.drew | apply IsS70.set_1 | apply IsS70.set_2) | exact HI0.out)⟩, ⟨kl_ HK.out⟩, ⟨by repeat (first | (with_reducible first | exact HB.out | apply below_alloc | apply pw_below_drewN | apply below_drew1 | refine below_set ?_ (IsS70.ge HI0.out)) | exact HB.out)⟩⟩
 case rest =>
  clear HC3
  (try clear p2); (try clear c5); (try clear c5b0); (try clear c5b1)
  obtain ⟨kq, x14_2, x1001_2, x1002_2, rfl, HA, HJ2, HO_3, HI0, HK, HB⟩ := hcut
  cases kq with
  | zero => exact absurd HA.out (by simp [spec_l1Cur_ring.j0])
  | succ kj2 =>
   have H := HA.out
   clear HA
   simp only [spec_l1Cur_ring.j0] at H
   by_cases c10 : x14_2 = true
   ·subst c10
    have H1 : ((spec_l1Own.f t357).bind fun t365 => (if 0 < (t357.length : Int) then ((some (([rd t357 0] : List Int) : List Int)).bind fun y369 => (if t365.length + y369.length < 17592186044416 then ((some (t365 ++ y369 : List Int)).bind fun y372 => ((spec_haGood.f kj2 y372).bind fun t375 => (if t375 = true then (some (y372, x1001_2, x1002_2)) else (some (t357, x1001_2, x1002_2))))) else (none))) else (none))) = some (r1, r2, r3) := by rw [if_pos rfl] at H; exact H
    clear H
    have H := H1
    clear H1
    replace H := Option.bind_eq_some_iff.mp H
    obtain ⟨t365, A110, H⟩ := H
    replace H : (if 0 < (t357.length : Int) then ((some (([rd t357 0] : List Int) : List Int)).bind fun y369 => (if t365.length + y369.length < 17592186044416 then ((some (t365 ++ y369 : List Int)).bind fun y372 => ((spec_haGood.f kj2 y372).bind fun t375 => (if t375 = true then (some (y372, x1001_2, x1002_2)) else (some (t357, x1001_2, x1002_2))))) else (none))) else (none)) = some (r1, r2, r3) := H
    have A11 := Aside0.mk A110
    clear A110
    obtain ⟨c12, H⟩ := ifp_ H
    have c12b0 : decide (0 < (t357.length : Int)) = true := decide_eq_true c12
    have c12b1 : decide (0 < t357.length) = true := decide_eq_true (by omega)
    clear c12
    obtain ⟨y369, hy369⟩ : ∃ y_ : List Int, y_ = (([rd t357 0] : List Int)) := ⟨_, rfl⟩
    replace H : (if t365.length + y369.length < 17592186044416 then ((some (t365 ++ y369 : List Int)).bind fun y372 => ((spec_haGood.f kj2 y372).bind fun t375 => (if t375 = true then (some (y372, x1001_2, x1002_2)) else (some (t357, x1001_2, x1002_2))))) else (none)) = some (r1, r2, r3) := by first | (rw [hy369]; with_reducible exact H) | (have H2_ := (Option.bind_some _ _).symm.trans H; rw [hy369]; with_reducible exact H2_) | (have H2_ := (Option.bind_some _ _).symm.trans H; with_reducible exact H2_) | with_reducible exact H | (rw [hy369]; exact H) | exact H
    have Ny369 := Aside0.mk hy369
    clear hy369
    obtain ⟨c13, H⟩ := ifp_ H
    have LMc13 := Aside0.mk c13
    clear c13
    obtain ⟨y372, hy372⟩ : ∃ y_ : List Int, y_ = (t365 ++ y369) := ⟨_, rfl⟩
    replace H : ((spec_haGood.f kj2 y372).bind fun t375 => (if t375 = true then (some (y372, x1001_2, x1002_2)) else (some (t357, x1001_2, x1002_2)))) = some (r1, r2, r3) := by first | (rw [hy372]; with_reducible exact H) | (have H2_ := (Option.bind_some _ _).symm.trans H; rw [hy372]; with_reducible exact H2_) | (have H2_ := (Option.bind_some _ _).symm.trans H; with_reducible exact H2_) | with_reducible exact H | (rw [hy372]; exact H) | exact H
    have Ny372 := Aside0.mk hy372
    clear hy372
    replace H := Option.bind_eq_some_iff.mp H
    obtain ⟨t375, A140, H⟩ := H
    replace H : (if t375 = true then (some (y372, x1001_2, x1002_2)) else (some (t357, x1001_2, x1002_2))) = some (r1, r2, r3) := H
    have A14 := Aside0.mk A140
    clear A140
    by_cases c15 : t375 = true
    ·subst c15
     have H1 : (some (y372, x1001_2, x1002_2)) = some (r1, r2, r3) := by rw [if_pos rfl] at H; exact H
     clear H
     have H := H1
     clear H1
     simp only [Option.some.injEq, Prod.mk.injEq] at H
     obtain ⟨rfl, rfl, rfl⟩ := H
     obtain ⟨Ao16, co16, eo16⟩ := Kd.R_slice HO_3.out
     subst eo16
     try go_wp2
     replace HO_3 := Aside0.mk (Kd.R_drew HO_3.out)
     replace HI0 := Aside0.mk (IsS70.drew HI0.out)
     replace HK := Aside0.mk (keep_drew HK.out)
     replace HB := Aside0.mk (below_drew1 HB.out)
     have p368 : 0 ≤ (0 : Int) := (by omega)
     have q368 : 0 < (t357.length : Int) := of_decide_eq_true (by first | (with_reducible assumption) | assumption)
     obtain ⟨ad368, e368, hx368_0⟩ := Kd.at_int (Kd.R_reads' HO_3.out).2.2 0 p368 q368
     cases e368
     have qi368 : (0 < t357.length) = True := eq_true (by omega)
     (try rw [show ((0 : Int)).toNat = 0 from rfl] at hx368_0)
     (try rw [Addr.add_zero'] at hx368_0)
     replace p368 := eq_true p368
     replace q368 := eq_true q368
     refine start_ (n := 8) (S := fun w' => w'.cell? ad368 = some (.int .i64 (rd t357 0))) (ds := [6]) (bt_ 8 0) (by kernel_rfl) rfl rfl (hx368_0) (fun hHeld => ?_); refine with_tabW spec_l1Cur_ring.tab3 spec_l1Cur_ring.bits3 (fun HT_ HW_ => ?_)
     generalize wc.drew = w17 at HO_3 HI0 HK HB hx368_0 hHeld ⊢
     refine pure_ (i := 0) (N := some 15) (v := ?_) (a' := ?_) (bt_ 8 1) rfl rfl (any_of HT_.out (by kernel_rfl)) (fun _ _ _ h => h) (Or.inl ⟨by rfl, ?_⟩) ?_ ?_
     rotate_left; (intro w'; go_simp; with_reducible rfl); rotate_left; (simp only [Act.put, List.setIfInBounds_toArray, List.set_cons_zero, List.set_cons_succ, i64_w, i32_w]; rfl)
     refine pure_ (i := 2) (N := some 17) (v := ?_) (a' := ?_) (bt_ 8 5) rfl rfl (any_of HT_.out (by kernel_rfl)) (fun _ _ _ h => h) (Or.inl ⟨by rfl, ?_⟩) ?_ ?_
     rotate_left; (intro w'; go_simp; with_reducible rfl); rotate_left; (simp only [Act.put, List.setIfInBounds_toArray, List.set_cons_zero, List.set_cons_succ, i64_w, i32_w]; rfl)
     refine pure_ (i := 3) (N := some 18) (v := ?_) (a' := ?_) (bt_ 8 13) rfl rfl (any_of HT_.out (by kernel_rfl)) (fun _ _ _ h => h) (Or.inl ⟨by rfl, ?_⟩) ?_ ?_
     rotate_left; (intro w'; go_simp; with_reducible rfl); rotate_left; (simp only [Act.put, List.setIfInBounds_toArray, List.set_cons_zero, List.set_cons_succ, i64_w, i32_w]; rfl)
     refine take_ (i := 4) (N := some 19) (v := ?_) (a' := ?_) (bt_ 8 29) rfl rfl (take_ofW HT_.out HW_.out (by kernel_rfl)) (fun _ _ _ h => h) (Or.inl ⟨by rfl, ?_⟩) hHeld ?_ ?_
     rotate_left
     ·intro w' s0
      go_simp
      with_reducible rfl
     rotate_left
     ·simp only [Act.put, List.setIfInBounds_toArray, List.set_cons_zero, List.set_cons_succ, i64_w, i32_w]
      rfl
     refine join_ (σ := Value × Value) 2 (bt_ 8 63) (fun s_ => [(16, s_.1), (20, s_.2)]) (fun s_ w' => (w'.cell? ad368 = some (.int .i64 (rd t357 0))) ∧ (Kd.R (Kd.int .i64) 3 w' w.heap.size (fun k_ => some k_ ≠ (s_.2 : Value).ownBlock ∧ some k_ ≠ (.slice (some ad368) t357.length co16 : Value).ownBlock) s_.1 t365) ∧ (Kd.R (Kd.int .i64) 3 w' w.heap.size (fun k_ => some k_ ≠ (s_.1 : Value).ownBlock ∧ some k_ ≠ (.slice (some ad368) t357.length co16 : Value).ownBlock) s_.2 y369) ∧ (Kd.R (Kd.int .i64) 3 w' w.heap.size (fun k_ => some k_ ≠ (s_.1 : Value).ownBlock ∧ some k_ ≠ (s_.2 : Value).ownBlock) (.slice (some ad368) t357.length co16) t357) ∧ (IsS70 w0 w' g s0_0 x1001_2 x1002_2) ∧ (KeepBut w w' g none) ∧ (Below w0.heap.size w0 w')) ?_ ?_
     rotate_left
     ·intro hCont
      refine two_ (i := 1) (j := 5) (Ni := some 16) (Nj := some 20) (bt_ 8 31) (bt_ 8 61) rfl rfl rfl rfl (two_of HT_.out (by kernel_rfl)) (by decide) (by decide) (fun K hK => ?_) (fun K hK => ?_)
      ·skip
       refine goes_ Try.func58 (by kernel_rfl) rfl #[.slice (some ad368) t357.length co16] (by rfl) rfl rfl (by simp only [List.map_toArray, List.map_cons, List.map_nil] <;> rfl) ?_
       with_reducible refine (spec_l1Own.calls _ _ t357 t365 _ ?side1 ?side2 A11.out).mono ?_
       (case side1 => exact Cl_ ((Kd.R_reads' HO_3.out).2.2))
       (case side2 => exact (Kd.R_reads' HO_3.out).2.1)
       rintro e w18 ⟨v366, rfl, ho0, hb⟩
       have HS0_ := (hb.cell (World.block_lt_of_cell? _ _ (hHeld))).trans (hHeld)
       refine ⟨_, rfl, ?_⟩
       have HO367 := Aside0.mk (Kd.R_lower (Kd.R_new' ho0 (Kd.R_lt (Rl_ HO_3.out))) (keep_size (w := w) (g := g) (row := none) (kl_ HK.out)))
       replace HO_3 := Aside0.mk (Kd.R_elder' (Rl_ HO_3.out) (Kd.R_base ho0) hb)
       replace HK := Aside0.mk (KeepBut.trans (kl_ HK.out) (KeepBut.of_below hb g none) (.inl rfl))
       replace HB := Aside0.mk (below_step (by repeat (first | (with_reducible first | exact HB.out | apply below_alloc | apply pw_below_drewN | apply below_drew1 | refine below_set ?_ (IsS70.ge HI0.out)) | exact HB.out)) hb)
       replace HI0 := Aside0.mk (IsS70.below (by repeat (first | (with_reducible first | exact HI0.out | apply IsS70.alloc | apply IsS70.drewN | apply IsS70.drew | apply IsS70.set_1 | apply IsS70.set_2) | exact HI0.out)) hb)
       (try clear hb)
       (try clear hb2)
       (try clear hk)
       (try clear hi)
       (try clear ho0)
       refine hK.out _ _ (HS0_) (fun hHeld => ?_)
       clear hK K
       refine norm_ (a' := ?_) ?_ ?_
       rotate_left
       ·show Act.put _ (some 16) _ = _
        simp only [Act.put, List.setIfInBounds_toArray, List.set_cons_zero, List.set_cons_succ, i64_w, i32_w]
        rfl
       refine one_ (i := 5) (N := some 20) (bt_ 8 63) rfl rfl (one_of HT_.out (by kernel_rfl)) (by decide) (fun K hK => ?_)
       refine Kd.R_lit_step (Kd.int .i64) _ 3 ?hg (N := 20) ?hd (xs := ([rd t357 0] : List Int)) (inner := [.int .i64 (rd t357 0)]) (ok := fun _ => True) (okp := fun _ => True) ?hr ?hp (fun _ hk => hk) trivial (Below.refl _ _) (Nat.le_refl _) (by simp) ?_; (case hd => rfl); (case hg => rfl); (case hr => first | (go_simp; done) | (go_simp; rfl)); (case hp => exact (Reps.one (show Kd.M (Kd.int .i64) _ _ _ (rd t357 0) [.int .i64 (rd t357 0)] from rfl) (Reps.none _ _)))
       intro v370 w19 ho20 hb hg_ hnew_
       have HS0_ := (hb.cell (World.block_lt_of_cell? _ _ (hHeld))).trans (hHeld)
       clear hg_ hnew_
       (first | rw [← Ny369.out] at ho20 | (simp only [Int.reduceToNat] at ho20; rw [← Ny369.out] at ho20))
       have HO371 := Aside0.mk (Kd.R_lower (Kd.R_new' (Kd.R_new' ho20 (Kd.R_lt (Rl_ HO_3.out))) (Kd.R_lt (Rl_ HO367.out))) (keep_size (w := w) (g := g) (row := none) (kl_ HK.out)))
       replace HO_3 := Aside0.mk (Kd.R_elder' (Rl_ HO_3.out) (Kd.R_base ho20) hb)
       replace HO367 := Aside0.mk (Kd.R_elder' (Rl_ HO367.out) (Kd.R_base ho20) hb)
       replace HK := Aside0.mk (KeepBut.trans (kl_ HK.out) (KeepBut.of_below hb g none) (.inl rfl))
       replace HB := Aside0.mk (below_step (by repeat (first | (with_reducible first | exact HB.out | apply below_alloc | apply pw_below_drewN | apply below_drew1 | refine below_set ?_ (IsS70.ge HI0.out)) | exact HB.out)) hb)
       replace HI0 := Aside0.mk (IsS70.below (by repeat (first | (with_reducible first | exact HI0.out | apply IsS70.alloc | apply IsS70.drewN | apply IsS70.drew | apply IsS70.set_1 | apply IsS70.set_2) | exact HI0.out)) hb)
       clear hb ho20
       refine hK.out _ _ (HS0_) (fun hHeld => ?_)
       clear hK K
       refine norm_ (a' := ?_) ?_ ?_
       rotate_left
       ·show Act.put _ (some 20) _ = _
        simp only [Act.put, List.setIfInBounds_toArray, List.set_cons_zero, List.set_cons_succ, i64_w, i32_w]
        rfl
       exact norm_ (by simp only [putAll, Act.put, List.setIfInBounds_toArray, List.set_cons_zero, List.set_cons_succ]) (hCont (v366, v370) _ ⟨hHeld, (Rl_ (Kd.R_mono HO367.out (fun _ hk => ⟨hk.2, hk.1.2⟩))), (Rl_ (Kd.R_mono HO371.out (fun _ hk => ⟨hk.2, hk.1.2⟩))), (Rl_ (Kd.R_mono HO_3.out (fun _ hk => ⟨hk.1.2, hk.2⟩))), (by repeat (first | (with_reducible first | exact HI0.out | apply IsS70.alloc | apply IsS70.drewN | apply IsS70.drew | apply IsS70.set_1 | apply IsS70.set_2) | exact HI0.out)), (kl_ HK.out), (by repeat (first | (with_reducible first | exact HB.out | apply below_alloc | apply pw_below_drewN | apply below_drew1 | refine below_set ?_ (IsS70.ge HI0.out)) | exact HB.out))⟩)
      ·skip
       refine Kd.R_lit_step (Kd.int .i64) _ 3 ?hg (N := 20) ?hd (xs := ([rd t357 0] : List Int)) (inner := [.int .i64 (rd t357 0)]) (ok := fun _ => True) (okp := fun _ => True) ?hr ?hp (fun _ hk => hk) trivial (Below.refl _ _) (Nat.le_refl _) (by simp) ?_; (case hd => rfl); (case hg => rfl); (case hr => first | (go_simp; done) | (go_simp; rfl)); (case hp => exact (Reps.one (show Kd.M (Kd.int .i64) _ _ _ (rd t357 0) [.int .i64 (rd t357 0)] from rfl) (Reps.none _ _)))
       intro v370 w18 ho19 hb hg_ hnew_
       have HS0_ := (hb.cell (World.block_lt_of_cell? _ _ (hHeld))).trans (hHeld)
       clear hg_ hnew_
       (first | rw [← Ny369.out] at ho19 | (simp only [Int.reduceToNat] at ho19; rw [← Ny369.out] at ho19))
       have HO371 := Aside0.mk (Kd.R_lower (Kd.R_new' ho19 (Kd.R_lt (Rl_ HO_3.out))) (keep_size (w := w) (g := g) (row := none) (kl_ HK.out)))
       replace HO_3 := Aside0.mk (Kd.R_elder' (Rl_ HO_3.out) (Kd.R_base ho19) hb)
       replace HK := Aside0.mk (KeepBut.trans (kl_ HK.out) (KeepBut.of_below hb g none) (.inl rfl))
       replace HB := Aside0.mk (below_step (by repeat (first | (with_reducible first | exact HB.out | apply below_alloc | apply pw_below_drewN | apply below_drew1 | refine below_set ?_ (IsS70.ge HI0.out)) | exact HB.out)) hb)
       replace HI0 := Aside0.mk (IsS70.below (by repeat (first | (with_reducible first | exact HI0.out | apply IsS70.alloc | apply IsS70.drewN | apply IsS70.drew | apply IsS70.set_1 | apply IsS70.set_2) | exact HI0.out)) hb)
       clear hb ho19
       refine hK.out _ _ (HS0_) (fun hHeld => ?_)
       clear hK K
       refine norm_ (a' := ?_) ?_ ?_
       rotate_left
       ·show Act.put _ (some 20) _ = _
        simp only [Act.put, List.setIfInBounds_toArray, List.set_cons_zero, List.set_cons_succ, i64_w, i32_w]
        rfl
       refine one_ (i := 1) (N := some 16) (bt_ 8 63) rfl rfl (one_of HT_.out (by kernel_rfl)) (by decide) (fun K hK => ?_)
       refine goes_ Try.func58 (by kernel_rfl) rfl #[.slice (some ad368) t357.length co16] (by rfl) rfl rfl (by simp only [List.map_toArray, List.map_cons, List.map_nil] <;> rfl) ?_
       with_reducible refine (spec_l1Own.calls _ _ t357 t365 _ ?side1 ?side2 A11.out).mono ?_
       (case side1 => exact Cl_ ((Kd.R_reads' HO_3.out).2.2))
       (case side2 => exact (Kd.R_reads' HO_3.out).2.1)
       rintro e w20 ⟨v366, rfl, ho0, hb⟩
       have HS0_ := (hb.cell (World.block_lt_of_cell? _ _ (hHeld))).trans (hHeld)
       refine ⟨_, rfl, ?_⟩
       have HO367 := Aside0.mk (Kd.R_lower (Kd.R_new' (Kd.R_new' ho0 (Kd.R_lt (Rl_ HO_3.out))) (Kd.R_lt (Rl_ HO371.out))) (keep_size (w := w) (g := g) (row := none) (kl_ HK.out)))
       replace HO_3 := Aside0.mk (Kd.R_elder' (Rl_ HO_3.out) (Kd.R_base ho0) hb)
       replace HO371 := Aside0.mk (Kd.R_elder' (Rl_ HO371.out) (Kd.R_base ho0) hb)
       replace HK := Aside0.mk (KeepBut.trans (kl_ HK.out) (KeepBut.of_below hb g none) (.inl rfl))
       replace HB := Aside0.mk (below_step (by repeat (first | (with_reducible first | exact HB.out | apply below_alloc | apply pw_below_drewN | apply below_drew1 | refine below_set ?_ (IsS70.ge HI0.out)) | exact HB.out)) hb)
       replace HI0 := Aside0.mk (IsS70.below (by repeat (first | (with_reducible first | exact HI0.out | apply IsS70.alloc | apply IsS70.drewN | apply IsS70.drew | apply IsS70.set_1 | apply IsS70.set_2) | exact HI0.out)) hb)
       (try clear hb)
       (try clear hb2)
       (try clear hk)
       (try clear hi)
       (try clear ho0)
       refine hK.out _ _ (HS0_) (fun hHeld => ?_)
       clear hK K
       refine norm_ (a' := ?_) ?_ ?_
       rotate_left
       ·show Act.put _ (some 16) _ = _
        simp only [Act.put, List.setIfInBounds_toArray, List.set_cons_zero, List.set_cons_succ, i64_w, i32_w]
        rfl
       exact norm_ (by simp only [putAll, Act.put, List.setIfInBounds_toArray, List.set_cons_zero, List.set_cons_succ]) (hCont (v366, v370) _ ⟨hHeld, (Rl_ (Kd.R_mono HO367.out (fun _ hk => ⟨hk.2, hk.1.2⟩))), (Rl_ (Kd.R_mono HO371.out (fun _ hk => ⟨hk.2, hk.1.2⟩))), (Rl_ (Kd.R_mono HO_3.out (fun _ hk => ⟨hk.2, hk.1.2⟩))), (by repeat (first | (with_reducible first | exact HI0.out | apply IsS70.alloc | apply IsS70.drewN | apply IsS70.drew | apply IsS70.set_1 | apply IsS70.set_2) | exact HI0.out)), (kl_ HK.out), (by repeat (first | (with_reducible first | exact HB.out | apply below_alloc | apply pw_below_drewN | apply below_drew1 | refine below_set ?_ (IsS70.ge HI0.out)) | exact HB.out))⟩)
     rintro ⟨v366, v370⟩ w21 ⟨hS_, h0_, h1_, h2_, h3_, h4_, h5_⟩
     have n0_ : Aside0 (Kd.R (Kd.int .i64) 3 w21 w.heap.size (fun k_ => some k_ ≠ (v370 : Value).ownBlock ∧ some k_ ≠ (.slice (some ad368) t357.length co16 : Value).ownBlock) v366 t365) := ⟨h0_⟩
     have n1_ : Aside0 (Kd.R (Kd.int .i64) 3 w21 w.heap.size (fun k_ => some k_ ≠ (v366 : Value).ownBlock ∧ some k_ ≠ (.slice (some ad368) t357.length co16 : Value).ownBlock) v370 y369) := ⟨h1_⟩
     have n2_ : Aside0 (Kd.R (Kd.int .i64) 3 w21 w.heap.size (fun k_ => some k_ ≠ (v366 : Value).ownBlock ∧ some k_ ≠ (v370 : Value).ownBlock) (.slice (some ad368) t357.length co16) t357) := ⟨h2_⟩
     have n3_ : Aside0 (IsS70 w0 w21 g s0_0 x1001_2 x1002_2) := ⟨h3_⟩
     have n4_ : Aside0 (KeepBut w w21 g none) := ⟨h4_⟩
     have n5_ : Aside0 (Below w0.heap.size w0 w21) := ⟨h5_⟩
     clear HO_3
     clear HI0
     clear HK
     clear HB
     clear h0_ h1_ h2_ h3_ h4_ h5_
     have HO367 := n0_
     have HO371 := n1_
     have HO_3 := n2_
     have HI0 := n3_
     have HK := n4_
     have HB := n5_
     clear n0_ n1_ n2_ n3_ n4_ n5_
     have hHeld : w21.cell? ad368 = some (.int .i64 (rd t357 0)) := hS_
     obtain ⟨Ao23, co23, eo23⟩ := Kd.R_slice HO371.out
     (first | subst eo23 | (injection eo23 with f1_ f2_ f3_; have f4_ := f1_.symm; have f5_ := f3_.symm; clear f1_ f2_ f3_; subst f4_; subst f5_))
     refine norm_ (a' := ?_) ?_ ?_
     rotate_left
     ·simp only [putAll, Act.put, List.setIfInBounds_toArray, List.set_cons_zero, List.set_cons_succ]
      rfl
     refine last_ (i := 6) (N := some 21) (bt_ 8 127) rfl rfl (one_of HT_.out (by kernel_rfl)) (by decide) (fun K hK => ?_)
     refine Kd.R_append_rows_step (Kd.int .i64) w.heap.size (by rfl) (.tmp 16) (.tmp 20) 24 3 (.int .i64 0) 8 rfl Try.underlying24 info3 rfl (by decide) (by omega) v366 t365 y369 _ _ _ (fun k_ => some k_ ≠ (.slice (some ad368) t357.length co16 : Value).ownBlock ∧ some k_ ≠ (.slice Ao23 y369.length co23 : Value).ownBlock) (fun _ => False) rfl rfl ?aO ?aR (fun _ _ h => h) (fun _ h => h.elim) ?aF (Below.refl _ _) ?aS ?aL ?_
     (case aR => exact Cl_ ((Kd.R_reads' HO371.out).2.2))
     (case aF => exact (fun k_ hk => ⟨Kd.fresh' (Kd.R_lt (Rl_ HO_3.out)) k_ hk, Kd.fresh' (Kd.R_lt (Rl_ HO371.out)) k_ hk⟩))
     (case aO => exact (Rl_ (Kd.R_mono HO367.out (fun _ hk => ⟨hk.2, hk.1⟩))))
     (case aS => exact (keep_size (w := w) (g := g) (row := none) (kl_ HK.out)))
     (case aL => have := LMc13.out; omega)
     intro v373 w22 ho hb hg hat
     rw [← Ny372.out] at ho
     replace HO_3 := Aside0.mk (Kd.R_after (ok := (fun k_ => some k_ ≠ (.slice Ao23 y369.length co23 : Value).ownBlock)) (Rl_ (Kd.R_mono HO_3.out (fun _ hk => ⟨hk.2, hk.1⟩))) hg hat)
     replace HO371 := Aside0.mk (Kd.R_after (ok := (fun k_ => some k_ ≠ (.slice (some ad368) t357.length co16 : Value).ownBlock)) (Rl_ (Kd.R_mono HO371.out (fun _ hk => ⟨hk.2, hk.1⟩))) hg hat)
     replace HB := Aside0.mk (below_weaken (by repeat (first | (with_reducible first | exact HB.out | apply below_alloc | apply pw_below_drewN | apply below_drew1 | refine below_set ?_ (IsS70.ge HI0.out)) | exact HB.out)) HL.out hb)
     replace HI0 := Aside0.mk (IsS70.grown (by repeat (first | (with_reducible first | exact HI0.out | apply IsS70.alloc | apply IsS70.drewN | apply IsS70.drew | apply IsS70.set_1 | apply IsS70.set_2) | exact HI0.out)) hg (IsS70.own_ne HI0.out HO367.out (by decide)))
     replace HK := Aside0.mk (KeepBut.trans (kl_ HK.out) (KeepBut.of_grown hg g) (Kd.R_base2 HO367.out))
     have HO374 := Aside0.mk (ho)
     clear HO367
     clear ho hb hg hat
     refine hK.out _ _ ?_
     clear hK K
     refine norm_ (a' := ?_) ?_ ?_
     rotate_left
     ·show Act.put _ (some 21) _ = _
      simp only [Act.put, List.setIfInBounds_toArray, List.set_cons_zero, List.set_cons_succ, i64_w, i32_w]
      rfl
     refine pure_ (i := 7) (N := some 4) (v := ?_) (a' := ?_) (bt_ 8 255) rfl rfl (any_of HT_.out (by kernel_rfl)) (fun _ _ _ h => h) (Or.inl ⟨by rfl, ?_⟩) ?_ ?_
     rotate_left; (intro w'; go_simp; with_reducible rfl); rotate_left; (simp only [Act.put, List.setIfInBounds_toArray, List.set_cons_zero, List.set_cons_succ, i64_w, i32_w]; rfl)
     refine done_ (done_of HT_.out (by kernel_rfl)) ?_
     obtain ⟨Ao24, co24, eo24⟩ := Kd.R_slice HO374.out
     subst eo24
     try go_wp2_with (first | ((with_reducible refine gate_callee (f := 35) rfl ?_); refine goesL_ (some 23) rfl rfl Try.func35 (by kernel_rfl) rfl #[.slice Ao24 y372.length co24] rfl (by simp only [List.map_toArray, List.map_cons, List.map_nil] <;> rfl) ?_; (with_reducible refine (spec_haGood.calls kj2 _ _ y372 true _ ?side1 ?side2 A14.out).mono ?_); (case side1 => exact Cl_ ((Kd.R_reads' HO374.out).2.2)); (case side2 => exact (Kd.R_reads' HO374.out).2.1); rintro e w25 ⟨rfl, hb⟩; refine ⟨_, rfl, ?_⟩; replace HO_3 := Aside0.mk (Kd.R_below (Rl_ HO_3.out) hb); replace HO371 := Aside0.mk (Kd.R_below (Rl_ HO371.out) hb); replace HO374 := Aside0.mk (Kd.R_below (Rl_ HO374.out) hb); replace HK := Aside0.mk (KeepBut.trans (kl_ HK.out) (KeepBut.of_below hb g none) (.inl rfl)); replace HB := Aside0.mk (below_step (by repeat (first | (with_reducible first | exact HB.out | apply below_alloc | apply pw_below_drewN | apply below_drew1 | refine below_set ?_ (IsS70.ge HI0.out)) | exact HB.out)) hb); replace HI0 := Aside0.mk (IsS70.below (by repeat (first | (with_reducible first | exact HI0.out | apply IsS70.alloc | apply IsS70.drewN | apply IsS70.drew | apply IsS70.set_1 | apply IsS70.set_2) | exact HI0.out)) hb); clear hb))
     go_ret
     exact ⟨_, by first | rfl | (simp [errW_none, errW_some] <;> rfl) | (simp [*, errW_none, errW_some] <;> rfl), Rl_ (Kd.R_mono HO374.out (fun _ hk => trivial)), by repeat (first | (with_reducible first | exact HI0.out | apply IsS70.alloc | apply IsS70.drewN | apply IsS70.drew | apply IsS70.set_1 | apply IsS70.set_2) | exact HI0.out), by repeat (first | (with_reducible first | exact HB.out | apply below_alloc | apply pw_below_drewN | apply below_drew1 | refine below_set ?_ (IsS70.ge HI0.out)) | exact HB.out), kl_ HK.out⟩
    ·replace c15 := Bool.eq_false_iff.mpr c15
     subst c15
     have H1 : (some (t357, x1001_2, x1002_2)) = some (r1, r2, r3) := by rw [if_neg (show ¬ (false = true) by decide)] at H; exact H
     clear H
     have H := H1
     clear H1
     simp only [Option.some.injEq, Prod.mk.injEq] at H
     obtain ⟨rfl, rfl, rfl⟩ := H
     obtain ⟨Ao26, co26, eo26⟩ := Kd.R_slice HO_3.out
     subst eo26
     try go_wp2
     replace HO_3 := Aside0.mk (Kd.R_drew HO_3.out)
     replace HI0 := Aside0.mk (IsS70.drew HI0.out)
     replace HK := Aside0.mk (keep_drew HK.out)
     replace HB := Aside0.mk (below_drew1 HB.out)
     have p368 : 0 ≤ (0 : Int) := (by omega)
     have q368 : 0 < (t357.length : Int) := of_decide_eq_true (by first | (with_reducible assumption) | assumption)
     obtain ⟨ad368, e368, hx368_0⟩ := Kd.at_int (Kd.R_reads' HO_3.out).2.2 0 p368 q368
     cases e368
     have qi368 : (0 < t357.length) = True := eq_true (by omega)
     (try rw [show ((0 : Int)).toNat = 0 from rfl] at hx368_0)
     (try rw [Addr.add_zero'] at hx368_0)
     replace p368 := eq_true p368
     replace q368 := eq_true q368
     refine start_ (n := 8) (S := fun w' => w'.cell? ad368 = some (.int .i64 (rd t357 0))) (ds := [6]) (bt_ 8 0) (by kernel_rfl) rfl rfl (hx368_0) (fun hHeld => ?_); refine with_tabW spec_l1Cur_ring.tab3 spec_l1Cur_ring.bits3 (fun HT_ HW_ => ?_)
     generalize wc.drew = w27 at HO_3 HI0 HK HB hx368_0 hHeld ⊢
     refine pure_ (i := 0) (N := some 15) (v := ?_) (a' := ?_) (bt_ 8 1) rfl rfl (any_of HT_.out (by kernel_rfl)) (fun _ _ _ h => h) (Or.inl ⟨by rfl, ?_⟩) ?_ ?_
     rotate_left; (intro w'; go_simp; with_reducible rfl); rotate_left; (simp only [Act.put, List.setIfInBounds_toArray, List.set_cons_zero, List.set_cons_succ, i64_w, i32_w]; rfl)
     refine pure_ (i := 2) (N := some 17) (v := ?_) (a' := ?_) (bt_ 8 5) rfl rfl (any_of HT_.out (by kernel_rfl)) (fun _ _ _ h => h) (Or.inl ⟨by rfl, ?_⟩) ?_ ?_
     rotate_left; (intro w'; go_simp; with_reducible rfl); rotate_left; (simp only [Act.put, List.setIfInBounds_toArray, List.set_cons_zero, List.set_cons_succ, i64_w, i32_w]; rfl)
     refine pure_ (i := 3) (N := some 18) (v := ?_) (a' := ?_) (bt_ 8 13) rfl rfl (any_of HT_.out (by kernel_rfl)) (fun _ _ _ h => h) (Or.inl ⟨by rfl, ?_⟩) ?_ ?_
     rotate_left; (intro w'; go_simp; with_reducible rfl); rotate_left; (simp only [Act.put, List.setIfInBounds_toArray, List.set_cons_zero, List.set_cons_succ, i64_w, i32_w]; rfl)
     refine take_ (i := 4) (N := some 19) (v := ?_) (a' := ?_) (bt_ 8 29) rfl rfl (take_ofW HT_.out HW_.out (by kernel_rfl)) (fun _ _ _ h => h) (Or.inl ⟨by rfl, ?_⟩) hHeld ?_ ?_
     rotate_left
     ·intro w' s0
      go_simp
      with_reducible rfl
     rotate_left
     ·simp only [Act.put, List.setIfInBounds_toArray, List.set_cons_zero, List.set_cons_succ, i64_w, i32_w]
      rfl
     refine join_ (σ := Value × Value) 2 (bt_ 8 63) (fun s_ => [(16, s_.1), (20, s_.2)]) (fun s_ w' => (w'.cell? ad368 = some (.int .i64 (rd t357 0))) ∧ (Kd.R (Kd.int .i64) 3 w' w.heap.size (fun k_ => some k_ ≠ (s_.2 : Value).ownBlock ∧ some k_ ≠ (.slice (some ad368) t357.length co26 : Value).ownBlock) s_.1 t365) ∧ (Kd.R (Kd.int .i64) 3 w' w.heap.size (fun k_ => some k_ ≠ (s_.1 : Value).ownBlock ∧ some k_ ≠ (.slice (some ad368) t357.length co26 : Value).ownBlock) s_.2 y369) ∧ (Kd.R (Kd.int .i64) 3 w' w.heap.size (fun k_ => some k_ ≠ (s_.1 : Value).ownBlock ∧ some k_ ≠ (s_.2 : Value).ownBlock) (.slice (some ad368) t357.length co26) t357) ∧ (IsS70 w0 w' g s0_0 x1001_2 x1002_2) ∧ (KeepBut w w' g none) ∧ (Below w0.heap.size w0 w')) ?_ ?_
     rotate_left
     ·intro hCont
      refine two_ (i := 1) (j := 5) (Ni := some 16) (Nj := some 20) (bt_ 8 31) (bt_ 8 61) rfl rfl rfl rfl (two_of HT_.out (by kernel_rfl)) (by decide) (by decide) (fun K hK => ?_) (fun K hK => ?_)
      ·skip
       refine goes_ Try.func58 (by kernel_rfl) rfl #[.slice (some ad368) t357.length co26] (by rfl) rfl rfl (by simp only [List.map_toArray, List.map_cons, List.map_nil] <;> rfl) ?_
       with_reducible refine (spec_l1Own.calls _ _ t357 t365 _ ?side1 ?side2 A11.out).mono ?_
       (case side1 => exact Cl_ ((Kd.R_reads' HO_3.out).2.2))
       (case side2 => exact (Kd.R_reads' HO_3.out).2.1)
       rintro e w28 ⟨v366, rfl, ho0, hb⟩
       have HS0_ := (hb.cell (World.block_lt_of_cell? _ _ (hHeld))).trans (hHeld)
       refine ⟨_, rfl, ?_⟩
       have HO367 := Aside0.mk (Kd.R_lower (Kd.R_new' ho0 (Kd.R_lt (Rl_ HO_3.out))) (keep_size (w := w) (g := g) (row := none) (kl_ HK.out)))
       replace HO_3 := Aside0.mk (Kd.R_elder' (Rl_ HO_3.out) (Kd.R_base ho0) hb)
       replace HK := Aside0.mk (KeepBut.trans (kl_ HK.out) (KeepBut.of_below hb g none) (.inl rfl))
       replace HB := Aside0.mk (below_step (by repeat (first | (with_reducible first | exact HB.out | apply below_alloc | apply pw_below_drewN | apply below_drew1 | refine below_set ?_ (IsS70.ge HI0.out)) | exact HB.out)) hb)
       replace HI0 := Aside0.mk (IsS70.below (by repeat (first | (with_reducible first | exact HI0.out | apply IsS70.alloc | apply IsS70.drewN | apply IsS70.drew | apply IsS70.set_1 | apply IsS70.set_2) | exact HI0.out)) hb)
       (try clear hb)
       (try clear hb2)
       (try clear hk)
       (try clear hi)
       (try clear ho0)
       refine hK.out _ _ (HS0_) (fun hHeld => ?_)
       clear hK K
       refine norm_ (a' := ?_) ?_ ?_
       rotate_left
       ·show Act.put _ (some 16) _ = _
        simp only [Act.put, List.setIfInBounds_toArray, List.set_cons_zero, List.set_cons_succ, i64_w, i32_w]
        rfl
       refine one_ (i := 5) (N := some 20) (bt_ 8 63) rfl rfl (one_of HT_.out (by kernel_rfl)) (by decide) (fun K hK => ?_)
       refine Kd.R_lit_step (Kd.int .i64) _ 3 ?hg (N := 20) ?hd (xs := ([rd t357 0] : List Int)) (inner := [.int .i64 (rd t357 0)]) (ok := fun _ => True) (okp := fun _ => True) ?hr ?hp (fun _ hk => hk) trivial (Below.refl _ _) (Nat.le_refl _) (by simp) ?_; (case hd => rfl); (case hg => rfl); (case hr => first | (go_simp; done) | (go_simp; rfl)); (case hp => exact (Reps.one (show Kd.M (Kd.int .i64) _ _ _ (rd t357 0) [.int .i64 (rd t357 0)] from rfl) (Reps.none _ _)))
       intro v370 w29 ho30 hb hg_ hnew_
       have HS0_ := (hb.cell (World.block_lt_of_cell? _ _ (hHeld))).trans (hHeld)
       clear hg_ hnew_
       (first | rw [← Ny369.out] at ho30 | (simp only [Int.reduceToNat] at ho30; rw [← Ny369.out] at ho30))
       have HO371 := Aside0.mk (Kd.R_lower (Kd.R_new' (Kd.R_new' ho30 (Kd.R_lt (Rl_ HO_3.out))) (Kd.R_lt (Rl_ HO367.out))) (keep_size (w := w) (g := g) (row := none) (kl_ HK.out)))
       replace HO_3 := Aside0.mk (Kd.R_elder' (Rl_ HO_3.out) (Kd.R_base ho30) hb)
       replace HO367 := Aside0.mk (Kd.R_elder' (Rl_ HO367.out) (Kd.R_base ho30) hb)
       replace HK := Aside0.mk (KeepBut.trans (kl_ HK.out) (KeepBut.of_below hb g none) (.inl rfl))
       replace HB := Aside0.mk (below_step (by repeat (first | (with_reducible first | exact HB.out | apply below_alloc | apply pw_below_drewN | apply below_drew1 | refine below_set ?_ (IsS70.ge HI0.out)) | exact HB.out)) hb)
       replace HI0 := Aside0.mk (IsS70.below (by repeat (first | (with_reducible first | exact HI0.out | apply IsS70.alloc | apply IsS70.drewN | apply IsS70.drew | apply IsS70.set_1 | apply IsS70.set_2) | exact HI0.out)) hb)
       clear hb ho30
       refine hK.out _ _ (HS0_) (fun hHeld => ?_)
       clear hK K
       refine norm_ (a' := ?_) ?_ ?_
       rotate_left
       ·show Act.put _ (some 20) _ = _
        simp only [Act.put, List.setIfInBounds_toArray, List.set_cons_zero, List.set_cons_succ, i64_w, i32_w]
        rfl
       exact norm_ (by simp only [putAll, Act.put, List.setIfInBounds_toArray, List.set_cons_zero, List.set_cons_succ]) (hCont (v366, v370) _ ⟨hHeld, (Rl_ (Kd.R_mono HO367.out (fun _ hk => ⟨hk.2, hk.1.2⟩))), (Rl_ (Kd.R_mono HO371.out (fun _ hk => ⟨hk.2, hk.1.2⟩))), (Rl_ (Kd.R_mono HO_3.out (fun _ hk => ⟨hk.1.2, hk.2⟩))), (by repeat (first | (with_reducible first | exact HI0.out | apply IsS70.alloc | apply IsS70.drewN | apply IsS70.drew | apply IsS70.set_1 | apply IsS70.set_2) | exact HI0.out)), (kl_ HK.out), (by repeat (first | (with_reducible first | exact HB.out | apply below_alloc | apply pw_below_drewN | apply below_drew1 | refine below_set ?_ (IsS70.ge HI0.out)) | exact HB.out))⟩)
      ·skip
       refine Kd.R_lit_step (Kd.int .i64) _ 3 ?hg (N := 20) ?hd (xs := ([rd t357 0] : List Int)) (inner := [.int .i64 (rd t357 0)]) (ok := fun _ => True) (okp := fun _ => True) ?hr ?hp (fun _ hk => hk) trivial (Below.refl _ _) (Nat.le_refl _) (by simp) ?_; (case hd => rfl); (case hg => rfl); (case hr => first | (go_simp; done) | (go_simp; rfl)); (case hp => exact (Reps.one (show Kd.M (Kd.int .i64) _ _ _ (rd t357 0) [.int .i64 (rd t357 0)] from rfl) (Reps.none _ _)))
       intro v370 w28 ho29 hb hg_ hnew_
       have HS0_ := (hb.cell (World.block_lt_of_cell? _ _ (hHeld))).trans (hHeld)
       clear hg_ hnew_
       (first | rw [← Ny369.out] at ho29 | (simp only [Int.reduceToNat] at ho29; rw [← Ny369.out] at ho29))
       have HO371 := Aside0.mk (Kd.R_lower (Kd.R_new' ho29 (Kd.R_lt (Rl_ HO_3.out))) (keep_size (w := w) (g := g) (row := none) (kl_ HK.out)))
       replace HO_3 := Aside0.mk (Kd.R_elder' (Rl_ HO_3.out) (Kd.R_base ho29) hb)
       replace HK := Aside0.mk (KeepBut.trans (kl_ HK.out) (KeepBut.of_below hb g none) (.inl rfl))
       replace HB := Aside0.mk (below_step (by repeat (first | (with_reducible first | exact HB.out | apply below_alloc | apply pw_below_drewN | apply below_drew1 | refine below_set ?_ (IsS70.ge HI0.out)) | exact HB.out)) hb)
       replace HI0 := Aside0.mk (IsS70.below (by repeat (first | (with_reducible first | exact HI0.out | apply IsS70.alloc | apply IsS70.drewN | apply IsS70.drew | apply IsS70.set_1 | apply IsS70.set_2) | exact HI0.out)) hb)
       clear hb ho29
       refine hK.out _ _ (HS0_) (fun hHeld => ?_)
       clear hK K
       refine norm_ (a' := ?_) ?_ ?_
       rotate_left
       ·show Act.put _ (some 20) _ = _
        simp only [Act.put, List.setIfInBounds_toArray, List.set_cons_zero, List.set_cons_succ, i64_w, i32_w]
        rfl
       refine one_ (i := 1) (N := some 16) (bt_ 8 63) rfl rfl (one_of HT_.out (by kernel_rfl)) (by decide) (fun K hK => ?_)
       refine goes_ Try.func58 (by kernel_rfl) rfl #[.slice (some ad368) t357.length co26] (by rfl) rfl rfl (by simp only [List.map_toArray, List.map_cons, List.map_nil] <;> rfl) ?_
       with_reducible refine (spec_l1Own.calls _ _ t357 t365 _ ?side1 ?side2 A11.out).mono ?_
       (case side1 => exact Cl_ ((Kd.R_reads' HO_3.out).2.2))
       (case side2 => exact (Kd.R_reads' HO_3.out).2.1)
       rintro e w30 ⟨v366, rfl, ho0, hb⟩
       have HS0_ := (hb.cell (World.block_lt_of_cell? _ _ (hHeld))).trans (hHeld)
       refine ⟨_, rfl, ?_⟩
       have HO367 := Aside0.mk (Kd.R_lower (Kd.R_new' (Kd.R_new' ho0 (Kd.R_lt (Rl_ HO_3.out))) (Kd.R_lt (Rl_ HO371.out))) (keep_size (w := w) (g := g) (row := none) (kl_ HK.out)))
       replace HO_3 := Aside0.mk (Kd.R_elder' (Rl_ HO_3.out) (Kd.R_base ho0) hb)
       replace HO371 := Aside0.mk (Kd.R_elder' (Rl_ HO371.out) (Kd.R_base ho0) hb)
       replace HK := Aside0.mk (KeepBut.trans (kl_ HK.out) (KeepBut.of_below hb g none) (.inl rfl))
       replace HB := Aside0.mk (below_step (by repeat (first | (with_reducible first | exact HB.out | apply below_alloc | apply pw_below_drewN | apply below_drew1 | refine below_set ?_ (IsS70.ge HI0.out)) | exact HB.out)) hb)
       replace HI0 := Aside0.mk (IsS70.below (by repeat (first | (with_reducible first | exact HI0.out | apply IsS70.alloc | apply IsS70.drewN | apply IsS70.drew | apply IsS70.set_1 | apply IsS70.set_2) | exact HI0.out)) hb)
       (try clear hb)
       (try clear hb2)
       (try clear hk)
       (try clear hi)
       (try clear ho0)
       refine hK.out _ _ (HS0_) (fun hHeld => ?_)
       clear hK K
       refine norm_ (a' := ?_) ?_ ?_
       rotate_left
       ·show Act.put _ (some 16) _ = _
        simp only [Act.put, List.setIfInBounds_toArray, List.set_cons_zero, List.set_cons_succ, i64_w, i32_w]
        rfl
       exact norm_ (by simp only [putAll, Act.put, List.setIfInBounds_toArray, List.set_cons_zero, List.set_cons_succ]) (hCont (v366, v370) _ ⟨hHeld, (Rl_ (Kd.R_mono HO367.out (fun _ hk => ⟨hk.2, hk.1.2⟩))), (Rl_ (Kd.R_mono HO371.out (fun _ hk => ⟨hk.2, hk.1.2⟩))), (Rl_ (Kd.R_mono HO_3.out (fun _ hk => ⟨hk.2, hk.1.2⟩))), (by repeat (first | (with_reducible first | exact HI0.out | apply IsS70.alloc | apply IsS70.drewN | apply IsS70.drew | apply IsS70.set_1 | apply IsS70.set_2) | exact HI0.out)), (kl_ HK.out), (by repeat (first | (with_reducible first | exact HB.out | apply below_alloc | apply pw_below_drewN | apply below_drew1 | refine below_set ?_ (IsS70.ge HI0.out)) | exact HB.out))⟩)
     rintro ⟨v366, v370⟩ w31 ⟨hS_, h0_, h1_, h2_, h3_, h4_, h5_⟩
     have n0_ : Aside0 (Kd.R (Kd.int .i64) 3 w31 w.heap.size (fun k_ => some k_ ≠ (v370 : Value).ownBlock ∧ some k_ ≠ (.slice (some ad368) t357.length co26 : Value).ownBlock) v366 t365) := ⟨h0_⟩
     have n1_ : Aside0 (Kd.R (Kd.int .i64) 3 w31 w.heap.size (fun k_ => some k_ ≠ (v366 : Value).ownBlock ∧ some k_ ≠ (.slice (some ad368) t357.length co26 : Value).ownBlock) v370 y369) := ⟨h1_⟩
     have n2_ : Aside0 (Kd.R (Kd.int .i64) 3 w31 w.heap.size (fun k_ => some k_ ≠ (v366 : Value).ownBlock ∧ some k_ ≠ (v370 : Value).ownBlock) (.slice (some ad368) t357.length co26) t357) := ⟨h2_⟩
     have n3_ : Aside0 (IsS70 w0 w31 g s0_0 x1001_2 x1002_2) := ⟨h3_⟩
     have n4_ : Aside0 (KeepBut w w31 g none) := ⟨h4_⟩
     have n5_ : Aside0 (Below w0.heap.size w0 w31) := ⟨h5_⟩
     clear HO_3
     clear HI0
     clear HK
     clear HB
     clear h0_ h1_ h2_ h3_ h4_ h5_
     have HO367 := n0_
     have HO371 := n1_
     have HO_3 := n2_
     have HI0 := n3_
     have HK := n4_
     have HB := n5_
     clear n0_ n1_ n2_ n3_ n4_ n5_
     have hHeld : w31.cell? ad368 = some (.int .i64 (rd t357 0)) := hS_
     obtain ⟨Ao33, co33, eo33⟩ := Kd.R_slice HO371.out
     (first | subst eo33 | (injection eo33 with f1_ f2_ f3_; have f4_ := f1_.symm; have f5_ := f3_.symm; clear f1_ f2_ f3_; subst f4_; subst f5_))
     refine norm_ (a' := ?_) ?_ ?_
     rotate_left
     ·simp only [putAll, Act.put, List.setIfInBounds_toArray, List.set_cons_zero, List.set_cons_succ]
      rfl
     refine last_ (i := 6) (N := some 21) (bt_ 8 127) rfl rfl (one_of HT_.out (by kernel_rfl)) (by decide) (fun K hK => ?_)
     refine Kd.R_append_rows_step (Kd.int .i64) w.heap.size (by rfl) (.tmp 16) (.tmp 20) 24 3 (.int .i64 0) 8 rfl Try.underlying24 info3 rfl (by decide) (by omega) v366 t365 y369 _ _ _ (fun k_ => some k_ ≠ (.slice (some ad368) t357.length co26 : Value).ownBlock ∧ some k_ ≠ (.slice Ao33 y369.length co33 : Value).ownBlock) (fun _ => False) rfl rfl ?aO ?aR (fun _ _ h => h) (fun _ h => h.elim) ?aF (Below.refl _ _) ?aS ?aL ?_
     (case aR => exact Cl_ ((Kd.R_reads' HO371.out).2.2))
     (case aF => exact (fun k_ hk => ⟨Kd.fresh' (Kd.R_lt (Rl_ HO_3.out)) k_ hk, Kd.fresh' (Kd.R_lt (Rl_ HO371.out)) k_ hk⟩))
     (case aO => exact (Rl_ (Kd.R_mono HO367.out (fun _ hk => ⟨hk.2, hk.1⟩))))
     (case aS => exact (keep_size (w := w) (g := g) (row := none) (kl_ HK.out)))
     (case aL => have := LMc13.out; omega)
     intro v373 w32 ho hb hg hat
     rw [← Ny372.out] at ho
     replace HO_3 := Aside0.mk (Kd.R_after (ok := (fun k_ => some k_ ≠ (.slice Ao33 y369.length co33 : Value).ownBlock)) (Rl_ (Kd.R_mono HO_3.out (fun _ hk => ⟨hk.2, hk.1⟩))) hg hat)
     replace HO371 := Aside0.mk (Kd.R_after (ok := (fun k_ => some k_ ≠ (.slice (some ad368) t357.length co26 : Value).ownBlock)) (Rl_ (Kd.R_mono HO371.out (fun _ hk => ⟨hk.2, hk.1⟩))) hg hat)
     replace HB := Aside0.mk (below_weaken (by repeat (first | (with_reducible first | exact HB.out | apply below_alloc | apply pw_below_drewN | apply below_drew1 | refine below_set ?_ (IsS70.ge HI0.out)) | exact HB.out)) HL.out hb)
     replace HI0 := Aside0.mk (IsS70.grown (by repeat (first | (with_reducible first | exact HI0.out | apply IsS70.alloc | apply IsS70.drewN | apply IsS70.drew | apply IsS70.set_1 | apply IsS70.set_2) | exact HI0.out)) hg (IsS70.own_ne HI0.out HO367.out (by decide)))
     replace HK := Aside0.mk (KeepBut.trans (kl_ HK.out) (KeepBut.of_grown hg g) (Kd.R_base2 HO367.out))
     have HO374 := Aside0.mk (ho)
     clear HO367
     clear ho hb hg hat
     refine hK.out _ _ ?_
     clear hK K
     refine norm_ (a' := ?_) ?_ ?_
     rotate_left
     ·show Act.put _ (some 21) _ = _
      simp only [Act.put, List.setIfInBounds_toArray, List.set_cons_zero, List.set_cons_succ, i64_w, i32_w]
      rfl
     refine pure_ (i := 7) (N := some 4) (v := ?_) (a' := ?_) (bt_ 8 255) rfl rfl (any_of HT_.out (by kernel_rfl)) (fun _ _ _ h => h) (Or.inl ⟨by rfl, ?_⟩) ?_ ?_
     rotate_left; (intro w'; go_simp; with_reducible rfl); rotate_left; (simp only [Act.put, List.setIfInBounds_toArray, List.set_cons_zero, List.set_cons_succ, i64_w, i32_w]; rfl)
     refine done_ (done_of HT_.out (by kernel_rfl)) ?_
     obtain ⟨Ao34, co34, eo34⟩ := Kd.R_slice HO374.out
     subst eo34
     try go_wp2_with (first | ((with_reducible refine gate_callee (f := 35) rfl ?_); refine goesL_ (some 23) rfl rfl Try.func35 (by kernel_rfl) rfl #[.slice Ao34 y372.length co34] rfl (by simp only [List.map_toArray, List.map_cons, List.map_nil] <;> rfl) ?_; (with_reducible refine (spec_haGood.calls kj2 _ _ y372 false _ ?side1 ?side2 A14.out).mono ?_); (case side1 => exact Cl_ ((Kd.R_reads' HO374.out).2.2)); (case side2 => exact (Kd.R_reads' HO374.out).2.1); rintro e w35 ⟨rfl, hb⟩; refine ⟨_, rfl, ?_⟩; replace HO_3 := Aside0.mk (Kd.R_below (Rl_ HO_3.out) hb); replace HO371 := Aside0.mk (Kd.R_below (Rl_ HO371.out) hb); replace HO374 := Aside0.mk (Kd.R_below (Rl_ HO374.out) hb); replace HK := Aside0.mk (KeepBut.trans (kl_ HK.out) (KeepBut.of_below hb g none) (.inl rfl)); replace HB := Aside0.mk (below_step (by repeat (first | (with_reducible first | exact HB.out | apply below_alloc | apply pw_below_drewN | apply below_drew1 | refine below_set ?_ (IsS70.ge HI0.out)) | exact HB.out)) hb); replace HI0 := Aside0.mk (IsS70.below (by repeat (first | (with_reducible first | exact HI0.out | apply IsS70.alloc | apply IsS70.drewN | apply IsS70.drew | apply IsS70.set_1 | apply IsS70.set_2) | exact HI0.out)) hb); clear hb))
     go_ret
     exact ⟨_, by first | rfl | (simp [errW_none, errW_some] <;> rfl) | (simp [*, errW_none, errW_some] <;> rfl), Rl_ (Kd.R_mono HO_3.out (fun _ hk => trivial)), by repeat (first | (with_reducible first | exact HI0.out | apply IsS70.alloc | apply IsS70.drewN | apply IsS70.drew | apply IsS70.set_1 | apply IsS70.set_2) | exact HI0.out), by repeat (first | (with_reducible first | exact HB.out | apply below_alloc | apply pw_below_drewN | apply below_drew1 | refine below_set ?_ (IsS70.ge HI0.out)) | exact HB.out), kl_ HK.out⟩
   ·replace c10 := Bool.eq_false_iff.mpr c10
    subst c10
    have H1 : (some (t357, x1001_2, x1002_2)) = some (r1, r2, r3) := by rw [if_neg (show ¬ (false = true) by decide)] at H; exact H
    clear H
    have H := H1
    clear H1
    simp only [Option.some.injEq, Prod.mk.injEq] at H
    obtain ⟨rfl, rfl, rfl⟩ := H
    go_wp2
    go_ret
    exact ⟨_, by first | rfl | (simp [errW_none, errW_some] <;> rfl) | (simp [*, errW_none, errW_some] <;> rfl), Rl_ HO_3.out, by repeat (first | (with_reducible first | exact HI0.out | apply IsS70.alloc | apply IsS70.drewN | apply IsS70.drew | apply IsS70.set_1 | apply IsS70.set_2) | exact HI0.out), by repeat (first | (with_reducible first | exact HB.out | apply below_alloc | apply pw_below_drewN | apply below_drew1 | refine below_set ?_ (IsS70.ge HI0.out)) | exact HB.out), kl_ HK.out⟩

/-! ### spec_DrawSpinRing: function 23 -/
def spec_DrawSpinRing.f (k : Nat) (l0 : List Int) : Option (List Int × Int) := (spec_l1Cur_ring.f k l0 0 0).bind fun bt377 => ((spec_l1Cur_pick.f l0 bt377.2.1 bt377.2.2 7).bind fun bt382 => ((spec_l1Cur_pick.f l0 bt382.2.1 bt382.2.2 9).bind fun bt385 => (some (bt377.1, wrap64 (bt382.1 - (wrap64 (Int.tdiv bt385.1 8)))))))
theorem spec_DrawSpinRing.mono : ∀ a0 k, LeO (spec_DrawSpinRing.f k a0) (spec_DrawSpinRing.f (k + 1) a0) := by
 intro a0 k
 unfold spec_DrawSpinRing.f
 repeat' first
   | (with_reducible exact spec_l1Cur_ring.mono _ _ _ _)
   | (with_reducible exact LeO.refl _)
   | (with_reducible exact LeO.none _)
   | (with_reducible refine LeO.ite ?_ ?_)
   | (with_reducible refine LeO.bind ?_ (fun _ => ?_))
   | exact spec_l1Cur_ring.mono _ _ _ _
   | exact LeO.none _
   | refine LeO.ite ?_ ?_
   | refine LeO.bind ?_ (fun _ => ?_)
set_option maxHeartbeats 8000000 in
set_option maxRecDepth 100000 in
theorem spec_DrawSpinRing.calls (k : Nat) (A0 : Option Addr) (c0 : Nat) (l0 : List Int) (r1 : List Int) (r2 : Int) (w : World) (hr0 : Kd.C (Kd.int .u8) w A0 l0.length l0) (hc0 : l0.length ≤ c0) (h : spec_DrawSpinRing.f k l0 = some (r1, r2)) :
  Calls Try.prog 23 #[.slice A0 l0.length c0] w fun e w' => ∃ v0_ : Value, e = .returned (.tuple #[v0_, .int .i64 r2]) ∧ Kd.R (Kd.int .i64) 3 w' w.heap.size (fun _ => True) v0_ r1 ∧ Below w.heap.size w w' := by
 have hu70 := Try.underlying70
 have HR0 := Aside0.mk hr0
 have HC0 := Aside0.mk hc0
 clear hr0 hc0
 have HB := Aside0.mk (Below.refl w.heap.size w)
 have H : ((spec_l1Cur_ring.f k l0 0 0).bind fun bt377 => ((spec_l1Cur_pick.f l0 bt377.2.1 bt377.2.2 7).bind fun bt382 => ((spec_l1Cur_pick.f l0 bt382.2.1 bt382.2.2 9).bind fun bt385 => (some (bt377.1, wrap64 (bt382.1 - (wrap64 (Int.tdiv bt385.1 8)))))))) = some (r1, r2) := h
 clear h
 replace H := Option.bind_eq_some_iff.mp H
 obtain ⟨⟨t377, t380, t381⟩, A20, H⟩ := H
 replace H : ((spec_l1Cur_pick.f l0 t380 t381 7).bind fun bt382 => ((spec_l1Cur_pick.f l0 bt382.2.1 bt382.2.2 9).bind fun bt385 => (some (t377, wrap64 (bt382.1 - (wrap64 (Int.tdiv bt385.1 8))))))) = some (r1, r2) := H
 have A2 := Aside0.mk A20
 clear A20
 replace H := Option.bind_eq_some_iff.mp H
 obtain ⟨⟨t382, t383, t384⟩, A30, H⟩ := H
 replace H : ((spec_l1Cur_pick.f l0 t383 t384 9).bind fun bt385 => (some (t377, wrap64 (t382 - (wrap64 (Int.tdiv bt385.1 8)))))) = some (r1, r2) := H
 have A3 := Aside0.mk A30
 clear A30
 replace H := Option.bind_eq_some_iff.mp H
 obtain ⟨⟨t385, t386, t387⟩, A40, H⟩ := H
 replace H : (some (t377, wrap64 (t382 - (wrap64 (Int.tdiv t385 8))))) = some (r1, r2) := H
 have A4 := Aside0.mk A40
 clear A40
 simp only [Option.some.injEq, Prod.mk.injEq] at H
 obtain ⟨rfl, rfl⟩ := H
 go_enter Try.func23, Try.ntmps23
 go_wp2_with (first | ((with_reducible refine gate_dst (N := 7) rfl ?_); refine box_event ?hg (N := 7) ?hd (cs := #[.slice A0 l0.length c0, .int .i64 0, .int .u64 0]) (t := 70) ?hr ?_; (case hd => rfl); (case hg => rfl); (case hr => first | (go_simp; done) | (go_simp; rfl)); intro gb376 hg w5 hbox hb; have BK376 := Aside0.mk (hbox); have GW376 := Aside0.mk ((by rw [hg]; exact (below_size (bl_ HB.out)) : w.heap.size ≤ gb376)); have GE376 := Aside0.mk ((by rw [hg]; exact (below_size (bl_ HB.out)) : w.heap.size ≤ gb376)); replace HB := Aside0.mk (below_step (bl_ HB.out) hb); clear hb hbox hg) | ((with_reducible refine gate_callee (f := 53) rfl ?_); refine goesL_ (some 9) rfl rfl Try.func53 (by kernel_rfl) rfl #[.pointer (some ⟨gb376, 0, none⟩)] rfl (by simp only [List.map_toArray, List.map_cons, List.map_nil] <;> rfl) ?_; (with_reducible refine (spec_l1Cur_ring.calls k gb376 l0 0 0 t377 t380 t381 w _ ?side1 ?side2 A2.out).mono ?_); (case side1 => exact ⟨_, _, by (with_reducible repeat (first | refine blk_drewN ?_ _ | refine blk_drew ?_ | refine blk_alloc ?_ _)); exact BK376.out, GE376.out, HR0.out⟩); (case side2 => repeat (first | (with_reducible first | exact HB.out | apply below_alloc | apply pw_below_drewN | apply below_drew1 | refine below_set ?_ (IsS70.ge HI376.out)) | exact HB.out)); rintro e w6 ⟨v378, rfl, ho0, hi, hb, hk⟩; refine ⟨_, rfl, ?_⟩; have HO379 := Aside0.mk (Kd.R_lower ho0 (below_size (by repeat (first | (with_reducible first | exact HB.out | apply below_alloc | apply pw_below_drewN | apply below_drew1 | refine below_set ?_ (IsS70.ge HI376.out)) | exact HB.out)))); replace HB := Aside0.mk (hb); have HI376 := Aside0.mk (hi); clear hb hk hi; (try clear ho0)) | ((with_reducible refine gate_callee (f := 54) rfl ?_); refine goesL_ (some 11) rfl rfl Try.func54 (by kernel_rfl) rfl #[.pointer (some ⟨gb376, 0, none⟩), .int .i64 7] rfl (by simp only [List.map_toArray, List.map_cons, List.map_nil] <;> rfl) ?_; (with_reducible refine (spec_l1Cur_pick.calls gb376 l0 t380 t381 7 t382 t383 t384 w _ ?side1 ?side2 A3.out).mono ?_); (case side1 => repeat (first | (with_reducible first | exact HI376.out | apply IsS70.alloc | apply IsS70.drewN | apply IsS70.drew | apply IsS70.set_1 | apply IsS70.set_2) | exact HI376.out)); (case side2 => repeat (first | (with_reducible first | exact HB.out | apply below_alloc | apply pw_below_drewN | apply below_drew1 | refine below_set ?_ (IsS70.ge HI376.out)) | exact HB.out)); rintro e w7 ⟨rfl, hi, hb, hk⟩; refine ⟨_, rfl, ?_⟩; replace HO379 := Aside0.mk (Kd.R_mono (Kd.R_keep (IsS70.apart (show IsS70 w _ gb376 l0 t380 t381 from by repeat (first | (with_reducible first | exact HI376.out | apply IsS70.alloc | apply IsS70.drewN | apply IsS70.drew | apply IsS70.set_1 | apply IsS70.set_2) | exact HI376.out)) (Rl_ HO379.out) (by decide)) hk (fun _ h => h.2)) (fun _ h => h.1)); replace HB := Aside0.mk (hb); replace HI376 := Aside0.mk (hi); clear hb hk hi) | ((with_reducible refine gate_callee (f := 54) rfl ?_); refine goesL_ (some 13) rfl rfl Try.func54 (by kernel_rfl) rfl #[.pointer (some ⟨gb376, 0, none⟩), .int .i64 9] rfl (by simp only [List.map_toArray, List.map_cons, List.map_nil] <;> rfl) ?_; (with_reducible refine (spec_l1Cur_pick.calls gb376 l0 t383 t384 9 t385 t386 t387 w _ ?side1 ?side2 A4.out).mono ?_); (case side1 => repeat (first | (with_reducible first | exact HI376.out | apply IsS70.alloc | apply IsS70.drewN | apply IsS70.drew | apply IsS70.set_1 | apply IsS70.set_2) | exact HI376.out)); (case side2 => repeat (first | (with_reducible first | exact HB.out | apply below_alloc | apply pw_below_drewN | apply below_drew1 | refine below_set ?_ (IsS70.ge HI376.out)) | exact HB.out)); rintro e w8 ⟨rfl, hi, hb, hk⟩; refine ⟨_, rfl, ?_⟩; replace HO379 := Aside0.mk (Kd.R_mono (Kd.R_keep (IsS70.apart (show IsS70 w _ gb376 l0 t383 t384 from by repeat (first | (with_reducible first | exact HI376.out | apply IsS70.alloc | apply IsS70.drewN | apply IsS70.drew | apply IsS70.set_1 | apply IsS70.set_2) | exact HI376.out)) (Rl_ HO379.out) (by decide)) hk (fun _ h => h.2)) (fun _ h => h.1)); replace HB := Aside0.mk (hb); replace HI376 := Aside0.mk (hi); clear hb hk hi))
 go_ret2
 exact ⟨_, by first | rfl | (simp [errW_none, errW_some] <;> rfl) | (simp [*, errW_none, errW_some] <;> rfl), Rl_ HO379.out, by repeat (first | (with_reducible first | exact HB.out | apply below_alloc | apply pw_below_drewN | apply below_drew1 | refine below_set ?_ (IsS70.ge HI376.out)) | exact HB.out)⟩

end Go.Proofs.Ytmgdndgaiicaiaa.QFnChainsLaid
