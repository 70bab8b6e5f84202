-- WRITTEN BY A PROGRAM OF THIS CLAIM'S AUTHOR (wprint.py)
import Derived.Test.YtncogkhhecgcbaaQFnExactHarderPuzzlex0
import Derived.Test.YtncogkhhecgcbaaQFnExactHarderPuzzlex10
import Derived.Test.YtncogkhhecgcbaaQFnExactHarderPuzzlex11
namespace Go.Proofs.Ytncogkhhecgcbaa.QFnExactHarderPuzzle
open Go.RowKit Go.Proofs.YtncogkhhecgcbaaW.PrintWords Go.Proofs.YtncogkhhecgcbaaW.PrintLast Go.Proofs.YtncogkhhecgcbaaW.PrintMore
attribute [local go_sem] max2_int min2_int max_two min_two max_three min_three max_four min_four   -- for this text's walks alone
set_option linter.unusedVariables false
set_option linter.unusedSimpArgs false

/-! ### impl_Puzzle_with: function 56 -/
def impl_Puzzle_with.f (l0_0 : List (S55)) (l0_1 : List Int) (a1 : Int) (a2 : Int) : Option ((List (S55)) × List Int) := (slices_Clone_impl_Tile_impl_Tile.f l0_0).bind fun t287 => ((slices_Clone_int_int.f l0_1).bind fun t290 => (if 0 ≤ a1 then (if a1 < (t290.length : Int) then (some (t287, (t290.set (a1 : Int).toNat a2))) else (none)) else (none)))
def impl_Puzzle_with.T1 : Bool × List (List Nat × List Nat) := (true, [([], []), ([0], [0]), ([1], [1]), ([], []), ([3], [3]), ([4, 2], [4]), ([2, 5], [2, 5]), ([], []), ([7, 6, 5, 0, 1, 2, 3, 4, 5, 6, 7], [6, 7])])
def impl_Puzzle_with.B1 : List Nat := [0, 1, 3, 0, 8, 31, 63, 0, 255]
theorem impl_Puzzle_with.tab1 : rtab .any (opsOf Try.f56 1) = impl_Puzzle_with.T1 := by kernel_rfl
theorem impl_Puzzle_with.bits1 : waitsOk impl_Puzzle_with.T1.2 impl_Puzzle_with.B1 = true := by kernel_rfl
set_option maxHeartbeats 8000000 in
set_option maxRecDepth 100000 in
theorem impl_Puzzle_with.calls (A0_0 : Option Addr) (c0_0 : Nat) (l0_0 : List (S55)) (A0_1 : Option Addr) (c0_1 : Nat) (l0_1 : List Int) (a1 : Int) (a2 : Int) (r1 : List (S55)) (r2 : List Int) (w : World) (hr0_0 : Kd.C k55 w A0_0 l0_0.length l0_0) (hc0_0 : l0_0.length ≤ c0_0) (hr0_1 : Kd.C (Kd.int .i64) w A0_1 l0_1.length l0_1) (hc0_1 : l0_1.length ≤ c0_1) (h : impl_Puzzle_with.f l0_0 l0_1 a1 a2 = some (r1, r2)) :
  Calls Try.prog 56 #[.agg #[.slice A0_0 l0_0.length c0_0, .slice A0_1 l0_1.length c0_1], .int .i64 a1, .int .i64 a2] w fun e w' => ∃ v0_ v1_ : Value, e = .returned (.agg #[v0_, v1_]) ∧ Kd.R k55 55 w' w.heap.size (fun _ => True) v0_ r1 ∧ Kd.R (Kd.int .i64) 3 w' w.heap.size (fun _ => True) v1_ r2 ∧ Below w.heap.size w w' := by
 have hu25 := Try.underlying25
 have HR0_0 := Aside0.mk hr0_0
 have HC0_0 := Aside0.mk hc0_0
 clear hr0_0 hc0_0
 have HR0_1 := Aside0.mk hr0_1
 have HC0_1 := Aside0.mk hc0_1
 clear hr0_1 hc0_1
 have HB := Aside0.mk (Below.refl w.heap.size w)
 have H : ((slices_Clone_impl_Tile_impl_Tile.f l0_0).bind fun t287 => ((slices_Clone_int_int.f l0_1).bind fun t290 => (if 0 ≤ a1 then (if a1 < (t290.length : Int) then (some (t287, (t290.set (a1 : Int).toNat a2))) else (none)) else (none)))) = some (r1, r2) := h
 clear h
 replace H := Option.bind_eq_some_iff.mp H
 obtain ⟨t287, A40, H⟩ := H
 replace H : ((slices_Clone_int_int.f l0_1).bind fun t290 => (if 0 ≤ a1 then (if a1 < (t290.length : Int) then (some (t287, (t290.set (a1 : Int).toNat a2))) else (none)) else (none))) = some (r1, r2) := H
 have A4 := Aside0.mk A40
 clear A40
 replace H := Option.bind_eq_some_iff.mp H
 obtain ⟨t290, A50, H⟩ := H
 replace H : (if 0 ≤ a1 then (if a1 < (t290.length : Int) then (some (t287, (t290.set (a1 : Int).toNat a2))) else (none)) else (none)) = some (r1, r2) := H
 have A5 := Aside0.mk A50
 clear A50
 by_cases c6 : 0 ≤ a1
 ·rw [if_pos c6] at H
  have c6b0 : decide (0 ≤ a1) = true := decide_eq_true c6
  clear c6
  by_cases c7 : a1 < (t290.length : Int)
  ·rw [if_pos c7] at H
   have c7b0 : decide (a1 < (t290.length : Int)) = true := decide_eq_true c7
   clear c7
   obtain ⟨y294, hy294⟩ : ∃ y_ : List Int, y_ = (t290.set (a1 : Int).toNat a2) := ⟨_, rfl⟩
   replace H : (some (t287, y294)) = some (r1, r2) := by first | (rw [hy294]; with_reducible exact H) | (have H2_ := (Option.bind_some _ _).symm.trans H; rw [hy294]; with_reducible exact H2_) | (have H2_ := (Option.bind_some _ _).symm.trans H; with_reducible exact H2_) | with_reducible exact H | (rw [hy294]; exact H) | exact H
   have Ny294 := Aside0.mk hy294
   clear hy294
   simp only [Option.some.injEq, Prod.mk.injEq] at H
   obtain ⟨rfl, rfl⟩ := H
   go_enter Try.func56, Try.ntmps56
   try go_wp2_with (first | ((with_reducible refine gate_dst (N := 3) rfl ?_); refine box_event ?hg (N := 3) ?hd (cs := #[.slice A0_0 l0_0.length c0_0, .slice A0_1 l0_1.length c0_1]) (t := 25) ?hr ?_; (case hd => rfl); (case hg => rfl); (case hr => first | (go_simp; done) | (go_simp; rfl)); intro gb285 hg w9 hbox hb; have BK285 := Aside0.mk (hbox); have GW285 := Aside0.mk ((by rw [hg]; exact (below_size HB.out) : w.heap.size ≤ gb285)); have GE285 := Aside0.mk ((by rw [hg]; exact (below_size HB.out) : w.heap.size ≤ gb285)); replace HB := Aside0.mk (below_step HB.out hb); clear hb hbox hg) | ((with_reducible refine gate_dst (N := 6) rfl ?_); refine box_event ?hg (N := 6) ?hd (cs := #[.slice none 0 0, .slice none 0 0]) (t := 25) ?hr ?_; (case hd => rfl); (case hg => rfl); (case hr => first | (go_simp; done) | (go_simp; rfl)); intro gb286 hg w10 hbox hb; have BK286 := Aside0.mk (hbox); have GW286 := Aside0.mk ((by rw [hg]; exact (below_size HB.out) : w.heap.size ≤ gb286)); have GE286 := Aside0.mk ((by rw [hg]; exact (below_size HB.out) : w.heap.size ≤ gb286)); replace HB := Aside0.mk (below_step HB.out hb); have NB285_286 := Aside0.mk ((by rw [hg]; exact Nat.ne_of_lt (blk_lt (g := gb285) (o := .cells #[.slice A0_0 l0_0.length c0_0, .slice A0_1 l0_1.length c0_1] 25 (0, 0)) (BK285.out)) : gb285 ≠ gb286)); have NB286_285 := Aside0.mk ((by rw [hg]; exact Nat.ne_of_gt (blk_lt (g := gb285) (o := .cells #[.slice A0_0 l0_0.length c0_0, .slice A0_1 l0_1.length c0_1] 25 (0, 0)) (BK285.out)) : gb286 ≠ gb285)); replace BK285 := Aside0.mk (blk_below (g := gb285) (o := .cells #[.slice A0_0 l0_0.length c0_0, .slice A0_1 l0_1.length c0_1] 25 (0, 0)) (BK285.out) hb); clear hb hbox hg))
   replace BK285 := Aside0.mk (blk_drew BK285.out)
   replace BK286 := Aside0.mk (blk_drew BK286.out)
   replace HB := Aside0.mk (below_drew1 HB.out)
   refine start_ (n := 9) (S := fun w' => w'.cell? ⟨gb285, 0, none⟩ = some (.slice A0_0 l0_0.length c0_0) ∧ w'.cell? ⟨gb285, 1, none⟩ = some (.slice A0_1 l0_1.length c0_1)) (ds := []) #[false, false, false, false, false, false, false, false, false] (by kernel_rfl) rfl rfl ⟨(blk_cell BK285.out 0).trans rfl, (blk_cell BK285.out 1).trans rfl⟩ (fun hHeld => ?_); refine with_tabW impl_Puzzle_with.tab1 impl_Puzzle_with.bits1 (fun HT_ HW_ => ?_)
   generalize w10.drew = w11 at BK285 BK286 HB hHeld ⊢
   refine pure_ (i := 0) (N := some 8) (v := ?_) (a' := ?_) #[true, false, false, false, false, false, false, false, false] rfl rfl (any_of HT_.out (by kernel_rfl)) (fun _ _ _ h => h) (Or.inl ⟨by rfl, ?_⟩) ?_ ?_
   rotate_left
   ·intro w'
    go_simp
    with_reducible rfl
   rotate_left
   ·simp only [Act.put, List.setIfInBounds_toArray, List.set_cons_zero, List.set_cons_succ, i64_w, i32_w]
    rfl
   refine pure_ (i := 3) (N := some 11) (v := ?_) (a' := ?_) #[true, false, false, true, false, false, false, false, false] rfl rfl (any_of HT_.out (by kernel_rfl)) (fun _ _ _ h => h) (Or.inl ⟨by rfl, ?_⟩) ?_ ?_
   rotate_left
   ·intro w'
    go_simp
    with_reducible rfl
   rotate_left
   ·simp only [Act.put, List.setIfInBounds_toArray, List.set_cons_zero, List.set_cons_succ, i64_w, i32_w]
    rfl
   refine take_ (i := 1) (N := some 9) (v := ?_) (a' := ?_) #[true, true, false, true, false, false, false, false, false] rfl rfl (take_ofW HT_.out HW_.out (by kernel_rfl)) (fun _ _ _ h => h) (Or.inl ⟨by rfl, ?_⟩) hHeld ?_ ?_
   rotate_left
   ·rintro w' ⟨s0, s1⟩
    go_simp
    with_reducible rfl
   rotate_left
   ·simp only [Act.put, List.setIfInBounds_toArray, List.set_cons_zero, List.set_cons_succ, i64_w, i32_w]
    rfl
   refine take_ (i := 4) (N := some 12) (v := ?_) (a' := ?_) #[true, true, false, true, true, false, false, false, false] rfl rfl (take_ofW HT_.out HW_.out (by kernel_rfl)) (fun _ _ _ h => h) (Or.inl ⟨by rfl, ?_⟩) hHeld ?_ ?_
   rotate_left
   ·rintro w' ⟨s0, s1⟩
    go_simp
    with_reducible rfl
   rotate_left
   ·simp only [Act.put, List.setIfInBounds_toArray, List.set_cons_zero, List.set_cons_succ, i64_w, i32_w]
    rfl
   refine join_ (σ := Value × Value × Nat) 1 #[true, true, true, true, true, true, true, true, false] (fun s_ => [(10, s_.1), (13, s_.2.1), (7, .pointer (some ⟨s_.2.2, 0, none⟩)), (14, .agg #[s_.1, s_.2.1])]) (fun s_ w' => (w'.cell? ⟨gb285, 0, none⟩ = some (.slice A0_0 l0_0.length c0_0) ∧ w'.cell? ⟨gb285, 1, none⟩ = some (.slice A0_1 l0_1.length c0_1)) ∧ (Kd.R k55 55 w' w.heap.size (fun _ => True) s_.1 t287) ∧ (Kd.R (Kd.int .i64) 3 w' w.heap.size (fun _ => True) s_.2.1 t290) ∧ (w'.heap[gb285]? = some (.cells #[.slice A0_0 l0_0.length c0_0, .slice A0_1 l0_1.length c0_1] 25 (0, 0))) ∧ (w'.heap[gb286]? = some (.cells #[.slice none 0 0, .slice none 0 0] 25 (0, 0))) ∧ (w'.heap[s_.2.2]? = some (.cells #[.slice none 0 0, .slice none 0 0] 25 (0, 0))) ∧ (w.heap.size ≤ s_.2.2) ∧ (w.heap.size ≤ s_.2.2) ∧ (gb285 ≠ s_.2.2) ∧ (s_.2.2 ≠ gb285) ∧ (gb286 ≠ s_.2.2) ∧ (s_.2.2 ≠ gb286) ∧ (Below w.heap.size w w')) ?_ ?_
   rotate_left
   ·intro hCont
    refine two_ (i := 2) (j := 7) (Ni := some 10) (Nj := some 7) #[true, true, true, true, true, false, false, false, false] #[true, true, false, true, true, false, false, true, false] rfl rfl rfl rfl (two_of HT_.out (by kernel_rfl)) (by decide) (by decide) (fun K hK => ?_) (fun K hK => ?_)
    ·skip
     refine goes_ Try.func55 (by kernel_rfl) rfl #[.slice A0_0 l0_0.length c0_0] (by rfl) rfl rfl (by (try simp only [List.map_toArray, List.map_cons, List.map_nil]); first | done | rfl | (simp only [List.length_drop, List.length_take]; rfl)) ?_
     with_reducible refine (slices_Clone_impl_Tile_impl_Tile.calls _ _ l0_0 t287 _ ?side1 ?side2 A4.out).mono ?_
     (case side1 => repeat (first | exact (Kd.C_below HR0_0.out HB.out) | (with_reducible refine Kd.C_alloc ?_ _) | (with_reducible refine Kd.C_drewN ?_ _) | (with_reducible refine Kd.C_drew ?_)))
     (case side2 => exact HC0_0.out)
     rintro e w12 ⟨v288, rfl, ho0, hb⟩
     refine ⟨_, rfl, ?_⟩
     have HO289 := Aside0.mk (Kd.R_lower ho0 (below_size HB.out))
     replace BK285 := Aside0.mk (blk_below (g := gb285) (o := .cells #[.slice A0_0 l0_0.length c0_0, .slice A0_1 l0_1.length c0_1] 25 (0, 0)) (BK285.out) hb)
     replace BK286 := Aside0.mk (blk_below (g := gb286) (o := .cells #[.slice none 0 0, .slice none 0 0] 25 (0, 0)) (BK286.out) hb)
     replace HB := Aside0.mk (below_step HB.out hb)
     (try clear hb)
     (try clear hb2)
     (try clear hk)
     (try clear hi)
     (try clear ho0)
     refine hK.out _ _ ⟨(blk_cell BK285.out 0).trans rfl, (blk_cell BK285.out 1).trans rfl⟩ (fun hHeld => ?_)
     clear hK K
     refine norm_ (a' := ?_) ?_ ?_
     rotate_left
     ·show Act.put _ (some 10) _ = _
      simp only [Act.put, List.setIfInBounds_toArray, List.set_cons_zero, List.set_cons_succ, i64_w, i32_w]
      rfl
     refine two_ (i := 5) (j := 7) (Ni := some 13) (Nj := some 7) #[true, true, true, true, true, true, false, false, false] #[true, true, true, true, true, false, false, true, false] rfl rfl rfl rfl (two_of HT_.out (by kernel_rfl)) (by decide) (by decide) (fun K hK => ?_) (fun K hK => ?_)
     ·skip
      refine goes_ Try.func31 (by kernel_rfl) rfl #[.slice A0_1 l0_1.length c0_1] (by rfl) rfl rfl (by (try simp only [List.map_toArray, List.map_cons, List.map_nil]); first | done | rfl | (simp only [List.length_drop, List.length_take]; rfl)) ?_
      with_reducible refine (slices_Clone_int_int.calls _ _ l0_1 t290 _ ?side1 ?side2 A5.out).mono ?_
      (case side1 => repeat (first | exact (Kd.C_below HR0_1.out HB.out) | (with_reducible refine Kd.C_alloc ?_ _) | (with_reducible refine Kd.C_drewN ?_ _) | (with_reducible refine Kd.C_drew ?_)))
      (case side2 => exact HC0_1.out)
      rintro e w13 ⟨v291, rfl, ho0, hb⟩
      refine ⟨_, rfl, ?_⟩
      replace HO289 := Aside0.mk (Kd.R_below (HO289.out) hb)
      have HO292 := Aside0.mk (Kd.R_lower ho0 (below_size HB.out))
      replace BK285 := Aside0.mk (blk_below (g := gb285) (o := .cells #[.slice A0_0 l0_0.length c0_0, .slice A0_1 l0_1.length c0_1] 25 (0, 0)) (BK285.out) hb)
      replace BK286 := Aside0.mk (blk_below (g := gb286) (o := .cells #[.slice none 0 0, .slice none 0 0] 25 (0, 0)) (BK286.out) hb)
      replace HB := Aside0.mk (below_step HB.out hb)
      (try clear hb)
      (try clear hb2)
      (try clear hk)
      (try clear hi)
      (try clear ho0)
      obtain ⟨Ao14, co14, eo14⟩ := Kd.R_slice HO292.out
      (first | subst eo14 | (injection eo14 with f1_ f2_ f3_; have f4_ := f1_.symm; have f5_ := f3_.symm; clear f1_ f2_ f3_; subst f4_; subst f5_))
      obtain ⟨Ao15, co15, eo15⟩ := Kd.R_slice HO289.out
      (first | subst eo15 | (injection eo15 with f1_ f2_ f3_; have f4_ := f1_.symm; have f5_ := f3_.symm; clear f1_ f2_ f3_; subst f4_; subst f5_))
      refine hK.out _ _ ⟨(blk_cell BK285.out 0).trans rfl, (blk_cell BK285.out 1).trans rfl⟩ (fun hHeld => ?_)
      clear hK K
      refine norm_ (a' := ?_) ?_ ?_
      rotate_left
      ·show Act.put _ (some 13) _ = _
       simp only [Act.put, List.setIfInBounds_toArray, List.set_cons_zero, List.set_cons_succ, i64_w, i32_w]
       rfl
      refine pure_ (i := 6) (N := some 14) (v := ?_) (a' := ?_) #[true, true, true, true, true, true, true, false, false] rfl rfl (any_of HT_.out (by kernel_rfl)) (fun _ _ _ h => h) (Or.inl ⟨by rfl, ?_⟩) ?_ ?_
      rotate_left
      ·intro w'
       go_simp
       with_reducible rfl
      rotate_left
      ·simp only [Act.put, List.setIfInBounds_toArray, List.set_cons_zero, List.set_cons_succ, i64_w, i32_w]
       rfl
      refine one_ (i := 7) (N := some 7) #[true, true, true, true, true, true, true, true, false] rfl rfl (one_of HT_.out (by kernel_rfl)) (by decide) (fun K hK => ?_)
      refine box_step ?hg (N := 7) ?hd (cs := #[.slice none 0 0, .slice none 0 0]) (t := 25) ?hr ?_; (case hd => rfl); (case hg => rfl); (case hr => first | (go_simp; done) | (go_simp; rfl))
      intro gb293 hg w16 hbox hb
      replace HO289 := Aside0.mk (Kd.R_below (HO289.out) hb)
      replace HO292 := Aside0.mk (Kd.R_below (HO292.out) hb)
      have BK293 := Aside0.mk (hbox)
      have GW293 := Aside0.mk ((by rw [hg]; exact (below_size HB.out) : w.heap.size ≤ gb293))
      have GE293 := Aside0.mk ((by rw [hg]; exact (below_size HB.out) : w.heap.size ≤ gb293))
      replace HB := Aside0.mk (below_step HB.out hb)
      have NB285_293 := Aside0.mk ((by rw [hg]; exact Nat.ne_of_lt (blk_lt (g := gb285) (o := .cells #[.slice A0_0 l0_0.length c0_0, .slice A0_1 l0_1.length c0_1] 25 (0, 0)) (BK285.out)) : gb285 ≠ gb293))
      have NB293_285 := Aside0.mk ((by rw [hg]; exact Nat.ne_of_gt (blk_lt (g := gb285) (o := .cells #[.slice A0_0 l0_0.length c0_0, .slice A0_1 l0_1.length c0_1] 25 (0, 0)) (BK285.out)) : gb293 ≠ gb285))
      replace BK285 := Aside0.mk (blk_below (g := gb285) (o := .cells #[.slice A0_0 l0_0.length c0_0, .slice A0_1 l0_1.length c0_1] 25 (0, 0)) (BK285.out) hb)
      have NB286_293 := Aside0.mk ((by rw [hg]; exact Nat.ne_of_lt (blk_lt (g := gb286) (o := .cells #[.slice none 0 0, .slice none 0 0] 25 (0, 0)) (BK286.out)) : gb286 ≠ gb293))
      have NB293_286 := Aside0.mk ((by rw [hg]; exact Nat.ne_of_gt (blk_lt (g := gb286) (o := .cells #[.slice none 0 0, .slice none 0 0] 25 (0, 0)) (BK286.out)) : gb293 ≠ gb286))
      replace BK286 := Aside0.mk (blk_below (g := gb286) (o := .cells #[.slice none 0 0, .slice none 0 0] 25 (0, 0)) (BK286.out) hb)
      clear hb hbox hg
      refine hK.out _ _ ⟨(blk_cell BK285.out 0).trans rfl, (blk_cell BK285.out 1).trans rfl⟩ (fun hHeld => ?_)
      clear hK K
      refine norm_ (a' := ?_) ?_ ?_
      rotate_left
      ·show Act.put _ (some 7) _ = _
       simp only [Act.put, List.setIfInBounds_toArray, List.set_cons_zero, List.set_cons_succ, i64_w, i32_w]
       rfl
      exact norm_ (by simp only [putAll, Act.put, List.setIfInBounds_toArray, List.set_cons_zero, List.set_cons_succ]) (hCont (.slice Ao15 t287.length co15, .slice Ao14 t290.length co14, gb293) _ ⟨hHeld, (HO289.out), (HO292.out), (BK285.out), (BK286.out), (BK293.out), GW293.out, GE293.out, NB285_293.out, NB293_285.out, NB286_293.out, NB293_286.out, HB.out⟩)
     ·skip
      refine box_step ?hg (N := 7) ?hd (cs := #[.slice none 0 0, .slice none 0 0]) (t := 25) ?hr ?_; (case hd => rfl); (case hg => rfl); (case hr => first | (go_simp; done) | (go_simp; rfl))
      intro gb293 hg w13 hbox hb
      replace HO289 := Aside0.mk (Kd.R_below (HO289.out) hb)
      have BK293 := Aside0.mk (hbox)
      have GW293 := Aside0.mk ((by rw [hg]; exact (below_size HB.out) : w.heap.size ≤ gb293))
      have GE293 := Aside0.mk ((by rw [hg]; exact (below_size HB.out) : w.heap.size ≤ gb293))
      replace HB := Aside0.mk (below_step HB.out hb)
      have NB285_293 := Aside0.mk ((by rw [hg]; exact Nat.ne_of_lt (blk_lt (g := gb285) (o := .cells #[.slice A0_0 l0_0.length c0_0, .slice A0_1 l0_1.length c0_1] 25 (0, 0)) (BK285.out)) : gb285 ≠ gb293))
      have NB293_285 := Aside0.mk ((by rw [hg]; exact Nat.ne_of_gt (blk_lt (g := gb285) (o := .cells #[.slice A0_0 l0_0.length c0_0, .slice A0_1 l0_1.length c0_1] 25 (0, 0)) (BK285.out)) : gb293 ≠ gb285))
      replace BK285 := Aside0.mk (blk_below (g := gb285) (o := .cells #[.slice A0_0 l0_0.length c0_0, .slice A0_1 l0_1.length c0_1] 25 (0, 0)) (BK285.out) hb)
      have NB286_293 := Aside0.mk ((by rw [hg]; exact Nat.ne_of_lt (blk_lt (g := gb286) (o := .cells #[.slice none 0 0, .slice none 0 0] 25 (0, 0)) (BK286.out)) : gb286 ≠ gb293))
      have NB293_286 := Aside0.mk ((by rw [hg]; exact Nat.ne_of_gt (blk_lt (g := gb286) (o := .cells #[.slice none 0 0, .slice none 0 0] 25 (0, 0)) (BK286.out)) : gb293 ≠ gb286))
      replace BK286 := Aside0.mk (blk_below (g := gb286) (o := .cells #[.slice none 0 0, .slice none 0 0] 25 (0, 0)) (BK286.out) hb)
      clear hb hbox hg
      refine hK.out _ _ ⟨(blk_cell BK285.out 0).trans rfl, (blk_cell BK285.out 1).trans rfl⟩ (fun hHeld => ?_)
      clear hK K
      refine norm_ (a' := ?_) ?_ ?_
      rotate_left
      ·show Act.put _ (some 7) _ = _
       simp only [Act.put, List.setIfInBounds_toArray, List.set_cons_zero, List.set_cons_succ, i64_w, i32_w]
       rfl
      refine one_ (i := 5) (N := some 13) #[true, true, true, true, true, true, false, true, false] rfl rfl (one_of HT_.out (by kernel_rfl)) (by decide) (fun K hK => ?_)
      refine goes_ Try.func31 (by kernel_rfl) rfl #[.slice A0_1 l0_1.length c0_1] (by rfl) rfl rfl (by (try simp only [List.map_toArray, List.map_cons, List.map_nil]); first | done | rfl | (simp only [List.length_drop, List.length_take]; rfl)) ?_
      with_reducible refine (slices_Clone_int_int.calls _ _ l0_1 t290 _ ?side1 ?side2 A5.out).mono ?_
      (case side1 => repeat (first | exact (Kd.C_below HR0_1.out HB.out) | (with_reducible refine Kd.C_alloc ?_ _) | (with_reducible refine Kd.C_drewN ?_ _) | (with_reducible refine Kd.C_drew ?_)))
      (case side2 => exact HC0_1.out)
      rintro e w14 ⟨v291, rfl, ho0, hb⟩
      refine ⟨_, rfl, ?_⟩
      replace HO289 := Aside0.mk (Kd.R_below (HO289.out) hb)
      have HO292 := Aside0.mk (Kd.R_lower ho0 (below_size HB.out))
      replace BK285 := Aside0.mk (blk_below (g := gb285) (o := .cells #[.slice A0_0 l0_0.length c0_0, .slice A0_1 l0_1.length c0_1] 25 (0, 0)) (BK285.out) hb)
      replace BK286 := Aside0.mk (blk_below (g := gb286) (o := .cells #[.slice none 0 0, .slice none 0 0] 25 (0, 0)) (BK286.out) hb)
      replace BK293 := Aside0.mk (blk_below (g := gb293) (o := .cells #[.slice none 0 0, .slice none 0 0] 25 (0, 0)) (BK293.out) hb)
      replace HB := Aside0.mk (below_step HB.out hb)
      (try clear hb)
      (try clear hb2)
      (try clear hk)
      (try clear hi)
      (try clear ho0)
      obtain ⟨Ao15, co15, eo15⟩ := Kd.R_slice HO292.out
      (first | subst eo15 | (injection eo15 with f1_ f2_ f3_; have f4_ := f1_.symm; have f5_ := f3_.symm; clear f1_ f2_ f3_; subst f4_; subst f5_))
      obtain ⟨Ao16, co16, eo16⟩ := Kd.R_slice HO289.out
      (first | subst eo16 | (injection eo16 with f1_ f2_ f3_; have f4_ := f1_.symm; have f5_ := f3_.symm; clear f1_ f2_ f3_; subst f4_; subst f5_))
      refine hK.out _ _ ⟨(blk_cell BK285.out 0).trans rfl, (blk_cell BK285.out 1).trans rfl⟩ (fun hHeld => ?_)
      clear hK K
      refine norm_ (a' := ?_) ?_ ?_
      rotate_left
      ·show Act.put _ (some 13) _ = _
       simp only [Act.put, List.setIfInBounds_toArray, List.set_cons_zero, List.set_cons_succ, i64_w, i32_w]
       rfl
      refine pure_ (i := 6) (N := some 14) (v := ?_) (a' := ?_) #[true, true, true, true, true, true, true, true, false] rfl rfl (any_of HT_.out (by kernel_rfl)) (fun _ _ _ h => h) (Or.inl ⟨by rfl, ?_⟩) ?_ ?_
      rotate_left
      ·intro w'
       go_simp
       with_reducible rfl
      rotate_left
      ·simp only [Act.put, List.setIfInBounds_toArray, List.set_cons_zero, List.set_cons_succ, i64_w, i32_w]
       rfl
      exact norm_ (by simp only [putAll, Act.put, List.setIfInBounds_toArray, List.set_cons_zero, List.set_cons_succ]) (hCont (.slice Ao16 t287.length co16, .slice Ao15 t290.length co15, gb293) _ ⟨hHeld, (HO289.out), (HO292.out), (BK285.out), (BK286.out), (BK293.out), GW293.out, GE293.out, NB285_293.out, NB293_285.out, NB286_293.out, NB293_286.out, HB.out⟩)
    ·skip
     refine box_step ?hg (N := 7) ?hd (cs := #[.slice none 0 0, .slice none 0 0]) (t := 25) ?hr ?_; (case hd => rfl); (case hg => rfl); (case hr => first | (go_simp; done) | (go_simp; rfl))
     intro gb293 hg w12 hbox hb
     have BK293 := Aside0.mk (hbox)
     have GW293 := Aside0.mk ((by rw [hg]; exact (below_size HB.out) : w.heap.size ≤ gb293))
     have GE293 := Aside0.mk ((by rw [hg]; exact (below_size HB.out) : w.heap.size ≤ gb293))
     replace HB := Aside0.mk (below_step HB.out hb)
     have NB285_293 := Aside0.mk ((by rw [hg]; exact Nat.ne_of_lt (blk_lt (g := gb285) (o := .cells #[.slice A0_0 l0_0.length c0_0, .slice A0_1 l0_1.length c0_1] 25 (0, 0)) (BK285.out)) : gb285 ≠ gb293))
     have NB293_285 := Aside0.mk ((by rw [hg]; exact Nat.ne_of_gt (blk_lt (g := gb285) (o := .cells #[.slice A0_0 l0_0.length c0_0, .slice A0_1 l0_1.length c0_1] 25 (0, 0)) (BK285.out)) : gb293 ≠ gb285))
     replace BK285 := Aside0.mk (blk_below (g := gb285) (o := .cells #[.slice A0_0 l0_0.length c0_0, .slice A0_1 l0_1.length c0_1] 25 (0, 0)) (BK285.out) hb)
     have NB286_293 := Aside0.mk ((by rw [hg]; exact Nat.ne_of_lt (blk_lt (g := gb286) (o := .cells #[.slice none 0 0, .slice none 0 0] 25 (0, 0)) (BK286.out)) : gb286 ≠ gb293))
     have NB293_286 := Aside0.mk ((by rw [hg]; exact Nat.ne_of_gt (blk_lt (g := gb286) (o := .cells #[.slice none 0 0, .slice none 0 0] 25 (0, 0)) (BK286.out)) : gb293 ≠ gb286))
     replace BK286 := Aside0.mk (blk_below (g := gb286) (o := .cells #[.slice none 0 0, .slice none 0 0] 25 (0, 0)) (BK286.out) hb)
     clear hb hbox hg
     refine hK.out _ _ ⟨(blk_cell BK285.out 0).trans rfl, (blk_cell BK285.out 1).trans rfl⟩ (fun hHeld => ?_)
     clear hK K
     refine norm_ (a' := ?_) ?_ ?_
     rotate_left
     ·show Act.put _ (some 7) _ = _
      simp only [Act.put, List.setIfInBounds_toArray, List.set_cons_zero, List.set_cons_succ, i64_w, i32_w]
      rfl
     refine one_ (i := 2) (N := some 10) #[true, true, true, true, true, false, false, true, false] rfl rfl (one_of HT_.out (by kernel_rfl)) (by decide) (fun K hK => ?_)
     refine goes_ Try.func55 (by kernel_rfl) rfl #[.slice A0_0 l0_0.length c0_0] (by rfl) rfl rfl (by (try simp only [List.map_toArray, List.map_cons, List.map_nil]); first | done | rfl | (simp only [List.length_drop, List.length_take]; rfl)) ?_
     with_reducible refine (slices_Clone_impl_Tile_impl_Tile.calls _ _ l0_0 t287 _ ?side1 ?side2 A4.out).mono ?_
     (case side1 => repeat (first | exact (Kd.C_below HR0_0.out HB.out) | (with_reducible refine Kd.C_alloc ?_ _) | (with_reducible refine Kd.C_drewN ?_ _) | (with_reducible refine Kd.C_drew ?_)))
     (case side2 => exact HC0_0.out)
     rintro e w13 ⟨v288, rfl, ho0, hb⟩
     refine ⟨_, rfl, ?_⟩
     have HO289 := Aside0.mk (Kd.R_lower ho0 (below_size HB.out))
     replace BK285 := Aside0.mk (blk_below (g := gb285) (o := .cells #[.slice A0_0 l0_0.length c0_0, .slice A0_1 l0_1.length c0_1] 25 (0, 0)) (BK285.out) hb)
     replace BK286 := Aside0.mk (blk_below (g := gb286) (o := .cells #[.slice none 0 0, .slice none 0 0] 25 (0, 0)) (BK286.out) hb)
     replace BK293 := Aside0.mk (blk_below (g := gb293) (o := .cells #[.slice none 0 0, .slice none 0 0] 25 (0, 0)) (BK293.out) hb)
     replace HB := Aside0.mk (below_step HB.out hb)
     (try clear hb)
     (try clear hb2)
     (try clear hk)
     (try clear hi)
     (try clear ho0)
     refine hK.out _ _ ⟨(blk_cell BK285.out 0).trans rfl, (blk_cell BK285.out 1).trans rfl⟩ (fun hHeld => ?_)
     clear hK K
     refine norm_ (a' := ?_) ?_ ?_
     rotate_left
     ·show Act.put _ (some 10) _ = _
      simp only [Act.put, List.setIfInBounds_toArray, List.set_cons_zero, List.set_cons_succ, i64_w, i32_w]
      rfl
     refine one_ (i := 5) (N := some 13) #[true, true, true, true, true, true, false, true, false] rfl rfl (one_of HT_.out (by kernel_rfl)) (by decide) (fun K hK => ?_)
     refine goes_ Try.func31 (by kernel_rfl) rfl #[.slice A0_1 l0_1.length c0_1] (by rfl) rfl rfl (by (try simp only [List.map_toArray, List.map_cons, List.map_nil]); first | done | rfl | (simp only [List.length_drop, List.length_take]; rfl)) ?_
     with_reducible refine (slices_Clone_int_int.calls _ _ l0_1 t290 _ ?side1 ?side2 A5.out).mono ?_
     (case side1 => repeat (first | exact (Kd.C_below HR0_1.out HB.out) | (with_reducible refine Kd.C_alloc ?_ _) | (with_reducible refine Kd.C_drewN ?_ _) | (with_reducible refine Kd.C_drew ?_)))
     (case side2 => exact HC0_1.out)
     rintro e w14 ⟨v291, rfl, ho0, hb⟩
     refine ⟨_, rfl, ?_⟩
     replace HO289 := Aside0.mk (Kd.R_below (HO289.out) hb)
     have HO292 := Aside0.mk (Kd.R_lower ho0 (below_size HB.out))
     replace BK285 := Aside0.mk (blk_below (g := gb285) (o := .cells #[.slice A0_0 l0_0.length c0_0, .slice A0_1 l0_1.length c0_1] 25 (0, 0)) (BK285.out) hb)
     replace BK286 := Aside0.mk (blk_below (g := gb286) (o := .cells #[.slice none 0 0, .slice none 0 0] 25 (0, 0)) (BK286.out) hb)
     replace BK293 := Aside0.mk (blk_below (g := gb293) (o := .cells #[.slice none 0 0, .slice none 0 0] 25 (0, 0)) (BK293.out) hb)
     replace HB := Aside0.mk (below_step HB.out hb)
     (try clear hb)
     (try clear hb2)
     (try clear hk)
     (try clear hi)
     (try clear ho0)
     obtain ⟨Ao15, co15, eo15⟩ := Kd.R_slice HO292.out
     (first | subst eo15 | (injection eo15 with f1_ f2_ f3_; have f4_ := f1_.symm; have f5_ := f3_.symm; clear f1_ f2_ f3_; subst f4_; subst f5_))
     obtain ⟨Ao16, co16, eo16⟩ := Kd.R_slice HO289.out
     (first | subst eo16 | (injection eo16 with f1_ f2_ f3_; have f4_ := f1_.symm; have f5_ := f3_.symm; clear f1_ f2_ f3_; subst f4_; subst f5_))
     refine hK.out _ _ ⟨(blk_cell BK285.out 0).trans rfl, (blk_cell BK285.out 1).trans rfl⟩ (fun hHeld => ?_)
     clear hK K
     refine norm_ (a' := ?_) ?_ ?_
     rotate_left
     ·show Act.put _ (some 13) _ = _
      simp only [Act.put, List.setIfInBounds_toArray, List.set_cons_zero, List.set_cons_succ, i64_w, i32_w]
      rfl
     refine pure_ (i := 6) (N := some 14) (v := ?_) (a' := ?_) #[true, true, true, true, true, true, true, true, false] rfl rfl (any_of HT_.out (by kernel_rfl)) (fun _ _ _ h => h) (Or.inl ⟨by rfl, ?_⟩) ?_ ?_
     rotate_left
     ·intro w'
      go_simp
      with_reducible rfl
     rotate_left
     ·simp only [Act.put, List.setIfInBounds_toArray, List.set_cons_zero, List.set_cons_succ, i64_w, i32_w]
      rfl
     exact norm_ (by simp only [putAll, Act.put, List.setIfInBounds_toArray, List.set_cons_zero, List.set_cons_succ]) (hCont (.slice Ao16 t287.length co16, .slice Ao15 t290.length co15, gb293) _ ⟨hHeld, (HO289.out), (HO292.out), (BK285.out), (BK286.out), (BK293.out), GW293.out, GE293.out, NB285_293.out, NB293_285.out, NB286_293.out, NB293_286.out, HB.out⟩)
   rintro ⟨v288, v291, gb293⟩ w17 ⟨hS_, h0_, h1_, h2_, h3_, h4_, h5_, h6_, h7_, h8_, h9_, h10_, h11_⟩
   have n0_ : Aside0 (Kd.R k55 55 w17 w.heap.size (fun _ => True) v288 t287) := ⟨h0_⟩
   have n1_ : Aside0 (Kd.R (Kd.int .i64) 3 w17 w.heap.size (fun _ => True) v291 t290) := ⟨h1_⟩
   have n2_ : Aside0 (w17.heap[gb285]? = some (.cells #[.slice A0_0 l0_0.length c0_0, .slice A0_1 l0_1.length c0_1] 25 (0, 0))) := ⟨h2_⟩
   have n3_ : Aside0 (w17.heap[gb286]? = some (.cells #[.slice none 0 0, .slice none 0 0] 25 (0, 0))) := ⟨h3_⟩
   have n4_ : Aside0 (w17.heap[gb293]? = some (.cells #[.slice none 0 0, .slice none 0 0] 25 (0, 0))) := ⟨h4_⟩
   have n5_ : Aside0 (w.heap.size ≤ gb293) := ⟨h5_⟩
   have n6_ : Aside0 (w.heap.size ≤ gb293) := ⟨h6_⟩
   have n7_ : Aside0 (gb285 ≠ gb293) := ⟨h7_⟩
   have n8_ : Aside0 (gb293 ≠ gb285) := ⟨h8_⟩
   have n9_ : Aside0 (gb286 ≠ gb293) := ⟨h9_⟩
   have n10_ : Aside0 (gb293 ≠ gb286) := ⟨h10_⟩
   have n11_ : Aside0 (Below w.heap.size w w17) := ⟨h11_⟩
   clear BK285
   clear BK286
   clear HB
   clear h0_ h1_ h2_ h3_ h4_ h5_ h6_ h7_ h8_ h9_ h10_ h11_
   have HO289 := n0_
   have HO292 := n1_
   have BK285 := n2_
   have BK286 := n3_
   have BK293 := n4_
   have GW293 := n5_
   have GE293 := n6_
   have NB285_293 := n7_
   have NB293_285 := n8_
   have NB286_293 := n9_
   have NB293_286 := n10_
   have HB := n11_
   clear n0_ n1_ n2_ n3_ n4_ n5_ n6_ n7_ n8_ n9_ n10_ n11_
   have hHeld : w17.cell? ⟨gb285, 0, none⟩ = some (.slice A0_0 l0_0.length c0_0) ∧ w17.cell? ⟨gb285, 1, none⟩ = some (.slice A0_1 l0_1.length c0_1) := hS_
   obtain ⟨Ao18, co18, eo18⟩ := Kd.R_slice HO292.out
   (first | subst eo18 | (injection eo18 with f1_ f2_ f3_; have f4_ := f1_.symm; have f5_ := f3_.symm; clear f1_ f2_ f3_; subst f4_; subst f5_))
   obtain ⟨Ao19, co19, eo19⟩ := Kd.R_slice HO289.out
   (first | subst eo19 | (injection eo19 with f1_ f2_ f3_; have f4_ := f1_.symm; have f5_ := f3_.symm; clear f1_ f2_ f3_; subst f4_; subst f5_))
   refine norm_ (a' := ?_) ?_ ?_
   rotate_left
   ·simp only [putAll, Act.put, List.setIfInBounds_toArray, List.set_cons_zero, List.set_cons_succ]
    rfl
   refine one_ (i := 8) (N := none) #[true, true, true, true, true, true, true, true, true] rfl rfl (one_of HT_.out (by kernel_rfl)) (by decide) (fun K hK => ?_)
   have hs20 : w17.cell? ⟨gb293, 0, none⟩ = some (.slice none 0 0) := (blk_cell BK293.out 0).trans rfl
   have hfs20 := blk_frozen BK293.out 0
   have hns20_0 := NB285_293.out
   have hns20_1 := NB286_293.out
   have hms20_0 := NB293_285.out
   have hms20_1 := NB293_286.out
   have hs21 : w17.cell? ⟨gb293, 1, none⟩ = some (.slice none 0 0) := (blk_cell BK293.out 1).trans rfl
   have hfs21 := blk_frozen BK293.out 1
   have hns21_0 := NB285_293.out
   have hns21_1 := NB286_293.out
   have hms21_0 := NB293_285.out
   have hms21_1 := NB293_286.out
   refine skip_ (w1 := ?_) (by rfl) rfl ?_ ?_
   rotate_left
   ·go_simp
    rfl
   refine hK.out _ _ ⟨((cell_far (p := ⟨gb293, _, none⟩) NB285_293.out _).trans (((cell_far (p := ⟨gb293, _, none⟩) NB285_293.out _).trans (hHeld.1)))), ((cell_far (p := ⟨gb293, _, none⟩) NB285_293.out _).trans (((cell_far (p := ⟨gb293, _, none⟩) NB285_293.out _).trans (hHeld.2))))⟩ (fun hHeld => ?_)
   clear hK K
   refine done_ (done_of HT_.out (by kernel_rfl)) ?_
   have n0_ : Aside0 (Kd.R k55 55 ((w17.setCell ⟨gb293, 0, none⟩ (.slice Ao19 t287.length co19)).setCell ⟨gb293, 1, none⟩ (.slice Ao18 t290.length co18)) w.heap.size (fun _ => True) (.slice Ao19 t287.length co19) t287) := ⟨by exact Kd.R_mono (Kd.R_far (p := ⟨gb293, 1, none⟩) (Kd.R_far (p := ⟨gb293, 0, none⟩) (Kd.R_types HO289.out BK293.out (by decide)) (fun _ hk => hk.2) (.slice Ao19 t287.length co19)) (fun _ hk => hk.2) (.slice Ao18 t290.length co18)) (fun _ hk => trivial)⟩
   have n1_ : Aside0 (Kd.R (Kd.int .i64) 3 ((w17.setCell ⟨gb293, 0, none⟩ (.slice Ao19 t287.length co19)).setCell ⟨gb293, 1, none⟩ (.slice Ao18 t290.length co18)) w.heap.size (fun _ => True) (.slice Ao18 t290.length co18) t290) := ⟨by exact Kd.R_mono (Kd.R_far (p := ⟨gb293, 1, none⟩) (Kd.R_far (p := ⟨gb293, 0, none⟩) (Kd.R_types HO292.out BK293.out (by decide)) (fun _ hk => hk.2) (.slice Ao19 t287.length co19)) (fun _ hk => hk.2) (.slice Ao18 t290.length co18)) (fun _ hk => trivial)⟩
   have n2_ : Aside0 (((w17.setCell ⟨gb293, 0, none⟩ (.slice Ao19 t287.length co19)).setCell ⟨gb293, 1, none⟩ (.slice Ao18 t290.length co18)).heap[gb285]? = some (.cells #[.slice A0_0 l0_0.length c0_0, .slice A0_1 l0_1.length c0_1] 25 (0, 0))) := ⟨by refine blk_far ?_ NB285_293.out _; refine blk_far ?_ NB285_293.out _; exact BK285.out⟩
   have n3_ : Aside0 (((w17.setCell ⟨gb293, 0, none⟩ (.slice Ao19 t287.length co19)).setCell ⟨gb293, 1, none⟩ (.slice Ao18 t290.length co18)).heap[gb286]? = some (.cells #[.slice none 0 0, .slice none 0 0] 25 (0, 0))) := ⟨by refine blk_far ?_ NB286_293.out _; refine blk_far ?_ NB286_293.out _; exact BK286.out⟩
   have n4_ : Aside0 (((w17.setCell ⟨gb293, 0, none⟩ (.slice Ao19 t287.length co19)).setCell ⟨gb293, 1, none⟩ (.slice Ao18 t290.length co18)).heap[gb293]? = some (.cells #[.slice Ao19 t287.length co19, .slice Ao18 t290.length co18] 25 (0, 0))) := ⟨by refine blk_put (cs := #[.slice Ao19 t287.length co19, .slice none 0 0]) ?_ 1 _ rfl; refine blk_put (cs := #[.slice none 0 0, .slice none 0 0]) ?_ 0 _ rfl; exact BK293.out⟩
   have n5_ : Aside0 (Below w.heap.size w ((w17.setCell ⟨gb293, 0, none⟩ (.slice Ao19 t287.length co19)).setCell ⟨gb293, 1, none⟩ (.slice Ao18 t290.length co18))) := ⟨by repeat (first | (with_reducible first | exact HB.out | apply below_alloc | apply pw_below_drewN | apply below_drew1 | refine below_set ?_ GE285.out | refine below_set ?_ GE286.out | refine below_set ?_ GE293.out) | exact HB.out)⟩
   (try clear HO289)
   (try clear HO292)
   (try clear BK285)
   (try clear BK286)
   (try clear BK293)
   (try clear HB)
   generalize ((w17.setCell ⟨gb293, 0, none⟩ (.slice Ao19 t287.length co19)).setCell ⟨gb293, 1, none⟩ (.slice Ao18 t290.length co18)) = w22 at n0_ n1_ n2_ n3_ n4_ n5_ ⊢
   have HO289 := n0_
   have HO292 := n1_
   have BK285 := n2_
   have BK286 := n3_
   have BK293 := n4_
   have HB := n5_
   clear n0_ n1_ n2_ n3_ n4_ n5_
   have hnb23 := NB293_285.out
   have hnc23 := NB285_293.out
   have hnb24 := NB293_286.out
   have hnc24 := NB286_293.out
   have hcz25_0 : w22.cell? ⟨gb293, 0, none⟩ = some (.slice Ao19 t287.length co19) := (blk_cell BK293.out 0).trans rfl
   have hcz25_1 : w22.cell? ⟨gb293, 1, none⟩ = some (.slice Ao18 t290.length co18) := (blk_cell BK293.out 1).trans rfl
   have hfz25_0 := blk_frozen BK293.out 0
   have hfz25_1 := blk_frozen BK293.out 1
   have p8 : 0 ≤ (a1 : Int) := of_decide_eq_true (by assumption)
   have q8 : (a1 : Int) < ((t290.length : Int) : Int) := of_decide_eq_true (by assumption)
   obtain ⟨go8, co8, eo8, gb8, gl8, cl8, HG8⟩ := Kd.R_form HO292.out (by omega)
   (first | cases eo8 | (injection eo8 with ea_ en_ ec_; (first | subst ea_ | (injection ea_ with ea_; subst ea_)); subst ec_; clear en_))
   have GB8 := Aside0.mk gb8
   have GG8 := Aside0.mk HG8
   clear gb8 gl8 HG8
   obtain ⟨hx8_0, hf8_0⟩ := Kd.R_celln 0 HO292.out (a1 : Int) p8 q8
   replace p8 := eq_true p8
   replace q8 := eq_true q8
   obtain ⟨hy26_, hz26_⟩ := Kd.R_celln 0 HO292.out (a1 : Int) (of_decide_eq_true (by assumption)) (of_decide_eq_true (by assumption))
   have HP26 := Kd.R_putg HO292.out (a1 : Int) a2
   try go_wp2_with (first | ((with_reducible refine gate_store (t := 3) (p := 19) rfl ?_); refine store_event (t := 3) (p := 19) (v := ?vo_w27) (w1 := (w22.setCell ⟨go8, (a1 : Int).toNat, none⟩ (.int .i64 a2))) ?hg ?ho ?hn ?hr ?_; (case ho => rfl); (case hg => rfl); (case hn => rfl); (case hr => first | (go_simp; done) | (go_simp; rfl)); intro w27 hw; have hg : w22.grownBy w27 (some go8) := (by rw [hw]; exact HP26.2); have hp_ : Kd.R (Kd.int .i64) 3 w27 w.heap.size (fun _ => True) (.slice (some ⟨go8, 0, none⟩) t290.length co18) y294 := (by rw [hw, Ny294.out]; exact HP26.1); clear HP26; replace BK285 := Aside0.mk (blk_grown (g := gb285) (o := .cells #[.slice A0_0 l0_0.length c0_0, .slice A0_1 l0_1.length c0_1] 25 (0, 0)) (BK285.out) hg (Kd.R_ne HO292.out BK285.out (by decide))); replace BK286 := Aside0.mk (blk_grown (g := gb286) (o := .cells #[.slice none 0 0, .slice none 0 0] 25 (0, 0)) (BK286.out) hg (Kd.R_ne HO292.out BK286.out (by decide))); replace HO289 := Aside0.mk (Kd.R_over' (v := (.slice (some ⟨go8, 0, none⟩) t290.length co18)) (HO289.out) (Kd.R_typed HO292.out) (by decide) hg); replace BK293 := Aside0.mk (blk_grown (g := gb293) (o := .cells #[.slice Ao19 t287.length co19, .slice (some ⟨go8, 0, none⟩) t290.length co18] 25 (0, 0)) (BK293.out) hg (Kd.R_ne HO292.out BK293.out (by decide))); replace HO292 := Aside0.mk (hp_); replace HB := Aside0.mk ((by rw [hw]; exact below_set (HB.out) GB8.out : Below w.heap.size w w27)); clear hg hw hp_; have hcz28_0 : w27.cell? ⟨gb293, 0, none⟩ = some (.slice Ao19 t287.length co19) := (blk_cell BK293.out 0).trans rfl; have hcz28_1 : w27.cell? ⟨gb293, 1, none⟩ = some (.slice (some ⟨go8, 0, none⟩) t290.length co18) := (blk_cell BK293.out 1).trans rfl; have hfz28_0 := blk_frozen BK293.out 0; have hfz28_1 := blk_frozen BK293.out 1; have hnb29 := NB286_285.out; have hnc29 := NB285_286.out; have hcz30_0 : w27.cell? ⟨gb286, 0, none⟩ = some (.slice none 0 0) := (blk_cell BK286.out 0).trans rfl; have hcz30_1 : w27.cell? ⟨gb286, 1, none⟩ = some (.slice none 0 0) := (blk_cell BK286.out 1).trans rfl; have hfz30_0 := blk_frozen BK286.out 0; have hfz30_1 := blk_frozen BK286.out 1))
   refine bodyPost_ret (results_cell_row rfl _ _ gb286 25 #[.slice Ao19 t287.length co19, .slice (some ⟨go8, 0, none⟩) t290.length co18] (0, 0) _ rfl (by refine blk_put (cs := #[.slice Ao19 t287.length co19, .slice none 0 0]) ?_ 1 _ rfl; refine blk_put (cs := #[.slice none 0 0, .slice none 0 0]) ?_ 0 _ rfl; exact BK286.out) Try.underlying25 rfl (by kernel_rfl)) rfl ?_
   exact ⟨_, _, by first | rfl | (simp [errW_none, errW_some] <;> rfl) | (simp [*, errW_none, errW_some] <;> rfl), by (with_reducible repeat (first | apply Kd.R_alloc | apply Kd.R_drewN | apply Kd.R_drew)); exact Kd.R_mono (Kd.R_far (p := ⟨gb286, 1, none⟩) (Kd.R_far (p := ⟨gb286, 0, none⟩) (Kd.R_types HO289.out BK286.out (by decide)) (fun _ hk => hk.2) (.slice Ao19 t287.length co19)) (fun _ hk => hk.2) (.slice (some ⟨go8, 0, none⟩) t290.length co18)) (fun _ hk => trivial), by (with_reducible repeat (first | apply Kd.R_alloc | apply Kd.R_drewN | apply Kd.R_drew)); exact Kd.R_mono (Kd.R_far (p := ⟨gb286, 1, none⟩) (Kd.R_far (p := ⟨gb286, 0, none⟩) (Kd.R_types HO292.out BK286.out (by decide)) (fun _ hk => hk.2) (.slice Ao19 t287.length co19)) (fun _ hk => hk.2) (.slice (some ⟨go8, 0, none⟩) t290.length co18)) (fun _ hk => trivial), by repeat (first | (with_reducible first | exact HB.out | apply below_alloc | apply pw_below_drewN | apply below_drew1 | refine below_set ?_ GE285.out | refine below_set ?_ GE286.out | refine below_set ?_ GE293.out) | exact HB.out)⟩
  ·rw [if_neg c7] at H
   exact absurd H (by simp)
 ·rw [if_neg c6] at H
  exact absurd H (by simp)

end Go.Proofs.Ytncogkhhecgcbaa.QFnExactHarderPuzzle
