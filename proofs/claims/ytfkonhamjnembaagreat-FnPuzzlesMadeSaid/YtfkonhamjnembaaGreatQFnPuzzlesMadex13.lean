-- WRITTEN BY A PROGRAM OF THIS CLAIM'S AUTHOR (wprint.py)
import Derived.Test.YtfkonhamjnembaaGreatQFnPuzzlesMadex0
import Derived.Test.YtfkonhamjnembaaGreatQFnPuzzlesMadex2
import Derived.Test.YtfkonhamjnembaaGreatQFnPuzzlesMadex3
import Derived.Test.YtfkonhamjnembaaGreatQFnPuzzlesMadex12
namespace Go.Proofs.YtfkonhamjnembaaGreat.QFnPuzzlesMade
open Go.RowKit Go.Proofs.YtfkonhamjnembaaGreatW.PrintWords Go.Proofs.YtfkonhamjnembaaGreatW.PrintLast Go.Proofs.YtfkonhamjnembaaGreatW.PrintMore
attribute [local go_sem] max2_int min2_int max_two min_two max_three min_three max_four min_four   -- for this text's walks alone
set_option linter.unusedVariables false
set_option linter.unusedSimpArgs false

/-! ### spec_pzLook: function 89, by hand -/
/-! ### Blocks of two types alone are written: all others stay -/
def KeepT (ta tb : Nat) (W W' : World) : Prop := W.heap.size ≤ W'.heap.size ∧ ∀ i, i < W.heap.size → (∀ cells t, W.heap[i]? = some (.cells cells t (0, 0)) → t ≠ ta ∧ t ≠ tb) → W'.heap[i]? = W.heap[i]?
theorem KeepT.refl (ta tb : Nat) (W : World) : KeepT ta tb W W := ⟨Nat.le_refl _, fun _ _ _ => rfl⟩
theorem KeepT.trans {ta tb : Nat} {W W1 W2 : World} (h : KeepT ta tb W W1) (k : KeepT ta tb W1 W2) : KeepT ta tb W W2 :=
 ⟨Nat.le_trans h.1 k.1, fun i hi ht => by
  have e := h.2 i hi ht
  exact (k.2 i (Nat.lt_of_lt_of_le hi h.1) (fun cells t hc => ht cells t (by rw [← e]; exact hc))).trans e⟩
theorem KeepT.below {ta tb : Nat} {W W' : World} (h : Below W.heap.size W W') : KeepT ta tb W W' := ⟨h.size, fun i hi _ => h.block i hi⟩
theorem KeepT.grown {ta tb : Nat} {W W' : World} {row : Option Nat} (h : W.grownBy W' row) (hr : ∀ k, row = some k → ∃ cells t, W.heap[k]? = some (.cells cells t (0, 0)) ∧ (t = ta ∨ t = tb)) : KeepT ta tb W W' :=
 ⟨h.size, fun i hi ht => h.block i hi (fun e => by
  obtain ⟨cells, t, hc, h1⟩ := hr i e.symm
  have := ht cells t hc
  rcases h1 with h1 | h1
  ·exact this.1 h1
  ·exact this.2 h1)⟩
theorem KeepT.set {ta tb : Nat} {W : World} {g : Nat} {cs : Array Value} {t : Nat} (hc : W.heap[g]? = some (.cells cs t (0, 0))) (h1 : t = ta ∨ t = tb) (j : Nat) (u : Value) : KeepT ta tb W (W.setCell ⟨g, j, none⟩ u) :=
 ⟨by rw [World.size_setCell]; exact Nat.le_refl _, fun i hi ht => Below.heap_setCell W ⟨g, j, none⟩ u i (fun e => by
  have e2 : i = g := e
  subst e2
  have := ht cs t hc
  rcases h1 with h1 | h1
  ·exact this.1 h1
  ·exact this.2 h1)⟩
theorem KeepT.blk {ta tb : Nat} {W W' : World} (h : KeepT ta tb W W') {g : Nat} {cs : Array Value} {t : Nat} (hc : W.heap[g]? = some (.cells cs t (0, 0))) (h1 : t ≠ ta) (h2 : t ≠ tb) : W'.heap[g]? = some (.cells cs t (0, 0)) :=
 (h.2 g (blk_lt hc) (fun cells t' hc' => by
  rw [hc] at hc'
  injection hc' with hc'
  injection hc' with _ e
  subst e
  exact ⟨h1, h2⟩)).trans hc
theorem KeepT.row {ta tb : Nat} {α : Type} {d : Kd α} {e base : Nat} {ok : Nat → Prop} {W W' : World} {v : Value} {xs : List α} (h : KeepT ta tb W W') (hR : d.R e W base ok v xs) (ht : ∀ q, q ∈ e :: d.E → q ≠ ta ∧ q ≠ tb) : d.R e W' base ok v xs :=
 Kd.R_mono (Kd.R_move (Kd.R_bound hR) (fun k hk => h.2 k hk.2.2.1 (fun cells t hc => by
  obtain ⟨q, hq, cells', hc'⟩ := hk.2.2.2
  rw [hc'] at hc
  injection hc with hc
  injection hc with _ e
  subst e
  exact ht _ hq))) (fun _ hk => hk.1)
theorem KeepT.row_of {ta tb : Nat} {α : Type} {d : Kd α} {e base : Nat} {ok : Nat → Prop} {W W' : World} {v : Value} {xs : List α} (hR : d.R e W base ok v xs) (hg : W.grownBy W' v.ownBlock) (he : e = ta ∨ e = tb) : KeepT ta tb W W' :=
 KeepT.grown hg (fun k hk => by
  obtain ⟨cells, hc⟩ := Kd.R_typed hR k hk
  exact ⟨cells, e, hc, he⟩)
/-! ### spec.pzLook: the reference's search -/
def spec_pzLook.l (k : Nat) (rec : List Int → List S67 → List (List Int) → Option (List (List Int))) (pch begin : List Int) (hand : List S67) : Nat → Int → List (List Int) → Option (List (List Int))
 | 0, _, _ => none
 | m + 1, n, out =>
  if n ≤ 9 then
   (if begin.length < pch.length then
    (if 0 ≤ rd pch (begin.length : Int) ∧ rd pch (begin.length : Int) ≠ n then spec_pzLook.l k rec pch begin hand m (n + 1) out
    else if begin.length = 0 then
     ((spec_tiTimes.f k hand n).bind fun t => if t > 0 then ((rec [n] hand out).bind fun o => spec_pzLook.l k rec pch begin hand m (n + 1) o) else spec_pzLook.l k rec pch begin hand m (n + 1) out)
    else
     ((spec_tiOf.f (rd begin ((begin.length : Int) - 1)) n).bind fun t =>
      ((spec_tiPlace.f k hand t.1 t.2).bind fun q =>
       if q ≥ 0 then
        ((spec_l1Own.f begin).bind fun b2 =>
         if b2.length < 17592186044415 then
          ((spec_tiThose.f k hand [(⟨t.1, t.2⟩ : S67)] false).bind fun h2 =>
           ((rec (b2 ++ [n]) h2 out).bind fun o => spec_pzLook.l k rec pch begin hand m (n + 1) o))
         else none)
       else spec_pzLook.l k rec pch begin hand m (n + 1) out)))
   else none)
  else some out
def spec_pzLook.f : Nat → List Int → List Int → List S67 → List (List Int) → Option (List (List Int))
 | 0, _, _, _, _ => none
 | k + 1, pch, begin, hand, out =>
  if out.length > 200 then some out
  else if begin.length = pch.length then ((spec_l1Own.f begin).bind fun b2 => some (out ++ [b2]))
  else spec_pzLook.l k (fun b h o => spec_pzLook.f k pch b h o) pch begin hand 11 0 out
theorem spec_pzLook.info : (Tryz.prog.info? 24).map (fun i => (i.zero, i.size, i.bytes)) = some (some (.slice none 0 0), (Kd.slice 3 (Kd.int .i64)).sz, 24) := by kernel_rfl
/-- What holds while the search goes on. -/
structure spec_pzLook.Loop (w : World) (Bp Bo : Nat) (pv : Array Value) (W wr : World) (vo : Value) (out : List (List Int)) : Prop where
 below : Below w.heap.size w wr
 keep : KeepT 38 24 W wr
 bp : wr.heap[Bp]? = some (.cells pv 29 (0, 0))
 cell : wr.heap[Bo]? = some (.cells #[vo] 38 (0, 0))
 rows : Kd.S (Kd.slice 3 (Kd.int .i64)) 24 wr w.heap.size (fun _ => True) vo out
theorem spec_pzLook.Loop.step {w : World} {Bp Bo : Nat} {pv : Array Value} {W wr w1 : World} {vo : Value} {out : List (List Int)} (h : spec_pzLook.Loop w Bp Bo pv W wr vo out) (hb : Below wr.heap.size wr w1) : spec_pzLook.Loop w Bp Bo pv W w1 vo out :=
 ⟨below_step h.below hb, h.keep.trans (KeepT.below hb), blk_below h.bp hb, blk_below h.cell hb, Kd.S_below h.rows hb⟩
def spec_pzLook.Says (w : World) (Bo : Nat) (Ah : Option Addr) (lh ch : Nat) (Ac : Option Addr) (cc : Nat) (pch : List Int) (rec : List Int → List S67 → List (List Int) → Option (List (List Int))) : Prop :=
 ∀ (begin : List Int) (Ab : Option Addr) (cb : Nat) (hand : List S67) (Al : Option Addr) (cl : Nat) (out : List (List Int)) (vo : Value) (W : World) (out' : List (List Int)),
  Below w.heap.size w W → W.heap[Bo]? = some (.cells #[vo] 38 (0, 0)) → Kd.S (Kd.slice 3 (Kd.int .i64)) 24 W w.heap.size (fun _ => True) vo out →
  (∀ W', KeepT 38 24 W W' → Below w.heap.size w W' → Kd.C (Kd.int .i64) W' Ab begin.length begin) → begin.length ≤ cb →
  (∀ W', KeepT 38 24 W W' → Below w.heap.size w W' → Kd.C k67 W' Al hand.length hand) → hand.length ≤ cl →
  rec begin hand out = some out' →
  Calls Tryz.prog 89 #[.agg #[.slice Ah lh ch, .slice Ac pch.length cc], .slice Ab begin.length cb, .slice Al hand.length cl, .pointer (some ⟨Bo, 0, none⟩)] W fun e W' => e = .returned (.tuple #[]) ∧
   ∃ vo', W'.heap[Bo]? = some (.cells #[vo'] 38 (0, 0)) ∧ Kd.S (Kd.slice 3 (Kd.int .i64)) 24 W' w.heap.size (fun _ => True) vo' out' ∧ Below w.heap.size w W' ∧ KeepT 38 24 W W'
set_option maxHeartbeats 8000000 in
set_option maxRecDepth 1000000 in
theorem spec_pzLook.full (w : World) (Bo : Nat) (Ah : Option Addr) (lh ch : Nat) (Ac : Option Addr) (cc : Nat) (pch begin : List Int) (Ab : Option Addr) (cb : Nat) (Al : Option Addr) (nl cl : Nat) (out : List (List Int)) (vo : Value) (W : World)
  (hb : Below w.heap.size w W) (hO : W.heap[Bo]? = some (.cells #[vo] 38 (0, 0))) (hS : Kd.S (Kd.slice 3 (Kd.int .i64)) 24 W w.heap.size (fun _ => True) vo out) (h : out.length > 200) :
  Calls Tryz.prog 89 #[.agg #[.slice Ah lh ch, .slice Ac pch.length cc], .slice Ab begin.length cb, .slice Al nl cl, .pointer (some ⟨Bo, 0, none⟩)] W fun e W' => e = .returned (.tuple #[]) ∧
   ∃ vo', W'.heap[Bo]? = some (.cells #[vo'] 38 (0, 0)) ∧ Kd.S (Kd.slice 3 (Kd.int .i64)) 24 W' w.heap.size (fun _ => True) vo' out ∧ Below w.heap.size w W' ∧ KeepT 38 24 W W' := by
 obtain ⟨Av, cv, rfl⟩ := Kd.S_slice hS
 have c0 : decide ((200 : Int) < (out.length : Int)) = true := decide_eq_true (by omega)
 have c1 : decide (200 < out.length) = true := decide_eq_true (by omega)
 have HB := Lib.hid hb
 have HO := Lib.hid hO
 have HS := Lib.hid hS
 clear hb hO hS h
 go_enter Tryz.func89, Tryz.ntmps89
 go_wp2_with (first
  | ((with_reducible refine gate_dst (N := 4) rfl ?_); refine box_event ?hg (N := 4) ?hd (cs := #[.slice Ah lh ch, .slice Ac pch.length cc]) (t := 29) ?hr ?_; (case hd => rfl); (case hg => rfl); (case hr => first | (go_simp; done) | (go_simp; rfl)); intro Bp hg w1 hbp hb; have HL := Lib.hid (show spec_pzLook.Loop w Bp Bo #[.slice Ah lh ch, .slice Ac pch.length cc] W w1 (.slice Av out.length cv) out from ⟨below_step HB.out hb, KeepT.below hb, hbp, blk_below HO.out hb, Kd.S_below HS.out hb⟩); have hc1 : w1.cell? ⟨Bo, 0, none⟩ = some (.slice Av out.length cv) := (blk_cell HL.out.cell 0).trans rfl; clear hg hbp hb))
 first | go_end0 | skip
 exact bodyPost_ret (v := .tuple #[]) (by simp [results, Tryz.results89, go_sem]) rfl ⟨rfl, _, HL.out.cell, HL.out.rows, HL.out.below, HL.out.keep⟩
theorem spec_pzLook.leaf_ok {w wq W : World} {vch vo : Value} {ok : Nat → Prop} {chain : List Int} {out : List (List Int)} (hC : Kd.R (Kd.int .i64) 3 W wq.heap.size (fun _ => True) vch chain) (hS : Kd.S (Kd.slice 3 (Kd.int .i64)) 24 W w.heap.size ok vo out) :
  ∀ k, some k = vch.ownBlock → True ∧ some k ≠ vo.ownBlock := fun k hk => ⟨trivial, fun e => by
 obtain ⟨_, h1⟩ := Kd.R_typed hC k hk.symm
 obtain ⟨_, h2⟩ := Kd.S_typed hS k e.symm
 rw [h1] at h2
 injection h2 with h2
 injection h2 with _ h2
 exact absurd h2 (by decide)⟩
theorem spec_pzLook.leaf_cell {w W w1 : World} {ok : Nat → Prop} {vo u : Value} {Bo : Nat} {out : List (List Int)} (hO : W.heap[Bo]? = some (.cells #[u] 38 (0, 0))) (hS : Kd.S (Kd.slice 3 (Kd.int .i64)) 24 W w.heap.size ok vo out) (hg : W.grownBy w1 vo.ownBlock) :
  w1.heap[Bo]? = some (.cells #[u] 38 (0, 0)) := (hg.block Bo (blk_lt hO) (Kd.S_ne hS hO (by decide))).trans hO
set_option maxHeartbeats 8000000 in
set_option maxRecDepth 1000000 in
theorem spec_pzLook.leaf (w : World) (Bo : Nat) (hbo : w.heap.size ≤ Bo) (Ah : Option Addr) (lh ch : Nat) (Ac : Option Addr) (cc : Nat) (pch begin b2 : List Int) (Ab : Option Addr) (cb : Nat) (Al : Option Addr) (nl cl : Nat) (out : List (List Int)) (vo : Value) (W : World)
  (hb : Below w.heap.size w W) (hO : W.heap[Bo]? = some (.cells #[vo] 38 (0, 0))) (hS : Kd.S (Kd.slice 3 (Kd.int .i64)) 24 W w.heap.size (fun _ => True) vo out)
  (hbg : ∀ W', KeepT 38 24 W W' → Below w.heap.size w W' → Kd.C (Kd.int .i64) W' Ab begin.length begin) (hcb : begin.length ≤ cb) (h : ¬ out.length > 200) (he : begin.length = pch.length) (hown : spec_l1Own.f begin = some b2) :
  Calls Tryz.prog 89 #[.agg #[.slice Ah lh ch, .slice Ac pch.length cc], .slice Ab begin.length cb, .slice Al nl cl, .pointer (some ⟨Bo, 0, none⟩)] W fun e W' => e = .returned (.tuple #[]) ∧
   ∃ vo', W'.heap[Bo]? = some (.cells #[vo'] 38 (0, 0)) ∧ Kd.S (Kd.slice 3 (Kd.int .i64)) 24 W' w.heap.size (fun _ => True) vo' (out ++ [b2]) ∧ Below w.heap.size w W' ∧ KeepT 38 24 W W' := by
 obtain ⟨Av, cv, rfl⟩ := Kd.S_slice hS
 have c0 : decide ((200 : Int) < (out.length : Int)) = false := decide_eq_false (by omega)
 have c1 : decide (200 < out.length) = false := decide_eq_false (by omega)
 have e0 : ((begin.length : Int) == (pch.length : Int)) = true := beq_iff_eq.mpr (by omega)
 have e1 : (begin.length == pch.length) = true := beq_iff_eq.mpr he
 have e2 : decide (begin.length = pch.length) = true := decide_eq_true he
 have HB := Lib.hid hb
 have HO := Lib.hid hO
 have HS := Lib.hid hS
 have HBG := Lib.hid hbg
 have HCB := Lib.hid hcb
 have HOWN := Aside0.mk hown
 have HBO := Lib.hid hbo
 have HN := Lib.hid h
 clear hb hO hS h hbg hcb hown hbo he
 go_enter Tryz.func89, Tryz.ntmps89
 go_wp2_with (first
  | ((with_reducible refine gate_dst (N := 4) rfl ?_); refine box_event ?hg (N := 4) ?hd (cs := #[.slice Ah lh ch, .slice Ac pch.length cc]) (t := 29) ?hr ?_; (case hd => rfl); (case hg => rfl); (case hr => first | (go_simp; done) | (go_simp; rfl)); intro Bp hg w1 hbp hb; have HL := Lib.hid (show spec_pzLook.Loop w Bp Bo #[.slice Ah lh ch, .slice Ac pch.length cc] W w1 (.slice Av out.length cv) out from ⟨below_step HB.out hb, KeepT.below hb, hbp, blk_below HO.out hb, Kd.S_below HS.out hb⟩); have hc1 : w1.cell? ⟨Bo, 0, none⟩ = some (.slice Av out.length cv) := (blk_cell HL.out.cell 0).trans rfl; have hp1 : w1.cell? ⟨Bp, 1, none⟩ = some (.slice Ac pch.length cc) := (blk_cell HL.out.bp 1).trans rfl; clear hg hbp hb))
 refine start_ (n := 10) (S := fun w' => w'.cell? ⟨Bo, 0, none⟩ = some (.slice Av out.length cv)) (ds := [9]) #[false, false, false, false, false, false, false, false, false, false] (by kernel_rfl) rfl rfl ((blk_cell (HL.out.step (below_drew1 (Below.refl _ _))).cell 0).trans rfl) (fun hHeld => ?_)
 have HL := Lib.hid (HL.out.step (below_drew1 (Below.refl _ _)))
 generalize w1.drew = wq at HL hHeld ⊢
 refine pure_ (i := 0) (N := (some 22)) (v := ?_) (a' := ?_) #[true, false, false, false, false, false, false, false, false, false] rfl rfl (by kernel_rfl) (fun _ _ _ h => h) (Or.inl ⟨by rfl, ?_⟩) ?_ ?_
 rotate_left
 ·intro w'
  go_simp
  with_reducible rfl
 rotate_left
 ·simp only [Act.put, List.setIfInBounds_toArray, List.set_cons_zero, List.set_cons_succ, i64_w, i32_w]
  rfl
 refine pure_ (i := 1) (N := (some 23)) (v := ?_) (a' := ?_) #[true, true, false, false, false, false, false, false, false, false] rfl rfl (by kernel_rfl) (fun _ _ _ h => h) (Or.inl ⟨by rfl, ?_⟩) ?_ ?_
 rotate_left
 ·intro w'
  go_simp
  with_reducible rfl
 rotate_left
 ·simp only [Act.put, List.setIfInBounds_toArray, List.set_cons_zero, List.set_cons_succ, i64_w, i32_w]
  rfl
 refine pure_ (i := 2) (N := (some 24)) (v := ?_) (a' := ?_) #[true, true, true, false, false, false, false, false, false, false] rfl rfl (by kernel_rfl) (fun _ _ _ h => h) (Or.inl ⟨by rfl, ?_⟩) ?_ ?_
 rotate_left
 ·intro w'
  go_simp
  with_reducible rfl
 rotate_left
 ·simp only [Act.put, List.setIfInBounds_toArray, List.set_cons_zero, List.set_cons_succ, i64_w, i32_w]
  rfl
 refine take_ (i := 3) (N := (some 25)) (v := ?_) (a' := ?_) #[true, true, true, true, false, false, false, false, false, false] rfl rfl (by kernel_rfl) (fun _ _ _ h => h) (Or.inl ⟨by rfl, ?_⟩) hHeld ?_ ?_
 rotate_left
 ·intro w' s0
  go_simp
  with_reducible rfl
 rotate_left
 ·simp only [Act.put, List.setIfInBounds_toArray, List.set_cons_zero, List.set_cons_succ, i64_w, i32_w]
  rfl
 refine pure_ (i := 4) (N := (some 26)) (v := ?_) (a' := ?_) #[true, true, true, true, true, false, false, false, false, false] rfl rfl (by kernel_rfl) (fun _ _ _ h => h) (Or.inl ⟨by rfl, ?_⟩) ?_ ?_
 rotate_left
 ·intro w'
  go_simp
  with_reducible rfl
 rotate_left
 ·simp only [Act.put, List.setIfInBounds_toArray, List.set_cons_zero, List.set_cons_succ, i64_w, i32_w]
  rfl
 refine one_ (i := 5) (N := some 27) #[true, true, true, true, true, true, false, false, false, false] rfl rfl (by kernel_rfl) (by decide) (fun K hK => ?_)
 refine goes_ Tryz.func57 (by kernel_rfl) rfl #[.slice Ab begin.length cb] (by rfl) rfl rfl (by (try simp only [List.map_toArray, List.map_cons, List.map_nil]); first | done | rfl) ?_
 with_reducible refine (spec_l1Own.calls Ab cb begin b2 _ (HBG.out _ HL.out.keep HL.out.below) HCB.out HOWN.out).mono ?_
 rintro e w4 ⟨v27, rfl, ho, hb⟩
 refine ⟨_, rfl, ?_⟩
 have H27 := Lib.hid ho
 have HV := Lib.hid (Kd.S_elder' HL.out.rows (Kd.R_base ho) hb)
 have HBQ := Lib.hid HL.out.below.size
 have HL := Lib.hid (HL.out.step hb)
 clear ho hb
 refine hK.out _ _ ((blk_cell HL.out.cell 0).trans rfl) (fun hHeld => ?_)
 clear hK K
 refine norm_ (a' := ?_) ?_ ?_
 rotate_left
 ·show Act.put _ (some 27) _ = _
  simp only [Act.put, List.setIfInBounds_toArray, List.set_cons_zero, List.set_cons_succ, i64_w, i32_w]
  rfl
 obtain ⟨A27, c27, rfl⟩ := Kd.R_slice H27.out
 refine one_ (i := 6) (N := some 28) #[true, true, true, true, true, true, true, false, false, false] rfl rfl (by kernel_rfl) (by decide) (fun K hK => ?_)
 refine value_ (w1 := ?_) (v := ?_) (by rfl) rfl ?_ ?_
 rotate_left 2
 ·go_simp
  constructor
  ·rfl
  ·rfl
 refine hK.out _ _ ((blk_cell (HL.out.step (below_alloc (Below.refl _ _) _)).cell 0).trans rfl) (fun hHeld => ?_)
 clear hK K
 refine norm_ (a' := ?_) ?_ ?_
 rotate_left
 ·show Act.put _ (some 28) _ = _
  simp only [Act.put, List.setIfInBounds_toArray, List.set_cons_zero, List.set_cons_succ, i64_w, i32_w]
  rfl
 refine one_ (i := 7) (N := some 29) #[true, true, true, true, true, true, true, true, false, false] rfl rfl (by kernel_rfl) (by decide) (fun K hK => ?_)
 refine Kd.S_append_step (Kd.slice 3 (Kd.int .i64)) (w0 := w) w.heap.size (by rfl) (.tmp 25) (.tmp 28) 38 24 (.slice none 0 0) 24 rfl Tryz.underlying38 spec_pzLook.info rfl (by decide) (by omega) (.slice Av out.length cv) out b2 [.slice A27 b2.length c27] (fun _ => True) (fun k => some k = (Value.slice A27 b2.length c27).ownBlock) rfl rfl ?aP ?aK ?aF ?aO ?aB ?aS ?aL ?_
 (case aP => exact ⟨_, rfl, Kd.R_tight rfl (Kd.R_lower H27.out HBQ.out)⟩)
 (case aK => exact spec_pzLook.leaf_ok H27.out HL.out.rows)
 (case aF => exact fun _ _ => trivial)
 (case aO => exact Kd.S_mono HV.out (fun _ hk => ⟨trivial, fun e => hk.2 e⟩))
 (case aB => exact HL.out.below)
 (case aS => exact HL.out.below.size)
 (case aL => have := HN.out; omega)
 intro v29 w5 ho hb hg hat
 have hO5 := spec_pzLook.leaf_cell HL.out.cell HL.out.rows hg
 have HK5 := Lib.hid (HL.out.keep.trans (KeepT.row_of (Kd.S_R HL.out.rows) hg (.inr rfl)))
 refine hK.out _ _ ((blk_cell hO5 0).trans rfl) (fun hHeld => ?_)
 clear hK K
 refine norm_ (a' := ?_) ?_ ?_
 rotate_left
 ·show Act.put _ (some 29) _ = _
  simp only [Act.put, List.setIfInBounds_toArray, List.set_cons_zero, List.set_cons_succ, i64_w, i32_w]
  rfl
 obtain ⟨A29, c29, e29⟩ := Kd.S_slice ho
 rw [List.length_append, List.length_singleton] at e29
 subst e29
 have HS5 := Lib.hid ho
 have HB5 := Lib.hid hb
 have HO5 := Lib.hid hO5
 clear ho hb hg hat hO5
 refine pure_ (i := 8) (N := (some 30)) (v := ?_) (a' := ?_) #[true, true, true, true, true, true, true, true, true, false] rfl rfl (by kernel_rfl) (fun _ _ _ h => h) (Or.inl ⟨by rfl, ?_⟩) ?_ ?_
 rotate_left
 ·intro w'
  go_simp
  with_reducible rfl
 rotate_left
 ·simp only [Act.put, List.setIfInBounds_toArray, List.set_cons_zero, List.set_cons_succ, i64_w, i32_w]
  rfl
 refine last_ (i := 9) (N := none) #[true, true, true, true, true, true, true, true, true, true] rfl rfl (by kernel_rfl) (by decide) (fun K hK => ?_)
 have hf5 : w5.frozen? ⟨Bo, 0, none⟩ = false := blk_frozen HO5.out 0
 refine skip_ (w1 := ?_) (by rfl) rfl ?_ ?_
 rotate_left
 ·go_simp
  rfl
 refine hK.out _ _ ?_
 clear hK K
 refine done_ (by kernel_rfl) ?_
 go_wp2_with (fail)
 first | go_end0 | skip
 exact bodyPost_ret (v := .tuple #[]) (by simp [results, Tryz.results89, go_sem]) rfl ⟨rfl, _, (blk_set HO5.out 0 _).trans rfl, Kd.S_set HS5.out HO5.out (by decide) 0 _, below_set HB5.out HBO.out, HK5.out.trans (KeepT.set HO5.out (.inl rfl) 0 _)⟩
theorem spec_pzLook.one_tile (W : World) (base : Nat) (ok : Nat → Prop) (t0 t1 : Int) : Reps (k67.M W base ok) k67.sz [(⟨t0, t1⟩ : S67)] [.int .i64 t0, .int .i64 t1] := by
 refine ⟨rfl, fun j p hj => ?_⟩
 cases j with
 | zero =>
  simp only [List.getElem?_cons_zero, Option.some.injEq] at hj
  subst hj
  exact k67_mkM _ _ _ (⟨t0, t1⟩ : S67)
 | succ j => simp at hj
theorem spec_pzLook.Loop.rec_ {w : World} {Bp Bo : Nat} {pv : Array Value} {W wr w1 : World} {vo vr : Value} {out o : List (List Int)} (h : spec_pzLook.Loop w Bp Bo pv W wr vo out) (hb : Below w.heap.size w w1) (hk : KeepT 38 24 wr w1) (hO : w1.heap[Bo]? = some (.cells #[vr] 38 (0, 0))) (hS : Kd.S (Kd.slice 3 (Kd.int .i64)) 24 w1 w.heap.size (fun _ => True) vr o) : spec_pzLook.Loop w Bp Bo pv W w1 vr o :=
 ⟨hb, h.keep.trans hk, hk.blk h.bp (by decide) (by decide), hO, hS⟩
theorem spec_pzLook.add_zero (ad : Addr) : ad.add 0 = ad := by
 unfold Addr.add
 split <;> simp_all
theorem spec_pzLook.Loop.p0 {w : World} {Bp Bo : Nat} {a b : Value} {W wr : World} {vo : Value} {out : List (List Int)} (h : spec_pzLook.Loop w Bp Bo #[a, b] W wr vo out) : wr.cell? ⟨Bp, 0, none⟩ = some a := (blk_cell h.bp 0).trans rfl
theorem spec_pzLook.Loop.p1 {w : World} {Bp Bo : Nat} {a b : Value} {W wr : World} {vo : Value} {out : List (List Int)} (h : spec_pzLook.Loop w Bp Bo #[a, b] W wr vo out) : wr.cell? ⟨Bp, 1, none⟩ = some b := (blk_cell h.bp 1).trans rfl
theorem spec_pzLook.box {w4 w5 : World} {Bt : Nat} {t0 t1 : Int} (hg : Bt = w4.heap.size) (hbt : w5.heap[Bt]? = some (.cells #[.int .i64 0, .int .i64 0] 67 (0, 0))) (hb : Below w4.heap.size w4 w5) :
  Below w4.heap.size w4 ((w5.setCell ⟨Bt, 0, none⟩ (.int .i64 t0)).setCell ⟨Bt, 1, none⟩ (.int .i64 t1)) ∧ ((w5.setCell ⟨Bt, 0, none⟩ (.int .i64 t0)).setCell ⟨Bt, 1, none⟩ (.int .i64 t1)).heap[Bt]? = some (.cells #[.int .i64 t0, .int .i64 t1] 67 (0, 0)) :=
 ⟨below_set (below_set hb (Nat.le_of_eq hg.symm)) (Nat.le_of_eq hg.symm), (blk_set ((blk_set hbt 0 (.int .i64 t0)).trans rfl) 1 (.int .i64 t1)).trans rfl⟩
set_option maxHeartbeats 16000000 in
set_option maxRecDepth 1000000 in
theorem spec_pzLook.node (w : World) (Bo : Nat) (hbo : w.heap.size ≤ Bo) (Ah : Option Addr) (lh ch : Nat) (Ac : Option Addr) (cc : Nat) (pch : List Int) (hpch : Kd.C (Kd.int .i64) w Ac pch.length pch) (rec : List Int → List S67 → List (List Int) → Option (List (List Int))) (hrec : spec_pzLook.Says w Bo Ah lh ch Ac cc pch rec) (k : Nat)
  (begin : List Int) (Ab : Option Addr) (cb : Nat) (hand : List S67) (Al : Option Addr) (cl : Nat) (out : List (List Int)) (vo : Value) (W : World) (out' : List (List Int))
  (hb : Below w.heap.size w W) (hO : W.heap[Bo]? = some (.cells #[vo] 38 (0, 0))) (hS : Kd.S (Kd.slice 3 (Kd.int .i64)) 24 W w.heap.size (fun _ => True) vo out)
  (hbg : ∀ W', KeepT 38 24 W W' → Below w.heap.size w W' → Kd.C (Kd.int .i64) W' Ab begin.length begin) (hcb : begin.length ≤ cb)
  (hhd : ∀ W', KeepT 38 24 W W' → Below w.heap.size w W' → Kd.C k67 W' Al hand.length hand) (hcl : hand.length ≤ cl) (h : ¬ out.length > 200) (he : ¬ begin.length = pch.length)
  (hl : spec_pzLook.l k rec pch begin hand 11 0 out = some out') :
  Calls Tryz.prog 89 #[.agg #[.slice Ah lh ch, .slice Ac pch.length cc], .slice Ab begin.length cb, .slice Al hand.length cl, .pointer (some ⟨Bo, 0, none⟩)] W fun e W' => e = .returned (.tuple #[]) ∧
   ∃ vo', W'.heap[Bo]? = some (.cells #[vo'] 38 (0, 0)) ∧ Kd.S (Kd.slice 3 (Kd.int .i64)) 24 W' w.heap.size (fun _ => True) vo' out' ∧ Below w.heap.size w W' ∧ KeepT 38 24 W W' := by
 obtain ⟨Av, cv, rfl⟩ := Kd.S_slice hS
 have c0 : decide ((200 : Int) < (out.length : Int)) = false := decide_eq_false (by omega)
 have c1 : decide (200 < out.length) = false := decide_eq_false (by omega)
 have e0 : ((begin.length : Int) == (pch.length : Int)) = false := beq_eq_false_iff_ne.mpr (by omega)
 have e1 : (begin.length == pch.length) = false := beq_eq_false_iff_ne.mpr he
 have e2 : decide (begin.length = pch.length) = false := decide_eq_false he
 have HB := Lib.hid hb
 have HO := Lib.hid hO
 have HS := Lib.hid hS
 have HBG := Lib.hid hbg
 have HCB := Lib.hid hcb
 have HHD := Lib.hid hhd
 have HCL := Lib.hid hcl
 have HPC := Lib.hid hpch
 have HREC := Lib.hid hrec
 have HBO := Lib.hid hbo
 have H0 := Aside0.mk hl
 clear hb hO hS h hbg hcb hbo he hhd hcl hpch hrec hl
 go_enter Tryz.func89, Tryz.ntmps89
 go_wp2_with (first
  | ((with_reducible refine gate_dst (N := 4) rfl ?_); refine box_event ?hg (N := 4) ?hd (cs := #[.slice Ah lh ch, .slice Ac pch.length cc]) (t := 29) ?hr ?_; (case hd => rfl); (case hg => rfl); (case hr => first | (go_simp; done) | (go_simp; rfl)); intro Bp hg w1 hbp hb; have HL := Lib.hid (show spec_pzLook.Loop w Bp Bo #[.slice Ah lh ch, .slice Ac pch.length cc] W w1 (.slice Av out.length cv) out from ⟨below_step HB.out hb, KeepT.below hb, hbp, blk_below HO.out hb, Kd.S_below HS.out hb⟩); have hc1 : w1.cell? ⟨Bo, 0, none⟩ = some (.slice Av out.length cv) := (blk_cell HL.out.cell 0).trans rfl; have hp1 : w1.cell? ⟨Bp, 1, none⟩ = some (.slice Ac pch.length cc) := (blk_cell HL.out.bp 1).trans rfl; clear hg hbp hb))
 go_loopg [8] 11 (fun kq v8 w' => ∃ (n : Int) (o : List (List Int)) (vq : Value), v8 = .int .i64 n ∧ Aside0 (0 ≤ n ∧ n ≤ 10) ∧ Aside0 (spec_pzLook.l k rec pch begin hand kq n o = some out') ∧ Aside0 (kq ≤ 11) ∧ Hid (spec_pzLook.Loop w Bp Bo #[.slice Ah lh ch, .slice Ac pch.length cc] W w' vq o))
 case atStart => exact ⟨0, out, _, rfl, ⟨by omega, by omega⟩, H0, ⟨Nat.le_refl _⟩, HL⟩
 case round =>
  clear H0 HL c0 c1 e0 e1 e2 hc1 hp1 HB HO HS
  obtain ⟨n, o, vq, rfl, ⟨hn0, hn1⟩, HQ, HK1, HLP⟩ := hrel
  cases gk with
  | zero => exact absurd HQ.out (by simp [spec_pzLook.l])
  | succ k1 =>
   have H := HQ.out
   clear HQ
   simp only [spec_pzLook.l] at H
   by_cases c1 : n ≤ 9
   ·rw [if_pos c1] at H
    have c1b : decide (n ≤ 9) = true := decide_eq_true c1
    by_cases c2 : begin.length < pch.length
    ·rw [if_pos c2] at H
     have hp0 : wr.cell? ⟨Bp, 0, none⟩ = some (.slice Ah lh ch) := HLP.out.p0
     have hp1 : wr.cell? ⟨Bp, 1, none⟩ = some (.slice Ac pch.length cc) := HLP.out.p1
     have hupz := Tryz.underlying29
     have hi0 : 0 ≤ (begin.length : Int) := by omega
     have hi1 : (begin.length : Int) < (pch.length : Int) := by omega
     obtain ⟨ad, ead, hx⟩ := Kd.at_int (Kd.C_below HPC.out HLP.out.below) (begin.length : Int) hi0 hi1
     subst ead
     rw [show ((begin.length : Int)).toNat = begin.length from by omega] at hx
     have hmx := Kd.C_max (HBG.out _ HLP.out.keep HLP.out.below)
     generalize rd pch (begin.length : Int) = want at H hx
     by_cases c3 : 0 ≤ want ∧ want ≠ n
     ·rw [if_pos c3] at H
      have H9 := Aside0.mk H
      have d0 : decide (0 ≤ want) = true := decide_eq_true c3.1
      have d1 : (want != n) = true := bne_iff_ne.mpr c3.2
      have d2 : (want == n) = false := beq_eq_false_iff_ne.mpr c3.2
      clear H c3
      go_wp2_with (fail)
      go_roundg k1
      case measure => have := HK1.out; omega
      case rel => exact ⟨n + 1, o, vq, rfl, ⟨by omega, by omega⟩, H9, ⟨by have := HK1.out; omega⟩, HLP⟩
     ·rw [if_neg c3] at H
      have hw : (decide (0 ≤ want) = false ∧ (0 : Nat) = 0) ∨ (decide (0 ≤ want) = true ∧ (want == n) = true) := by
       by_cases h0 : 0 ≤ want
       ·exact .inr ⟨decide_eq_true h0, beq_iff_eq.mpr (Classical.byContradiction fun h => c3 ⟨h0, h⟩)⟩
       ·exact .inl ⟨decide_eq_false h0, rfl⟩
      clear c3
      by_cases c4 : begin.length = 0
      ·rw [if_pos c4] at H
       obtain ⟨t, A1, H⟩ := Option.bind_eq_some_iff.mp H
       have f0 : ((begin.length : Int) == 0) = true := beq_iff_eq.mpr (by omega)
       have f1 : (begin.length == 0) = true := beq_iff_eq.mpr c4
       have f2 : decide (begin.length = 0) = true := decide_eq_true c4
       have hx0 : wr.cell? ad = some (.int .i64 want) := by rw [c4, spec_pzLook.add_zero] at hx; exact hx
       have HC4 := Lib.hid c4
       clear c4
       have htim := fun (W2 : World) (hk : KeepT 38 24 W W2) (hw : Below w.heap.size w W2) => spec_tiTimes.calls k Al cl hand n t W2 (HHD.out W2 hk hw) HCL.out A1
       clear A1
       by_cases c5 : t > 0
       ·rw [if_pos c5] at H
        obtain ⟨ro, A2, H⟩ := Option.bind_eq_some_iff.mp H
        have H9 := Aside0.mk H
        have HA2 := Aside0.mk A2
        have g0 : decide (0 < t) = true := decide_eq_true c5
        clear H A2
        rcases hw with ⟨hw, _⟩ | ⟨hw, hw1⟩
        all_goals
         go_wp2_with (first
          | (go_at_call 108; refine (htim _ HLP.out.keep HLP.out.below).mono ?_; rintro e w2 ⟨rfl, hb2⟩; have HL2 := Lib.hid (HLP.out.step hb2); clear hb2; have hp2 : w2.cell? ⟨Bp, 0, none⟩ = some (.slice Ah lh ch) := HL2.out.p0; have hp3 : w2.cell? ⟨Bp, 1, none⟩ = some (.slice (some ad) pch.length cc) := HL2.out.p1)
          | ((with_reducible refine gate_dst (N := 57) rfl ?_); refine Kd.R_lit (Kd.int .i64) (w0 := w2) w2.heap.size 3 ?hg (N := 57) ?hd (xs := [n]) (inner := [.int .i64 n]) (ok := fun _ => True) (okp := fun _ => True) ?hr ?hp (fun _ hk => hk) trivial (Below.refl _ _) (Nat.le_refl _) (by simp) ?_; (case hd => rfl); (case hg => rfl); (case hr => first | (go_simp; done) | (go_simp; rfl)); (case hp => exact Kd.reps_scalar (enc := Value.int .i64) [n]); intro v57 w3 ho hb _ _; obtain ⟨A57, c57, rfl⟩ := Kd.R_slice ho; have HL3 := Lib.hid (HL2.out.step hb); have H57 := Lib.hid ho; clear ho hb; have HSAY := Lib.hid (HREC.out [n] A57 c57 hand Al cl o vq w3 ro HL3.out.below HL3.out.cell HL3.out.rows (fun W' hk _ => (Kd.R_reads' (hk.row H57.out (by decide))).2.2) (Kd.R_reads' H57.out).2.1 (fun W' hk hw => HHD.out W' (HL3.out.keep.trans hk) hw) HCL.out HA2.out))
          | (go_at_call 89; refine HSAY.out.mono ?_; rintro e w4 ⟨rfl, vr, hO', hS', hB', hK'⟩; have HL4 := Lib.hid (HL3.out.rec_ hB' hK' hO' hS'); clear hO' hS' hB' hK'))
         go_roundg k1
         case measure => have := HK1.out; omega
         case rel => exact ⟨n + 1, ro, vr, rfl, ⟨by omega, by omega⟩, H9, ⟨by have := HK1.out; omega⟩, HL4⟩
       ·rw [if_neg c5] at H
        have H9 := Aside0.mk H
        have g0 : decide (0 < t) = false := decide_eq_false c5
        clear H
        rcases hw with ⟨hw, _⟩ | ⟨hw, hw1⟩
        all_goals
         go_wp2_with (go_at_call 108; refine (htim _ HLP.out.keep HLP.out.below).mono ?_; rintro e w2 ⟨rfl, hb2⟩; have HL2 := Lib.hid (HLP.out.step hb2); clear hb2)
         go_roundg k1
         case measure => have := HK1.out; omega
         case rel => exact ⟨n + 1, o, vq, rfl, ⟨by omega, by omega⟩, H9, ⟨by have := HK1.out; omega⟩, HL2⟩
      ·rw [if_neg c4] at H
       obtain ⟨⟨t0, t1⟩, A1, H⟩ := Option.bind_eq_some_iff.mp H
       obtain ⟨q, A2, H⟩ := Option.bind_eq_some_iff.mp H
       have f0 : ((begin.length : Int) == 0) = false := beq_eq_false_iff_ne.mpr (by omega)
       have f1 : (begin.length == 0) = false := beq_eq_false_iff_ne.mpr c4
       have f2 : decide (begin.length = 0) = false := decide_eq_false c4
       have hi2 : 0 ≤ (begin.length : Int) - 1 := by omega
       have hi3 : (begin.length : Int) - 1 < (begin.length : Int) := by omega
       have hupel := Tryz.underlying67
       obtain ⟨ae, eae, hy⟩ := Kd.at_int (HBG.out _ HLP.out.keep HLP.out.below) ((begin.length : Int) - 1) hi2 hi3
       subst eae
       rw [show ((begin.length : Int) - 1).toNat = begin.length - 1 from by omega] at hy
       have hof := fun (W2 : World) => spec_tiOf.calls (rd begin ((begin.length : Int) - 1)) n t0 t1 W2 A1
       have hpl := fun (W2 : World) (hk : KeepT 38 24 W W2) (hw : Below w.heap.size w W2) => spec_tiPlace.calls k Al cl hand t0 t1 q W2 (HHD.out W2 hk hw) HCL.out A2
       clear A1 A2
       by_cases c5 : q ≥ 0
       ·rw [if_pos c5] at H
        have g0 : decide (0 ≤ q) = true := decide_eq_true c5
        obtain ⟨b2, A4, H⟩ := Option.bind_eq_some_iff.mp H
        by_cases c6 : b2.length < 17592186044415
        ·rw [if_pos c6] at H
         obtain ⟨h2, A5, H⟩ := Option.bind_eq_some_iff.mp H
         obtain ⟨ro, A6, H⟩ := Option.bind_eq_some_iff.mp H
         have H9 := Aside0.mk H
         have HOWN := Aside0.mk A4
         have HA5 := Aside0.mk A5
         have HA6 := Aside0.mk A6
         have HLIM := Lib.hid c6
         clear H A4 A5 A6 c6
         rcases hw with ⟨hw, _⟩ | ⟨hw, hw1⟩
         all_goals
          go_wp2_with (first
           | (go_at_call 73; refine (hof _).mono ?_; rintro e w2 ⟨rfl, hb2⟩; have HL2 := Lib.hid (HLP.out.step hb2); clear hb2)
           | ((with_reducible refine gate_dst (N := 10) rfl ?_); refine box_event ?hg (N := 10) ?hd (cs := #[.int .i64 0, .int .i64 0]) (t := 67) ?hr ?_; (case hd => rfl); (case hg => rfl); (case hr => first | (go_simp; done) | (go_simp; rfl)); intro Bt hg w3 hbt hb; have hcz0 : w3.cell? ⟨Bt, 0, none⟩ = some (.int .i64 0) := (blk_cell hbt 0).trans rfl; have hcz1 : w3.cell? ⟨Bt, 1, none⟩ = some (.int .i64 0) := (blk_cell hbt 1).trans rfl; have hfz0 := blk_frozen hbt 0; have hfz1 := blk_frozen hbt 1; have hbox := spec_pzLook.box (t0 := t0) (t1 := t1) hg hbt hb; have HL3 := Lib.hid (HL2.out.step hbox.1); have HBT := Lib.hid hbox.2; clear hbox hg hbt hb)
           | (go_at_call 102; refine (hpl _ HL3.out.keep HL3.out.below).mono ?_; rintro e w4 ⟨rfl, hb4⟩; have HL4 := Lib.hid (HL3.out.step hb4); have HBT4 := Lib.hid (blk_below HBT.out hb4); clear hb4))
          have HLQ := Lib.hid (HL4.out.step (below_drew1 (Below.refl _ _)))
          have HBTQ := Lib.hid (blk_drew HBT4.out)
          refine start_ (n := 12) (S := fun w' => w'.cell? ⟨Bp, 0, none⟩ = some (.slice Ah lh ch) ∧ w'.cell? ⟨Bp, 1, none⟩ = some (.slice (some ad) pch.length cc) ∧ w'.cell? ⟨Bt, 0, none⟩ = some (.int .i64 t0) ∧ w'.cell? ⟨Bt, 1, none⟩ = some (.int .i64 t1)) (ds := [11]) #[false, false, false, false, false, false, false, false, false, false, false, false] (by kernel_rfl) rfl rfl ⟨HLQ.out.p0, HLQ.out.p1, (blk_cell HBTQ.out 0).trans rfl, (blk_cell HBTQ.out 1).trans rfl⟩ (fun hHeld => ?_)
          generalize w4.drew = wq at HLQ HBTQ hHeld ⊢
          have HSQ := Lib.hid (show ∀ w', Below wq.heap.size wq w' → w'.cell? ⟨Bp, 0, none⟩ = some (.slice Ah lh ch) ∧ w'.cell? ⟨Bp, 1, none⟩ = some (.slice (some ad) pch.length cc) ∧ w'.cell? ⟨Bt, 0, none⟩ = some (.int .i64 t0) ∧ w'.cell? ⟨Bt, 1, none⟩ = some (.int .i64 t1) from fun w' hb => ⟨(HLQ.out.step hb).p0, (HLQ.out.step hb).p1, (blk_cell (blk_below HBTQ.out hb) 0).trans rfl, (blk_cell (blk_below HBTQ.out hb) 1).trans rfl⟩)
          have HQ := Lib.hid (Below.refl wq.heap.size wq)
          clear HL2 HL3 HL4 HBT HBT4 hcz0 hcz1 hfz0 hfz1 hof hpl hx hy hp0 hp1
          refine take_ (i := 0) (N := (some 73)) (v := ?_) (a' := ?_) #[true, false, false, false, false, false, false, false, false, false, false, false] rfl rfl (by kernel_rfl) (fun _ _ _ h => h) (Or.inl ⟨by rfl, ?_⟩) hHeld ?_ ?_
          rotate_left
          ·rintro w' ⟨s0, s1, s2, s3⟩
           go_simp
           with_reducible rfl
          rotate_left
          ·simp only [Act.put, List.setIfInBounds_toArray, List.set_cons_zero, List.set_cons_succ, i64_w, i32_w]
           rfl
          refine pure_ (i := 1) (N := (some 74)) (v := ?_) (a' := ?_) #[true, true, false, false, false, false, false, false, false, false, false, false] rfl rfl (by kernel_rfl) (fun _ _ _ h => h) (Or.inl ⟨by rfl, ?_⟩) ?_ ?_
          rotate_left
          ·intro w'
           go_simp
           with_reducible rfl
          rotate_left
          ·simp only [Act.put, List.setIfInBounds_toArray, List.set_cons_zero, List.set_cons_succ, i64_w, i32_w]
           rfl
          refine pure_ (i := 3) (N := (some 76)) (v := ?_) (a' := ?_) #[true, true, false, true, false, false, false, false, false, false, false, false] rfl rfl (by kernel_rfl) (fun _ _ _ h => h) (Or.inl ⟨by rfl, ?_⟩) ?_ ?_
          rotate_left
          ·intro w'
           go_simp
           with_reducible rfl
          rotate_left
          ·simp only [Act.put, List.setIfInBounds_toArray, List.set_cons_zero, List.set_cons_succ, i64_w, i32_w]
           rfl
          refine pure_ (i := 6) (N := (some 79)) (v := ?_) (a' := ?_) #[true, true, false, true, false, false, true, false, false, false, false, false] rfl rfl (by kernel_rfl) (fun _ _ _ h => h) (Or.inl ⟨by rfl, ?_⟩) ?_ ?_
          rotate_left
          ·intro w'
           go_simp
           with_reducible rfl
          rotate_left
          ·simp only [Act.put, List.setIfInBounds_toArray, List.set_cons_zero, List.set_cons_succ, i64_w, i32_w]
           rfl
          refine take_ (i := 7) (N := (some 80)) (v := ?_) (a' := ?_) #[true, true, false, true, false, false, true, true, false, false, false, false] rfl rfl (by kernel_rfl) (fun _ _ _ h => h) (Or.inl ⟨by rfl, ?_⟩) hHeld ?_ ?_
          rotate_left
          ·rintro w' ⟨s0, s1, s2, s3⟩
           go_simp
           with_reducible rfl
          rotate_left
          ·simp only [Act.put, List.setIfInBounds_toArray, List.set_cons_zero, List.set_cons_succ, i64_w, i32_w]
           rfl
          refine pure_ (i := 10) (N := (some 83)) (v := ?_) (a' := ?_) #[true, true, false, true, false, false, true, true, false, false, true, false] rfl rfl (by kernel_rfl) (fun _ _ _ h => h) (Or.inl ⟨by rfl, ?_⟩) ?_ ?_
          rotate_left
          ·intro w'
           go_simp
           with_reducible rfl
          rotate_left
          ·simp only [Act.put, List.setIfInBounds_toArray, List.set_cons_zero, List.set_cons_succ, i64_w, i32_w]
           rfl
          refine join_ (σ := Value × Value × Value × Value) 2 #[true, true, true, true, true, true, true, true, true, false, true, false] (fun s_ => [(75, s_.1), (77, s_.2.1), (78, s_.2.2.1), (81, s_.2.2.2)]) (fun s_ w' => Below wq.heap.size wq w' ∧ Kd.R (Kd.int .i64) 3 w' wq.heap.size (fun _ => True) s_.2.2.1 (b2 ++ [n]) ∧ Kd.R k67 67 w' wq.heap.size (fun _ => True) s_.2.2.2 [(⟨t0, t1⟩ : S67)]) ?_ ?_
          rotate_left
          ·intro hJ2_4_5_8
           refine join_ (σ := Value × Value × Value) 3 #[true, true, true, true, true, true, true, true, false, false, true, false] (fun s_ => [(75, s_.1), (77, s_.2.1), (78, s_.2.2)]) (fun s_ w' => Below wq.heap.size wq w' ∧ Kd.R (Kd.int .i64) 3 w' wq.heap.size (fun _ => True) s_.2.2 (b2 ++ [n])) ?_ ?_
           ·clear HQ hHeld
            rintro ⟨v75, v77, v78⟩ w_ ⟨hq, h78⟩
            refine norm_ (a' := ?_) ?_ ?_
            rotate_left
            ·simp only [putAll, Act.put, List.setIfInBounds_toArray, List.set_cons_zero, List.set_cons_succ]
             rfl
            have HQ := Lib.hid hq
            have H78 := Lib.hid h78
            clear hq h78
            refine one_ (i := 8) (N := some 81) #[true, true, true, true, true, true, true, true, true, false, true, false] rfl rfl (by kernel_rfl) (by decide) (fun K hK => ?_)
            refine Kd.R_lit_step k67 wq.heap.size 67 ?hg (N := 81) ?hd (xs := [(⟨t0, t1⟩ : S67)]) (inner := [.int .i64 t0, .int .i64 t1]) (ok := fun _ => True) (okp := fun _ => True) ?hr ?hp (fun _ hk => hk) trivial HQ.out HQ.out.size (by simp) ?_; (case hd => rfl); (case hg => rfl); (case hr => first | (go_simp; done) | (go_simp; rfl)); (case hp => exact spec_pzLook.one_tile _ _ _ t0 t1)
            intro v81 w_ ho hb hg hnew
            have H78 := Lib.hid (Kd.R_grown H78.out hg (fun _ _ => by simp))
            have H81 := Lib.hid ho
            have HQ := Lib.hid hb
            clear ho hb hg hnew
            refine hK.out _ _ (HSQ.out _ HQ.out) (fun hHeld => ?_)
            clear hK K
            refine norm_ (a' := ?_) ?_ ?_
            rotate_left
            ·show Act.put _ (some 81) _ = _
             simp only [Act.put, List.setIfInBounds_toArray, List.set_cons_zero, List.set_cons_succ, i64_w, i32_w]
             rfl
            exact norm_ (by simp only [putAll, Act.put, List.setIfInBounds_toArray, List.set_cons_zero, List.set_cons_succ] <;> rfl) (hJ2_4_5_8 (v75, v77, v78, v81) _ ⟨HQ.out, H78.out, H81.out⟩)
           intro hJ2_4_5
           refine join_ (σ := Value × Value × Value) 3 #[true, true, true, true, true, false, true, true, true, false, true, false] (fun s_ => [(75, s_.1), (77, s_.2.1), (81, s_.2.2)]) (fun s_ w' => Below wq.heap.size wq w' ∧ Kd.R (Kd.int .i64) 3 w' wq.heap.size (fun _ => True) s_.1 b2 ∧ Kd.R (Kd.int .i64) 3 w' wq.heap.size (fun _ => True) s_.2.1 [n] ∧ Kd.R k67 67 w' wq.heap.size (fun _ => True) s_.2.2 [(⟨t0, t1⟩ : S67)]) ?_ ?_
           ·clear HQ hHeld
            rintro ⟨v75, v77, v81⟩ w_ ⟨hq, h75, h77, h81⟩
            refine norm_ (a' := ?_) ?_ ?_
            rotate_left
            ·simp only [putAll, Act.put, List.setIfInBounds_toArray, List.set_cons_zero, List.set_cons_succ]
             rfl
            have HQ := Lib.hid hq
            have H75 := Lib.hid h75
            have H77 := Lib.hid h77
            have H81 := Lib.hid h81
            clear hq h75 h77 h81
            obtain ⟨A77, c77, rfl⟩ := Kd.R_slice H77.out
            refine one_ (i := 5) (N := some 78) #[true, true, true, true, true, true, true, true, true, false, true, false] rfl rfl (by kernel_rfl) (by decide) (fun K hK => ?_)
            refine Kd.R_append_rows_step (Kd.int .i64) (w0 := wq) wq.heap.size (by rfl) (.tmp 75) (.tmp 77) 24 3 (.int .i64 0) 8 rfl Tryz.underlying24 info3 rfl (by decide) (by omega) v75 b2 [n] A77 1 c77 (fun _ => True) (fun _ => False) rfl rfl ?aO ?aR (fun _ _ h => h) (fun _ h => h.elim) ?aF ?aB ?aS ?aL ?_
            (case aO => exact H75.out)
            (case aR => exact (Kd.R_reads' H77.out).2.2)
            (case aF => exact (fun _ _ => trivial))
            (case aB => exact HQ.out)
            (case aS => exact HQ.out.size)
            (case aL => have := HLIM.out; omega)
            intro v78 w_ ho hb hg hat
            have H78 := Lib.hid ho
            have HQ := Lib.hid hb
            have H81 := Lib.hid ((KeepT.row_of (ta := 3) (tb := 3) H75.out hg (.inl rfl)).row H81.out (by decide))
            clear ho hb hg hat
            refine hK.out _ _ (HSQ.out _ HQ.out) (fun hHeld => ?_)
            clear hK K
            refine norm_ (a' := ?_) ?_ ?_
            rotate_left
            ·show Act.put _ (some 78) _ = _
             simp only [Act.put, List.setIfInBounds_toArray, List.set_cons_zero, List.set_cons_succ, i64_w, i32_w]
             rfl
            exact norm_ (by simp only [putAll, Act.put, List.setIfInBounds_toArray, List.set_cons_zero, List.set_cons_succ] <;> rfl) (hJ2_4_5_8 (v75, .slice A77 1 c77, v78, v81) _ ⟨HQ.out, H78.out, H81.out⟩)
           intro hJ2_4_8
           refine join_ (σ := Value × Value) 4 #[true, true, true, true, true, false, true, true, false, false, true, false] (fun s_ => [(75, s_.1), (77, s_.2)]) (fun s_ w' => Below wq.heap.size wq w' ∧ Kd.R (Kd.int .i64) 3 w' wq.heap.size (fun _ => True) s_.1 b2 ∧ Kd.R (Kd.int .i64) 3 w' wq.heap.size (fun _ => True) s_.2 [n]) ?_ ?_
           ·clear HQ hHeld
            rintro ⟨v75, v77⟩ w_ ⟨hq, h75, h77⟩
            refine norm_ (a' := ?_) ?_ ?_
            rotate_left
            ·simp only [putAll, Act.put, List.setIfInBounds_toArray, List.set_cons_zero, List.set_cons_succ]
             rfl
            have HQ := Lib.hid hq
            have H75 := Lib.hid h75
            have H77 := Lib.hid h77
            clear hq h75 h77
            obtain ⟨A77, c77, rfl⟩ := Kd.R_slice H77.out
            refine two_ (i := 5) (j := 8) (Ni := some 78) (Nj := some 81) #[true, true, true, true, true, true, true, true, false, false, true, false] #[true, true, true, true, true, false, true, true, true, false, true, false] rfl rfl rfl rfl (by kernel_rfl) (by decide) (by decide) (fun K hK => ?_) (fun K hK => ?_)
            ·skip
             refine Kd.R_append_rows_step (Kd.int .i64) (w0 := wq) wq.heap.size (by rfl) (.tmp 75) (.tmp 77) 24 3 (.int .i64 0) 8 rfl Tryz.underlying24 info3 rfl (by decide) (by omega) v75 b2 [n] A77 1 c77 (fun _ => True) (fun _ => False) rfl rfl ?aO ?aR (fun _ _ h => h) (fun _ h => h.elim) ?aF ?aB ?aS ?aL ?_
             (case aO => exact H75.out)
             (case aR => exact (Kd.R_reads' H77.out).2.2)
             (case aF => exact (fun _ _ => trivial))
             (case aB => exact HQ.out)
             (case aS => exact HQ.out.size)
             (case aL => have := HLIM.out; omega)
             intro v78 w_ ho hb hg hat
             have H78 := Lib.hid ho
             have HQ := Lib.hid hb
             clear ho hb hg hat
             refine hK.out _ _ (HSQ.out _ HQ.out) (fun hHeld => ?_)
             clear hK K
             refine norm_ (a' := ?_) ?_ ?_
             rotate_left
             ·show Act.put _ (some 78) _ = _
              simp only [Act.put, List.setIfInBounds_toArray, List.set_cons_zero, List.set_cons_succ, i64_w, i32_w]
              rfl
             exact norm_ (by simp only [putAll, Act.put, List.setIfInBounds_toArray, List.set_cons_zero, List.set_cons_succ] <;> rfl) (hJ2_4_5 (v75, .slice A77 1 c77, v78) _ ⟨HQ.out, H78.out⟩)
            ·skip
             refine Kd.R_lit_step k67 wq.heap.size 67 ?hg (N := 81) ?hd (xs := [(⟨t0, t1⟩ : S67)]) (inner := [.int .i64 t0, .int .i64 t1]) (ok := fun _ => True) (okp := fun _ => True) ?hr ?hp (fun _ hk => hk) trivial HQ.out HQ.out.size (by simp) ?_; (case hd => rfl); (case hg => rfl); (case hr => first | (go_simp; done) | (go_simp; rfl)); (case hp => exact spec_pzLook.one_tile _ _ _ t0 t1)
             intro v81 w_ ho hb hg hnew
             have H75 := Lib.hid (Kd.R_grown H75.out hg (fun _ _ => by simp))
             have H77 := Lib.hid (Kd.R_grown H77.out hg (fun _ _ => by simp))
             have H81 := Lib.hid ho
             have HQ := Lib.hid hb
             clear ho hb hg hnew
             refine hK.out _ _ (HSQ.out _ HQ.out) (fun hHeld => ?_)
             clear hK K
             refine norm_ (a' := ?_) ?_ ?_
             rotate_left
             ·show Act.put _ (some 81) _ = _
              simp only [Act.put, List.setIfInBounds_toArray, List.set_cons_zero, List.set_cons_succ, i64_w, i32_w]
              rfl
             exact norm_ (by simp only [putAll, Act.put, List.setIfInBounds_toArray, List.set_cons_zero, List.set_cons_succ] <;> rfl) (hJ2_4_8 (v75, .slice A77 1 c77, v81) _ ⟨HQ.out, H75.out, H77.out, H81.out⟩)
           intro hJ2_4
           refine join_ (σ := Value × Value) 4 #[true, true, true, true, false, false, true, true, true, false, true, false] (fun s_ => [(75, s_.1), (81, s_.2)]) (fun s_ w' => Below wq.heap.size wq w' ∧ Kd.R (Kd.int .i64) 3 w' wq.heap.size (fun _ => True) s_.1 b2 ∧ Kd.R k67 67 w' wq.heap.size (fun _ => True) s_.2 [(⟨t0, t1⟩ : S67)]) ?_ ?_
           ·clear HQ hHeld
            rintro ⟨v75, v81⟩ w_ ⟨hq, h75, h81⟩
            refine norm_ (a' := ?_) ?_ ?_
            rotate_left
            ·simp only [putAll, Act.put, List.setIfInBounds_toArray, List.set_cons_zero, List.set_cons_succ]
             rfl
            have HQ := Lib.hid hq
            have H75 := Lib.hid h75
            have H81 := Lib.hid h81
            clear hq h75 h81
            refine one_ (i := 4) (N := some 77) #[true, true, true, true, true, false, true, true, true, false, true, false] rfl rfl (by kernel_rfl) (by decide) (fun K hK => ?_)
            refine Kd.R_lit_step (Kd.int .i64) wq.heap.size 3 ?hg (N := 77) ?hd (xs := [n]) (inner := [.int .i64 n]) (ok := fun _ => True) (okp := fun _ => True) ?hr ?hp (fun _ hk => hk) trivial HQ.out HQ.out.size (by simp) ?_; (case hd => rfl); (case hg => rfl); (case hr => first | (go_simp; done) | (go_simp; rfl)); (case hp => exact Kd.reps_scalar (enc := Value.int .i64) [n])
            intro v77 w_ ho hb hg hnew
            have H75 := Lib.hid (Kd.R_grown H75.out hg (fun _ _ => by simp))
            have H81 := Lib.hid (Kd.R_grown H81.out hg (fun _ _ => by simp))
            have H77 := Lib.hid ho
            have HQ := Lib.hid hb
            clear ho hb hg hnew
            refine hK.out _ _ (HSQ.out _ HQ.out) (fun hHeld => ?_)
            clear hK K
            refine norm_ (a' := ?_) ?_ ?_
            rotate_left
            ·show Act.put _ (some 77) _ = _
             simp only [Act.put, List.setIfInBounds_toArray, List.set_cons_zero, List.set_cons_succ, i64_w, i32_w]
             rfl
            exact norm_ (by simp only [putAll, Act.put, List.setIfInBounds_toArray, List.set_cons_zero, List.set_cons_succ] <;> rfl) (hJ2_4_8 (v75, v77, v81) _ ⟨HQ.out, H75.out, H77.out, H81.out⟩)
           intro hJ2_8
           refine join_ (σ := Value × Value) 4 #[true, true, false, true, true, false, true, true, true, false, true, false] (fun s_ => [(77, s_.1), (81, s_.2)]) (fun s_ w' => Below wq.heap.size wq w' ∧ Kd.R (Kd.int .i64) 3 w' wq.heap.size (fun _ => True) s_.1 [n] ∧ Kd.R k67 67 w' wq.heap.size (fun _ => True) s_.2 [(⟨t0, t1⟩ : S67)]) ?_ ?_
           ·clear HQ hHeld
            rintro ⟨v77, v81⟩ w_ ⟨hq, h77, h81⟩
            refine norm_ (a' := ?_) ?_ ?_
            rotate_left
            ·simp only [putAll, Act.put, List.setIfInBounds_toArray, List.set_cons_zero, List.set_cons_succ]
             rfl
            have HQ := Lib.hid hq
            have H77 := Lib.hid h77
            have H81 := Lib.hid h81
            clear hq h77 h81
            refine one_ (i := 2) (N := some 75) #[true, true, true, true, true, false, true, true, true, false, true, false] rfl rfl (by kernel_rfl) (by decide) (fun K hK => ?_)
            refine goes_ Tryz.func57 (by kernel_rfl) rfl #[.slice (some ae) begin.length cb] (by rfl) rfl rfl (by (try simp only [List.map_toArray, List.map_cons, List.map_nil]); first | done | rfl) ?_
            with_reducible refine (spec_l1Own.calls (some ae) cb begin b2 _ (HBG.out _ (HLQ.out.step HQ.out).keep (HLQ.out.step HQ.out).below) HCB.out HOWN.out).mono ?_
            rintro e w_ ⟨v75, rfl, ho, hb⟩
            refine ⟨_, rfl, ?_⟩
            have H75 := Lib.hid (Kd.R_lower ho HQ.out.size)
            have H77 := Lib.hid (Kd.R_below H77.out hb)
            have H81 := Lib.hid (Kd.R_below H81.out hb)
            have HQ := Lib.hid (below_step HQ.out hb)
            clear ho hb
            refine hK.out _ _ (HSQ.out _ HQ.out) (fun hHeld => ?_)
            clear hK K
            refine norm_ (a' := ?_) ?_ ?_
            rotate_left
            ·show Act.put _ (some 75) _ = _
             simp only [Act.put, List.setIfInBounds_toArray, List.set_cons_zero, List.set_cons_succ, i64_w, i32_w]
             rfl
            exact norm_ (by simp only [putAll, Act.put, List.setIfInBounds_toArray, List.set_cons_zero, List.set_cons_succ] <;> rfl) (hJ2_4_8 (v75, v77, v81) _ ⟨HQ.out, H75.out, H77.out, H81.out⟩)
           intro hJ4_8
           refine join_ (σ := Value) 5 #[true, true, true, true, false, false, true, true, false, false, true, false] (fun s_ => [(75, s_)]) (fun s_ w' => Below wq.heap.size wq w' ∧ Kd.R (Kd.int .i64) 3 w' wq.heap.size (fun _ => True) s_ b2) ?_ ?_
           ·clear HQ hHeld
            rintro v75 w_ ⟨hq, h75⟩
            refine norm_ (a' := ?_) ?_ ?_
            rotate_left
            ·simp only [putAll, Act.put, List.setIfInBounds_toArray, List.set_cons_zero, List.set_cons_succ]
             rfl
            have HQ := Lib.hid hq
            have H75 := Lib.hid h75
            clear hq h75
            refine two_ (i := 4) (j := 8) (Ni := some 77) (Nj := some 81) #[true, true, true, true, true, false, true, true, false, false, true, false] #[true, true, true, true, false, false, true, true, true, false, true, false] rfl rfl rfl rfl (by kernel_rfl) (by decide) (by decide) (fun K hK => ?_) (fun K hK => ?_)
            ·skip
             refine Kd.R_lit_step (Kd.int .i64) wq.heap.size 3 ?hg (N := 77) ?hd (xs := [n]) (inner := [.int .i64 n]) (ok := fun _ => True) (okp := fun _ => True) ?hr ?hp (fun _ hk => hk) trivial HQ.out HQ.out.size (by simp) ?_; (case hd => rfl); (case hg => rfl); (case hr => first | (go_simp; done) | (go_simp; rfl)); (case hp => exact Kd.reps_scalar (enc := Value.int .i64) [n])
             intro v77 w_ ho hb hg hnew
             have H75 := Lib.hid (Kd.R_grown H75.out hg (fun _ _ => by simp))
             have H77 := Lib.hid ho
             have HQ := Lib.hid hb
             clear ho hb hg hnew
             refine hK.out _ _ (HSQ.out _ HQ.out) (fun hHeld => ?_)
             clear hK K
             refine norm_ (a' := ?_) ?_ ?_
             rotate_left
             ·show Act.put _ (some 77) _ = _
              simp only [Act.put, List.setIfInBounds_toArray, List.set_cons_zero, List.set_cons_succ, i64_w, i32_w]
              rfl
             exact norm_ (by simp only [putAll, Act.put, List.setIfInBounds_toArray, List.set_cons_zero, List.set_cons_succ] <;> rfl) (hJ2_4 (v75, v77) _ ⟨HQ.out, H75.out, H77.out⟩)
            ·skip
             refine Kd.R_lit_step k67 wq.heap.size 67 ?hg (N := 81) ?hd (xs := [(⟨t0, t1⟩ : S67)]) (inner := [.int .i64 t0, .int .i64 t1]) (ok := fun _ => True) (okp := fun _ => True) ?hr ?hp (fun _ hk => hk) trivial HQ.out HQ.out.size (by simp) ?_; (case hd => rfl); (case hg => rfl); (case hr => first | (go_simp; done) | (go_simp; rfl)); (case hp => exact spec_pzLook.one_tile _ _ _ t0 t1)
             intro v81 w_ ho hb hg hnew
             have H75 := Lib.hid (Kd.R_grown H75.out hg (fun _ _ => by simp))
             have H81 := Lib.hid ho
             have HQ := Lib.hid hb
             clear ho hb hg hnew
             refine hK.out _ _ (HSQ.out _ HQ.out) (fun hHeld => ?_)
             clear hK K
             refine norm_ (a' := ?_) ?_ ?_
             rotate_left
             ·show Act.put _ (some 81) _ = _
              simp only [Act.put, List.setIfInBounds_toArray, List.set_cons_zero, List.set_cons_succ, i64_w, i32_w]
              rfl
             exact norm_ (by simp only [putAll, Act.put, List.setIfInBounds_toArray, List.set_cons_zero, List.set_cons_succ] <;> rfl) (hJ2_8 (v75, v81) _ ⟨HQ.out, H75.out, H81.out⟩)
           intro hJ2
           refine join_ (σ := Value) 5 #[true, true, false, true, true, false, true, true, false, false, true, false] (fun s_ => [(77, s_)]) (fun s_ w' => Below wq.heap.size wq w' ∧ Kd.R (Kd.int .i64) 3 w' wq.heap.size (fun _ => True) s_ [n]) ?_ ?_
           ·clear HQ hHeld
            rintro v77 w_ ⟨hq, h77⟩
            refine norm_ (a' := ?_) ?_ ?_
            rotate_left
            ·simp only [putAll, Act.put, List.setIfInBounds_toArray, List.set_cons_zero, List.set_cons_succ]
             rfl
            have HQ := Lib.hid hq
            have H77 := Lib.hid h77
            clear hq h77
            refine two_ (i := 2) (j := 8) (Ni := some 75) (Nj := some 81) #[true, true, true, true, true, false, true, true, false, false, true, false] #[true, true, false, true, true, false, true, true, true, false, true, false] rfl rfl rfl rfl (by kernel_rfl) (by decide) (by decide) (fun K hK => ?_) (fun K hK => ?_)
            ·skip
             refine goes_ Tryz.func57 (by kernel_rfl) rfl #[.slice (some ae) begin.length cb] (by rfl) rfl rfl (by (try simp only [List.map_toArray, List.map_cons, List.map_nil]); first | done | rfl) ?_
             with_reducible refine (spec_l1Own.calls (some ae) cb begin b2 _ (HBG.out _ (HLQ.out.step HQ.out).keep (HLQ.out.step HQ.out).below) HCB.out HOWN.out).mono ?_
             rintro e w_ ⟨v75, rfl, ho, hb⟩
             refine ⟨_, rfl, ?_⟩
             have H75 := Lib.hid (Kd.R_lower ho HQ.out.size)
             have H77 := Lib.hid (Kd.R_below H77.out hb)
             have HQ := Lib.hid (below_step HQ.out hb)
             clear ho hb
             refine hK.out _ _ (HSQ.out _ HQ.out) (fun hHeld => ?_)
             clear hK K
             refine norm_ (a' := ?_) ?_ ?_
             rotate_left
             ·show Act.put _ (some 75) _ = _
              simp only [Act.put, List.setIfInBounds_toArray, List.set_cons_zero, List.set_cons_succ, i64_w, i32_w]
              rfl
             exact norm_ (by simp only [putAll, Act.put, List.setIfInBounds_toArray, List.set_cons_zero, List.set_cons_succ] <;> rfl) (hJ2_4 (v75, v77) _ ⟨HQ.out, H75.out, H77.out⟩)
            ·skip
             refine Kd.R_lit_step k67 wq.heap.size 67 ?hg (N := 81) ?hd (xs := [(⟨t0, t1⟩ : S67)]) (inner := [.int .i64 t0, .int .i64 t1]) (ok := fun _ => True) (okp := fun _ => True) ?hr ?hp (fun _ hk => hk) trivial HQ.out HQ.out.size (by simp) ?_; (case hd => rfl); (case hg => rfl); (case hr => first | (go_simp; done) | (go_simp; rfl)); (case hp => exact spec_pzLook.one_tile _ _ _ t0 t1)
             intro v81 w_ ho hb hg hnew
             have H77 := Lib.hid (Kd.R_grown H77.out hg (fun _ _ => by simp))
             have H81 := Lib.hid ho
             have HQ := Lib.hid hb
             clear ho hb hg hnew
             refine hK.out _ _ (HSQ.out _ HQ.out) (fun hHeld => ?_)
             clear hK K
             refine norm_ (a' := ?_) ?_ ?_
             rotate_left
             ·show Act.put _ (some 81) _ = _
              simp only [Act.put, List.setIfInBounds_toArray, List.set_cons_zero, List.set_cons_succ, i64_w, i32_w]
              rfl
             exact norm_ (by simp only [putAll, Act.put, List.setIfInBounds_toArray, List.set_cons_zero, List.set_cons_succ] <;> rfl) (hJ4_8 (v77, v81) _ ⟨HQ.out, H77.out, H81.out⟩)
           intro hJ4
           refine join_ (σ := Value) 5 #[true, true, false, true, false, false, true, true, true, false, true, false] (fun s_ => [(81, s_)]) (fun s_ w' => Below wq.heap.size wq w' ∧ Kd.R k67 67 w' wq.heap.size (fun _ => True) s_ [(⟨t0, t1⟩ : S67)]) ?_ ?_
           ·clear HQ hHeld
            rintro v81 w_ ⟨hq, h81⟩
            refine norm_ (a' := ?_) ?_ ?_
            rotate_left
            ·simp only [putAll, Act.put, List.setIfInBounds_toArray, List.set_cons_zero, List.set_cons_succ]
             rfl
            have HQ := Lib.hid hq
            have H81 := Lib.hid h81
            clear hq h81
            refine two_ (i := 2) (j := 4) (Ni := some 75) (Nj := some 77) #[true, true, true, true, false, false, true, true, true, false, true, false] #[true, true, false, true, true, false, true, true, true, false, true, false] rfl rfl rfl rfl (by kernel_rfl) (by decide) (by decide) (fun K hK => ?_) (fun K hK => ?_)
            ·skip
             refine goes_ Tryz.func57 (by kernel_rfl) rfl #[.slice (some ae) begin.length cb] (by rfl) rfl rfl (by (try simp only [List.map_toArray, List.map_cons, List.map_nil]); first | done | rfl) ?_
             with_reducible refine (spec_l1Own.calls (some ae) cb begin b2 _ (HBG.out _ (HLQ.out.step HQ.out).keep (HLQ.out.step HQ.out).below) HCB.out HOWN.out).mono ?_
             rintro e w_ ⟨v75, rfl, ho, hb⟩
             refine ⟨_, rfl, ?_⟩
             have H75 := Lib.hid (Kd.R_lower ho HQ.out.size)
             have H81 := Lib.hid (Kd.R_below H81.out hb)
             have HQ := Lib.hid (below_step HQ.out hb)
             clear ho hb
             refine hK.out _ _ (HSQ.out _ HQ.out) (fun hHeld => ?_)
             clear hK K
             refine norm_ (a' := ?_) ?_ ?_
             rotate_left
             ·show Act.put _ (some 75) _ = _
              simp only [Act.put, List.setIfInBounds_toArray, List.set_cons_zero, List.set_cons_succ, i64_w, i32_w]
              rfl
             exact norm_ (by simp only [putAll, Act.put, List.setIfInBounds_toArray, List.set_cons_zero, List.set_cons_succ] <;> rfl) (hJ2_8 (v75, v81) _ ⟨HQ.out, H75.out, H81.out⟩)
            ·skip
             refine Kd.R_lit_step (Kd.int .i64) wq.heap.size 3 ?hg (N := 77) ?hd (xs := [n]) (inner := [.int .i64 n]) (ok := fun _ => True) (okp := fun _ => True) ?hr ?hp (fun _ hk => hk) trivial HQ.out HQ.out.size (by simp) ?_; (case hd => rfl); (case hg => rfl); (case hr => first | (go_simp; done) | (go_simp; rfl)); (case hp => exact Kd.reps_scalar (enc := Value.int .i64) [n])
             intro v77 w_ ho hb hg hnew
             have H81 := Lib.hid (Kd.R_grown H81.out hg (fun _ _ => by simp))
             have H77 := Lib.hid ho
             have HQ := Lib.hid hb
             clear ho hb hg hnew
             refine hK.out _ _ (HSQ.out _ HQ.out) (fun hHeld => ?_)
             clear hK K
             refine norm_ (a' := ?_) ?_ ?_
             rotate_left
             ·show Act.put _ (some 77) _ = _
              simp only [Act.put, List.setIfInBounds_toArray, List.set_cons_zero, List.set_cons_succ, i64_w, i32_w]
              rfl
             exact norm_ (by simp only [putAll, Act.put, List.setIfInBounds_toArray, List.set_cons_zero, List.set_cons_succ] <;> rfl) (hJ4_8 (v77, v81) _ ⟨HQ.out, H77.out, H81.out⟩)
           intro hJ8
           refine three_ (i := 2) (j := 4) (k := 8) (Ni := some 75) (Nj := some 77) (Nk := some 81) #[true, true, true, true, false, false, true, true, false, false, true, false] #[true, true, false, true, true, false, true, true, false, false, true, false] #[true, true, false, true, false, false, true, true, true, false, true, false] rfl rfl rfl rfl rfl rfl (by kernel_rfl) (by decide) (by decide) (by decide) (fun K hK => ?_) (fun K hK => ?_) (fun K hK => ?_)
           ·skip
            refine goes_ Tryz.func57 (by kernel_rfl) rfl #[.slice (some ae) begin.length cb] (by rfl) rfl rfl (by (try simp only [List.map_toArray, List.map_cons, List.map_nil]); first | done | rfl) ?_
            with_reducible refine (spec_l1Own.calls (some ae) cb begin b2 _ (HBG.out _ (HLQ.out.step HQ.out).keep (HLQ.out.step HQ.out).below) HCB.out HOWN.out).mono ?_
            rintro e w_ ⟨v75, rfl, ho, hb⟩
            refine ⟨_, rfl, ?_⟩
            have H75 := Lib.hid (Kd.R_lower ho HQ.out.size)
            have HQ := Lib.hid (below_step HQ.out hb)
            clear ho hb
            refine hK.out _ _ (HSQ.out _ HQ.out) (fun hHeld => ?_)
            clear hK K
            refine norm_ (a' := ?_) ?_ ?_
            rotate_left
            ·show Act.put _ (some 75) _ = _
             simp only [Act.put, List.setIfInBounds_toArray, List.set_cons_zero, List.set_cons_succ, i64_w, i32_w]
             rfl
            exact norm_ (by simp only [putAll, Act.put, List.setIfInBounds_toArray, List.set_cons_zero, List.set_cons_succ] <;> rfl) (hJ2 (v75) _ ⟨HQ.out, H75.out⟩)
           ·skip
            refine Kd.R_lit_step (Kd.int .i64) wq.heap.size 3 ?hg (N := 77) ?hd (xs := [n]) (inner := [.int .i64 n]) (ok := fun _ => True) (okp := fun _ => True) ?hr ?hp (fun _ hk => hk) trivial HQ.out HQ.out.size (by simp) ?_; (case hd => rfl); (case hg => rfl); (case hr => first | (go_simp; done) | (go_simp; rfl)); (case hp => exact Kd.reps_scalar (enc := Value.int .i64) [n])
            intro v77 w_ ho hb hg hnew
            have H77 := Lib.hid ho
            have HQ := Lib.hid hb
            clear ho hb hg hnew
            refine hK.out _ _ (HSQ.out _ HQ.out) (fun hHeld => ?_)
            clear hK K
            refine norm_ (a' := ?_) ?_ ?_
            rotate_left
            ·show Act.put _ (some 77) _ = _
             simp only [Act.put, List.setIfInBounds_toArray, List.set_cons_zero, List.set_cons_succ, i64_w, i32_w]
             rfl
            exact norm_ (by simp only [putAll, Act.put, List.setIfInBounds_toArray, List.set_cons_zero, List.set_cons_succ] <;> rfl) (hJ4 (v77) _ ⟨HQ.out, H77.out⟩)
           ·skip
            refine Kd.R_lit_step k67 wq.heap.size 67 ?hg (N := 81) ?hd (xs := [(⟨t0, t1⟩ : S67)]) (inner := [.int .i64 t0, .int .i64 t1]) (ok := fun _ => True) (okp := fun _ => True) ?hr ?hp (fun _ hk => hk) trivial HQ.out HQ.out.size (by simp) ?_; (case hd => rfl); (case hg => rfl); (case hr => first | (go_simp; done) | (go_simp; rfl)); (case hp => exact spec_pzLook.one_tile _ _ _ t0 t1)
            intro v81 w_ ho hb hg hnew
            have H81 := Lib.hid ho
            have HQ := Lib.hid hb
            clear ho hb hg hnew
            refine hK.out _ _ (HSQ.out _ HQ.out) (fun hHeld => ?_)
            clear hK K
            refine norm_ (a' := ?_) ?_ ?_
            rotate_left
            ·show Act.put _ (some 81) _ = _
             simp only [Act.put, List.setIfInBounds_toArray, List.set_cons_zero, List.set_cons_succ, i64_w, i32_w]
             rfl
            exact norm_ (by simp only [putAll, Act.put, List.setIfInBounds_toArray, List.set_cons_zero, List.set_cons_succ] <;> rfl) (hJ8 (v81) _ ⟨HQ.out, H81.out⟩)
          clear HQ hHeld
          rintro ⟨v75, v77, v78, v81⟩ w_ ⟨hq, h78, h81⟩
          refine norm_ (a' := ?_) ?_ ?_
          rotate_left
          ·simp only [putAll, Act.put, List.setIfInBounds_toArray, List.set_cons_zero, List.set_cons_succ]
           rfl
          have HQ := Lib.hid hq
          have H78 := Lib.hid h78
          have H81 := Lib.hid h81
          clear hq h78 h81
          obtain ⟨A78, c78, rfl⟩ := Kd.R_slice H78.out
          obtain ⟨A81, c81, rfl⟩ := Kd.R_slice H81.out
          have hHeld := HSQ.out _ HQ.out
          refine one_ (i := 9) (N := some 82) #[true, true, true, true, true, true, true, true, true, true, true, false] rfl rfl (by kernel_rfl) (by decide) (fun K hK => ?_)
          refine goes_ Tryz.func109 (by kernel_rfl) rfl #[.slice Al hand.length cl, .slice A81 1 c81, .bool false] (by rfl) rfl rfl (by (try simp only [List.map_toArray, List.map_cons, List.map_nil]); first | done | rfl) ?_
          refine (spec_tiThose.calls k Al cl hand A81 c81 [(⟨t0, t1⟩ : S67)] false h2 _ (HHD.out _ (HLQ.out.step HQ.out).keep (HLQ.out.step HQ.out).below) HCL.out (Kd.R_reads' H81.out).2.2 (Kd.R_reads' H81.out).2.1 HA5.out).mono ?_
          rintro e w9 ⟨v82, rfl, ho, hb⟩
          refine ⟨_, rfl, ?_⟩
          have H82 := Lib.hid (Kd.R_lower ho HQ.out.size)
          have H78 := Lib.hid (Kd.R_below H78.out hb)
          have HQ := Lib.hid (below_step HQ.out hb)
          clear ho hb
          obtain ⟨A82, c82, rfl⟩ := Kd.R_slice H82.out
          refine hK.out _ _ (HSQ.out _ HQ.out) (fun hHeld => ?_)
          clear hK K
          refine norm_ (a' := ?_) ?_ ?_
          rotate_left
          ·show Act.put _ (some 82) _ = _
           simp only [Act.put, List.setIfInBounds_toArray, List.set_cons_zero, List.set_cons_succ, i64_w, i32_w]
           rfl
          have hLP := HLQ.out.step HQ.out
          have HRC := Lib.hid (HREC.out (b2 ++ [n]) A78 c78 h2 A82 c82 o vq w9 ro hLP.below hLP.cell hLP.rows (fun W' hk _ => (Kd.R_reads' (hk.row H78.out (by decide))).2.2) (Kd.R_reads' H78.out).2.1 (fun W' hk _ => (Kd.R_reads' (hk.row H82.out (by decide))).2.2) (Kd.R_reads' H82.out).2.1 HA6.out)
          have HLP9 := Lib.hid hLP
          clear hLP
          refine last_ (i := 11) (N := some 84) #[true, true, true, true, true, true, true, true, true, true, true, true] rfl rfl (by kernel_rfl) (by decide) (fun K hK => ?_)
          refine goes_ Tryz.func89 (by kernel_rfl) rfl #[.agg #[.slice Ah lh ch, .slice (some ad) pch.length cc], .slice A78 (b2 ++ [n]).length c78, .slice A82 h2.length c82, .pointer (some ⟨Bo, 0, none⟩)] (by rfl) rfl rfl (by (try simp only [List.map_toArray, List.map_cons, List.map_nil]); first | done | rfl) ?_
          refine HRC.out.mono ?_
          rintro e w10 ⟨rfl, vr, hO', hS', hB', hK'⟩
          refine ⟨_, rfl, ?_⟩
          have HLR := Lib.hid (HLP9.out.rec_ hB' hK' hO' hS')
          clear hO' hS' hB' hK'
          refine hK.out _ _ ?_
          clear hK K
          refine done_ (by kernel_rfl) ?_
          go_wp2_with (fail)
          go_roundg k1
          case measure => have := HK1.out; omega
          case rel => exact ⟨n + 1, ro, vr, rfl, ⟨by omega, by omega⟩, H9, ⟨by have := HK1.out; omega⟩, HLR⟩
        ·rw [if_neg c6] at H
         cases H
       ·rw [if_neg c5] at H
        have g0 : decide (0 ≤ q) = false := decide_eq_false c5
        have H9 := Aside0.mk H
        clear H
        rcases hw with ⟨hw, _⟩ | ⟨hw, hw1⟩
        all_goals
         go_wp2_with (first
          | (go_at_call 73; refine (hof _).mono ?_; rintro e w2 ⟨rfl, hb2⟩; have HL2 := Lib.hid (HLP.out.step hb2); clear hb2)
          | ((with_reducible refine gate_dst (N := 10) rfl ?_); refine box_event ?hg (N := 10) ?hd (cs := #[.int .i64 0, .int .i64 0]) (t := 67) ?hr ?_; (case hd => rfl); (case hg => rfl); (case hr => first | (go_simp; done) | (go_simp; rfl)); intro Bt hg w3 hbt hb; have hcz0 : w3.cell? ⟨Bt, 0, none⟩ = some (.int .i64 0) := (blk_cell hbt 0).trans rfl; have hcz1 : w3.cell? ⟨Bt, 1, none⟩ = some (.int .i64 0) := (blk_cell hbt 1).trans rfl; have hfz0 := blk_frozen hbt 0; have hfz1 := blk_frozen hbt 1; have hbox := spec_pzLook.box (t0 := t0) (t1 := t1) hg hbt hb; have HL3 := Lib.hid (HL2.out.step hbox.1); have HBT := Lib.hid hbox.2; clear hbox hg hbt hb)
          | (go_at_call 102; refine (hpl _ HL3.out.keep HL3.out.below).mono ?_; rintro e w4 ⟨rfl, hb4⟩; have HL4 := Lib.hid (HL3.out.step hb4); have HBT4 := Lib.hid (blk_below HBT.out hb4); clear hb4))
         go_roundg k1
         case measure => have := HK1.out; omega
         case rel => exact ⟨n + 1, o, vq, rfl, ⟨by omega, by omega⟩, H9, ⟨by have := HK1.out; omega⟩, HL4⟩
    ·rw [if_neg c2] at H
     cases H
   ·rw [if_neg c1] at H
    have c1b : decide (n ≤ 9) = false := decide_eq_false c1
    simp only [Option.some.injEq] at H
    subst H
    go_wp2_with (fail)
    go_end0
    exact ⟨rfl, _, HLP.out.cell, HLP.out.rows, HLP.out.below, HLP.out.keep⟩
theorem spec_pzLook.says (w : World) (Bo : Nat) (hbo : w.heap.size ≤ Bo) (Ah : Option Addr) (lh ch : Nat) (Ac : Option Addr) (cc : Nat) (pch : List Int) (hpch : Kd.C (Kd.int .i64) w Ac pch.length pch) : ∀ k, spec_pzLook.Says w Bo Ah lh ch Ac cc pch (fun b h o => spec_pzLook.f k pch b h o) := by
 intro k
 induction k with
 | zero =>
  intro begin Ab cb hand Al cl out vo W out' _ _ _ _ _ _ _ h
  simp [spec_pzLook.f] at h
 | succ k ih =>
  intro begin Ab cb hand Al cl out vo W out' hb hO hS hbg hcb hhd hcl h
  simp only [spec_pzLook.f] at h
  by_cases h0 : out.length > 200
  ·rw [if_pos h0] at h
   obtain rfl := Option.some.inj h
   exact spec_pzLook.full w Bo Ah lh ch Ac cc pch begin Ab cb Al hand.length cl out vo W hb hO hS h0
  ·rw [if_neg h0] at h
   by_cases h1 : begin.length = pch.length
   ·rw [if_pos h1] at h
    obtain ⟨b2, A1, h⟩ := Option.bind_eq_some_iff.mp h
    obtain rfl := Option.some.inj h
    exact spec_pzLook.leaf w Bo hbo Ah lh ch Ac cc pch begin b2 Ab cb Al hand.length cl out vo W hb hO hS hbg hcb h0 h1 A1
   ·rw [if_neg h1] at h
    exact spec_pzLook.node w Bo hbo Ah lh ch Ac cc pch hpch _ ih k begin Ab cb hand Al cl out vo W out' hb hO hS hbg hcb hhd hcl h0 h1 h
end Go.Proofs.YtfkonhamjnembaaGreat.QFnPuzzlesMade
