-- WRITTEN BY A PROGRAM OF THIS CLAIM'S AUTHOR (wprint.py)
import Derived.Test.YtfkonhamjnembaaGreatQFnPuzzlesMadex0
import Derived.Test.YtfkonhamjnembaaGreatQFnPuzzlesMadex2
import Derived.Test.YtfkonhamjnembaaGreatQFnPuzzlesMadex9
import Derived.Test.YtfkonhamjnembaaGreatQFnPuzzlesMadex11
import Derived.Test.YtfkonhamjnembaaGreatQFnPuzzlesMadex12
import Derived.Test.YtfkonhamjnembaaGreatQFnPuzzlesMadex13
namespace Go.Proofs.YtfkonhamjnembaaGreat.QFnPuzzlesMade
open Go.RowKit Go.Proofs.YtfkonhamjnembaaGreatW.PrintWords Go.Proofs.YtfkonhamjnembaaGreatW.PrintLast Go.Proofs.YtfkonhamjnembaaGreatW.PrintMore
attribute [local go_sem] max2_int min2_int max_two min_two max_three min_three max_four min_four   -- for this text's walks alone
set_option linter.unusedVariables false
set_option linter.unusedSimpArgs false

/-! ### spec_pzAll: function 51, by hand -/

def spec_pzAll.f (k : Nat) (hand : List S67) (pch : List Int) : Option (List (List Int) × Bool) := (spec_pzLook.f k pch [] hand []).bind fun o => some (o, decide ((o.length : Int) ≤ 200))
set_option maxHeartbeats 8000000 in
set_option maxRecDepth 1000000 in
theorem spec_pzAll.calls (k : Nat) (A0_0 : Option Addr) (c0_0 : Nat) (l0_0 : List (S67)) (A0_1 : Option Addr) (c0_1 : Nat) (l0_1 : List Int) (r1 : List (List Int)) (r2 : Bool) (w : World) (hr0_0 : Kd.C k67 w A0_0 l0_0.length l0_0) (hc0_0 : l0_0.length ≤ c0_0) (hr0_1 : Kd.C (Kd.int .i64) w A0_1 l0_1.length l0_1) (hc0_1 : l0_1.length ≤ c0_1) (h : spec_pzAll.f k l0_0 l0_1 = some (r1, r2)) :
    Calls Tryz.prog 51 #[.agg #[.slice A0_0 l0_0.length c0_0, .slice A0_1 l0_1.length c0_1]] w fun e w' => ∃ v0_ : Value, e = .returned (.tuple #[v0_, .bool r2]) ∧ Kd.S (Kd.slice 3 (Kd.int .i64)) 24 w' w.heap.size (fun _ => True) v0_ r1 ∧ Below w.heap.size w w' := by
  unfold spec_pzAll.f at h
  obtain ⟨o, A1, h⟩ := Option.bind_eq_some_iff.mp h
  simp only [Option.some.injEq, Prod.mk.injEq] at h
  obtain ⟨rfl, rfl⟩ := h
  have HR0 := Lib.hid hr0_0
  have HC0 := Lib.hid hc0_0
  have HR1 := Lib.hid hr0_1
  have HC1 := Lib.hid hc0_1
  have HA1 := Aside0.mk A1
  have hupz := Tryz.underlying29
  clear hr0_0 hc0_0 hr0_1 hc0_1 A1
  go_enter Tryz.func51, Tryz.ntmps51
  go_wp2_with (first
    | ((with_reducible refine gate_dst (N := 1) rfl ?_); refine box_event ?hg (N := 1) ?hd (cs := #[.slice A0_0 l0_0.length c0_0, .slice A0_1 l0_1.length c0_1]) (t := 29) ?hr ?_; (case hd => rfl); (case hg => rfl); (case hr => first | (go_simp; done) | (go_simp; rfl)); intro Bp hg w1 hbp hb; have HBP := Lib.hid hbp; have HB1 := Lib.hid hb; clear hg hbp hb)
    | ((with_reducible refine gate_dst (N := 4) rfl ?_); refine box_event ?hg (N := 4) ?hd (cs := #[.slice none 0 0]) (t := 38) ?hr ?_; (case hd => rfl); (case hg => rfl); (case hr => first | (go_simp; done) | (go_simp; rfl)); intro Bo hg w3 hbo hb; have HBO := Lib.hid hbo; have HB3 := Lib.hid (below_step HB1.out hb); have HGO := Lib.hid (show w.heap.size ≤ Bo by rw [hg]; exact HB1.out.size); have hp0 : w3.cell? ⟨Bp, 0, none⟩ = some (.slice A0_0 l0_0.length c0_0) := (blk_cell (blk_below HBP.out hb) 0).trans rfl; have hp1 : w3.cell? ⟨Bp, 1, none⟩ = some (.slice A0_1 l0_1.length c0_1) := (blk_cell (blk_below HBP.out hb) 1).trans rfl; clear hg hbo hb; have HSAY := Lib.hid (spec_pzLook.says w Bo HGO.out A0_0 l0_0.length c0_0 A0_1 c0_1 l0_1 HR1.out k [] none 0 l0_0 A0_0 c0_0 [] (.slice none 0 0) w3 o HB3.out HBO.out (Kd.S_nil _ _ _ _ _) (fun _ _ _ => Kd.C_nil _ _) (Nat.le_refl _) (fun _ _ hw => Kd.C_below HR0.out hw) HC0.out HA1.out))
    | (go_at_call 89; refine HSAY.out.mono ?_; rintro e w4 ⟨rfl, vr, hO', hS', hB', _⟩; obtain ⟨Av, cv, rfl⟩ := Kd.S_slice hS'; have HO := Lib.hid hO'; have HS := Lib.hid hS'; have HB := Lib.hid hB'; clear hO' hS' hB'))
  refine start_ (n := 6) (S := fun w' => w'.cell? ⟨Bo, 0, none⟩ = some (.slice Av o.length cv)) (ds := []) #[false, false, false, false, false, false] (by kernel_rfl) rfl rfl ((blk_cell (blk_drew HO.out) 0).trans rfl) (fun hHeld => ?_)
  refine take_ (i := 0) (N := (some 9)) (v := ?_) (a' := ?_) #[true, false, false, false, false, false] rfl rfl (by kernel_rfl) (fun _ _ _ h => h) (Or.inl ⟨by rfl, ?_⟩) hHeld ?_ ?_
  rotate_left
  · intro w' s0
    go_simp
    with_reducible rfl
  rotate_left
  · simp only [Act.put, List.setIfInBounds_toArray, List.set_cons_zero, List.set_cons_succ, i64_w, i32_w]
    rfl
  refine take_ (i := 1) (N := (some 10)) (v := ?_) (a' := ?_) #[true, true, false, false, false, false] rfl rfl (by kernel_rfl) (fun _ _ _ h => h) (Or.inl ⟨by rfl, ?_⟩) hHeld ?_ ?_
  rotate_left
  · intro w' s0
    go_simp
    with_reducible rfl
  rotate_left
  · simp only [Act.put, List.setIfInBounds_toArray, List.set_cons_zero, List.set_cons_succ, i64_w, i32_w]
    rfl
  refine pure_ (i := 2) (N := (some 11)) (v := ?_) (a' := ?_) #[true, true, true, false, false, false] rfl rfl (by kernel_rfl) (fun _ _ _ h => h) (Or.inl ⟨by rfl, ?_⟩) ?_ ?_
  rotate_left
  · intro w'
    go_simp
    with_reducible rfl
  rotate_left
  · simp only [Act.put, List.setIfInBounds_toArray, List.set_cons_zero, List.set_cons_succ, i64_w, i32_w]
    rfl
  refine pure_ (i := 3) (N := (some 12)) (v := ?_) (a' := ?_) #[true, true, true, true, false, false] rfl rfl (by kernel_rfl) (fun _ _ _ h => h) (Or.inl ⟨by rfl, ?_⟩) ?_ ?_
  rotate_left
  · intro w'
    go_simp
    with_reducible rfl
  rotate_left
  · simp only [Act.put, List.setIfInBounds_toArray, List.set_cons_zero, List.set_cons_succ, i64_w, i32_w]
    rfl
  refine pure_ (i := 4) (N := (some 2)) (v := ?_) (a' := ?_) #[true, true, true, true, true, false] rfl rfl (by kernel_rfl) (fun _ _ _ h => h) (Or.inl ⟨by rfl, ?_⟩) ?_ ?_
  rotate_left
  · intro w'
    go_simp
    with_reducible rfl
  rotate_left
  · simp only [Act.put, List.setIfInBounds_toArray, List.set_cons_zero, List.set_cons_succ, i64_w, i32_w]
    rfl
  refine pure_ (i := 5) (N := (some 3)) (v := ?_) (a' := ?_) #[true, true, true, true, true, true] rfl rfl (by kernel_rfl) (fun _ _ _ h => h) (Or.inl ⟨by rfl, ?_⟩) ?_ ?_
  rotate_left
  · intro w'
    go_simp
    with_reducible rfl
  rotate_left
  · simp only [Act.put, List.setIfInBounds_toArray, List.set_cons_zero, List.set_cons_succ, i64_w, i32_w]
    rfl
  refine done_ (by kernel_rfl) ?_
  go_wp2_with (fail)
  go_ret2
  exact ⟨_, rfl, Kd.S_drew HS.out, below_drew1 HB.out⟩

/-! ### spec_DrawHarderPuzzle: function 11 -/
def spec_DrawHarderPuzzle.f (k : Nat) (l0 : List Int) : Option ((List (S67)) × List Int) := (spec_l1Cur_puzzle.f k l0 0 0).bind fun bt469 => ((spec_pzGood.f k bt469.1 bt469.2.1).bind fun t478 => (if t478 = true then ((spec_pzAll.f k bt469.1 bt469.2.1).bind fun bt479 => (if bt479.2 = true then (if (bt479.1.length : Int) > 0 then ((spec_l1Cur_one.f l0 bt469.2.2.1 bt469.2.2.2 4).bind fun bt483 => (if bt483.1 = true then (some (bt469.1, bt469.2.1)) else (if 0 < (bt479.1.length : Int) then (some (bt469.1, rd_L3 bt479.1 0)) else (none)))) else (some (bt469.1, bt469.2.1))) else (some (bt469.1, bt469.2.1)))) else (some (bt469.1, bt469.2.1))))
/-! ### slices_Delete_impl_Tile_impl_Tile: function 92, by hand -/
/-! ### slices.Delete of one element, at a row of the call's own -/
theorem R_past {α : Type} {d : Kd α} {e base n cap g j : Nat} {ok : Nat → Prop} {W : World} {xs : List α} (h : d.R e W base ok (.slice (some ⟨g, 0, none⟩) n cap) xs) (hj : n * d.sz ≤ j) (u : Value) :
    d.R e (W.setCell ⟨g, j, none⟩ u) base ok (.slice (some ⟨g, 0, none⟩) n cap) xs := by
  obtain ⟨hok, inner, ⟨hl, hown⟩, hr⟩ := h
  have hne : ∀ k, (ok k ∧ some k ≠ (Value.slice (some ⟨g, 0, none⟩) n cap).ownBlock) → k ≠ g := by
    rintro k ⟨_, hk⟩ rfl
    exact hk rfl
  rcases hown with ⟨hv, _⟩ | ⟨g', cap', cur, hv, hb, hh, hn, hm, hs, ht⟩
  · cases hv
  · injection hv with h1 h2 h3
    injection h1 with h1
    injection h1 with h1
    subst h1
    subst h3
    subst h2
    refine ⟨hok, inner, ⟨hl, .inr ⟨g, cap, cur.setIfInBounds j u, rfl, hb, blk_set hh j u, hn, hm, by rw [Array.size_setIfInBounds]; exact hs, ?_⟩⟩, hr.imp_ (fun p c hp => ?_)⟩
    · rw [← ht, Array.toList_setIfInBounds, List.take_set_of_le (by omega)]
    · exact Kd.M_far (p := ⟨g, j, none⟩) hp hne u
theorem R_past2 {α : Type} {d : Kd α} {e base n cap g j : Nat} {ok : Nat → Prop} {W : World} {xs : List α} (h : d.R e W base ok (.slice (some ⟨g, 0, none⟩) n cap) xs) (hj : n * d.sz ≤ j) (us : List Value) :
    d.R e (W.setCells g j us) base ok (.slice (some ⟨g, 0, none⟩) n cap) xs := by
  induction us generalizing W j with
  | nil => exact h
  | cons u us ih => exact ih (R_past h hj u) (by omega)
theorem below_cells {base g j : Nat} {w W : World} (h : Below base w W) (hg : base ≤ g) (us : List Value) : Below base w (W.setCells g j us) := by
  induction us generalizing W j with
  | nil => exact h
  | cons u us ih => exact ih (h.setCell hg _)
theorem delT_info : (Tryz.prog.info? 67).map (·.size) = some k67.sz := by kernel_rfl
theorem grown_cell {g j : Nat} {w W : World} (h : w.grownBy W (some g)) (u : Value) : w.grownBy (W.setCell ⟨g, j, none⟩ u) (some g) :=
  ⟨h.os, h.tape, h.output, by rw [World.size_setCell]; exact h.size, fun i hi hr => (Below.heap_setCell W ⟨g, j, none⟩ u i (fun e => hr (by rw [e]))).trans (h.block i hi hr)⟩
theorem grown_cells {g j : Nat} {w W : World} (h : w.grownBy W (some g)) (us : List Value) : w.grownBy (W.setCells g j us) (some g) := by
  induction us generalizing W j with
  | nil => exact h
  | cons u us ih => exact ih (grown_cell h u)
theorem zeroT_ (w : World) : (zeroValue 67).run Tryz.prog w = .ok (.agg #[.int .i64 0, .int .i64 0]) w := by kernel_rfl
theorem clearT_ {w : World} {g o c : Nat} {cur : Array Value} (hh : w.heap[g]? = some (.cells cur 67 (0, 0))) (hs : o + 2 ≤ cur.size) (ty : TypeId) :
    (Builtin.clear_ #[27] ty #[.slice (some ⟨g, o, none⟩) 1 c]).run Tryz.prog w = .ok (.tuple #[]) (w.setCells g o [.int .i64 0, .int .i64 0]) := by
  have hst := run_storeCells_cells (P := Tryz.prog) g o [.int .i64 0, .int .i64 0] 0 w
    (fun j hj => by
      rw [blk_cell hh]
      have : o + 0 + j < cur.size := by simp at hj; omega
      rw [Array.getElem?_eq_getElem this]
      rfl)
    (fun j hj => blk_frozen hh _) (fun v hv => by simp at hv; subst hv; rfl)
  simp only [Nat.add_zero] at hst
  have hzc : (Builtin.zeroCells (Value.agg #[.int .i64 0, .int .i64 0]).cells 1).toList = [.int .i64 0, .int .i64 0] := by kernel_rfl
  simp [Builtin.clear_, run_underlying Tryz.underlying27, zeroT_, hzc, hst]
set_option maxHeartbeats 4000000 in
set_option maxRecDepth 1000000 in
theorem delT (w : World) (base g cap k m : Nat) (ok : Nat → Prop) (l : List S67) (hb : base ≤ w.heap.size) (hl : l.length = m + 1) (hk : k ≤ m) (hR : Kd.R k67 67 w base ok (.slice (some ⟨g, 0, none⟩) (m + 1) cap) l) :
    Calls Tryz.prog 92 #[.slice (some ⟨g, 0, none⟩) (m + 1) cap, .int .i64 k, .int .i64 ((k : Int) + 1)] w fun e w' => e = .returned (.slice (some ⟨g, 0, none⟩) m cap) ∧ Kd.R k67 67 w' base ok (.slice (some ⟨g, 0, none⟩) m cap) (l.eraseIdx k) ∧ Below base w w' ∧ w.grownBy w' (some g) := by
  obtain ⟨cur, hok, hbg, hh, hn, hm, hs⟩ : ∃ cur, (∀ k, some g = some k → ok k) ∧ base ≤ g ∧ w.heap[g]? = some (.cells cur 67 (0, 0)) ∧ m + 1 ≤ cap ∧ cap ≤ maxLen ∧ cur.size = cap * 2 := by
    obtain ⟨hok, inner, ⟨hlen, hown⟩, hrep⟩ := hR
    rcases hown with ⟨hv, _⟩ | ⟨g', cap', cur, hv, hb, hh, hn, hm, hs, ht⟩
    · cases hv
    · injection hv with h1 h2 h3
      injection h1 with h1
      injection h1 with h1
      subst h1
      subst h3
      exact ⟨cur, hok, hb, hh, by omega, hm, hs⟩
  have HR := Lib.hid hR
  have HL := Lib.hid hl
  unfold maxLen at hm
  have huel := Tryz.underlying67
  have hkc : k ≤ cap := by omega
  have hkd : k + 1 ≤ cap := by omega
  have hkl : k + 1 ≤ m + 1 := by omega
  have hi0 : 0 ≤ (k : Int) + 1 := by omega
  have hi1 : (k : Int) + 1 ≤ ((m + 1 : Nat) : Int) := by omega
  have hi2 : (k : Int) + 1 ≤ ((m : Nat) : Int) + 1 := by omega
  have hcm : ¬ cap = m := by omega
  have hA : (if cap = k + 1 then (some ⟨g, 0, none⟩ : Option Addr) else some ⟨g, (k + 1) * 2, none⟩) = if cap = k + 1 then some ⟨g, 0, none⟩ else (some (⟨g, 0, none⟩ : Addr)).map (·.add ((k + 1) * k67.sz)) := by
    by_cases h : cap = k + 1
    · rw [if_pos h, if_pos h]
    · rw [if_neg h, if_neg h, Option.map_some, add_plain]
      rfl
  have HA := Lib.hid hA
  clear hR hh hs hok hl hA
  go_enter Tryz.func92, Tryz.ntmps92
  go_wp2_with fail
  go_region_law (refine Kd.R_delete_step k67 (w0 := w) (g := g) (n := m + 1) (c := cap) (k := k) (m := m + 1 - (k + 1)) (c2 := cap - (k + 1)) (A := if cap = k + 1 then (some ⟨g, 0, none⟩ : Option Addr) else some ⟨g, (k + 1) * 2, none⟩) (xs := l) (ok := ok) base rfl (.tmp 22) (.tmp 25) 27 67 rfl Tryz.underlying27 delT_info (by rfl) (by first | rfl | (simp [Act.eval, Act.put]; done)) HA.out rfl (Kd.R_drewN HR.out 1) (by omega) (below_drew1 (Below.refl _ _)) hb ?_; intro w1 hr1 hb1 hg1)
  have HR1 := Lib.hid hr1
  have HG1 := Lib.hid hg1
  have hcl : ∀ ty, (Builtin.clear_ #[27] ty #[.slice (some ⟨g, m * 2, none⟩) 1 (cap - m)]).run Tryz.prog w1 = .ok (.tuple #[]) (w1.setCells g (m * 2) [.int .i64 0, .int .i64 0]) := by
    intro ty
    obtain ⟨cur, hh, hs⟩ : ∃ cur, w1.heap[g]? = some (.cells cur 67 (0, 0)) ∧ cur.size = cap * 2 := by
      obtain ⟨hok, inner, ⟨hlen, hown⟩, hrep⟩ := hr1
      rcases hown with ⟨hv, _⟩ | ⟨g', cap', cur, hv, hb, hh, hn, hm, hs, ht⟩
      · cases hv
      · injection hv with h1 h2 h3
        injection h1 with h1
        injection h1 with h1
        subst h1
        subst h3
        exact ⟨cur, hh, hs⟩
    exact clearT_ hh (by omega) ty
  clear hr1 hg1
  go_wp2
  all_goals
    have hr2 : Kd.R k67 67 w1 base ok (.slice (some ⟨g, 0, none⟩) m cap) (l.eraseIdx k) := HR1.out
    have hg2 : w.grownBy w1 (some g) := ⟨HG1.out.os, HG1.out.tape, HG1.out.output, HG1.out.size, HG1.out.block⟩
    go_ret
    first
      | exact ⟨rfl, R_past2 hr2 (Nat.le_refl _) _, below_cells hb1 hbg _, grown_cells hg2 _⟩
      | (have hq : cap = k + 1 := by assumption
         rw [hq] at hr2
         exact ⟨rfl, R_past2 hr2 (Nat.le_refl _) _, below_cells hb1 hbg _, grown_cells hg2 _⟩)

/-! ### impl_Puzzle_solutions_1: function 90, by hand -/
-- with its caller

end Go.Proofs.YtfkonhamjnembaaGreat.QFnPuzzlesMade
