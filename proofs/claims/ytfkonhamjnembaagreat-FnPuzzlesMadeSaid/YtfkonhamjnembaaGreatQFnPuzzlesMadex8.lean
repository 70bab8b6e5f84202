-- WRITTEN BY A PROGRAM OF THIS CLAIM'S AUTHOR (wprint.py)
import Derived.Test.YtfkonhamjnembaaGreatQFnPuzzlesMadex0
import Derived.Test.YtfkonhamjnembaaGreatQFnPuzzlesMadex1
import Derived.Test.YtfkonhamjnembaaGreatQFnPuzzlesMadex4
import Derived.Test.YtfkonhamjnembaaGreatQFnPuzzlesMadex5
import Derived.Test.YtfkonhamjnembaaGreatQFnPuzzlesMadex6
import Derived.Test.YtfkonhamjnembaaGreatQFnPuzzlesMadex7
namespace Go.Proofs.YtfkonhamjnembaaGreat.QFnPuzzlesMade
open Go.RowKit Go.Proofs.YtfkonhamjnembaaGreatW.PrintWords Go.Proofs.YtfkonhamjnembaaGreatW.PrintLast Go.Proofs.YtfkonhamjnembaaGreatW.PrintMore
attribute [local go_sem] max2_int min2_int max_two min_two max_three min_three max_four min_four   -- for this text's walks alone
set_option linter.unusedVariables false
set_option linter.unusedSimpArgs false

attribute [local go_sem high] eqA67
/-! ### laws_iPuzzle: function 8 -/
def laws_iPuzzle.f (k : Nat) (l0_0 : List (S67)) (l0_1 : List Int) (l1_0 : List (S67)) (l1_1 : List Int) : Option (Bool) := (laws_iTiles.f k l0_0 l1_0).bind fun t287 => (if t287 = true then ((laws_iSame.f k l0_1 l1_1).bind fun t288 => (some t288)) else (some false))
/-! ### slices_IndexFunc_impl_Tile_impl_Tile: function 104, by hand -/
theorem idxT (fi : FuncId) (caps : Array Value) (p : S67 → Bool) (A0 : Option Addr) (c0 : Nat) (l0 : List S67) (w : World) (hr0 : Kd.C k67 w A0 l0.length l0)
  (eg : ∀ args w, (callFunc fi args).run Tryz.prog w = .ok (.enter fi args) w)
  (hp : ∀ (x : S67) (W : World), Below w.heap.size w W → Calls Tryz.prog fi (#[.agg #[.int .i64 x.f0, .int .i64 x.f1]] ++ caps) W fun e w' => e = .returned (.bool (p x)) ∧ Below W.heap.size W w') :
  Calls Tryz.prog 104 #[.slice A0 l0.length c0, .func (.func fi) #[] caps] w fun e w' => e = .returned (.int .i64 (idxOf p l0)) ∧ Below w.heap.size w w' := by
 have hlen := hr0.2.1
 have HR := Lib.hid hr0
 clear hr0
 go_enter Tryz.func104, Tryz.ntmps104
 go_wp2
 go_loopw [8] (fun i wr => ∃ k : Nat, k ≤ l0.length ∧ i = .int .i64 k ∧ Hid (∀ j, j < k → p (l0.getD j z67) = false) ∧ Below w.heap.size w wr) (fun i _ => l0.length - (intOf i).toNat)
 case atStart => exact ⟨0, Nat.zero_le _, rfl, Lib.hid (fun j h => absurd h (Nat.not_lt_zero _)), Below.refl _ _⟩
 case round =>
  obtain ⟨k, hk, rfl, hnone, hbel⟩ := hrel
  by_cases hlt : k < l0.length
  ·obtain ⟨ad, rfl, hx0, hx1⟩ := at_T67 (Kd.C_below HR.out hbel) (k : Int) (by omega) (by omega)
   rw [show ((k : Int)).toNat = k from rfl] at hx0 hx1
   have hc := hp (rd_T67 l0 k) _ hbel
   cases hpk : p (rd_T67 l0 k)
   ·rw [hpk] at hc
    have HP := Lib.hid hpk
    clear hpk
    go_wp2_with (refine hc.mono ?_; rintro e w1 ⟨rfl, hb1⟩)
    go_roundw
    case rel => exact ⟨k + 1, by omega, by go_num, Lib.hid (fun j hj => by
     by_cases e : j = k
     ·subst e
      exact HP.out
     ·exact hnone.out j (by omega)), hbel.trans (hb1.mono hbel.size)⟩
    case measure => simp [intOf]; omega
   ·rw [hpk] at hc
    have HP := Lib.hid hpk
    clear hpk
    go_wp2_with (refine hc.mono ?_; rintro e w1 ⟨rfl, hb1⟩)
    go_ret
    exact ⟨by rw [idxOf_at p z67 l0 k hlt hnone.out HP.out]; rfl, hbel.trans (hb1.mono hbel.size)⟩
  ·go_wp2
   go_ret
   have e : k = l0.length := by omega
   subst e
   exact ⟨by rw [idxOf_none p z67 l0 hnone.out]; rfl, hbel⟩


/-! ### slices_ContainsFunc_impl_Tile_impl_Tile: function 82, by hand -/
theorem conT (fi : FuncId) (caps : Array Value) (p : S67 → Bool) (A0 : Option Addr) (c0 : Nat) (l0 : List S67) (w : World) (hr0 : Kd.C k67 w A0 l0.length l0)
  (eg : ∀ args w, (callFunc fi args).run Tryz.prog w = .ok (.enter fi args) w)
  (hp : ∀ (x : S67) (W : World), Below w.heap.size w W → Calls Tryz.prog fi (#[.agg #[.int .i64 x.f0, .int .i64 x.f1]] ++ caps) W fun e w' => e = .returned (.bool (p x)) ∧ Below W.heap.size W w') :
  Calls Tryz.prog 82 #[.slice A0 l0.length c0, .func (.func fi) #[] caps] w fun e w' => e = .returned (.bool (l0.any p)) ∧ Below w.heap.size w w' := by
 have hi := idxT fi caps p A0 c0 l0 w hr0 eg hp
 have HA := Lib.hid (idxOf_any p l0)
 clear hp eg hr0
 generalize idxOf p l0 = z at hi HA
 generalize l0.any p = b at HA ⊢
 go_enter Tryz.func82, Tryz.ntmps82
 go_wp2_with (go_at_call 104; refine hi.mono ?_; rintro e w' ⟨rfl, hb⟩)
 go_ret
 have h := HA.out
 subst h
 exact ⟨rfl, hb⟩


/-! ### impl_IsTile: function 84 -/
def impl_IsTile.f (a0_0 : Int) (a0_1 : Int) : Option (Bool) := (impl_within.f a0_0 0 a0_1).bind fun t290 => (if t290 = true then (some (decide (a0_1 ≤ 9))) else (some false))
set_option maxHeartbeats 8000000 in
set_option maxRecDepth 100000 in
theorem impl_IsTile.calls (a0_0 : Int) (a0_1 : Int) (r : Bool) (w : World) (h : impl_IsTile.f a0_0 a0_1 = some r) :
  Calls Tryz.prog 84 #[.agg #[.int .i64 a0_0, .int .i64 a0_1]] w fun e w' => e = .returned (.bool r) ∧ Below w.heap.size w w' := by
 have hu67 := Tryz.underlying67
 have HB := Aside0.mk (Below.refl w.heap.size w)
 have H : ((impl_within.f a0_0 0 a0_1).bind fun t290 => (if t290 = true then (some (decide (a0_1 ≤ 9))) else (some false))) = some r := h
 clear h
 replace H := Option.bind_eq_some_iff.mp H
 obtain ⟨t290, A20, H⟩ := H
 replace H : (if t290 = true then (some (decide (a0_1 ≤ 9))) else (some false)) = some r := H
 have A2 := Aside0.mk A20
 clear A20
 by_cases c3 : t290 = true
 ·subst c3
  have H1 : (some (decide (a0_1 ≤ 9))) = some r := by rw [if_pos rfl] at H; exact H
  clear H
  have H := H1
  clear H1
  obtain rfl := Option.some.inj H
  go_enter Tryz.func84, Tryz.ntmps84
  go_wp2_with (first | ((with_reducible refine gate_dst (N := 1) rfl ?_); refine box_event ?hg (N := 1) ?hd (cs := #[.int .i64 a0_0, .int .i64 a0_1]) (t := 67) ?hr ?_; (case hd => rfl); (case hg => rfl); (case hr => first | (go_simp; done) | (go_simp; rfl)); intro gb289 hg w4 hbox hb; have BK289 := Aside0.mk (hbox); have GW289 := Aside0.mk ((by rw [hg]; exact (below_size (by repeat (first | (with_reducible first | exact HB.out | apply below_alloc | apply pw_below_drewN | apply below_drew1) | exact HB.out))) : w.heap.size ≤ gb289)); have GE289 := Aside0.mk ((by rw [hg]; exact (below_size (by repeat (first | (with_reducible first | exact HB.out | apply below_alloc | apply pw_below_drewN | apply below_drew1) | exact HB.out))) : w.heap.size ≤ gb289)); replace HB := Aside0.mk (below_step (by repeat (first | (with_reducible first | exact HB.out | apply below_alloc | apply pw_below_drewN | apply below_drew1) | exact HB.out)) hb); clear hb hbox hg; have hcz5_0 : w4.cell? ⟨gb289, 0, none⟩ = some (.int .i64 a0_0) := (blk_cell BK289.out 0).trans rfl; have hcz5_1 : w4.cell? ⟨gb289, 1, none⟩ = some (.int .i64 a0_1) := (blk_cell BK289.out 1).trans rfl; have hfz5_0 := blk_frozen BK289.out 0; have hfz5_1 := blk_frozen BK289.out 1) | ((with_reducible refine gate_callee (f := 33) rfl ?_); refine goesL_ (some 7) rfl rfl Tryz.func33 (by kernel_rfl) rfl #[.int .i64 a0_0, .int .i64 0, .int .i64 a0_1] rfl (by (try simp only [List.map_toArray, List.map_cons, List.map_nil]); first | done | rfl | (simp only [List.length_drop, List.length_take]; rfl)) ?_; (with_reducible refine (impl_within.calls a0_0 0 a0_1 true _ A2.out).mono ?_); rintro e w' ⟨rfl, ⟨nd, rfl⟩⟩; refine ⟨_, rfl, ?_⟩))
  go_ret
  exact ⟨by first | rfl | (simp [errW_none, errW_some] <;> rfl) | (simp [*, errW_none, errW_some] <;> rfl), by repeat (first | (with_reducible first | exact HB.out | apply below_alloc | apply pw_below_drewN | apply below_drew1 | refine below_set ?_ GE289.out) | exact HB.out)⟩
 ·replace c3 := Bool.eq_false_iff.mpr c3
  subst c3
  have H1 : (some false) = some r := by rw [if_neg (show ¬ (false = true) by decide)] at H; exact H
  clear H
  have H := H1
  clear H1
  obtain rfl := Option.some.inj H
  go_enter Tryz.func84, Tryz.ntmps84
  go_wp2_with (first | ((with_reducible refine gate_dst (N := 1) rfl ?_); refine box_event ?hg (N := 1) ?hd (cs := #[.int .i64 a0_0, .int .i64 a0_1]) (t := 67) ?hr ?_; (case hd => rfl); (case hg => rfl); (case hr => first | (go_simp; done) | (go_simp; rfl)); intro gb289 hg w6 hbox hb; have BK289 := Aside0.mk (hbox); have GW289 := Aside0.mk ((by rw [hg]; exact (below_size (by repeat (first | (with_reducible first | exact HB.out | apply below_alloc | apply pw_below_drewN | apply below_drew1) | exact HB.out))) : w.heap.size ≤ gb289)); have GE289 := Aside0.mk ((by rw [hg]; exact (below_size (by repeat (first | (with_reducible first | exact HB.out | apply below_alloc | apply pw_below_drewN | apply below_drew1) | exact HB.out))) : w.heap.size ≤ gb289)); replace HB := Aside0.mk (below_step (by repeat (first | (with_reducible first | exact HB.out | apply below_alloc | apply pw_below_drewN | apply below_drew1) | exact HB.out)) hb); clear hb hbox hg; have hcz7_0 : w6.cell? ⟨gb289, 0, none⟩ = some (.int .i64 a0_0) := (blk_cell BK289.out 0).trans rfl; have hcz7_1 : w6.cell? ⟨gb289, 1, none⟩ = some (.int .i64 a0_1) := (blk_cell BK289.out 1).trans rfl; have hfz7_0 := blk_frozen BK289.out 0; have hfz7_1 := blk_frozen BK289.out 1) | ((with_reducible refine gate_callee (f := 33) rfl ?_); refine goesL_ (some 7) rfl rfl Tryz.func33 (by kernel_rfl) rfl #[.int .i64 a0_0, .int .i64 0, .int .i64 a0_1] rfl (by (try simp only [List.map_toArray, List.map_cons, List.map_nil]); first | done | rfl | (simp only [List.length_drop, List.length_take]; rfl)) ?_; (with_reducible refine (impl_within.calls a0_0 0 a0_1 false _ A2.out).mono ?_); rintro e w' ⟨rfl, ⟨nd, rfl⟩⟩; refine ⟨_, rfl, ?_⟩))
  go_ret
  exact ⟨by first | rfl | (simp [errW_none, errW_some] <;> rfl) | (simp [*, errW_none, errW_some] <;> rfl), by repeat (first | (with_reducible first | exact HB.out | apply below_alloc | apply pw_below_drewN | apply below_drew1 | refine below_set ?_ GE289.out) | exact HB.out)⟩

/-! ### impl_IsHand_1: function 83 -/
def impl_IsHand_1.f (a0_0 : Int) (a0_1 : Int) : Option (Bool) := (impl_IsTile.f a0_0 a0_1).bind fun t292 => (some (!t292))
set_option maxHeartbeats 8000000 in
set_option maxRecDepth 100000 in
theorem impl_IsHand_1.calls (a0_0 : Int) (a0_1 : Int) (r : Bool) (w : World) (h : impl_IsHand_1.f a0_0 a0_1 = some r) :
  Calls Tryz.prog 83 #[.agg #[.int .i64 a0_0, .int .i64 a0_1]] w fun e w' => e = .returned (.bool r) ∧ Below w.heap.size w w' := by
 have hu67 := Tryz.underlying67
 have HB := Aside0.mk (Below.refl w.heap.size w)
 have H : ((impl_IsTile.f a0_0 a0_1).bind fun t292 => (some (!t292))) = some r := h
 clear h
 replace H := Option.bind_eq_some_iff.mp H
 obtain ⟨t292, A20, H⟩ := H
 replace H : (some (!t292)) = some r := H
 have A2 := Aside0.mk A20
 clear A20
 obtain rfl := Option.some.inj H
 go_enter Tryz.func83, Tryz.ntmps83
 go_wp2_with (first | ((with_reducible refine gate_dst (N := 1) rfl ?_); refine box_event ?hg (N := 1) ?hd (cs := #[.int .i64 a0_0, .int .i64 a0_1]) (t := 67) ?hr ?_; (case hd => rfl); (case hg => rfl); (case hr => first | (go_simp; done) | (go_simp; rfl)); intro gb291 hg w3 hbox hb; have BK291 := Aside0.mk (hbox); have GW291 := Aside0.mk ((by rw [hg]; exact (below_size (by repeat (first | (with_reducible first | exact HB.out | apply below_alloc | apply pw_below_drewN | apply below_drew1) | exact HB.out))) : w.heap.size ≤ gb291)); have GE291 := Aside0.mk ((by rw [hg]; exact (below_size (by repeat (first | (with_reducible first | exact HB.out | apply below_alloc | apply pw_below_drewN | apply below_drew1) | exact HB.out))) : w.heap.size ≤ gb291)); replace HB := Aside0.mk (below_step (by repeat (first | (with_reducible first | exact HB.out | apply below_alloc | apply pw_below_drewN | apply below_drew1) | exact HB.out)) hb); clear hb hbox hg; have hcz4_0 : w3.cell? ⟨gb291, 0, none⟩ = some (.int .i64 a0_0) := (blk_cell BK291.out 0).trans rfl; have hcz4_1 : w3.cell? ⟨gb291, 1, none⟩ = some (.int .i64 a0_1) := (blk_cell BK291.out 1).trans rfl; have hfz4_0 := blk_frozen BK291.out 0; have hfz4_1 := blk_frozen BK291.out 1) | ((with_reducible refine gate_callee (f := 84) rfl ?_); refine goesL_ (some 4) rfl rfl Tryz.func84 (by kernel_rfl) rfl #[.agg #[.int .i64 a0_0, .int .i64 a0_1]] rfl (by (try simp only [List.map_toArray, List.map_cons, List.map_nil]); first | done | rfl | (simp only [List.length_drop, List.length_take]; rfl)) ?_; (with_reducible refine (impl_IsTile.calls a0_0 a0_1 t292 _ A2.out).mono ?_); rintro e w5 ⟨rfl, hb⟩; refine ⟨_, rfl, ?_⟩; replace BK291 := Aside0.mk (blk_below (g := gb291) (o := .cells #[.int .i64 a0_0, .int .i64 a0_1] 67 (0, 0)) (by (with_reducible repeat (first | refine blk_drewN ?_ _ | refine blk_drew ?_ | refine blk_alloc ?_ _)); exact BK291.out) hb); replace HB := Aside0.mk (below_step (by repeat (first | (with_reducible first | exact HB.out | apply below_alloc | apply pw_below_drewN | apply below_drew1 | refine below_set ?_ GE291.out) | exact HB.out)) hb); (try clear hb); (try clear hb2); (try clear hk); (try clear hi)))
 go_ret
 exact ⟨by first | rfl | (simp [errW_none, errW_some] <;> rfl) | (simp [*, errW_none, errW_some] <;> rfl), by repeat (first | (with_reducible first | exact HB.out | apply below_alloc | apply pw_below_drewN | apply below_drew1 | refine below_set ?_ GE291.out) | exact HB.out)⟩

/-! ### impl_IsHand: function 45, by hand -/
/-- Is it no tile? -/
def noTile (x : S67) : Bool := !(decide (0 ≤ x.f0) && (decide (x.f0 ≤ x.f1) && decide (x.f1 ≤ 9)))
theorem noTile_f (x : S67) : impl_IsHand_1.f x.f0 x.f1 = some (noTile x) := by
 unfold impl_IsHand_1.f impl_IsTile.f impl_within.f noTile
 by_cases h1 : 0 ≤ x.f0
 ·rw [if_pos h1]
  by_cases h2 : x.f0 ≤ x.f1
  ·simp [h1, h2]
  ·simp [h1, h2]
 ·simp [h1]

/-- IsHand: few tiles, tiles all, and no two the same. -/
def impl_IsHand.f (k : Nat) (l0 : List S67) : Option Bool := if (l0.length : Int) ≤ 55 then (if l0.any noTile = true then some false else impl_areDifferent_impl_Tile.f k l0) else some false
set_option maxHeartbeats 1000000 in
set_option maxRecDepth 100000 in
theorem impl_IsHand.calls (k : Nat) (A0 : Option Addr) (c0 : Nat) (l0 : List (S67)) (r : Bool) (w : World) (hr0 : Kd.C k67 w A0 l0.length l0) (hc0 : l0.length ≤ c0) (h : impl_IsHand.f k l0 = some r) :
  Calls Tryz.prog 45 #[.slice A0 l0.length c0] w fun e w' => e = .returned (.bool r) ∧ Below w.heap.size w w' := by
 have hcon := conT 83 #[] noTile A0 c0 l0 w hr0 (enters_of' Tryz.func83 (by kernel_rfl) rfl) (fun x W _ => impl_IsHand_1.calls x.f0 x.f1 (noTile x) W (noTile_f x))
 have HR := Lib.hid hr0
 clear hr0
 unfold impl_IsHand.f at h
 by_cases h1 : (l0.length : Int) ≤ 55
 ·rw [if_pos h1] at h
  have d1 : decide ((l0.length : Int) ≤ 55) = true := decide_eq_true h1
  have d2 : decide (l0.length ≤ 55) = true := decide_eq_true (by omega)
  by_cases h2 : l0.any noTile = true
  ·rw [if_pos h2] at h
   obtain rfl := Option.some.inj h
   rw [h2] at hcon
   clear h h2 h1
   go_enter Tryz.func45, Tryz.ntmps45
   go_wp2_with (go_at_call 82; refine hcon.mono ?_; rintro e w' ⟨rfl, hb⟩)
   go_ret
   exact ⟨rfl, hb⟩
  ·rw [if_neg h2] at h
   have h3 := Bool.eq_false_iff.mpr h2
   rw [h3] at hcon
   have HK := Lib.hid h
   clear h h2 h3 h1
   go_enter Tryz.func45, Tryz.ntmps45
   go_wp2_with (first | (go_at_call 82; refine hcon.mono ?_; rintro e w1 ⟨rfl, hb⟩) | (go_at_call 77; refine (impl_areDifferent_impl_Tile.calls k A0 c0 l0 r _ (Kd.C_below HR.out hb) hc0 HK.out).mono ?_; rintro e w2 ⟨rfl, hb2⟩))
   go_ret
   exact ⟨rfl, hb.trans (hb2.mono hb.size)⟩
 ·rw [if_neg h1] at h
  obtain rfl := Option.some.inj h
  have d1 : decide ((l0.length : Int) ≤ 55) = false := decide_eq_false h1
  have d2 : decide (l0.length ≤ 55) = false := decide_eq_false (by omega)
  clear h h1
  go_enter Tryz.func45, Tryz.ntmps45
  go_wp2
  go_ret
  exact ⟨rfl, Below.refl _ _⟩

/-! ### slices_IsSortedFunc_impl_Tile_impl_Tile: function 46, by hand -/
set_option maxHeartbeats 2000000 in
set_option maxRecDepth 100000 in
theorem isSortedT (A0 : Option Addr) (c0 : Nat) (l0 : List S67) (w : World) (hr0 : Kd.C k67 w A0 l0.length l0) :
  Calls Tryz.prog 46 #[.slice A0 l0.length c0, .func (.func 47) #[] #[]] w fun e w' => e = .returned (.bool (sortedT l0)) ∧ Below w.heap.size w w' := by
 have hlen := hr0.2.1
 have HR := Lib.hid hr0
 clear hr0
 have eg := enters_of' Tryz.func47 (by kernel_rfl) rfl
 go_enter Tryz.func46, Tryz.ntmps46
 go_wp2
 go_loopw [5] (fun i wr => ∃ m : Int, -1 ≤ m ∧ m < l0.length ∧ i = .int .i64 m ∧ Hid (∀ j : Nat, m ≤ j → j + 1 < l0.length → ¬ cmpT (l0.getD (j + 1) z67) (l0.getD j z67) < 0) ∧ Below w.heap.size w wr) (fun i _ => (intOf i + 1).toNat)
 case atStart => exact ⟨(l0.length : Int) - 1, by omega, by omega, rfl, Lib.hid (fun j h1 h2 => by omega), Below.refl _ _⟩
 case round =>
  obtain ⟨m, hm1, hm2, rfl, hnone, hbel⟩ := hrel
  by_cases hlt : 0 < m
  ·obtain ⟨q, rfl⟩ : ∃ q : Nat, m = (q : Int) + 1 := ⟨(m - 1).toNat, by omega⟩
   have hC := Kd.C_below HR.out hbel
   obtain ⟨ad, rfl, hx0, hx1⟩ := at_T67 hC ((q : Int) + 1) (by omega) (by omega)
   obtain ⟨ad', e', hy0, hy1⟩ := at_T67 hC (q : Int) (by omega) (by omega)
   obtain rfl : ad = ad' := by injection e'
   clear e'
   rw [show ((q : Int)).toNat = q from rfl] at hy0 hy1
   rw [show ((q : Int) + 1).toNat = q + 1 from by omega] at hx0 hx1
   have hb0 : q + 1 < l0.length := by omega
   have hi0 : (0 : Int) ≤ (q : Int) + 1 := by omega
   have hi1 : (q : Int) + 1 < (l0.length : Int) := by omega
   have hj0 : (0 : Int) ≤ (q : Int) := by omega
   have hj1 : (q : Int) < (l0.length : Int) := by omega
   have hw1 : IntKind.i64.wrap ((q : Int) + 1 - 1) = (q : Int) := (IntWalk.i64_in _ (by omega)).trans (by omega)
   have hw2 : IntKind.i64.wrap (q : Int) = (q : Int) := IntWalk.i64_in _ (by omega)
   have HC := Lib.hid hC
   clear hC
   have hcall := fun W => impl_compareTiles.calls (rd_T67 l0 ((q : Int) + 1)).f0 (rd_T67 l0 ((q : Int) + 1)).f1 (rd_T67 l0 (q : Int)).f0 (rd_T67 l0 (q : Int)).f1 _ W (cmpT_f _ _)
   generalize hz : cmpT (rd_T67 l0 ((q : Int) + 1)) (rd_T67 l0 (q : Int)) = z at hcall
   have HZ := Lib.hid hz
   clear hz
   have HS := Lib.hid (show ∀ W, Below wr.heap.size wr W → (W.cell? (ad.add ((q + 1) * 2)) = some (.int .i64 (rd_T67 l0 ((q : Int) + 1)).f0) ∧ W.cell? ⟨(ad.add ((q + 1) * 2)).block, (ad.add ((q + 1) * 2)).off + 1, none⟩ = some (.int .i64 (rd_T67 l0 ((q : Int) + 1)).f1) ∧
    W.cell? (ad.add (q * 2)) = some (.int .i64 (rd_T67 l0 (q : Int)).f0) ∧ W.cell? ⟨(ad.add (q * 2)).block, (ad.add (q * 2)).off + 1, none⟩ = some (.int .i64 (rd_T67 l0 (q : Int)).f1) ∧ Below wr.heap.size wr W) from
    fun W h => ⟨(h.cell (World.block_lt_of_cell? wr _ hx0)).trans hx0, (h.cell (World.block_lt_of_cell? wr _ hx1)).trans hx1, (h.cell (World.block_lt_of_cell? wr _ hy0)).trans hy0, (h.cell (World.block_lt_of_cell? wr _ hy1)).trans hy1, h⟩)
   go_wp2_with fail
   go_region_held3 (fun w' => w'.cell? (ad.add ((q + 1) * 2)) = some (.int .i64 (rd_T67 l0 ((q : Int) + 1)).f0) ∧ w'.cell? ⟨(ad.add ((q + 1) * 2)).block, (ad.add ((q + 1) * 2)).off + 1, none⟩ = some (.int .i64 (rd_T67 l0 ((q : Int) + 1)).f1) ∧
    w'.cell? (ad.add (q * 2)) = some (.int .i64 (rd_T67 l0 (q : Int)).f0) ∧ w'.cell? ⟨(ad.add (q * 2)).block, (ad.add (q * 2)).off + 1, none⟩ = some (.int .i64 (rd_T67 l0 (q : Int)).f1) ∧ Below wr.heap.size wr w')
    ((refine HS.out _ ?_; first | exact below_drew (Below.refl _ _) | exact Below.refl _ _ | (go_split_ands; first | exact below_drew (by assumption) | exact below_step (by assumption) hb2)))
    (first | (go_simp; refine (hcall _).mono ?_; rintro e w2 ⟨rfl, hb2⟩))
   rename_i wq hwq
   have HB := Lib.hid hwq.2.2.2.2
   clear hwq hx0 hx1 hy0 hy1
   by_cases hneg : z < 0
   ·have dz : decide (z < 0) = true := decide_eq_true hneg
    go_wp2
    go_ret
    exact ⟨by rw [sortedT_no l0 q (by omega) (by have := HZ.out; simpa [rd_T67] using this ▸ hneg)]; rfl, hbel.trans (HB.out.mono hbel.size)⟩
   ·have dz : decide (z < 0) = false := decide_eq_false hneg
    go_wp2
    go_roundw
    case rel => exact ⟨(q : Int), by omega, by omega, by go_num, Lib.hid (fun j h1 h2 => by
     by_cases e : j = q
     ·subst e
      have := HZ.out
      simp only [rd_T67] at this
      rw [show ((j : Int) + 1).toNat = j + 1 from by omega, show ((j : Int)).toNat = j from rfl] at this
      rw [this]
      exact hneg
     ·have := hnone.out j (by omega) h2
      omega), hbel.trans (HB.out.mono hbel.size)⟩
    case measure => simp [intOf]; omega
  ·have dm : decide (0 < m) = false := decide_eq_false hlt
   go_wp2
   go_ret
   exact ⟨by rw [sortedT_yes l0 (fun j hj => by have := hnone.out j (by omega) hj; omega)]; rfl, hbel⟩

/-! ### impl_IsPuzzle: function 10, by hand -/
def impl_IsPuzzle.f (k : Nat) (l0_0 : List S67) (l0_1 : List Int) : Option Bool :=
 (impl_IsHand.f k l0_0).bind fun b1 => if b1 = true then (if inB 1 9 (l0_0.length : Int) = true then (if sortedT l0_0 = true then (if (l0_1.length : Int) = (l0_0.length : Int) + 1 then impl_areWithin.f l0_1 (-1) 9 else some false) else some false) else some false) else some false
set_option maxHeartbeats 4000000 in
set_option maxRecDepth 100000 in
theorem impl_IsPuzzle.calls (k : Nat) (A0_0 : Option Addr) (c0_0 : Nat) (l0_0 : List (S67)) (A0_1 : Option Addr) (c0_1 : Nat) (l0_1 : List Int) (r : Bool) (w : World) (hr0_0 : Kd.C k67 w A0_0 l0_0.length l0_0) (hc0_0 : l0_0.length ≤ c0_0) (hr0_1 : Kd.C (Kd.int .i64) w A0_1 l0_1.length l0_1) (hc0_1 : l0_1.length ≤ c0_1) (h : impl_IsPuzzle.f k l0_0 l0_1 = some r) :
  Calls Tryz.prog 10 #[.agg #[.slice A0_0 l0_0.length c0_0, .slice A0_1 l0_1.length c0_1]] w fun e w' => e = .returned (.bool r) ∧ Below w.heap.size w w' := by
 have hb0 : Below w.heap.size w (w.alloc (.cells #[.slice A0_0 l0_0.length c0_0, .slice A0_1 l0_1.length c0_1] 29)) := (Below.refl _ _).alloc (Nat.le_refl _) _
 have c00 : (w.alloc (.cells #[.slice A0_0 l0_0.length c0_0, .slice A0_1 l0_1.length c0_1] 29)).cell? ⟨w.heap.size, 0, none⟩ = some (.slice A0_0 l0_0.length c0_0) := by rw [World.cell?_alloc_at _ _ _ _ rfl]; rfl
 have c01 : (w.alloc (.cells #[.slice A0_0 l0_0.length c0_0, .slice A0_1 l0_1.length c0_1] 29)).cell? ⟨w.heap.size, 1, none⟩ = some (.slice A0_1 l0_1.length c0_1) := by rw [World.cell?_alloc_at _ _ _ _ rfl]; rfl
 have hl0 := hr0_0.2.1
 have hl1 := hr0_1.2.1
 have HR0 := Lib.hid hr0_0
 have HR1 := Lib.hid hr0_1
 clear hr0_0 hr0_1
 unfold impl_IsPuzzle.f at h
 obtain ⟨b1, h1, h⟩ := Option.bind_eq_some_iff.1 h
 have H1 := Lib.hid h1
 clear h1
 cases b1
 ·obtain rfl := Option.some.inj h
  clear h
  go_enter Tryz.func10, Tryz.ntmps10
  go_wp2_with (go_at_call 45; refine (impl_IsHand.calls k A0_0 c0_0 l0_0 false _ (Kd.C_below HR0.out hb0) hc0_0 H1.out).mono ?_; rintro e w1 ⟨rfl, hb1⟩; have x0 := (hb1.cell (p := ⟨w.heap.size, 0, none⟩) (by simp)).trans c00; have x1 := (hb1.cell (p := ⟨w.heap.size, 1, none⟩) (by simp)).trans c01)
  go_ret
  exact ⟨rfl, hb0.trans (hb1.mono (by simp))⟩
 ·rw [if_pos rfl] at h
  by_cases h2 : inB 1 9 (l0_0.length : Int) = true
  ·rw [if_pos h2] at h
   have H2 := Lib.hid ((within_f (l0_0.length : Int) 1 9).trans (by rw [h2]) : impl_within.f (l0_0.length : Int) 1 9 = some true)
   have hsmall : l0_0.length ≤ 9 := by
    unfold inB at h2
    simp at h2
    omega
   clear h2
   by_cases h3 : sortedT l0_0 = true
   ·rw [if_pos h3] at h
    have H3 := Lib.hid h3
    clear h3
    by_cases h4 : (l0_1.length : Int) = (l0_0.length : Int) + 1
    ·rw [if_pos h4] at h
     have H5 := Lib.hid h
     have e4 : ((l0_1.length : Int) == (l0_0.length : Int) + 1) = true := by simpa using h4
     clear h h4
     go_enter Tryz.func10, Tryz.ntmps10
     go_wp2_with (first | (go_at_call 45; refine (impl_IsHand.calls k A0_0 c0_0 l0_0 true _ (Kd.C_below HR0.out hb0) hc0_0 H1.out).mono ?_; rintro e w1 ⟨rfl, hb1⟩; have x0 := (hb1.cell (p := ⟨w.heap.size, 0, none⟩) (by simp)).trans c00; have x1 := (hb1.cell (p := ⟨w.heap.size, 1, none⟩) (by simp)).trans c01) | (go_at_call 33; refine (impl_within.calls (l0_0.length : Int) 1 9 true _ H2.out).mono ?_; rintro e w2 ⟨rfl, ⟨nd, rfl⟩⟩) | (go_at_call 46; refine (isSortedT A0_0 c0_0 l0_0 _ (Kd.C_drewN (Kd.C_below (Kd.C_below HR0.out hb0) hb1) _)).mono ?_; rw [H3.out]; rintro e w3 ⟨rfl, hb3⟩; have y0 := (hb3.cell (p := ⟨w.heap.size, 0, none⟩) (World.block_lt_of_cell? _ _ x0)).trans x0; have y1 := (hb3.cell (p := ⟨w.heap.size, 1, none⟩) (World.block_lt_of_cell? _ _ x1)).trans x1) | (go_at_call 48; refine (impl_areWithin.calls A0_1 c0_1 l0_1 (-1) 9 r _ (Kd.C_below (Kd.C_drewN (Kd.C_below (Kd.C_below HR1.out hb0) hb1) _) hb3) hc0_1 H5.out).mono ?_; rintro e w5 ⟨rfl, hb5⟩))
     go_ret
     exact ⟨rfl, hb0.trans ((below_step (below_step (pw_below_drewN hb1 _) hb3) hb5).mono (by simp))⟩
    ·rw [if_neg h4] at h
     obtain rfl := Option.some.inj h
     have e4 : ((l0_1.length : Int) == (l0_0.length : Int) + 1) = false := by simpa using h4
     clear h h4
     go_enter Tryz.func10, Tryz.ntmps10
     go_wp2_with (first | (go_at_call 45; refine (impl_IsHand.calls k A0_0 c0_0 l0_0 true _ (Kd.C_below HR0.out hb0) hc0_0 H1.out).mono ?_; rintro e w1 ⟨rfl, hb1⟩; have x0 := (hb1.cell (p := ⟨w.heap.size, 0, none⟩) (by simp)).trans c00; have x1 := (hb1.cell (p := ⟨w.heap.size, 1, none⟩) (by simp)).trans c01) | (go_at_call 33; refine (impl_within.calls (l0_0.length : Int) 1 9 true _ H2.out).mono ?_; rintro e w2 ⟨rfl, ⟨nd, rfl⟩⟩) | (go_at_call 46; refine (isSortedT A0_0 c0_0 l0_0 _ (Kd.C_drewN (Kd.C_below (Kd.C_below HR0.out hb0) hb1) _)).mono ?_; rw [H3.out]; rintro e w3 ⟨rfl, hb3⟩; have y0 := (hb3.cell (p := ⟨w.heap.size, 0, none⟩) (World.block_lt_of_cell? _ _ x0)).trans x0; have y1 := (hb3.cell (p := ⟨w.heap.size, 1, none⟩) (World.block_lt_of_cell? _ _ x1)).trans x1))
     go_ret
     exact ⟨rfl, hb0.trans ((below_step (pw_below_drewN hb1 _) hb3).mono (by simp))⟩
   ·rw [if_neg h3] at h
    obtain rfl := Option.some.inj h
    have H3 := Lib.hid (Bool.eq_false_iff.mpr h3)
    clear h3 h
    go_enter Tryz.func10, Tryz.ntmps10
    go_wp2_with (first | (go_at_call 45; refine (impl_IsHand.calls k A0_0 c0_0 l0_0 true _ (Kd.C_below HR0.out hb0) hc0_0 H1.out).mono ?_; rintro e w1 ⟨rfl, hb1⟩; have x0 := (hb1.cell (p := ⟨w.heap.size, 0, none⟩) (by simp)).trans c00; have x1 := (hb1.cell (p := ⟨w.heap.size, 1, none⟩) (by simp)).trans c01) | (go_at_call 33; refine (impl_within.calls (l0_0.length : Int) 1 9 true _ H2.out).mono ?_; rintro e w2 ⟨rfl, ⟨nd, rfl⟩⟩) | (go_at_call 46; refine (isSortedT A0_0 c0_0 l0_0 _ (Kd.C_drewN (Kd.C_below (Kd.C_below HR0.out hb0) hb1) _)).mono ?_; rw [H3.out]; rintro e w3 ⟨rfl, hb3⟩; have y0 := (hb3.cell (p := ⟨w.heap.size, 0, none⟩) (World.block_lt_of_cell? _ _ x0)).trans x0; have y1 := (hb3.cell (p := ⟨w.heap.size, 1, none⟩) (World.block_lt_of_cell? _ _ x1)).trans x1))
    go_ret
    exact ⟨rfl, hb0.trans ((below_step (pw_below_drewN hb1 _) hb3).mono (by simp))⟩
  ·rw [if_neg h2] at h
   obtain rfl := Option.some.inj h
   have H2 := Lib.hid ((within_f (l0_0.length : Int) 1 9).trans (by rw [Bool.eq_false_iff.mpr h2]) : impl_within.f (l0_0.length : Int) 1 9 = some false)
   clear h2 h
   go_enter Tryz.func10, Tryz.ntmps10
   go_wp2_with (first | (go_at_call 45; refine (impl_IsHand.calls k A0_0 c0_0 l0_0 true _ (Kd.C_below HR0.out hb0) hc0_0 H1.out).mono ?_; rintro e w1 ⟨rfl, hb1⟩; have x0 := (hb1.cell (p := ⟨w.heap.size, 0, none⟩) (by simp)).trans c00; have x1 := (hb1.cell (p := ⟨w.heap.size, 1, none⟩) (by simp)).trans c01) | (go_at_call 33; refine (impl_within.calls (l0_0.length : Int) 1 9 false _ H2.out).mono ?_; rintro e w2 ⟨rfl, ⟨nd, rfl⟩⟩))
   go_ret
   exact ⟨rfl, hb0.trans ((pw_below_drewN hb1 _).mono (by simp))⟩

/-! ### slices_Equal_impl_Tile_impl_Tile: function 43 -/
def slices_Equal_impl_Tile_impl_Tile.l0 : Nat → List (S67) → List (S67) → Int → Int → Option (Bool)
 | 0, _, _, _, _ => none
 | k + 1, x0, x1, x12, x13 => if x13 < x12 then (if 0 ≤ x13 then (if x13 < (x0.length : Int) then (if x13 < (x1.length : Int) then (if (!(((rd_T67 x0 x13).f0) == ((rd_T67 x1 x13).f0)) || (!(((rd_T67 x0 x13).f1) == ((rd_T67 x1 x13).f1)))) = true then (some false) else (slices_Equal_impl_Tile_impl_Tile.l0 k x0 x1 x12 (wrap64 (x13 + 1)))) else (none)) else (none)) else (none)) else (some true)
def slices_Equal_impl_Tile_impl_Tile.f (k : Nat) (l0 : List (S67)) (l1 : List (S67)) : Option (Bool) := if (l0.length : Int) = (l1.length : Int) then (slices_Equal_impl_Tile_impl_Tile.l0 k l0 l1 (l0.length : Int) 0) else (some false)
/-! ### impl_Puzzle_fits: function 44 -/
def impl_Puzzle_fits.f (l0_0 : List (S67)) (l0_1 : List Int) (a1 : Int) (a2 : Int) : Option (Bool) := if 0 ≤ a1 then (if a1 < (l0_1.length : Int) then (if (rd l0_1 a1) = (-1) then (some true) else (some ((rd l0_1 a1) == a2))) else (none)) else (none)
set_option maxHeartbeats 8000000 in
set_option maxRecDepth 100000 in
theorem impl_Puzzle_fits.calls (A0_0 : Option Addr) (c0_0 : Nat) (l0_0 : List (S67)) (A0_1 : Option Addr) (c0_1 : Nat) (l0_1 : List Int) (a1 : Int) (a2 : Int) (r : Bool) (w : World) (hr0_0 : Kd.C k67 w A0_0 l0_0.length l0_0) (hc0_0 : l0_0.length ≤ c0_0) (hr0_1 : Kd.C (Kd.int .i64) w A0_1 l0_1.length l0_1) (hc0_1 : l0_1.length ≤ c0_1) (h : impl_Puzzle_fits.f l0_0 l0_1 a1 a2 = some r) :
  Calls Tryz.prog 44 #[.agg #[.slice A0_0 l0_0.length c0_0, .slice A0_1 l0_1.length c0_1], .int .i64 a1, .int .i64 a2] w fun e w' => e = .returned (.bool r) ∧ Below w.heap.size w w' := by
 have hu29 := Tryz.underlying29
 have HR0_0 := Aside0.mk hr0_0
 have HC0_0 := Aside0.mk hc0_0
 clear hr0_0 hc0_0
 have HR0_1 := Aside0.mk hr0_1
 have HC0_1 := Aside0.mk hc0_1
 clear hr0_1 hc0_1
 have HB := Aside0.mk (Below.refl w.heap.size w)
 have H : (if 0 ≤ a1 then (if a1 < (l0_1.length : Int) then (if (rd l0_1 a1) = (-1) then (some true) else (some ((rd l0_1 a1) == a2))) else (none)) else (none)) = some r := h
 clear h
 by_cases c4 : 0 ≤ a1
 ·rw [if_pos c4] at H
  have c4b0 : decide (0 ≤ a1) = true := decide_eq_true c4
  clear c4
  by_cases c5 : a1 < (l0_1.length : Int)
  ·rw [if_pos c5] at H
   have c5b0 : decide (a1 < (l0_1.length : Int)) = true := decide_eq_true c5
   clear c5
   by_cases c6 : (rd l0_1 a1) = (-1)
   ·rw [if_pos c6] at H
    have c6b0 : ((rd l0_1 a1) == (-1)) = true := beq_iff_eq.mpr c6
    have c6b1 : ((rd l0_1 a1) != (-1)) = false := bne_eq_false_iff_eq.mpr c6
    clear c6
    obtain rfl := Option.some.inj H
    go_enter Tryz.func44, Tryz.ntmps44
    go_wp2_with (first | ((with_reducible refine gate_dst (N := 3) rfl ?_); refine box_event ?hg (N := 3) ?hd (cs := #[.slice A0_0 l0_0.length c0_0, .slice A0_1 l0_1.length c0_1]) (t := 29) ?hr ?_; (case hd => rfl); (case hg => rfl); (case hr => first | (go_simp; done) | (go_simp; rfl)); intro gb295 hg w7 hbox hb; have BK295 := Aside0.mk (hbox); have GW295 := Aside0.mk ((by rw [hg]; exact (below_size (by repeat (first | (with_reducible first | exact HB.out | apply below_alloc | apply pw_below_drewN | apply below_drew1) | exact HB.out))) : w.heap.size ≤ gb295)); have GE295 := Aside0.mk ((by rw [hg]; exact (below_size (by repeat (first | (with_reducible first | exact HB.out | apply below_alloc | apply pw_below_drewN | apply below_drew1) | exact HB.out))) : w.heap.size ≤ gb295)); replace HB := Aside0.mk (below_step (by repeat (first | (with_reducible first | exact HB.out | apply below_alloc | apply pw_below_drewN | apply below_drew1) | exact HB.out)) hb); clear hb hbox hg; have hcz8_0 : w7.cell? ⟨gb295, 0, none⟩ = some (.slice A0_0 l0_0.length c0_0) := (blk_cell BK295.out 0).trans rfl; have hcz8_1 : w7.cell? ⟨gb295, 1, none⟩ = some (.slice A0_1 l0_1.length c0_1) := (blk_cell BK295.out 1).trans rfl; have hfz8_0 := blk_frozen BK295.out 0; have hfz8_1 := blk_frozen BK295.out 1; have p296 : 0 ≤ (a1 : Int) := of_decide_eq_true (by first | (with_reducible assumption) | assumption); have q296 : a1 < (l0_1.length : Int) := of_decide_eq_true (by first | (with_reducible assumption) | assumption); obtain ⟨ad296, e296, hx296_0⟩ := Kd.at_int HR0_1.out a1 p296 q296; cases e296; replace hx296_0 := (HB.out.cell (World.block_lt_of_cell? w _ hx296_0)).trans hx296_0; replace p296 := eq_true p296; replace q296 := eq_true q296))
    go_ret
    exact ⟨by first | rfl | (simp [errW_none, errW_some] <;> rfl) | (simp [*, errW_none, errW_some] <;> rfl), by repeat (first | (with_reducible first | exact HB.out | apply below_alloc | apply pw_below_drewN | apply below_drew1 | refine below_set ?_ GE295.out) | exact HB.out)⟩
   ·rw [if_neg c6] at H
    have c6b0 : ((rd l0_1 a1) == (-1)) = false := beq_eq_false_iff_ne.mpr c6
    have c6b1 : ((rd l0_1 a1) != (-1)) = true := bne_iff_ne.mpr c6
    obtain rfl := Option.some.inj H
    go_enter Tryz.func44, Tryz.ntmps44
    go_wp2_with (first | ((with_reducible refine gate_dst (N := 3) rfl ?_); refine box_event ?hg (N := 3) ?hd (cs := #[.slice A0_0 l0_0.length c0_0, .slice A0_1 l0_1.length c0_1]) (t := 29) ?hr ?_; (case hd => rfl); (case hg => rfl); (case hr => first | (go_simp; done) | (go_simp; rfl)); intro gb295 hg w9 hbox hb; have BK295 := Aside0.mk (hbox); have GW295 := Aside0.mk ((by rw [hg]; exact (below_size (by repeat (first | (with_reducible first | exact HB.out | apply below_alloc | apply pw_below_drewN | apply below_drew1) | exact HB.out))) : w.heap.size ≤ gb295)); have GE295 := Aside0.mk ((by rw [hg]; exact (below_size (by repeat (first | (with_reducible first | exact HB.out | apply below_alloc | apply pw_below_drewN | apply below_drew1) | exact HB.out))) : w.heap.size ≤ gb295)); replace HB := Aside0.mk (below_step (by repeat (first | (with_reducible first | exact HB.out | apply below_alloc | apply pw_below_drewN | apply below_drew1) | exact HB.out)) hb); clear hb hbox hg; have hcz10_0 : w9.cell? ⟨gb295, 0, none⟩ = some (.slice A0_0 l0_0.length c0_0) := (blk_cell BK295.out 0).trans rfl; have hcz10_1 : w9.cell? ⟨gb295, 1, none⟩ = some (.slice A0_1 l0_1.length c0_1) := (blk_cell BK295.out 1).trans rfl; have hfz10_0 := blk_frozen BK295.out 0; have hfz10_1 := blk_frozen BK295.out 1; have p296 : 0 ≤ (a1 : Int) := of_decide_eq_true (by first | (with_reducible assumption) | assumption); have q296 : a1 < (l0_1.length : Int) := of_decide_eq_true (by first | (with_reducible assumption) | assumption); obtain ⟨ad296, e296, hx296_0⟩ := Kd.at_int HR0_1.out a1 p296 q296; cases e296; replace hx296_0 := (HB.out.cell (World.block_lt_of_cell? w _ hx296_0)).trans hx296_0; replace p296 := eq_true p296; replace q296 := eq_true q296; have p297 : 0 ≤ (a1 : Int) := of_decide_eq_true (by first | (with_reducible assumption) | assumption); have q297 : a1 < (l0_1.length : Int) := of_decide_eq_true (by first | (with_reducible assumption) | assumption); obtain ⟨ad297, e297, hx297_0⟩ := Kd.at_int HR0_1.out a1 p297 q297; obtain rfl : ad296 = ad297 := (by injection e297); replace hx297_0 := (HB.out.cell (World.block_lt_of_cell? w _ hx297_0)).trans hx297_0; replace p297 := eq_true p297; replace q297 := eq_true q297))
    go_ret
    exact ⟨by first | rfl | (simp [errW_none, errW_some] <;> rfl) | (simp [*, errW_none, errW_some] <;> rfl), by repeat (first | (with_reducible first | exact HB.out | apply below_alloc | apply pw_below_drewN | apply below_drew1 | refine below_set ?_ GE295.out) | exact HB.out)⟩
  ·rw [if_neg c5] at H
   exact absurd H (by simp)
 ·rw [if_neg c4] at H
  exact absurd H (by simp)

end Go.Proofs.YtfkonhamjnembaaGreat.QFnPuzzlesMade
