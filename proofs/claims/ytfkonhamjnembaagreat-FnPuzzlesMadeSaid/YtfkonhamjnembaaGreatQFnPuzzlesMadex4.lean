-- WRITTEN BY A PROGRAM OF THIS CLAIM'S AUTHOR (wprint.py)
import Derived.Test.YtfkonhamjnembaaGreatQFnPuzzlesMadex0
import Derived.Test.YtfkonhamjnembaaGreatQFnPuzzlesMadex2
import Derived.Test.YtfkonhamjnembaaGreatQFnPuzzlesMadex3
namespace Go.Proofs.YtfkonhamjnembaaGreat.QFnPuzzlesMade
open Go.RowKit Go.Proofs.YtfkonhamjnembaaGreatW.PrintWords Go.Proofs.YtfkonhamjnembaaGreatW.PrintLast Go.Proofs.YtfkonhamjnembaaGreatW.PrintMore
attribute [local go_sem] max2_int min2_int max_two min_two max_three min_three max_four min_four   -- for this text's walks alone
set_option linter.unusedVariables false
set_option linter.unusedSimpArgs false

/-! ### spec_l1Cur_sureChain: function 74 -/
def spec_l1Cur_sureChain.l0 : Nat → Int → List Int → Int → List Int → Int → Int → Option (List Int × Int × Int)
 | 0, _, _, _, _, _, _ => none
 | k + 1, x2, x7, x8, x1000, x1001, x1002 => if x8 > 0 then ((spec_l1Own.f x7).bind fun t154 => ((spec_l1Cur_pick.f x1000 x1001 x1002 (wrap64 (x2 + 1))).bind fun bt157 => (if t154.length < 17592186044416 then ((some (t154 ++ [bt157.1] : List Int)).bind fun y160 => ((spec_haGood.f k y160).bind fun t163 => (if t163 = true then (spec_l1Cur_sureChain.l0 k x2 y160 (wrap64 (x8 - 1)) x1000 bt157.2.1 bt157.2.2) else (spec_l1Cur_sureChain.l0 k x2 x7 (wrap64 (x8 - 1)) x1000 bt157.2.1 bt157.2.2)))) else (none)))) else (some (x7, x1001, x1002))
def spec_l1Cur_sureChain.f (k : Nat) (s0_0 : List Int) (s0_1 : Int) (s0_2 : Int) (a1 : Int) (a2 : Int) : Option (List Int × Int × Int) := (spec_l1Cur_pick.f s0_0 s0_1 s0_2 (wrap64 (a2 + 1))).bind fun bt145 => ((spec_l1Cur_pick.f s0_0 bt145.2.1 bt145.2.2 (wrap64 (a1 + 1))).bind fun bt151 => (spec_l1Cur_sureChain.l0 k a2 (([bt145.1] : List Int)) bt151.1 s0_0 bt151.2.1 bt151.2.2))
/-! ### spec_l1Cur_among: function 75 -/
def spec_l1Cur_among.f (s0_0 : List Int) (s0_1 : Int) (s0_2 : Int) (l1 : List Int) : Option (Int × Int × Int) := (spec_l1Cur_pick.f s0_0 s0_1 s0_2 (l1.length : Int)).bind fun bt164 => (if 0 ≤ bt164.1 then (if bt164.1 < (l1.length : Int) then (some (rd l1 bt164.1, bt164.2.1, bt164.2.2)) else (none)) else (none))
/-! ### spec_l1Cur_chain: function 30 -/
def spec_l1Cur_chain.f (k : Nat) (s0_0 : List Int) (s0_1 : Int) (s0_2 : Int) (a1 : Int) (a2 : Int) : Option (List Int × Int × Int) := (spec_l1Cur_sureChain.f k s0_0 s0_1 s0_2 a1 a2).bind fun bt168 => ((spec_l1Cur_pick.f s0_0 bt168.2.1 bt168.2.2 14).bind fun bt173 => (if bt173.1 = 0 then (if 0 < (bt168.1.length : Int) then ((spec_l1Cur_among.f s0_0 bt173.2.1 bt173.2.2 (([(-1), 10, 4611686018427387904, rd bt168.1 0] : List Int))).bind fun bt180 => (if bt168.1.length < 17592186044416 then (some ((bt168.1 ++ [bt180.1]), bt180.2.1, bt180.2.2)) else (none))) else (none)) else (if bt173.1 = 1 then (if bt168.1.length + bt168.1.length < 17592186044416 then (some ((bt168.1 ++ bt168.1), bt173.2.1, bt173.2.2)) else (none)) else (if bt173.1 = 2 then (some (([] : List Int), bt173.2.1, bt173.2.2)) else (some (bt168.1, bt173.2.1, bt173.2.2))))))
/-! ### spec_DrawMakePuzzle: function 5 -/
def spec_DrawMakePuzzle.f (k : Nat) (l0 : List Int) : Option (List Int × Int) := (spec_l1Cur_chain.f k l0 0 0 9 5).bind fun bt190 => ((spec_l1Cur_pick.f l0 bt190.2.1 bt190.2.2 5).bind fun bt195 => ((spec_l1Cur_pick.f l0 bt195.2.1 bt195.2.2 9).bind fun bt198 => ((spec_l1Cur_pick.f l0 bt198.2.1 bt198.2.2 9).bind fun bt201 => (some (bt190.1, wrap64 ((wrap64 (bt195.1 - (wrap64 (Int.tdiv bt198.1 8)))) + (wrap64 (4 * (wrap64 (Int.tdiv bt201.1 8))))))))))
/-! ### impl_tile: function 79 -/
def impl_tile.f (a0 : Int) (a1 : Int) : Option (Int × Int) := some (mn a0 a1, mx a0 a1)
set_option maxHeartbeats 8000000 in
set_option maxRecDepth 100000 in
theorem impl_tile.calls (a0 : Int) (a1 : Int) (r1 : Int) (r2 : Int) (w : World) (h : impl_tile.f a0 a1 = some (r1, r2)) :
  Calls Tryz.prog 79 #[.int .i64 a0, .int .i64 a1] w fun e w' => e = .returned (.agg #[.int .i64 r1, .int .i64 r2]) ∧ Below w.heap.size w w' := by
 have hu67 := Tryz.underlying67
 have HB := Aside0.mk (Below.refl w.heap.size w)
 have H : (some (mn a0 a1, mx a0 a1)) = some (r1, r2) := h
 clear h
 obtain ⟨ji3, hji3⟩ : ∃ j_ : Int, (mn a0 a1) = j_ := ⟨_, rfl⟩
 replace H : (some (ji3, mx a0 a1)) = some (r1, r2) := by first | (rw [hji3] at H; exact H) | (simp only [hji3] at H ⊢; exact H)
 have hji3_ : (if a1 < a0 then a1 else a0) = ji3 := hji3
 obtain ⟨ji4, hji4⟩ : ∃ j_ : Int, (mx a0 a1) = j_ := ⟨_, rfl⟩
 replace H : (some (ji3, ji4)) = some (r1, r2) := by first | (rw [hji4] at H; exact H) | (simp only [hji4] at H ⊢; exact H)
 have hji4_ : (if a0 < a1 then a1 else a0) = ji4 := hji4
 simp only [Option.some.injEq, Prod.mk.injEq] at H
 obtain ⟨rfl, rfl⟩ := H
 go_enter Tryz.func79, Tryz.ntmps79
 go_wp2_with (first | ((with_reducible refine gate_dst (N := 4) rfl ?_); refine box_event ?hg (N := 4) ?hd (cs := #[.int .i64 0, .int .i64 0]) (t := 67) ?hr ?_; (case hd => rfl); (case hg => rfl); (case hr => first | (go_simp; done) | (go_simp; rfl)); intro gb204 hg w5 hbox hb; have BK204 := Aside0.mk (hbox); have GW204 := Aside0.mk ((by rw [hg]; exact (below_size (by repeat (first | (with_reducible first | exact HB.out | apply below_alloc | apply pw_below_drewN | apply below_drew1) | exact HB.out))) : w.heap.size ≤ gb204)); have GE204 := Aside0.mk ((by rw [hg]; exact (below_size (by repeat (first | (with_reducible first | exact HB.out | apply below_alloc | apply pw_below_drewN | apply below_drew1) | exact HB.out))) : w.heap.size ≤ gb204)); replace HB := Aside0.mk (below_step (by repeat (first | (with_reducible first | exact HB.out | apply below_alloc | apply pw_below_drewN | apply below_drew1) | exact HB.out)) hb); clear hb hbox hg; have hcz6_0 : w5.cell? ⟨gb204, 0, none⟩ = some (.int .i64 0) := (blk_cell BK204.out 0).trans rfl; have hcz6_1 : w5.cell? ⟨gb204, 1, none⟩ = some (.int .i64 0) := (blk_cell BK204.out 1).trans rfl; have hfz6_0 := blk_frozen BK204.out 0; have hfz6_1 := blk_frozen BK204.out 1))
 refine bodyPost_ret (results_cell_row rfl _ _ gb204 67 #[.int .i64 ji3, .int .i64 ji4] (0, 0) _ rfl (by (with_reducible repeat (first | refine blk_drewN ?_ _ | refine blk_drew ?_ | refine blk_alloc ?_ _)); refine blk_put (cs := #[.int .i64 ji3, .int .i64 0]) ?_ 1 _ rfl; (with_reducible repeat (first | refine blk_drewN ?_ _ | refine blk_drew ?_ | refine blk_alloc ?_ _)); refine blk_put (cs := #[.int .i64 0, .int .i64 0]) ?_ 0 _ rfl; (with_reducible repeat (first | refine blk_drewN ?_ _ | refine blk_drew ?_ | refine blk_alloc ?_ _)); exact BK204.out) Tryz.underlying67 rfl (by kernel_rfl)) rfl ?_
 exact ⟨by first | rfl | (simp [errW_none, errW_some] <;> rfl) | (simp only [← hji3, ← hji4]; first | rfl | (simp [errW_none, errW_some] <;> rfl)) | (simp [*, errW_none, errW_some] <;> rfl), by repeat (first | (with_reducible first | exact HB.out | apply below_alloc | apply pw_below_drewN | apply below_drew1 | refine below_set ?_ GE204.out) | exact HB.out)⟩

/-! ### impl_tilesOf: function 35 -/
def impl_tilesOf.l0 : Nat → List Int → List (S67) → Int → Option ((List (S67)))
 | 0, _, _, _ => none
 | k + 1, x0, x3, x4 => if x4 < (x0.length : Int) then (if 0 ≤ (wrap64 (x4 - 1)) then (if (wrap64 (x4 - 1)) < (x0.length : Int) then (if 0 ≤ x4 then ((impl_tile.f (rd x0 (wrap64 (x4 - 1))) (rd x0 x4)).bind fun bt210 => (if x3.length < 8796093022208 then (impl_tilesOf.l0 k x0 (x3 ++ [(⟨bt210.1, bt210.2⟩ : S67)]) (wrap64 (x4 + 1))) else (none))) else (none)) else (none)) else (none)) else (some x3)
def impl_tilesOf.f (k : Nat) (l0 : List Int) : Option ((List (S67))) := impl_tilesOf.l0 k l0 (([] : List (S67))) 1
/-! ### slices_IndexFunc_int_int: function 105, by hand -/
/-- The first place at which p holds, or -1. -/
def idxOf {α : Type} (p : α → Bool) : List α → Int
 | [] => -1
 | x :: xs => if p x then 0 else (if idxOf p xs < 0 then -1 else idxOf p xs + 1)

theorem idxOf_none {α : Type} (p : α → Bool) (d : α) : ∀ l : List α, (∀ j, j < l.length → p (l.getD j d) = false) → idxOf p l = -1 := by
 intro l
 induction l with
 | nil => intro _; rfl
 | cons x xs ih =>
  intro h
  have h0 := h 0 (by simp)
  simp at h0
  have h1 := ih (fun j hj => by have := h (j + 1) (by simp; omega); simpa using this)
  simp only [idxOf, h0, h1]
  decide
theorem idxOf_at {α : Type} (p : α → Bool) (d : α) : ∀ (l : List α) (k : Nat), k < l.length → (∀ j, j < k → p (l.getD j d) = false) → p (l.getD k d) = true → idxOf p l = k := by
 intro l
 induction l with
 | nil => intro k h; simp at h
 | cons x xs ih =>
  intro k hk h hp
  cases k with
  | zero =>
   simp at hp
   simp [idxOf, hp]
  | succ k =>
   have h0 := h 0 (by omega)
   simp at h0
   have h1 := ih k (by simpa using hk) (fun j hj => by have := h (j + 1) (by omega); simpa using this) (by simpa using hp)
   simp only [idxOf, h0, h1]
   simp
   omega
theorem idxOf_any {α : Type} (p : α → Bool) (l : List α) : decide (0 ≤ idxOf p l) = l.any p := by
 induction l with
 | nil => rfl
 | cons x xs ih =>
  unfold idxOf
  rw [List.any_cons]
  generalize p x = b
  cases b
  ·simp only [Bool.false_or, ← ih]
   have hn : ¬ (false = true) := by decide
   rw [if_neg hn]
   by_cases h : idxOf p xs < 0
   ·rw [if_pos h, decide_eq_false (by omega), decide_eq_false (by omega)]
   ·rw [if_neg h, decide_eq_true (by omega), decide_eq_true (by omega)]
  ·simp

theorem enters_of' {f : FuncId} {fn : Func} (hf : Tryz.prog.funcs[f]? = some fn) (hname : (fn.name == "runtime.NumGoroutine") = false) (hb : fn.body.isSome = true) : ∀ args w, (callFunc f args).run Tryz.prog w = .ok (.enter f args) w :=
 fun args w => enters_ hf hname hb args w

theorem idxI (fi : FuncId) (caps : Array Value) (p : Int → Bool) (A0 : Option Addr) (c0 : Nat) (l0 : List Int) (w : World) (hr0 : Kd.C (Kd.int .i64) w A0 l0.length l0)
  (eg : ∀ args w, (callFunc fi args).run Tryz.prog w = .ok (.enter fi args) w)
  (hp : ∀ (x : Int) (W : World), Below w.heap.size w W → Calls Tryz.prog fi (#[.int .i64 x] ++ caps) W fun e w' => e = .returned (.bool (p x)) ∧ Below W.heap.size W w') :
  Calls Tryz.prog 105 #[.slice A0 l0.length c0, .func (.func fi) #[] caps] w fun e w' => e = .returned (.int .i64 (idxOf p l0)) ∧ Below w.heap.size w w' := by
 have hlen := hr0.2.1
 have HR := Lib.hid hr0
 clear hr0
 go_enter Tryz.func105, Tryz.ntmps105
 go_wp2
 go_loopw [8] (fun i wr => ∃ k : Nat, k ≤ l0.length ∧ i = .int .i64 k ∧ Hid (∀ j, j < k → p (l0.getD j 0) = false) ∧ Below w.heap.size w wr) (fun i _ => l0.length - (intOf i).toNat)
 case atStart => exact ⟨0, Nat.zero_le _, rfl, Lib.hid (fun j h => absurd h (Nat.not_lt_zero _)), Below.refl _ _⟩
 case round =>
  obtain ⟨k, hk, rfl, hnone, hbel⟩ := hrel
  by_cases hlt : k < l0.length
  ·obtain ⟨ad, rfl, hx0⟩ := Kd.at_int (Kd.C_below HR.out hbel) (k : Int) (by omega) (by omega)
   rw [show ((k : Int)).toNat = k from rfl] at hx0
   have hc := hp (rd l0 k) _ hbel
   cases hpk : p (rd l0 k)
   ·rw [hpk] at hc
    have HP := Lib.hid hpk
    clear hpk
    go_wp2_with (refine hc.mono ?_; rintro e w1 ⟨rfl, hb1⟩)
    go_roundw
    case rel => exact ⟨k + 1, by omega, by go_num, Lib.hid (fun j hj => by
     by_cases e : j = k
     ·subst e
      exact HP.out
     ·exact hnone.out j (by omega)), hbel.trans (hb1.mono hbel.size)⟩
    case measure => simp [intOf]; omega
   ·rw [hpk] at hc
    have HP := Lib.hid hpk
    clear hpk
    go_wp2_with (refine hc.mono ?_; rintro e w1 ⟨rfl, hb1⟩)
    go_ret
    exact ⟨by rw [idxOf_at p 0 l0 k hlt hnone.out HP.out]; rfl, hbel.trans (hb1.mono hbel.size)⟩
  ·go_wp2
   go_ret
   have e : k = l0.length := by omega
   subst e
   exact ⟨by rw [idxOf_none p 0 l0 hnone.out]; rfl, hbel⟩


/-! ### slices_ContainsFunc_int_int: function 85, by hand -/
theorem conI (fi : FuncId) (caps : Array Value) (p : Int → Bool) (A0 : Option Addr) (c0 : Nat) (l0 : List Int) (w : World) (hr0 : Kd.C (Kd.int .i64) w A0 l0.length l0)
  (eg : ∀ args w, (callFunc fi args).run Tryz.prog w = .ok (.enter fi args) w)
  (hp : ∀ (x : Int) (W : World), Below w.heap.size w W → Calls Tryz.prog fi (#[.int .i64 x] ++ caps) W fun e w' => e = .returned (.bool (p x)) ∧ Below W.heap.size W w') :
  Calls Tryz.prog 85 #[.slice A0 l0.length c0, .func (.func fi) #[] caps] w fun e w' => e = .returned (.bool (l0.any p)) ∧ Below w.heap.size w w' := by
 have hi := idxI fi caps p A0 c0 l0 w hr0 eg hp
 have HA := Lib.hid (idxOf_any p l0)
 clear hp eg hr0
 generalize idxOf p l0 = z at hi HA
 generalize l0.any p = b at HA ⊢
 go_enter Tryz.func85, Tryz.ntmps85
 go_wp2_with (go_at_call 105; refine hi.mono ?_; rintro e w' ⟨rfl, hb⟩)
 go_ret
 have h := HA.out
 subst h
 exact ⟨rfl, hb⟩


/-! ### impl_within: function 33 -/
def impl_within.f (a0 : Int) (a1 : Int) (a2 : Int) : Option (Bool) := if a1 ≤ a0 then (some (decide (a0 ≤ a2))) else (some false)
set_option maxHeartbeats 8000000 in
set_option maxRecDepth 100000 in
theorem impl_within.calls (a0 : Int) (a1 : Int) (a2 : Int) (r : Bool) (w : World) (h : impl_within.f a0 a1 a2 = some r) :
  Calls Tryz.prog 33 #[.int .i64 a0, .int .i64 a1, .int .i64 a2] w fun e w' => e = .returned (.bool r) ∧ Drawn0 w w' := by
 have H : (if a1 ≤ a0 then (some (decide (a0 ≤ a2))) else (some false)) = some r := h
 clear h
 by_cases c4 : a1 ≤ a0
 ·rw [if_pos c4] at H
  have c4b0 : decide (a1 ≤ a0) = true := decide_eq_true c4
  clear c4
  obtain rfl := Option.some.inj H
  go_enter Tryz.func33, Tryz.ntmps33
  go_wp2
  go_ret
  exact ⟨by first | rfl | (simp; done) | (simp [*]; done), by repeat (first | exact Drawn0.refl _ | apply Drawn0.step)⟩
 ·rw [if_neg c4] at H
  have c4b0 : decide (a1 ≤ a0) = false := decide_eq_false c4
  clear c4
  obtain rfl := Option.some.inj H
  go_enter Tryz.func33, Tryz.ntmps33
  go_wp2
  go_ret
  exact ⟨by first | rfl | (simp; done) | (simp [*]; done), by repeat (first | exact Drawn0.refl _ | apply Drawn0.step)⟩

-- NOT PRINTED: function 86 (impl_areWithin_1)

/-! ### impl_areWithin: function 48, by hand -/
def inB (lo hi n : Int) : Bool := decide (lo ≤ n) && decide (n ≤ hi)
theorem within_f (n lo hi : Int) : impl_within.f n lo hi = some (inB lo hi n) := by
 unfold impl_within.f inB
 by_cases h1 : lo ≤ n
 ·simp [h1]
 ·simp [h1]

theorem areWithin_1 (n lo hi : Int) (g1 g2 : Nat) (w : World) (h1 : w.cell? ⟨g1, 0, none⟩ = some (.int .i64 lo)) (h2 : w.cell? ⟨g2, 0, none⟩ = some (.int .i64 hi)) :
  Calls Tryz.prog 86 #[.int .i64 n, .pointer (some ⟨g1, 0, none⟩), .pointer (some ⟨g2, 0, none⟩)] w fun e w' => e = .returned (.bool (!inB lo hi n)) ∧ Below w.heap.size w w' := by
 go_enter Tryz.func86, Tryz.ntmps86
 go_wp2_with (go_at_call 33; refine (impl_within.calls n lo hi _ _ (within_f n lo hi)).mono ?_; rintro e w' ⟨rfl, ⟨nd, rfl⟩⟩)
 go_ret
 exact ⟨rfl, pw_below_drewN (Below.refl _ _) _⟩

/-- areWithin: no number lies outside. -/
def impl_areWithin.f (l0 : List Int) (a1 a2 : Int) : Option Bool := some (!(l0.any fun n => !inB a1 a2 n))
set_option maxHeartbeats 1000000 in
theorem impl_areWithin.calls (A0 : Option Addr) (c0 : Nat) (l0 : List Int) (a1 : Int) (a2 : Int) (r : Bool) (w : World) (hr0 : Kd.C (Kd.int .i64) w A0 l0.length l0) (_hc0 : l0.length ≤ c0) (h : impl_areWithin.f l0 a1 a2 = some r) :
  Calls Tryz.prog 48 #[.slice A0 l0.length c0, .int .i64 a1, .int .i64 a2] w fun e w' => e = .returned (.bool r) ∧ Below w.heap.size w w' := by
 have hmf : ∀ (fn : Fn) (first cap : Array Value) (w : World), (Instr.makeFunc fn first cap).run Tryz.prog w = .ok (.func fn first cap) w := fun _ _ _ _ => rfl
 obtain rfl := Option.some.inj h
 have hb0 : Below w.heap.size w ((w.alloc (.cells #[.int .i64 a1] 3)).alloc (.cells #[.int .i64 a2] 3)) := ((Below.refl _ _).alloc (Nat.le_refl _) _).alloc (by simp) _
 have hcon := conI 86 #[.pointer (some ⟨w.heap.size, 0, none⟩), .pointer (some ⟨w.heap.size + 1, 0, none⟩)] (fun n => !inB a1 a2 n) A0 c0 l0 ((w.alloc (.cells #[.int .i64 a1] 3)).alloc (.cells #[.int .i64 a2] 3)) (Kd.C_below hr0 hb0)
  (enters_of' Tryz.func86 (by kernel_rfl) rfl) (fun x W hW => areWithin_1 x a1 a2 _ _ W
   ((hW.cell (p := ⟨w.heap.size, 0, none⟩) (by simp; omega)).trans (by rw [World.cell?_alloc_past _ _ _ (by simp), World.cell?_alloc_at _ _ _ _ rfl]; rfl))
   ((hW.cell (p := ⟨w.heap.size + 1, 0, none⟩) (by simp)).trans (by rw [World.cell?_alloc_at _ _ _ _ (by simp)]; rfl)))
 generalize (l0.any fun n => !inB a1 a2 n) = b at hcon ⊢
 clear h hr0
 go_enter Tryz.func48, Tryz.ntmps48
 go_wp2_with (go_at_call 85; refine hcon.mono ?_; rintro e w' ⟨rfl, hb⟩)
 go_ret
 exact ⟨rfl, hb0.trans (hb.mono (by simp; omega))⟩

end Go.Proofs.YtfkonhamjnembaaGreat.QFnPuzzlesMade
