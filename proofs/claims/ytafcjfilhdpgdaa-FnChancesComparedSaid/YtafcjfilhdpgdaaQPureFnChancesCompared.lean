/- For every input the law FnChancesCompared answers true: the plain statement over lists and numbers. No conditions. -/
import Derived.Test.YtafcjfilhdpgdaaQFnChancesComparedx17
import Derived.Test.YtafcjfilhdpgdaaQPureAFnChancesCompared
import Derived.Test.YtafcjfilhdpgdaaQPureBFnChancesCompared
namespace Go.Proofs.Ytafcjfilhdpgdaa.QPure
open Go.RowKit Go.Proofs.Ytafcjfilhdpgdaa.QFnChancesCompared Go.Proofs.YtafcjfilhdpgdaaW.PrintWords Go.Proofs.YtafcjfilhdpgdaaW.PrintLast Go.Proofs.Ytafcjfilhdpgdaa.QPureA

set_option linter.unusedVariables false
set_option linter.unusedSimpArgs false
/-! What the reference draws out of bytes: it always draws something. -/
theorem d_bits (E : Int) (h0 : 0 ≤ E) (h1 : E ≤ 18446744073709551615) : 0 ≤ Go.bits .and .u64 E 255 ∧ Go.bits .and .u64 E 255 ≤ 255 := by
  have h := bits_and_u64_nat E.toNat 255 (by omega) (by omega)
  rw [Int.toNat_of_nonneg h0] at h
  have h2 : (E.toNat &&& 255) ≤ 255 := Nat.and_le_right
  have h3 : Go.bits .and .u64 E 255 = ((E.toNat &&& 255 : Nat) : Int) := h
  omega
theorem d_w (n : Int) (h : -1000000000 ≤ n) (h' : n ≤ 1000000000) : wrap64 n = n := by
  unfold wrap64
  omega
theorem d_rd (l : List Int) (hl : ∀ x ∈ l, 0 ≤ x ∧ x ≤ 255) (p : Int) : 0 ≤ rd l p ∧ rd l p ≤ 255 := by
  unfold rd
  rw [List.getD_eq_getElem?_getD]
  by_cases h : p.toNat < l.length
  · rw [List.getElem?_eq_getElem h]
    exact hl _ (List.getElem_mem _)
  · rw [List.getElem?_eq_none (by omega)]
    simp
theorem d_next (l : List Int) (hl : ∀ x ∈ l, 0 ≤ x ∧ x ≤ 255) (p s : Int) (hp : 0 ≤ p ∧ p ≤ 1000000) : ∃ v s', spec_l1Cur_next.f l p s = some (v, p + 1, s') ∧ 0 ≤ v ∧ v ≤ 255 := by
  have h := d_rd l hl p
  have hb : ∀ n : Int, 0 ≤ wrap64 (Go.bits .and .u64 (IntKind.u64.wrap n / 1099511627776) 255) ∧ wrap64 (Go.bits .and .u64 (IntKind.u64.wrap n / 1099511627776) 255) ≤ 255 := by
    intro n
    have h := d_bits (IntKind.u64.wrap n / 1099511627776) (by rw [IntKind.wrap_u64]; omega) (by rw [IntKind.wrap_u64]; omega)
    rw [d_w _ (by omega) (by omega)]
    exact h
  unfold spec_l1Cur_next.f
  rw [d_w (p + 1) (by omega) (by omega)]
  by_cases h1 : p < (l.length : Int)
  · rw [if_pos h1, if_pos hp.1]
    by_cases h2 : p + 1 ≤ (l.length : Int)
    · rw [if_pos h2]
      exact ⟨_, _, rfl, by rw [d_w _ (by omega) (by omega)]; exact h⟩
    · rw [if_neg h2]
      exact ⟨_, _, rfl, hb _⟩
  · rw [if_neg h1]
    by_cases h2 : p + 1 ≤ (l.length : Int)
    · rw [if_pos h2]
      exact ⟨_, _, rfl, by omega, by omega⟩
    · rw [if_neg h2]
      exact ⟨_, _, rfl, hb _⟩
theorem d_pick (l : List Int) (hl : ∀ x ∈ l, 0 ≤ x ∧ x ≤ 255) (p s : Int) (hp : 0 ≤ p ∧ p ≤ 100000) (a : Int) (ha : 1 ≤ a) : ∃ v p' s', spec_l1Cur_pick.f l p s a = some (v, p', s') ∧ 0 ≤ v ∧ v < a ∧ 0 ≤ p' ∧ p' ≤ p + 2 := by
  unfold spec_l1Cur_pick.f
  by_cases h1 : a ≤ 1
  · rw [if_pos h1]
    exact ⟨0, p, s, rfl, by omega, by omega, by omega, by omega⟩
  · rw [if_neg h1]
    obtain ⟨v, s1, e1, v0, v1⟩ := d_next l hl p s (by omega)
    rw [e1]
    simp only [Option.bind_some]
    by_cases h2 : a > 200
    · rw [if_pos h2]
      obtain ⟨u, s2, e2, u0, u1⟩ := d_next l hl (p + 1) s1 (by omega)
      rw [e2]
      simp only [Option.bind_some]
      rw [if_neg (by omega), d_w (v * 256) (by omega) (by omega), d_w _ (by omega) (by omega)]
      exact ⟨_, _, _, rfl, Int.tmod_nonneg _ (by omega), Int.tmod_lt_of_pos _ (by omega), by omega, by omega⟩
    · rw [if_neg h2, if_neg (by omega)]
      exact ⟨_, _, _, rfl, Int.tmod_nonneg _ (by omega), Int.tmod_lt_of_pos _ (by omega), by omega, by omega⟩
theorem d_among (l : List Int) (hl : ∀ x ∈ l, 0 ≤ x ∧ x ≤ 255) (p s : Int) (hp : 0 ≤ p ∧ p ≤ 100000) (xs : List Int) (hx : 1 ≤ xs.length) : ∃ v p' s', spec_l1Cur_among.f l p s xs = some (v, p', s') ∧ 0 ≤ p' ∧ p' ≤ p + 2 := by
  unfold spec_l1Cur_among.f
  obtain ⟨v, q, s1, e1, v0, v1, q0, q1⟩ := d_pick l hl p s hp (xs.length : Int) (by omega)
  rw [e1]
  simp only [Option.bind_some]
  rw [if_pos v0, if_pos v1]
  exact ⟨_, _, _, rfl, q0, q1⟩
theorem d_one (l : List Int) (hl : ∀ x ∈ l, 0 ≤ x ∧ x ≤ 255) (p s : Int) (hp : 0 ≤ p ∧ p ≤ 100000) (a : Int) (ha : 1 ≤ a) : ∃ v p' s', spec_l1Cur_one.f l p s a = some (v, p', s') ∧ 0 ≤ p' ∧ p' ≤ p + 2 := by
  unfold spec_l1Cur_one.f
  obtain ⟨v, q, s1, e1, v0, v1, q0, q1⟩ := d_pick l hl p s hp a ha
  rw [e1]
  exact ⟨_, _, _, rfl, q0, q1⟩

set_option linter.unusedVariables false
set_option linter.unusedSimpArgs false
/-! ### Chances of three numbers -/
def wOk (n k m : Int) : Bool := match impl_ChanceWithout.f 100 n k m, spec_ChanceWithout.f 100 n k m with
  | some a, some b => decide (a = b) && (!a.2.2 || (!decide (0 < m) || (match impl_ChanceWithout.f 100 n k (wrap64 (m - 1)) with
    | some c => c.2.2 && decide (wrap64 (a.1 * c.2.1) ≤ wrap64 (c.1 * a.2.1))
    | none => false)))
  | _, _ => false
theorem w_all : ∀ n : Fin 7, ∀ k : Fin 29, ∀ m : Fin 8, wOk ((n.val : Nat) : Int) ((k.val : Nat) : Int) ((m.val : Nat) : Int) = true := by decide +kernel
def dOk (n k m : Int) : Bool := match impl_ChanceOfTimes.f 100 n k m, spec_ChanceOfTimes.f 100 n k m, impl_ChanceOfDoubles.f 100 n k m, spec_ChanceOfDoubles.f 100 n k m with
  | some a, some b, some c, some d => decide (a = b) && decide (c = d)
  | _, _, _, _ => false
theorem d_all : ∀ n : Fin 7, ∀ k : Fin 29, ∀ m : Fin 8, dOk ((n.val : Nat) : Int) ((k.val : Nat) : Int) ((m.val : Nat) : Int) = true := by decide +kernel
def bOk (n k m : Int) : Bool := match impl_ChanceOfBoth.f 100 n k m, spec_ChanceOfBoth.f 100 n k m with
  | some a, some b => decide (a = b)
  | _, _ => false
theorem b_all : ∀ n : Fin 7, ∀ k : Fin 29, ∀ m : Fin 29, bOk ((n.val : Nat) : Int) ((k.val : Nat) : Int) ((m.val : Nat) : Int) = true := by decide +kernel
theorem g_succ (n : Int) (h : 0 ≤ n ∧ n ≤ 6) : wrap64 (n + 1) ≤ 7 := by
  unfold wrap64
  omega
theorem nats (a b c x y z : Int) (P : Int → Int → Int → Prop) (hx : 0 ≤ a ∧ a ≤ x) (hy : 0 ≤ b ∧ b ≤ y) (hz : 0 ≤ c ∧ c ≤ z) (H : ∀ n k m : Nat, (n : Int) ≤ x → (k : Int) ≤ y → (m : Int) ≤ z → P (n : Int) (k : Int) (m : Int)) : P a b c := by
  obtain ⟨n, rfl⟩ : ∃ m : Nat, a = (m : Int) := ⟨a.toNat, by omega⟩
  obtain ⟨k, rfl⟩ : ∃ m : Nat, b = (m : Int) := ⟨b.toNat, by omega⟩
  obtain ⟨m, rfl⟩ : ∃ m : Nat, c = (m : Int) := ⟨c.toNat, by omega⟩
  exact H n k m hx.2 hy.2 hz.2
theorem out3 (a0 a1 a2 : Int) (h : ¬ ((0 ≤ a0 ∧ a0 ≤ 6) ∧ (0 ≤ a1 ∧ a1 ≤ 28) ∧ (0 ≤ a2 ∧ a2 ≤ 7))) : spec_ChanceWithout.f 100 a0 a1 a2 = some (0, 0, false) ∧ impl_ChanceWithout.f 100 a0 a1 a2 = some (0, 0, false) ∧
    spec_ChanceOfDoubles.f 100 a0 a1 a2 = some (0, 0, false) ∧ impl_ChanceOfDoubles.f 100 a0 a1 a2 = some (0, 0, false) ∧ spec_ChanceOfTimes.f 100 a0 a1 a2 = some (0, 0, false) ∧ impl_ChanceOfTimes.f 100 a0 a1 a2 = some (0, 0, false) := by
  obtain ⟨b, t, hb, ht, hbd⟩ := g_guard a0 a1
  have hd : impl_ChanceOfDoubles.f 100 a0 a1 a2 = some (0, 0, false) ∧ spec_ChanceWithout.f 100 a0 a1 a2 = some (0, 0, false) ∧ impl_ChanceWithout.f 100 a0 a1 a2 = some (0, 0, false) ∧ spec_ChanceOfDoubles.f 100 a0 a1 a2 = some (0, 0, false) ∧ spec_ChanceOfTimes.f 100 a0 a1 a2 = some (0, 0, false) := by
    cases b with
    | false =>
      refine ⟨?_, ?_, ?_, ?_, ?_⟩
      · simp only [impl_ChanceOfDoubles.f, ht, Option.bind_some, Bool.false_eq_true, if_false]
      · simp only [spec_ChanceWithout.f, hb, Option.bind_some, Bool.false_eq_true, if_false]; rfl
      · simp only [impl_ChanceWithout.f, ht, Option.bind_some, Bool.false_eq_true, if_false]
      · simp only [spec_ChanceOfDoubles.f, hb, Option.bind_some, Bool.false_eq_true, if_false]
      · simp only [spec_ChanceOfTimes.f, hb, Option.bind_some, Bool.false_eq_true, if_false]
    | true =>
      obtain ⟨p1, p2, p3, p4, _⟩ := hbd rfl
      have hs := g_succ a0 ⟨p1, p2⟩
      have hn1 := g_l1In_no a2 0 (wrap64 (a0 + 1)) (by omega)
      have hn2 := g_within_no a2 0 (wrap64 (a0 + 1)) (by omega)
      refine ⟨?_, ?_, ?_, ?_, ?_⟩
      · simp only [impl_ChanceOfDoubles.f, ht, hn2, Option.bind_some, if_true, Bool.false_eq_true, if_false]
      · simp only [spec_ChanceWithout.f, hb, hn1, Option.bind_some, if_true]; rfl
      · simp only [impl_ChanceWithout.f, ht, hn2, Option.bind_some, if_true, Bool.false_eq_true, if_false]
      · simp only [spec_ChanceOfDoubles.f, hb, hn1, Option.bind_some, if_true, Bool.false_eq_true, if_false]
      · simp only [spec_ChanceOfTimes.f, hb, hn1, Option.bind_some, if_true, Bool.false_eq_true, if_false]
  obtain ⟨h1, h2, h3, h4, h5⟩ := hd
  refine ⟨h2, h3, h4, h1, h5, ?_⟩
  unfold impl_ChanceOfTimes.f
  rw [h1]
  rfl
theorem without (a0 a1 a2 : Int) : ∃ r : Int × Int × Bool, Ev (fun k => impl_ChanceWithout.f k a0 a1 a2) r ∧ Ev (fun k => spec_ChanceWithout.f k a0 a1 a2) r ∧
    (r.2.2 = true → 0 < a2 → ∃ c : Int × Int × Bool, Ev (fun k => impl_ChanceWithout.f k a0 a1 (wrap64 (a2 - 1))) c ∧ c.2.2 = true ∧ wrap64 (r.1 * c.2.1) ≤ wrap64 (c.1 * r.2.1)) := by
  by_cases h : (0 ≤ a0 ∧ a0 ≤ 6) ∧ (0 ≤ a1 ∧ a1 ≤ 28) ∧ (0 ≤ a2 ∧ a2 ≤ 7)
  · have hw : wOk a0 a1 a2 = true := nats a0 a1 a2 6 28 7 (fun a b c => wOk a b c = true) h.1 h.2.1 h.2.2 fun n k m h1 h2 h3 => w_all ⟨n, by omega⟩ ⟨k, by omega⟩ ⟨m, by omega⟩
    unfold wOk at hw
    cases ha : impl_ChanceWithout.f 100 a0 a1 a2 with
    | none => rw [ha] at hw; simp at hw
    | some a =>
      cases hb : spec_ChanceWithout.f 100 a0 a1 a2 with
      | none => rw [ha, hb] at hw; simp at hw
      | some b =>
        rw [ha, hb] at hw
        simp only [Bool.and_eq_true, decide_eq_true_eq] at hw
        obtain ⟨rfl, hw⟩ := hw
        refine ⟨a, Ev.of (fun k => impl_ChanceWithout.mono _ _ _ k) ha, Ev.of (fun k => spec_ChanceWithout.mono _ _ _ k) hb, fun e1 e2 => ?_⟩
        rw [e1, decide_eq_true e2] at hw
        simp only [Bool.not_true, Bool.false_or] at hw
        cases hc : impl_ChanceWithout.f 100 a0 a1 (wrap64 (a2 - 1)) with
        | none => rw [hc] at hw; simp at hw
        | some c =>
          rw [hc] at hw
          simp only [Bool.and_eq_true, decide_eq_true_eq] at hw
          exact ⟨c, Ev.of (fun k => impl_ChanceWithout.mono _ _ _ k) hc, hw.1, hw.2⟩
  · obtain ⟨h1, h2, _⟩ := out3 a0 a1 a2 h
    exact ⟨(0, 0, false), Ev.of (fun k => impl_ChanceWithout.mono _ _ _ k) h2, Ev.of (fun k => spec_ChanceWithout.mono _ _ _ k) h1, fun e => by cases e⟩
theorem times (a0 a1 a2 : Int) : ∃ r s : Int × Int × Bool, Ev (fun k => impl_ChanceOfTimes.f k a0 a1 a2) r ∧ Ev (fun k => spec_ChanceOfTimes.f k a0 a1 a2) r ∧ Ev (fun k => impl_ChanceOfDoubles.f k a0 a1 a2) s ∧ Ev (fun k => spec_ChanceOfDoubles.f k a0 a1 a2) s := by
  by_cases h : (0 ≤ a0 ∧ a0 ≤ 6) ∧ (0 ≤ a1 ∧ a1 ≤ 28) ∧ (0 ≤ a2 ∧ a2 ≤ 7)
  · have hw : dOk a0 a1 a2 = true := nats a0 a1 a2 6 28 7 (fun a b c => dOk a b c = true) h.1 h.2.1 h.2.2 fun n k m h1 h2 h3 => d_all ⟨n, by omega⟩ ⟨k, by omega⟩ ⟨m, by omega⟩
    unfold dOk at hw
    cases ha : impl_ChanceOfTimes.f 100 a0 a1 a2 with
    | none => rw [ha] at hw; simp at hw
    | some a =>
      cases hb : spec_ChanceOfTimes.f 100 a0 a1 a2 with
      | none => rw [ha, hb] at hw; simp at hw
      | some b =>
        cases hc : impl_ChanceOfDoubles.f 100 a0 a1 a2 with
        | none => rw [ha, hb, hc] at hw; simp at hw
        | some c =>
          cases hd : spec_ChanceOfDoubles.f 100 a0 a1 a2 with
          | none => rw [ha, hb, hc, hd] at hw; simp at hw
          | some d =>
            rw [ha, hb, hc, hd] at hw
            simp only [Bool.and_eq_true, decide_eq_true_eq] at hw
            obtain ⟨rfl, rfl⟩ := hw
            exact ⟨a, c, Ev.of (fun k => impl_ChanceOfTimes.mono _ _ _ k) ha, Ev.of (fun k => spec_ChanceOfTimes.mono _ _ _ k) hb, Ev.of (fun k => impl_ChanceOfDoubles.mono _ _ _ k) hc, Ev.of (fun k => spec_ChanceOfDoubles.mono _ _ _ k) hd⟩
  · obtain ⟨_, _, h3, h4, h5, h6⟩ := out3 a0 a1 a2 h
    exact ⟨_, _, Ev.of (fun k => impl_ChanceOfTimes.mono _ _ _ k) h6, Ev.of (fun k => spec_ChanceOfTimes.mono _ _ _ k) h5, Ev.of (fun k => impl_ChanceOfDoubles.mono _ _ _ k) h4, Ev.of (fun k => spec_ChanceOfDoubles.mono _ _ _ k) h3⟩
theorem g_wrap (n : Int) (h : -1000 ≤ n) (h' : n ≤ 1000) : wrap64 n = n := by
  unfold wrap64
  omega
theorem out2 (a0 a1 a2 : Int) (h : ¬ ((0 ≤ a0 ∧ a0 ≤ 6) ∧ (0 ≤ a1 ∧ a1 ≤ 28) ∧ (0 ≤ a2 ∧ a2 ≤ 28))) : spec_ChanceOfBoth.f 100 a0 a1 a2 = some (0, 0, false) ∧ impl_ChanceOfBoth.f 100 a0 a1 a2 = some (0, 0, false) := by
  constructor
  · unfold spec_ChanceOfBoth.f
    by_cases hn : 0 ≤ a0 ∧ a0 ≤ 6
    · obtain ⟨h0, ht⟩ := g_tiles a0 hn
      unfold tl at h0 ht
      rw [g_l1In_yes a0 0 6 hn]
      simp only [Option.bind_some, if_true, spec_dcTiles.f]
      generalize wrap64 (Int.tdiv (wrap64 ((wrap64 (a0 + 1)) * (wrap64 (a0 + 2)))) 2) = t at ht h0
      by_cases ha : 0 ≤ a1 ∧ a1 ≤ t
      · rw [g_l1In_yes a1 0 t ha]
        simp only [Option.bind_some, if_true]
        rw [g_wrap (t - a1) (by omega) (by omega), g_l1In_no a2 0 (t - a1) (by omega)]
        rfl
      · rw [g_l1In_no a1 0 t ha]
        rfl
    · rw [g_l1In_no a0 0 6 hn]
      rfl
  · unfold impl_ChanceOfBoth.f
    by_cases h1 : a1 < 0
    · rw [if_pos h1]
    · rw [if_neg h1]
      by_cases h2 : a2 < 0
      · rw [if_pos h2]
      · rw [if_neg h2]
        by_cases h3 : a1 > 55
        · rw [if_pos h3]
        · rw [if_neg h3]
          by_cases h4 : a2 > 55
          · rw [if_pos h4]
          · rw [if_neg h4, g_wrap (a1 + a2) (by omega) (by omega)]
            obtain ⟨b, t, hb, ht, hbd⟩ := g_guard a0 (a1 + a2)
            cases b with
            | false =>
              unfold impl_ChanceOfDoubles.f
              rw [ht]
              rfl
            | true =>
              have := hbd rfl
              omega
theorem both_sym (k : Nat) (a0 a1 a2 : Int) (r : Int × Int × Bool) (h : impl_ChanceOfBoth.f k a0 a1 a2 = some r) (hr : r.2.2 = true) : impl_ChanceOfBoth.f k a0 a2 a1 = some r ∧ impl_ChanceOfDoubles.f k a0 (wrap64 (a1 + a2)) 0 = some r := by
  have hno : some ((0, 0, false) : Int × Int × Bool) = some r → False := by
    intro e
    cases e
    cases hr
  unfold impl_ChanceOfBoth.f at h ⊢
  by_cases h1 : a1 < 0
  · rw [if_pos h1] at h
    exact (hno h).elim
  · by_cases h2 : a2 < 0
    · rw [if_neg h1, if_pos h2] at h
      exact (hno h).elim
    · by_cases h3 : a1 > 55
      · rw [if_neg h1, if_neg h2, if_pos h3] at h
        exact (hno h).elim
      · by_cases h4 : a2 > 55
        · rw [if_neg h1, if_neg h2, if_neg h3, if_pos h4] at h
          exact (hno h).elim
        · rw [if_neg h1, if_neg h2, if_neg h3, if_neg h4] at h
          rw [if_neg h1, if_neg h2, if_neg h3, if_neg h4, Int.add_comm a2 a1]
          refine ⟨h, ?_⟩
          cases hd : impl_ChanceOfDoubles.f k a0 (wrap64 (a1 + a2)) 0 with
          | none => rw [hd] at h; cases h
          | some d => rw [hd] at h; exact h
theorem bothly (a0 a1 a2 : Int) : ∃ r : Int × Int × Bool, Ev (fun k => impl_ChanceOfBoth.f k a0 a1 a2) r ∧ Ev (fun k => spec_ChanceOfBoth.f k a0 a1 a2) r ∧
    (r.2.2 = true → Ev (fun k => impl_ChanceOfBoth.f k a0 a2 a1) r ∧ Ev (fun k => impl_ChanceOfDoubles.f k a0 (wrap64 (a1 + a2)) 0) r) := by
  have key : ∃ r : Int × Int × Bool, Ev (fun k => impl_ChanceOfBoth.f k a0 a1 a2) r ∧ Ev (fun k => spec_ChanceOfBoth.f k a0 a1 a2) r := by
    by_cases h : (0 ≤ a0 ∧ a0 ≤ 6) ∧ (0 ≤ a1 ∧ a1 ≤ 28) ∧ (0 ≤ a2 ∧ a2 ≤ 28)
    · have hw : bOk a0 a1 a2 = true := nats a0 a1 a2 6 28 28 (fun a b c => bOk a b c = true) h.1 h.2.1 h.2.2 fun n k m h1 h2 h3 => b_all ⟨n, by omega⟩ ⟨k, by omega⟩ ⟨m, by omega⟩
      unfold bOk at hw
      cases ha : impl_ChanceOfBoth.f 100 a0 a1 a2 with
      | none => rw [ha] at hw; simp at hw
      | some a =>
        cases hb : spec_ChanceOfBoth.f 100 a0 a1 a2 with
        | none => rw [ha, hb] at hw; simp at hw
        | some b =>
          rw [ha, hb] at hw
          have e : a = b := of_decide_eq_true hw
          subst e
          exact ⟨a, Ev.of (fun k => impl_ChanceOfBoth.mono _ _ _ k) ha, Ev.of (fun k => spec_ChanceOfBoth.mono _ _ _ k) hb⟩
    · obtain ⟨h1, h2⟩ := out2 a0 a1 a2 h
      exact ⟨_, Ev.of (fun k => impl_ChanceOfBoth.mono _ _ _ k) h2, Ev.of (fun k => spec_ChanceOfBoth.mono _ _ _ k) h1⟩
  obtain ⟨r, h1, h2⟩ := key
  refine ⟨r, h1, h2, fun hr => ?_⟩
  obtain ⟨K, e⟩ := h1
  exact ⟨⟨K, fun k hk => (both_sym k a0 a1 a2 r (e k hk) hr).1⟩, ⟨K, fun k hk => (both_sym k a0 a1 a2 r (e k hk) hr).2⟩⟩

/-! ### Ratios are compared -/
theorem e_wrap (n : Int) (h : -9223372036854775808 ≤ n) (h' : n ≤ 9223372036854775807) : wrap64 n = n := by
  unfold wrap64
  omega
theorem e_gcd (fuel : Nat) : ∀ x y : Nat, y < fuel → impl_common.l0 fuel (x : Int) (y : Int) = some ((Nat.gcd x y : Nat) : Int) ∧
    ∀ n d : Int, spec_dcRatio.l0 fuel n d (x : Int) (y : Int) = if ((Nat.gcd x y : Nat) : Int) = 0 then none else some (wrap64 (Int.tdiv n ((Nat.gcd x y : Nat) : Int)), wrap64 (Int.tdiv d ((Nat.gcd x y : Nat) : Int))) := by
  induction fuel with
  | zero => intro x y h; omega
  | succ k ih =>
    intro x y hk
    by_cases h : 0 < y
    · have hm : Int.tmod (x : Int) (y : Int) = ((x % y : Nat) : Int) := by
        rw [Int.tmod_eq_emod_of_nonneg (by omega)]
        rfl
      have hlt := Nat.mod_lt x h
      have hg : Nat.gcd y (x % y) = Nat.gcd x y := by
        rw [Nat.gcd_comm x y, Nat.gcd_rec y x, Nat.gcd_comm]
      obtain ⟨i1, i2⟩ := ih y (x % y) (by omega)
      rw [hg] at i1 i2
      constructor
      · simp only [impl_common.l0]
        rw [if_pos (by omega), if_neg (by omega), hm]
        exact i1
      · intro n d
        simp only [spec_dcRatio.l0]
        rw [if_pos (by omega), if_neg (by omega), hm]
        exact i2 n d
    · have : y = 0 := by omega
      subst this
      rw [Nat.gcd_zero_right]
      constructor
      · simp only [impl_common.l0]
        rw [if_neg (by omega)]
      · intro n d
        simp only [spec_dcRatio.l0]
        rw [if_neg (by omega)]
theorem e_div_lt (d g : Int) (hd : 1 ≤ d) (hg : 2 ≤ g) : Int.tdiv d g ≠ d := by
  rw [Int.tdiv_eq_ediv_of_nonneg (by omega)]
  have h1 : d / g * g ≤ d := Int.ediv_mul_le d (by omega)
  intro h
  rw [h] at h1
  have : d * 2 ≤ d * g := Int.mul_le_mul_of_nonneg_left hg (by omega)
  omega
theorem e_is (k : Nat) (n d : Int) (hk : d < k) : ∃ b : Bool, spec_dcIs.f k n d = some b ∧ impl_isRatio.f k n d = some b ∧ (b = true → 0 ≤ n ∧ n ≤ 1000000000 ∧ 1 ≤ d ∧ d ≤ 1000000000 ∧ Nat.gcd n.toNat d.toNat = 1) := by
  by_cases h1 : 0 ≤ n ∧ n ≤ 1000000000
  · by_cases h3 : 1 ≤ d ∧ d ≤ 1000000000
    · obtain ⟨g1, g2⟩ := e_gcd k n.toNat d.toNat (by omega)
      rw [Int.toNat_of_nonneg h1.1, Int.toNat_of_nonneg (show 0 ≤ d by omega)] at g1 g2
      have hp : 0 < Nat.gcd n.toNat d.toNat := Nat.gcd_pos_of_pos_right _ (by omega)
      generalize Nat.gcd n.toNat d.toNat = g at g1 g2 hp
      refine ⟨decide (g = 1), ?_, ?_, fun e => ⟨h1.1, h1.2, h3.1, h3.2, of_decide_eq_true e⟩⟩
      · unfold spec_dcIs.f spec_dcRatio.f
        rw [g_l1In_yes n 0 _ h1]
        simp only [Option.bind_some, if_true]
        rw [g_l1In_yes d 1 _ h3]
        simp only [Option.bind_some, if_true]
        rw [g2 n d, if_neg (by omega)]
        simp only [Option.bind_some]
        by_cases e : g = 1
        · subst e
          rw [show ((1 : Nat) : Int) = 1 from rfl, Int.tdiv_one, Int.tdiv_one, e_wrap n (by omega) (by omega), e_wrap d (by omega) (by omega)]
          simp
        · have hne := e_div_lt d (g : Int) h3.1 (by omega)
          have hq : Int.tdiv d (g : Int) ≤ d := by
            rw [Int.tdiv_eq_ediv_of_nonneg (by omega)]
            exact Int.ediv_le_self _ (by omega)
          have hq0 : 0 ≤ Int.tdiv d (g : Int) := Int.tdiv_nonneg (by omega) (by omega)
          rw [e_wrap (Int.tdiv d (g : Int)) (by omega) (by omega)]
          have e1 : (Int.tdiv d (g : Int) == d) = false := by simpa using hne
          rw [e1, Bool.and_false, decide_eq_false e]
      · unfold impl_isRatio.f impl_common.f
        rw [g_within_yes n 0 _ h1]
        simp only [Option.bind_some, if_true]
        rw [g_within_yes d 1 _ h3]
        simp only [Option.bind_some, if_true]
        rw [g1]
        simp only [Option.bind_some]
        by_cases e : g = 1
        · subst e
          rfl
        · rw [decide_eq_false e]
          have : (((g : Nat) : Int) == 1) = false := by
            rw [beq_eq_false_iff_ne]
            omega
          rw [this]
    · refine ⟨false, ?_, ?_, fun e => by cases e⟩
      · unfold spec_dcIs.f
        rw [g_l1In_yes n 0 _ h1]
        simp only [Option.bind_some, if_true]
        rw [g_l1In_no d 1 _ h3]
        rfl
      · unfold impl_isRatio.f
        rw [g_within_yes n 0 _ h1]
        simp only [Option.bind_some, if_true]
        rw [g_within_no d 1 _ h3]
        rfl
  · refine ⟨false, ?_, ?_, fun e => by cases e⟩
    · unfold spec_dcIs.f
      rw [g_l1In_no n 0 _ h1]
      rfl
    · unfold impl_isRatio.f
      rw [g_within_no n 0 _ h1]
      rfl
theorem e_mul (n d : Int) (h1 : 0 ≤ n) (h2 : n ≤ 1000000000) (h3 : 1 ≤ d) (h4 : d ≤ 1000000000) : 0 ≤ n * d ∧ n * d ≤ 1000000000000000000 := by
  constructor
  · exact Int.mul_nonneg h1 (by omega)
  · have := Int.mul_le_mul h2 h4 (by omega) (by omega)
    omega
def sgn (x y : Int) : Int := if x > y then 1 else (if x < y then -1 else 0)
theorem sgn_turn (x y : Int) : sgn y x = wrap64 (-(sgn x y)) := by
  unfold sgn
  rcases Int.lt_trichotomy x y with h | h | h
  · rw [if_pos (show y > x from h), if_neg (show ¬ x > y by omega), if_pos h]
    exact (e_wrap 1 (by omega) (by omega)).symm
  · subst h
    simp only [gt_iff_lt, Int.lt_irrefl, if_false]
    exact (e_wrap 0 (by omega) (by omega)).symm
  · rw [if_pos (show x > y from h), if_neg (show ¬ y > x by omega), if_pos h]
    exact (e_wrap (-1) (by omega) (by omega)).symm
theorem sgn_zero (x y : Int) : sgn x y = 0 ↔ x = y := by
  unfold sgn
  rcases Int.lt_trichotomy x y with h | h | h
  · rw [if_neg (show ¬ x > y by omega), if_pos h]
    omega
  · subst h
    simp
  · rw [if_pos (show x > y from h)]
    omega
theorem e_spec (x y : Int) (hx : 0 ≤ x ∧ x ≤ 1000000000000000000) (hy : 0 ≤ y ∧ y ≤ 1000000000000000000) : spec_l1Sign.f (wrap64 (wrap64 x - wrap64 y)) = some (sgn x y) := by
  rw [e_wrap x (by omega) (by omega), e_wrap y (by omega) (by omega), e_wrap (x - y) (by omega) (by omega)]
  unfold spec_l1Sign.f sgn
  rcases Int.lt_trichotomy x y with h | h | h
  · rw [if_neg (by omega), if_pos (by omega), if_neg (by omega), if_pos h]
  · subst h
    rw [if_neg (by omega), if_neg (by omega), if_neg (by omega), if_neg (by omega)]
  · rw [if_pos (by omega), if_pos h]
theorem e_impl (x y : Int) (hx : 0 ≤ x ∧ x ≤ 1000000000000000000) (hy : 0 ≤ y ∧ y ≤ 1000000000000000000) : ((impl_bit.f (decide ((wrap64 x) > (wrap64 y)))).bind fun t => ((impl_bit.f (decide ((wrap64 x) < (wrap64 y)))).bind fun u => (some (wrap64 (t - u), true)))) = some (sgn x y, true) := by
  rw [e_wrap x (by omega) (by omega), e_wrap y (by omega) (by omega)]
  unfold impl_bit.f sgn
  rcases Int.lt_trichotomy x y with h | h | h
  · rw [decide_eq_false (show ¬ x > y by omega), decide_eq_true h, if_neg (show ¬ x > y by omega), if_pos h]
    simp only [Bool.false_eq_true, if_false, if_true, Option.bind_some]
    rw [e_wrap _ (by omega) (by omega)]
    rfl
  · subst h
    rw [decide_eq_false (show ¬ x > x by omega), if_neg (show ¬ x > x by omega), if_neg (show ¬ x < x by omega)]
    simp only [Bool.false_eq_true, if_false, if_true, Option.bind_some]
    rw [e_wrap _ (by omega) (by omega)]
    rfl
  · rw [decide_eq_true (show x > y from h), decide_eq_false (show ¬ x < y by omega), if_pos (show x > y from h)]
    simp only [Bool.false_eq_true, if_false, if_true, Option.bind_some]
    rw [e_wrap _ (by omega) (by omega)]
    rfl
theorem e_eq (a b c d : Int) (ha : 0 ≤ a) (hb : 1 ≤ b) (hc : 0 ≤ c) (hd : 1 ≤ d) (g1 : Nat.gcd a.toNat b.toNat = 1) (g2 : Nat.gcd c.toNat d.toNat = 1) (h : a * d = c * b) : a = c ∧ b = d := by
  obtain ⟨a, rfl⟩ : ∃ m : Nat, a = (m : Int) := ⟨a.toNat, by omega⟩
  obtain ⟨b, rfl⟩ : ∃ m : Nat, b = (m : Int) := ⟨b.toNat, by omega⟩
  obtain ⟨c, rfl⟩ : ∃ m : Nat, c = (m : Int) := ⟨c.toNat, by omega⟩
  obtain ⟨d, rfl⟩ : ∃ m : Nat, d = (m : Int) := ⟨d.toNat, by omega⟩
  rw [Int.toNat_natCast, Int.toNat_natCast] at g1 g2
  have hn : a * d = c * b := by
    have : ((a * d : Nat) : Int) = ((c * b : Nat) : Int) := by rw [Int.natCast_mul, Int.natCast_mul]; exact h
    exact Int.ofNat_inj.1 this
  have h1 : b ∣ d := Nat.Coprime.dvd_of_dvd_mul_left (show Nat.Coprime b a from by unfold Nat.Coprime; rw [Nat.gcd_comm]; exact g1) ⟨c, by rw [hn, Nat.mul_comm]⟩
  have h2 : d ∣ b := Nat.Coprime.dvd_of_dvd_mul_left (show Nat.Coprime d c from by unfold Nat.Coprime; rw [Nat.gcd_comm]; exact g2) ⟨a, by rw [← hn, Nat.mul_comm]⟩
  have h3 : b = d := Nat.dvd_antisymm h1 h2
  subst h3
  have h4 : a = c := Nat.eq_of_mul_eq_mul_right (by omega) hn
  rw [h4]
  exact ⟨rfl, rfl⟩
theorem compare (a b c d : Int) : ∃ (s : Int) (t : Bool), Ev (fun k => impl_CompareRatios.f k a b c d) (s, t) ∧ Ev (fun k => spec_CompareRatios.f k a b c d) (s, t) ∧ Ev (fun k => impl_CompareRatios.f k c d a b) (wrap64 (-s), t) ∧ (t = true → (s == 0) = (a == c && (b == d))) := by
  obtain ⟨K, hK⟩ : ∃ K, K = (b.toNat + d.toNat + 1) + 1 := ⟨_, rfl⟩
  obtain ⟨p, p1, p2, p3⟩ := e_is K a b (by omega)
  obtain ⟨q, q1, q2, q3⟩ := e_is K c d (by omega)
  have key : ∃ (s : Int) (t : Bool), impl_CompareRatios.f K a b c d = some (s, t) ∧ spec_CompareRatios.f K a b c d = some (s, t) ∧ impl_CompareRatios.f K c d a b = some (wrap64 (-s), t) ∧ (t = true → (s == 0) = (a == c && (b == d))) := by
    have z : wrap64 (-(0 : Int)) = 0 := e_wrap 0 (by omega) (by omega)
    rw [hK] at p1 p2 q1 q2 ⊢
    by_cases hpq : p = true ∧ q = true
    · obtain ⟨rfl, rfl⟩ := hpq
      obtain ⟨p4, p5, p6, p7, p8⟩ := p3 rfl
      obtain ⟨q4, q5, q6, q7, q8⟩ := q3 rfl
      have m1 := e_mul a d p4 p5 q6 q7
      have m2 := e_mul c b q4 q5 p6 p7
      refine ⟨sgn (a * d) (c * b), true, ?_, ?_, ?_, fun _ => ?_⟩
      · unfold impl_CompareRatios.f
        rw [p2]
        simp only [Option.bind_some, if_true]
        rw [q2]
        simp only [Option.bind_some, Bool.not_true, impl_CompareRatios.j0, Bool.false_eq_true, if_false]
        exact e_impl _ _ m1 m2
      · unfold spec_CompareRatios.f
        rw [p1]
        simp only [Option.bind_some, if_true]
        rw [q1]
        simp only [Option.bind_some, if_true]
        rw [e_spec _ _ m1 m2]
        rfl
      · unfold impl_CompareRatios.f
        rw [q2]
        simp only [Option.bind_some, if_true]
        rw [p2]
        simp only [Option.bind_some, Bool.not_true, impl_CompareRatios.j0, Bool.false_eq_true, if_false]
        rw [← sgn_turn]
        exact e_impl _ _ m2 m1
      · rw [Bool.eq_iff_iff, beq_iff_eq, sgn_zero, Bool.and_eq_true, beq_iff_eq, beq_iff_eq]
        constructor
        · exact fun e => e_eq a b c d p4 p6 q4 q6 p8 q8 e
        · rintro ⟨rfl, rfl⟩
          rfl
    · refine ⟨0, false, ?_, ?_, ?_, fun e => by cases e⟩
      · unfold impl_CompareRatios.f
        rw [p2]
        cases p
        · simp [impl_CompareRatios.j0]
        · cases q
          · simp [q2, impl_CompareRatios.j0]
          · exact absurd ⟨rfl, rfl⟩ hpq
      · unfold spec_CompareRatios.f
        rw [p1]
        cases p
        · simp
        · cases q
          · simp [q1]
          · exact absurd ⟨rfl, rfl⟩ hpq
      · unfold impl_CompareRatios.f
        rw [q2, z]
        cases q
        · simp [impl_CompareRatios.j0]
        · cases p
          · simp [p2, impl_CompareRatios.j0]
          · exact absurd ⟨rfl, rfl⟩ hpq
  obtain ⟨s, t, h1, h2, h3, h4⟩ := key
  exact ⟨s, t, Ev.of (fun k => impl_CompareRatios.mono _ _ _ _ k) h1, Ev.of (fun k => spec_CompareRatios.mono _ _ _ _ k) h2, Ev.of (fun k => impl_CompareRatios.mono _ _ _ _ k) h3, h4⟩
/-! ### What is drawn -/
theorem d_drawn (l : List Int) (hl : ∀ x ∈ l, 0 ≤ x ∧ x ≤ 255) (p s : Int) (hp : 0 ≤ p ∧ p ≤ 1000) : ∃ n k p' s', spec_l1Cur_drawn.f l p s = some (n, k, p', s') ∧ 0 ≤ p' ∧ p' ≤ p + 8 := by
  unfold spec_l1Cur_drawn.f
  obtain ⟨v, q1, s1, e1, v0, v1, q10, q11⟩ := d_pick l hl p s (by omega) 7 (by omega)
  rw [e1]
  simp only [Option.bind_some]
  obtain ⟨o, q2, s2, e2, q20, q21⟩ := d_one l hl q1 s1 (by omega) 12 (by omega)
  rw [e2]
  simp only [Option.bind_some]
  cases o with
  | false =>
    simp only [Bool.false_eq_true, if_false, spec_dcTiles.f, Option.bind_some]
    obtain ⟨t0, t1⟩ := g_tiles v ⟨v0, by omega⟩
    unfold tl at t0 t1
    generalize wrap64 (Int.tdiv (wrap64 ((wrap64 (v + 1)) * (wrap64 (v + 2)))) 2) = t at t0 t1
    have hu : ∃ u, spec_l1Least.f 9 t = some u ∧ 0 ≤ u ∧ u ≤ 9 := by
      unfold spec_l1Least.f
      by_cases h : 9 < t
      · rw [if_pos h]
        exact ⟨9, rfl, by omega, by omega⟩
      · rw [if_neg h]
        exact ⟨t, rfl, by omega, by omega⟩
    obtain ⟨u, u0, u1, u2⟩ := hu
    rw [u0]
    simp only [Option.bind_some]
    rw [d_w (u + 1) (by omega) (by omega)]
    obtain ⟨x, q3, s3, e3, _, _, q30, q31⟩ := d_pick l hl q2 s2 (by omega) (u + 1) (by omega)
    rw [e3]
    exact ⟨_, _, q3, s3, rfl, by omega, by omega⟩
  | true =>
    simp only [if_true]
    obtain ⟨x, q3, s3, e3, q30, q31⟩ := d_among l hl q2 s2 (by omega) (([(-1), 6, 7, 4611686018427387904] : List Int)) (by decide)
    rw [e3]
    simp only [Option.bind_some]
    obtain ⟨y, q4, s4, e4, q40, q41⟩ := d_among l hl q3 s3 (by omega) (([0, 1, 28, 29, (-1)] : List Int)) (by decide)
    rw [e4]
    exact ⟨_, _, q4, s4, rfl, by omega, by omega⟩
theorem d_tiles (l : List Int) (hl : ∀ x ∈ l, 0 ≤ x ∧ x ≤ 255) : ∃ a b c, spec_DrawChanceOfTiles.f l = some (a, b, c) := by
  unfold spec_DrawChanceOfTiles.f
  obtain ⟨n, k, p, s, e, p0, p1⟩ := d_drawn l hl 0 0 (by omega)
  rw [e]
  simp only [Option.bind_some]
  obtain ⟨x, q3, s3, e3, _, _, q30, q31⟩ := d_pick l hl p s (by omega) 8 (by omega)
  rw [e3]
  simp only [Option.bind_some]
  obtain ⟨y, q4, s4, e4, _, _, q40, q41⟩ := d_pick l hl q3 s3 (by omega) 9 (by omega)
  rw [e4]
  exact ⟨_, _, _, rfl⟩
theorem d_chain (l : List Int) (hl : ∀ x ∈ l, 0 ≤ x ∧ x ≤ 255) : ∃ a b, spec_DrawChanceOfChain.f l = some (a, b) := by
  unfold spec_DrawChanceOfChain.f
  obtain ⟨x, q3, s3, e3, _, _, q30, q31⟩ := d_pick l hl 0 0 (by omega) 6 (by omega)
  rw [e3]
  simp only [Option.bind_some]
  obtain ⟨y, q4, s4, e4, _, _, q40, q41⟩ := d_pick l hl q3 s3 (by omega) 5 (by omega)
  rw [e4]
  exact ⟨_, _, rfl⟩
theorem d_pips (l : List Int) (hl : ∀ x ∈ l, 0 ≤ x ∧ x ≤ 255) : ∃ a b c, spec_DrawCountWithPips.f l = some (a, b, c) := by
  unfold spec_DrawCountWithPips.f
  obtain ⟨n, k, p, s, e, p0, p1⟩ := d_drawn l hl 0 0 (by omega)
  rw [e]
  simp only [Option.bind_some]
  obtain ⟨o, q2, s2, e2, q20, q21⟩ := d_one l hl p s (by omega) 10 (by omega)
  rw [e2]
  simp only [Option.bind_some]
  cases o with
  | false =>
    simp only [Bool.false_eq_true, if_false]
    obtain ⟨y, q4, s4, e4, _, _, q40, q41⟩ := d_pick l hl q2 s2 (by omega) 60 (by omega)
    rw [e4]
    exact ⟨_, _, _, rfl⟩
  | true =>
    simp only [if_true]
    obtain ⟨x, q3, s3, e3, q30, q31⟩ := d_among l hl q2 s2 (by omega) (([(-1), 0, 1000, 1001] : List Int)) (by decide)
    rw [e3]
    exact ⟨_, _, _, rfl⟩
theorem d_frac (l : List Int) (hl : ∀ x ∈ l, 0 ≤ x ∧ x ≤ 255) (p s : Int) (hp : 0 ≤ p ∧ p ≤ 1000) : ∃ n d p' s', Ev (fun k => spec_l1Cur_fraction.f k l p s) (n, d, p', s') ∧ 0 ≤ p' ∧ p' ≤ p + 8 := by
  unfold spec_l1Cur_fraction.f
  obtain ⟨o, q2, s2, e2, q20, q21⟩ := d_one l hl p s (by omega) 8 (by omega)
  rw [e2]
  simp only [Option.bind_some]
  cases o with
  | false =>
    simp only [Bool.false_eq_true, if_false]
    obtain ⟨x, q3, s3, e3, x0, x1, q30, q31⟩ := d_pick l hl q2 s2 (by omega) 20 (by omega)
    rw [e3]
    simp only [Option.bind_some]
    obtain ⟨y, q4, s4, e4, y0, y1, q40, q41⟩ := d_pick l hl q3 s3 (by omega) 12 (by omega)
    rw [e4]
    simp only [Option.bind_some]
    rw [d_w (1 + y) (by omega) (by omega)]
    obtain ⟨t, _, _, _, _, r1, _⟩ := Go.Proofs.Ytafcjfilhdpgdaa.QPureB.ratios x (1 + y) x0 (by omega)
    exact ⟨_, _, q4, s4, Ev.bind (f := fun _ (bt412 : Int × Int) => some (bt412.1, bt412.2, q4, s4)) r1 ⟨0, fun _ _ => rfl⟩, by omega, by omega⟩
  | true =>
    simp only [if_true]
    obtain ⟨x, q3, s3, e3, q30, q31⟩ := d_among l hl q2 s2 (by omega) (([(-1), 0, 2, 1000000000, 1000000001] : List Int)) (by decide)
    rw [e3]
    simp only [Option.bind_some]
    obtain ⟨y, q4, s4, e4, q40, q41⟩ := d_among l hl q3 s3 (by omega) (([0, 1, 4, 999999999, (-1)] : List Int)) (by decide)
    rw [e4]
    exact ⟨_, _, q4, s4, ⟨0, fun _ _ => rfl⟩, by omega, by omega⟩
theorem d_cmp (l : List Int) (hl : ∀ x ∈ l, 0 ≤ x ∧ x ≤ 255) : ∃ a b c d, Ev (fun k => spec_DrawCompareRatios.f k l) (a, b, c, d) := by
  obtain ⟨a, b, p, s, e1, p0, p1⟩ := d_frac l hl 0 0 (by omega)
  obtain ⟨c, d, p', s', e2, _, _⟩ := d_frac l hl p s (by omega)
  unfold spec_DrawCompareRatios.f
  exact ⟨a, b, c, d, Ev.bind (f := fun k (bt417 : Int × Int × Int × Int) => (spec_l1Cur_fraction.f k l bt417.2.2.1 bt417.2.2.2).bind fun bt421 => (some (bt417.1, bt417.2.1, bt421.1, bt421.2.1))) e1 (Ev.bind (f := fun _ (bt421 : Int × Int × Int × Int) => some (a, b, bt421.1, bt421.2.1)) e2 ⟨0, fun _ _ => rfl⟩)⟩

/-! ### The law -/
theorem law3 (l : List Int) (hl : ∀ x ∈ l, 0 ≤ x ∧ x ≤ 255) : Ev (fun k => laws_FnChancesCompared.j3 k l) true := by
  obtain ⟨a, b, c, d, K0, e0⟩ := d_cmp l hl
  obtain ⟨s, t, ⟨K1, e1⟩, ⟨K2, e2⟩, ⟨K3, e3⟩, e4⟩ := compare a b c d
  refine ⟨K0 + K1 + K2 + K3 + 1, fun k hk => ?_⟩
  obtain ⟨j, rfl⟩ : ∃ j, k = j + 1 := ⟨k - 1, by omega⟩
  have f0 := e0 j (by omega)
  have f1 := e1 j (by omega)
  have f2 := e2 j (by omega)
  have f3 := e3 j (by omega)
  simp only at f0 f1 f2 f3
  simp only [laws_FnChancesCompared.j3]
  rw [f0]
  simp only [Option.bind_some]
  rw [f1]
  simp only [Option.bind_some]
  rw [f2]
  simp only [Option.bind_some]
  rw [f3]
  simp only [Option.bind_some, beq_self_eq_true, if_true]
  cases t with
  | false => simp
  | true =>
    simp only [if_true]
    rw [e4 rfl, beq_self_eq_true]
theorem law2 (l : List Int) (hl : ∀ x ∈ l, 0 ≤ x ∧ x ≤ 255) (a b m : Int) (g : Bool) (x y : Int) (h : g = true → ∃ c : Int × Int × Bool, Ev (fun k => impl_ChanceWithout.f k a b (wrap64 (m - 1))) c ∧ c.2.2 = true ∧ wrap64 (x * c.2.1) ≤ wrap64 (c.1 * y)) : Ev (fun k => laws_FnChancesCompared.j2 k l a b m g x y) true := by
  obtain ⟨K3, e3⟩ := law3 l hl
  cases g with
  | false =>
    refine ⟨K3 + 1, fun k hk => ?_⟩
    obtain ⟨j, rfl⟩ : ∃ j, k = j + 1 := ⟨k - 1, by omega⟩
    simp only [laws_FnChancesCompared.j2, Bool.false_eq_true, if_false]
    exact e3 j (by omega)
  | true =>
    obtain ⟨c, ⟨K1, e1⟩, h1, h2⟩ := h rfl
    refine ⟨K1 + K3 + 1, fun k hk => ?_⟩
    obtain ⟨j, rfl⟩ : ∃ j, k = j + 1 := ⟨k - 1, by omega⟩
    have f1 := e1 j (by omega)
    simp only at f1
    simp only [laws_FnChancesCompared.j2, if_true]
    rw [f1]
    simp only [Option.bind_some]
    rw [h1, if_pos rfl, if_neg (by omega)]
    exact e3 j (by omega)
theorem law1 (l : List Int) (hl : ∀ x ∈ l, 0 ≤ x ∧ x ≤ 255) : Ev (fun k => laws_FnChancesCompared.j1 k l) true := by
  obtain ⟨b, c, m, e0⟩ := d_tiles l hl
  obtain ⟨g, h, u, e1⟩ := d_pips l hl
  have d1 : spec_DrawChanceWithout.f l = some (b, c, m) := by unfold spec_DrawChanceWithout.f; rw [e0]; rfl
  have d2 : spec_DrawChanceOfTimes.f l = some (b, c, m) := by unfold spec_DrawChanceOfTimes.f; rw [e0]; rfl
  obtain ⟨r, ⟨K1, w1⟩, ⟨K2, w2⟩, w3⟩ := without b c m
  obtain ⟨s, t, ⟨K3, w4⟩, ⟨K4, w5⟩, ⟨K5, w6⟩, ⟨K6, w7⟩⟩ := times b c m
  obtain ⟨n, q, ⟨K7, w8⟩, ⟨K8, w9⟩, ⟨K9, w10⟩, ⟨K10, w11⟩, w12⟩ := c_chance g h u
  have hf : Ev (fun k => if r.2.2 = true then (laws_FnChancesCompared.j2 k l b c m (decide (m > 0)) r.1 r.2.1) else (laws_FnChancesCompared.j2 k l b c m false r.1 r.2.1)) true := by
    cases hr : r.2.2 with
    | false =>
      simp only [Bool.false_eq_true, if_false]
      exact law2 l hl b c m false r.1 r.2.1 (fun e => by cases e)
    | true =>
      simp only [if_true]
      exact law2 l hl b c m _ r.1 r.2.1 (fun e => w3 hr (of_decide_eq_true e))
  obtain ⟨K11, w13⟩ := hf
  refine ⟨K1 + K2 + K3 + K4 + K5 + K6 + K7 + K8 + K9 + K10 + K11 + 1, fun k hk => ?_⟩
  obtain ⟨j, rfl⟩ : ∃ j, k = j + 1 := ⟨k - 1, by omega⟩
  have f1 := w1 j (by omega)
  have f2 := w2 j (by omega)
  have f4 := w4 j (by omega)
  have f5 := w5 j (by omega)
  have f6 := w6 j (by omega)
  have f7 := w7 j (by omega)
  have f8 := w8 j (by omega)
  have f9 := w9 j (by omega)
  have f10 := w10 j (by omega)
  have f11 := w11 j (by omega)
  have f13 := w13 j (by omega)
  simp only at f1 f2 f4 f5 f6 f7 f8 f9 f10 f11 f13
  simp only [laws_FnChancesCompared.j1]
  rw [d1]
  simp only [Option.bind_some]
  rw [f1]
  simp only [Option.bind_some]
  rw [f2]
  simp only [Option.bind_some]
  rw [d2]
  simp only [Option.bind_some]
  rw [f4]
  simp only [Option.bind_some]
  rw [f5]
  simp only [Option.bind_some]
  rw [f6]
  simp only [Option.bind_some]
  rw [f7]
  simp only [Option.bind_some]
  rw [e1]
  simp only [Option.bind_some]
  rw [f9]
  simp only [Option.bind_some]
  rw [f8]
  simp only [Option.bind_some]
  rw [f11]
  simp only [Option.bind_some]
  rw [f10]
  simp only [Option.bind_some, bne_self_eq_false, beq_self_eq_true, Bool.not_true, Bool.or_self, Bool.false_eq_true, if_false, if_true, w12]
  exact f13
theorem law0 (l : List Int) (hl : ∀ x ∈ l, 0 ≤ x ∧ x ≤ 255) : Ev (fun k => laws_FnChancesCompared.j0 k l) true := by
  obtain ⟨a, x, y, e0⟩ := d_tiles l hl
  have d1 : spec_DrawChanceOfBoth.f l = some (a, x, y) := by unfold spec_DrawChanceOfBoth.f; rw [e0]; rfl
  obtain ⟨r, ⟨K1, w1⟩, ⟨K2, w2⟩, w3⟩ := bothly a x y
  obtain ⟨K3, w4⟩ := law1 l hl
  have hf : ∃ K, ∀ j, K ≤ j → (if r.2.2 = true then ((impl_ChanceOfBoth.f j a y x).bind fun bt471 => ((impl_ChanceOfDoubles.f j a (wrap64 (x + y)) 0).bind fun bt475 => (if bt471.2.2 = true then (if (!(bt471.1 == r.1) || (!(bt471.2.1 == r.2.1))) = true then (none) else (if bt475.2.2 = true then (if (!(bt475.1 == r.1) || (!(bt475.2.1 == r.2.1))) = true then (none) else (laws_FnChancesCompared.j1 j l)) else (none))) else (none)))) else (laws_FnChancesCompared.j1 j l)) = some true := by
    by_cases hr : r.2.2 = true
    · obtain ⟨⟨K4, w5⟩, ⟨K5, w6⟩⟩ := w3 hr
      refine ⟨K3 + K4 + K5, fun j hj => ?_⟩
      have f5 := w5 j (by omega)
      have f6 := w6 j (by omega)
      simp only at f5 f6
      rw [if_pos hr, f5]
      simp only [Option.bind_some]
      rw [f6]
      simp only [Option.bind_some, hr, beq_self_eq_true, Bool.not_true, Bool.or_self, Bool.false_eq_true, if_false, if_true]
      exact w4 j (by omega)
    · refine ⟨K3, fun j hj => ?_⟩
      rw [if_neg hr]
      exact w4 j hj
  obtain ⟨K6, w7⟩ := hf
  refine ⟨K1 + K2 + K6 + 1, fun k hk => ?_⟩
  obtain ⟨j, rfl⟩ : ∃ j, k = j + 1 := ⟨k - 1, by omega⟩
  have f1 := w1 j (by omega)
  have f2 := w2 j (by omega)
  simp only at f1 f2
  simp only [laws_FnChancesCompared.j0]
  rw [d1]
  simp only [Option.bind_some]
  rw [f1]
  simp only [Option.bind_some]
  rw [f2]
  simp only [Option.bind_some, bne_self_eq_false, beq_self_eq_true, Bool.not_true, Bool.or_self, Bool.false_eq_true, if_false]
  exact w7 j (by omega)
theorem wf_u8 (l : List Int) (h : ∀ x_ ∈ l, (Lit.int .u8 x_).wf = true) : ∀ x ∈ l, 0 ≤ x ∧ x ≤ 255 := by
  intro x hx
  have h1 : (decide (IntKind.u8.min ≤ x) && decide (x ≤ IntKind.u8.max)) = true := h x hx
  have h2 : IntKind.u8.min = 0 := by decide
  have h3 : IntKind.u8.max = 255 := by decide
  rw [h2, h3] at h1
  simpa using h1
theorem FnChancesCompared (l0 : List Int) (l1 : List Int) (_h0 : (l0.length ≤ 9223372036854775807 ∧ ∀ x_ ∈ l0, (Lit.int .u8 x_).wf = true)) (_h1 : (l1.length ≤ 9223372036854775807 ∧ ∀ x_ ∈ l1, (Lit.int .u8 x_).wf = true)) : ∃ k, laws_FnChancesCompared.f k l0 l1 = some true := by
  obtain ⟨n, k, e0⟩ := d_chain l0 (wf_u8 l0 _h0.2)
  obtain ⟨r, ⟨K1, w1⟩, ⟨K2, w2⟩, w3⟩ := Go.Proofs.Ytafcjfilhdpgdaa.QPureB.both n k
  obtain ⟨K3, w4⟩ := law0 l1 (wf_u8 l1 _h1.2)
  have big : ∃ c, laws_big.f l0 l1 = some c := by
    unfold laws_big.f
    split <;> exact ⟨_, rfl⟩
  obtain ⟨c, hc⟩ := big
  have hf : ∃ K, ∀ j, K ≤ j → (if r.2.2 = true then ((impl_CountHands.f j n k).bind fun bt456 => (if bt456.2 = true then ((laws_iTimes.f r.1 r.2.1 bt456.1).bind fun t458 => (if t458 < 0 then (none) else ((laws_iTimes.f r.1 r.2.1 bt456.1).bind fun t459 => (if t459 > bt456.1 then (none) else (if k = 1 then (if (!(r.1 == 1) || (!(r.2.1 == 1))) = true then (none) else (laws_FnChancesCompared.j0 j l1)) else (laws_FnChancesCompared.j0 j l1)))))) else (none))) else (laws_FnChancesCompared.j0 j l1)) = some true := by
    by_cases hr : r.2.2 = true
    · obtain ⟨h, D, ⟨K4, w5⟩, w6, w7, w8, w9⟩ := w3 hr
      refine ⟨K3 + K4, fun j hj => ?_⟩
      have f5 := w5 j (by omega)
      simp only at f5
      rw [if_pos hr, f5]
      simp only [Option.bind_some, if_true, w6]
      rw [if_neg (by omega), if_neg (by omega)]
      by_cases hk : k = 1
      · obtain ⟨a1, a2⟩ := w9 hk
        rw [if_pos hk, a1, a2]
        simp only [beq_self_eq_true, Bool.not_true, Bool.or_self, Bool.false_eq_true, if_false]
        exact w4 j (by omega)
      · rw [if_neg hk]
        exact w4 j (by omega)
    · refine ⟨K3, fun j hj => ?_⟩
      rw [if_neg hr]
      exact w4 j hj
  obtain ⟨K6, w7⟩ := hf
  refine ⟨K1 + K2 + K6, ?_⟩
  have f1 := w1 (K1 + K2 + K6) (by omega)
  have f2 := w2 (K1 + K2 + K6) (by omega)
  simp only at f1 f2
  unfold laws_FnChancesCompared.f
  rw [hc]
  simp only [Option.bind_some]
  cases c with
  | true => rfl
  | false =>
    simp only [Bool.false_eq_true, if_false]
    rw [e0]
    simp only [Option.bind_some]
    rw [f2]
    simp only [Option.bind_some]
    rw [f1]
    simp only [Option.bind_some, bne_self_eq_false, beq_self_eq_true, Bool.not_true, Bool.or_self, Bool.false_eq_true, if_false]
    exact w7 _ (by omega)

end Go.Proofs.Ytafcjfilhdpgdaa.QPure
