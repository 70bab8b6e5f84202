/- For every input the law FnChancesOfHands answers true: the plain statement over lists and numbers. No conditions. -/
import Derived.Test.YtfaobohggphaaaaQFnChancesOfHandsx9
import Derived.Test.YtfaobohggphaaaaQPureAFnChancesOfHands
namespace Go.Proofs.Ytfaobohggphaaaa.QPure
open Go.RowKit Go.Proofs.Ytfaobohggphaaaa.QFnChancesOfHands Go.Proofs.YtfaobohggphaaaaW.PrintWords Go.Proofs.YtfaobohggphaaaaW.PrintLast Go.Proofs.Ytfaobohggphaaaa.QPureA

set_option linter.unusedVariables false
set_option linter.unusedSimpArgs false
/-! What the reference draws out of bytes: it always draws something. -/
theorem d_bits (E : Int) (h0 : 0 ≤ E) (h1 : E ≤ 18446744073709551615) : 0 ≤ Go.bits .and .u64 E 255 ∧ Go.bits .and .u64 E 255 ≤ 255 := by
  have h := bits_and_u64_nat E.toNat 255 (by omega) (by omega)
  rw [Int.toNat_of_nonneg h0] at h
  have h2 : (E.toNat &&& 255) ≤ 255 := Nat.and_le_right
  have h3 : Go.bits .and .u64 E 255 = ((E.toNat &&& 255 : Nat) : Int) := h
  omega
theorem d_w (n : Int) (h : -1000000000 ≤ n) (h' : n ≤ 1000000000) : wrap64 n = n := by
  unfold wrap64
  omega
theorem d_rd (l : List Int) (hl : ∀ x ∈ l, 0 ≤ x ∧ x ≤ 255) (p : Int) : 0 ≤ rd l p ∧ rd l p ≤ 255 := by
  unfold rd
  rw [List.getD_eq_getElem?_getD]
  by_cases h : p.toNat < l.length
  · rw [List.getElem?_eq_getElem h]
    exact hl _ (List.getElem_mem _)
  · rw [List.getElem?_eq_none (by omega)]
    simp
theorem d_next (l : List Int) (hl : ∀ x ∈ l, 0 ≤ x ∧ x ≤ 255) (p s : Int) (hp : 0 ≤ p ∧ p ≤ 1000000) : ∃ v s', spec_l1Cur_next.f l p s = some (v, p + 1, s') ∧ 0 ≤ v ∧ v ≤ 255 := by
  have h := d_rd l hl p
  have hb : ∀ n : Int, 0 ≤ wrap64 (Go.bits .and .u64 (IntKind.u64.wrap n / 1099511627776) 255) ∧ wrap64 (Go.bits .and .u64 (IntKind.u64.wrap n / 1099511627776) 255) ≤ 255 := by
    intro n
    have h := d_bits (IntKind.u64.wrap n / 1099511627776) (by rw [IntKind.wrap_u64]; omega) (by rw [IntKind.wrap_u64]; omega)
    rw [d_w _ (by omega) (by omega)]
    exact h
  unfold spec_l1Cur_next.f
  rw [d_w (p + 1) (by omega) (by omega)]
  by_cases h1 : p < (l.length : Int)
  · rw [if_pos h1, if_pos hp.1]
    by_cases h2 : p + 1 ≤ (l.length : Int)
    · rw [if_pos h2]
      exact ⟨_, _, rfl, by rw [d_w _ (by omega) (by omega)]; exact h⟩
    · rw [if_neg h2]
      exact ⟨_, _, rfl, hb _⟩
  · rw [if_neg h1]
    by_cases h2 : p + 1 ≤ (l.length : Int)
    · rw [if_pos h2]
      exact ⟨_, _, rfl, by omega, by omega⟩
    · rw [if_neg h2]
      exact ⟨_, _, rfl, hb _⟩
theorem d_pick (l : List Int) (hl : ∀ x ∈ l, 0 ≤ x ∧ x ≤ 255) (p s : Int) (hp : 0 ≤ p ∧ p ≤ 100000) (a : Int) (ha : 1 ≤ a) : ∃ v p' s', spec_l1Cur_pick.f l p s a = some (v, p', s') ∧ 0 ≤ v ∧ v < a ∧ 0 ≤ p' ∧ p' ≤ p + 2 := by
  unfold spec_l1Cur_pick.f
  by_cases h1 : a ≤ 1
  · rw [if_pos h1]
    exact ⟨0, p, s, rfl, by omega, by omega, by omega, by omega⟩
  · rw [if_neg h1]
    obtain ⟨v, s1, e1, v0, v1⟩ := d_next l hl p s (by omega)
    rw [e1]
    simp only [Option.bind_some]
    by_cases h2 : a > 200
    · rw [if_pos h2]
      obtain ⟨u, s2, e2, u0, u1⟩ := d_next l hl (p + 1) s1 (by omega)
      rw [e2]
      simp only [Option.bind_some]
      rw [if_neg (by omega), d_w (v * 256) (by omega) (by omega), d_w _ (by omega) (by omega)]
      exact ⟨_, _, _, rfl, Int.tmod_nonneg _ (by omega), Int.tmod_lt_of_pos _ (by omega), by omega, by omega⟩
    · rw [if_neg h2, if_neg (by omega)]
      exact ⟨_, _, _, rfl, Int.tmod_nonneg _ (by omega), Int.tmod_lt_of_pos _ (by omega), by omega, by omega⟩
theorem d_among (l : List Int) (hl : ∀ x ∈ l, 0 ≤ x ∧ x ≤ 255) (p s : Int) (hp : 0 ≤ p ∧ p ≤ 100000) (xs : List Int) (hx : 1 ≤ xs.length) : ∃ v p' s', spec_l1Cur_among.f l p s xs = some (v, p', s') ∧ 0 ≤ p' ∧ p' ≤ p + 2 := by
  unfold spec_l1Cur_among.f
  obtain ⟨v, q, s1, e1, v0, v1, q0, q1⟩ := d_pick l hl p s hp (xs.length : Int) (by omega)
  rw [e1]
  simp only [Option.bind_some]
  rw [if_pos v0, if_pos v1]
  exact ⟨_, _, _, rfl, q0, q1⟩
theorem d_one (l : List Int) (hl : ∀ x ∈ l, 0 ≤ x ∧ x ≤ 255) (p s : Int) (hp : 0 ≤ p ∧ p ≤ 100000) (a : Int) (ha : 1 ≤ a) : ∃ v p' s', spec_l1Cur_one.f l p s a = some (v, p', s') ∧ 0 ≤ p' ∧ p' ≤ p + 2 := by
  unfold spec_l1Cur_one.f
  obtain ⟨v, q, s1, e1, v0, v1, q0, q1⟩ := d_pick l hl p s hp a ha
  rw [e1]
  exact ⟨_, _, _, rfl, q0, q1⟩

/-! ### What is drawn -/
theorem d_drawn (l : List Int) (hl : ∀ x ∈ l, 0 ≤ x ∧ x ≤ 255) (p s : Int) (hp : 0 ≤ p ∧ p ≤ 1000) : ∃ n k p' s', spec_l1Cur_drawn.f l p s = some (n, k, p', s') ∧ 0 ≤ p' ∧ p' ≤ p + 8 := by
  unfold spec_l1Cur_drawn.f
  obtain ⟨v, q1, s1, e1, v0, v1, q10, q11⟩ := d_pick l hl p s (by omega) 7 (by omega)
  rw [e1]
  simp only [Option.bind_some]
  obtain ⟨o, q2, s2, e2, q20, q21⟩ := d_one l hl q1 s1 (by omega) 12 (by omega)
  rw [e2]
  simp only [Option.bind_some]
  cases o with
  | false =>
    simp only [Bool.false_eq_true, if_false, spec_dcTiles.f, Option.bind_some]
    obtain ⟨t0, t1⟩ := g_tiles v ⟨v0, by omega⟩
    unfold tl at t0 t1
    generalize wrap64 (Int.tdiv (wrap64 ((wrap64 (v + 1)) * (wrap64 (v + 2)))) 2) = t at t0 t1
    have hu : ∃ u, spec_l1Least.f 9 t = some u ∧ 0 ≤ u ∧ u ≤ 9 := by
      unfold spec_l1Least.f
      by_cases h : 9 < t
      · rw [if_pos h]
        exact ⟨9, rfl, by omega, by omega⟩
      · rw [if_neg h]
        exact ⟨t, rfl, by omega, by omega⟩
    obtain ⟨u, u0, u1, u2⟩ := hu
    rw [u0]
    simp only [Option.bind_some]
    rw [d_w (u + 1) (by omega) (by omega)]
    obtain ⟨x, q3, s3, e3, _, _, q30, q31⟩ := d_pick l hl q2 s2 (by omega) (u + 1) (by omega)
    rw [e3]
    exact ⟨_, _, q3, s3, rfl, by omega, by omega⟩
  | true =>
    simp only [if_true]
    obtain ⟨x, q3, s3, e3, q30, q31⟩ := d_among l hl q2 s2 (by omega) (([(-1), 6, 7, 4611686018427387904] : List Int)) (by decide)
    rw [e3]
    simp only [Option.bind_some]
    obtain ⟨y, q4, s4, e4, q40, q41⟩ := d_among l hl q3 s3 (by omega) (([0, 1, 28, 29, (-1)] : List Int)) (by decide)
    rw [e4]
    exact ⟨_, _, q4, s4, rfl, by omega, by omega⟩
theorem d_tiles (l : List Int) (hl : ∀ x ∈ l, 0 ≤ x ∧ x ≤ 255) : ∃ a b c, spec_DrawChanceOfTiles.f l = some (a, b, c) := by
  unfold spec_DrawChanceOfTiles.f
  obtain ⟨n, k, p, s, e, p0, p1⟩ := d_drawn l hl 0 0 (by omega)
  rw [e]
  simp only [Option.bind_some]
  obtain ⟨x, q3, s3, e3, _, _, q30, q31⟩ := d_pick l hl p s (by omega) 8 (by omega)
  rw [e3]
  simp only [Option.bind_some]
  obtain ⟨y, q4, s4, e4, _, _, q40, q41⟩ := d_pick l hl q3 s3 (by omega) 9 (by omega)
  rw [e4]
  exact ⟨_, _, _, rfl⟩
theorem d_count (l : List Int) (hl : ∀ x ∈ l, 0 ≤ x ∧ x ≤ 255) : ∃ a b, spec_DrawCountHands.f l = some (a, b) := by
  unfold spec_DrawCountHands.f
  obtain ⟨n, k, p, s, e, p0, p1⟩ := d_drawn l hl 0 0 (by omega)
  rw [e]
  exact ⟨_, _, rfl⟩
set_option linter.unusedVariables false
set_option linter.unusedSimpArgs false
/-! ### Chances of two and three numbers: reckoned -/
def oOk (n k m : Int) : Bool := match impl_ChanceOfTiles.f 100 n k m, spec_ChanceOfTiles.f 100 n k m with
  | some a, some b => decide (a = b) && (!a.2.2 || (!decide (0 < m) || (match impl_ChanceOfTiles.f 100 n k (wrap64 (m - 1)) with
    | some c => c.2.2 && decide (wrap64 (a.1 * c.2.1) ≤ wrap64 (c.1 * a.2.1))
    | none => false)))
  | _, _ => false
theorem o_all : ∀ n : Fin 7, ∀ k : Fin 29, ∀ m : Fin 29, oOk ((n.val : Nat) : Int) ((k.val : Nat) : Int) ((m.val : Nat) : Int) = true := by decide +kernel
theorem nats (a b c x y z : Int) (P : Int → Int → Int → Prop) (hx : 0 ≤ a ∧ a ≤ x) (hy : 0 ≤ b ∧ b ≤ y) (hz : 0 ≤ c ∧ c ≤ z) (H : ∀ n k m : Nat, (n : Int) ≤ x → (k : Int) ≤ y → (m : Int) ≤ z → P (n : Int) (k : Int) (m : Int)) : P a b c := by
  obtain ⟨n, rfl⟩ : ∃ m : Nat, a = (m : Int) := ⟨a.toNat, by omega⟩
  obtain ⟨k, rfl⟩ : ∃ m : Nat, b = (m : Int) := ⟨b.toNat, by omega⟩
  obtain ⟨m, rfl⟩ : ∃ m : Nat, c = (m : Int) := ⟨c.toNat, by omega⟩
  exact H n k m hx.2 hy.2 hz.2
theorem out3 (a0 a1 a2 : Int) (h : ¬ ((0 ≤ a0 ∧ a0 ≤ 6) ∧ (0 ≤ a1 ∧ a1 ≤ 28) ∧ (0 ≤ a2 ∧ a2 ≤ 28))) : spec_ChanceOfTiles.f 100 a0 a1 a2 = some (0, 0, false) ∧ impl_ChanceOfTiles.f 100 a0 a1 a2 = some (0, 0, false) := by
  obtain ⟨b, t, hb, ht, hbd⟩ := g_guard a0 a1
  cases b with
  | false =>
    constructor
    · simp only [spec_ChanceOfTiles.f, hb, Option.bind_some, Bool.false_eq_true, if_false]; rfl
    · simp only [impl_ChanceOfTiles.f, ht, Option.bind_some, Bool.false_eq_true, if_false]; rfl
  | true =>
    obtain ⟨p1, p2, p3, p4, p5⟩ := hbd rfl
    have hs := g_tiles a0 ⟨p1, p2⟩
    have hn1 := g_l1In_no a2 0 (tl a0) (by omega)
    have hn2 := g_within_no a2 0 (tl a0) (by omega)
    unfold tl at hn1 hn2 p5
    subst p5
    constructor
    · simp only [spec_ChanceOfTiles.f, spec_dcTiles.f, hb, hn1, Option.bind_some, if_true]; rfl
    · simp only [impl_ChanceOfTiles.f, ht, hn2, Option.bind_some, if_true]; rfl
theorem tiles3 (a0 a1 a2 : Int) : ∃ r : Int × Int × Bool, Ev (fun k => impl_ChanceOfTiles.f k a0 a1 a2) r ∧ Ev (fun k => spec_ChanceOfTiles.f k a0 a1 a2) r ∧
    (r.2.2 = true → 0 < a2 → ∃ c : Int × Int × Bool, Ev (fun k => impl_ChanceOfTiles.f k a0 a1 (wrap64 (a2 - 1))) c ∧ c.2.2 = true ∧ wrap64 (r.1 * c.2.1) ≤ wrap64 (c.1 * r.2.1)) := by
  by_cases h : (0 ≤ a0 ∧ a0 ≤ 6) ∧ (0 ≤ a1 ∧ a1 ≤ 28) ∧ (0 ≤ a2 ∧ a2 ≤ 28)
  · have hw : oOk a0 a1 a2 = true := nats a0 a1 a2 6 28 28 (fun a b c => oOk a b c = true) h.1 h.2.1 h.2.2 fun n k m h1 h2 h3 => o_all ⟨n, by omega⟩ ⟨k, by omega⟩ ⟨m, by omega⟩
    unfold oOk at hw
    cases ha : impl_ChanceOfTiles.f 100 a0 a1 a2 with
    | none => rw [ha] at hw; simp at hw
    | some a =>
      cases hb : spec_ChanceOfTiles.f 100 a0 a1 a2 with
      | none => rw [ha, hb] at hw; simp at hw
      | some b =>
        rw [ha, hb] at hw
        simp only [Bool.and_eq_true, decide_eq_true_eq] at hw
        obtain ⟨rfl, hw⟩ := hw
        refine ⟨a, Ev.of (fun k => impl_ChanceOfTiles.mono _ _ _ k) ha, Ev.of (fun k => spec_ChanceOfTiles.mono _ _ _ k) hb, fun e1 e2 => ?_⟩
        rw [e1, decide_eq_true e2] at hw
        simp only [Bool.not_true, Bool.false_or] at hw
        cases hc : impl_ChanceOfTiles.f 100 a0 a1 (wrap64 (a2 - 1)) with
        | none => rw [hc] at hw; simp at hw
        | some c =>
          rw [hc] at hw
          simp only [Bool.and_eq_true, decide_eq_true_eq] at hw
          exact ⟨c, Ev.of (fun k => impl_ChanceOfTiles.mono _ _ _ k) hc, hw.1, hw.2⟩
  · obtain ⟨h1, h2⟩ := out3 a0 a1 a2 h
    exact ⟨(0, 0, false), Ev.of (fun k => impl_ChanceOfTiles.mono _ _ _ k) h2, Ev.of (fun k => spec_ChanceOfTiles.mono _ _ _ k) h1, fun e => by cases e⟩
/-! ### The last part of the law -/
theorem law13 (l : List Int) (hl : ∀ x ∈ l, 0 ≤ x ∧ x ≤ 255) : Ev (fun k => laws_FnChancesOfHands.j13 k l) true := by
  obtain ⟨a, b, m, e0⟩ := d_tiles l hl
  obtain ⟨r, ⟨K1, w1⟩, ⟨K2, w2⟩, w3⟩ := tiles3 a b m
  have hf : ∃ K, ∀ j, K ≤ j → laws_FnChancesOfHands.j15 j a b m r.2.2 r.1 r.2.1 = some true := by
    have h16 : ∀ g : Bool, (g = true → r.2.2 = true ∧ 0 < m) → ∃ K, ∀ j, K ≤ j → laws_FnChancesOfHands.j16 j a b m g r.1 r.2.1 = some true := by
      intro g hg
      cases g with
      | false =>
        refine ⟨1, fun k hk => ?_⟩
        obtain ⟨j, rfl⟩ : ∃ j, k = j + 1 := ⟨k - 1, by omega⟩
        simp only [laws_FnChancesOfHands.j16, Bool.false_eq_true, if_false]
      | true =>
        obtain ⟨g1, g2⟩ := hg rfl
        obtain ⟨c, ⟨K3, w4⟩, c1, c2⟩ := w3 g1 g2
        refine ⟨K3 + 1, fun k hk => ?_⟩
        obtain ⟨j, rfl⟩ : ∃ j, k = j + 1 := ⟨k - 1, by omega⟩
        have f4 := w4 j (by omega)
        simp only at f4
        simp only [laws_FnChancesOfHands.j16, if_true]
        rw [f4]
        simp only [Option.bind_some]
        rw [c1, if_pos rfl, if_neg (by omega)]
    by_cases hr : r.2.2 = true
    · obtain ⟨K, h⟩ := h16 (decide (m > 0)) (fun e => ⟨hr, of_decide_eq_true e⟩)
      refine ⟨K + 1, fun k hk => ?_⟩
      obtain ⟨j, rfl⟩ : ∃ j, k = j + 1 := ⟨k - 1, by omega⟩
      simp only [laws_FnChancesOfHands.j15]
      rw [if_pos hr]
      exact h j (by omega)
    · obtain ⟨K, h⟩ := h16 false (fun e => by cases e)
      refine ⟨K + 1, fun k hk => ?_⟩
      obtain ⟨j, rfl⟩ : ∃ j, k = j + 1 := ⟨k - 1, by omega⟩
      simp only [laws_FnChancesOfHands.j15]
      rw [if_neg hr]
      exact h j (by omega)
  obtain ⟨K3, w4⟩ := hf
  refine ⟨K1 + K2 + K3 + 2, fun k hk => ?_⟩
  obtain ⟨j, rfl⟩ : ∃ j, k = j + 2 := ⟨k - 2, by omega⟩
  have f1 := w1 (j + 1) (by omega)
  have f2 := w2 (j + 1) (by omega)
  simp only at f1 f2
  simp only [laws_FnChancesOfHands.j13]
  rw [e0]
  simp only [Option.bind_some]
  rw [f1]
  simp only [Option.bind_some]
  rw [f2]
  simp only [Option.bind_some, bne_self_eq_false, beq_self_eq_true, Bool.not_true, Bool.or_self, Bool.false_eq_true, if_false, laws_FnChancesOfHands.j14]
  exact w4 j (by omega)
/-! ### The pips of small sets -/
section
variable (l : List Int) (hl : ∀ x ∈ l, 0 ≤ x ∧ x ≤ 255) (n : Fin 7) (q : Nat) (hq : q ≤ (tsOf n.val).length)
include hl hq
theorem law_l1 (c : Nat) (hc : c ≤ 504) (hn : n.val ≤ 3) (w1 : ∀ s : Nat, s ≤ 1000 → Ev (fun k => impl_CountWithPips.f k ((n.val : Nat) : Int) (q : Int) (s : Int)) (W n.val q s, true))
    (w2 : ∀ s : Nat, s ≤ 1000 → W n.val q s ≤ W n.val q c) (w3 : ∀ s : Nat, s < c → W n.val q s < W n.val q c) (h : Int) (hh : impl_CountHands.f 60 ((n.val : Nat) : Int) (q : Int) = some (h, true)) :
    Ev (fun k => laws_FnChancesOfHands.l1 k l ((n.val : Nat) : Int) (q : Int) h (c : Int) (W n.val q c) 0 0 0) true := by
  have hp := pips3 n.val q hn hq
  unfold pipOk at hp
  rw [hh] at hp
  simp only [forceI_eq, Bool.and_eq_true, decide_eq_true_eq] at hp
  obtain ⟨p1, p2, p3⟩ := hp
  have hr : ∀ s, s < 61 → (row (tsOf n.val).reverse 61 q).getD s 0 = W n.val q s := fun s hs => row_getD _ _ _ _ hs
  have hH : Ev (fun k => impl_CountHands.f k ((n.val : Nat) : Int) (q : Int)) (h, true) := Ev.of (fun k => impl_CountHands.mono _ _ k) hh
  generalize hR : row (tsOf n.val).reverse 61 q = r at p1 p2 p3 hr
  clear hR
  have key : ∀ (d j : Nat), j + d = 61 → Ev (fun k => laws_FnChancesOfHands.l1 k l ((n.val : Nat) : Int) (q : Int) h (c : Int) (W n.val q c) (sumA r j) (sumB r j) (j : Int)) true := by
    intro d
    induction d with
    | zero =>
      intro j hj
      obtain rfl : j = 61 := by omega
      obtain ⟨K, e⟩ := law13 l hl
      refine ⟨K + 1, fun k hk => ?_⟩
      obtain ⟨i, rfl⟩ : ∃ i, k = i + 1 := ⟨k - 1, by omega⟩
      simp only [laws_FnChancesOfHands.l1]
      rw [if_neg (by omega), p2, if_pos rfl, p3, if_pos rfl]
      exact e i (by omega)
    | succ d ih =>
      intro j hj
      obtain ⟨K1, e1⟩ := ih (j + 1) (by omega)
      obtain ⟨K2, e2⟩ := w1 j (by omega)
      obtain ⟨K3, e3⟩ := hH
      have p := List.all_eq_true.1 p1 j (by rw [List.mem_range]; omega)
      rw [hr j (by omega)] at p
      cases ha : impl_ratio.f 100 (W n.val q j) h with
      | none => rw [ha] at p; simp at p
      | some ab =>
        obtain ⟨a, b⟩ := ab
        rw [ha] at p
        simp only at p
        cases hb : laws_iTimes.f a b h with
        | none => rw [hb] at p; simp at p
        | some w =>
          rw [hb] at p
          have ew : w = W n.val q j := of_decide_eq_true p
          subst ew
          obtain ⟨K4, e4⟩ := Ev.of (g := fun k => impl_ratio.f k (W n.val q j) h) (fun k => impl_ratio.mono _ _ k) ha
          refine ⟨K1 + K2 + K3 + K4 + 2, fun k hk => ?_⟩
          obtain ⟨i, rfl⟩ : ∃ i, k = i + 2 := ⟨k - 2, by omega⟩
          have f1 := e1 i (by omega)
          have f2 := e2 i (by omega)
          have f3 := e3 i (by omega)
          have f4 := e4 i (by omega)
          simp only at f1 f2 f3 f4
          have hch : impl_ChanceOfPips.f i ((n.val : Nat) : Int) (q : Int) (j : Int) = some (a, b, true) := by
            unfold impl_ChanceOfPips.f
            rw [f2]
            simp only [Option.bind_some, if_true]
            rw [f3]
            simp only [Option.bind_some]
            rw [f4]
            rfl
          have s1 : wrap64 (sumA r j + W n.val q j) = sumA r (j + 1) := by rw [sumA, hr j (by omega)]
          have s2 : wrap64 (sumB r j + wrap64 ((j : Int) * W n.val q j)) = sumB r (j + 1) := by rw [sumB, hr j (by omega)]
          simp only [laws_FnChancesOfHands.l1]
          rw [if_pos (by omega)]
          simp only [laws_FnChancesOfHands.j12]
          rw [f2]
          simp only [Option.bind_some]
          rw [hch]
          simp only [Option.bind_some, if_true]
          rw [hb]
          simp only [Option.bind_some, if_true]
          rw [if_neg (by have := w2 j (by omega); omega), s1, s2, p_wrap ((j : Int) + 1) (by omega) (by omega)]
          rw [Int.natCast_succ] at f1
          by_cases he : W n.val q j = W n.val q c
          · rw [if_pos he, if_neg (fun hlt => by have := w3 j (by omega); omega)]
            exact f1
          · rw [if_neg he]
            exact f1
  have := key 61 0 (by omega)
  exact this
theorem law_j7 (c : Nat) (hc : c ≤ 504) (w1 : ∀ s : Nat, s ≤ 1000 → Ev (fun k => impl_CountWithPips.f k ((n.val : Nat) : Int) (q : Int) (s : Int)) (W n.val q s, true))
    (w2 : ∀ s : Nat, s ≤ 1000 → W n.val q s ≤ W n.val q c) (w3 : ∀ s : Nat, s < c → W n.val q s < W n.val q c) (w4 : 1 ≤ W n.val q c) (h : Int) (hh : impl_CountHands.f 60 ((n.val : Nat) : Int) (q : Int) = some (h, true)) :
    Ev (fun k => laws_FnChancesOfHands.j7 k l ((n.val : Nat) : Int) (q : Int) h (c : Int) false) true := by
  obtain ⟨K1, e1⟩ := w1 c (by omega)
  obtain ⟨K2, e2⟩ := w1 (c + 1) (by omega)
  have hf : Ev (fun k => laws_FnChancesOfHands.j10 k l ((n.val : Nat) : Int) (q : Int) h (c : Int) (W n.val q c)) true := by
    by_cases hn : n.val ≤ 3
    · refine Ev.step (fun k => ?_) (law_l1 l hl n q hq c hc hn w1 w2 w3 h hh)
      simp only [laws_FnChancesOfHands.j10]
      rw [if_pos (by omega)]
    · refine Ev.step (fun k => ?_) (law13 l hl)
      simp only [laws_FnChancesOfHands.j10]
      rw [if_neg (by omega)]
  obtain ⟨K3, e3⟩ := hf
  refine ⟨K1 + K2 + K3 + 3, fun k hk => ?_⟩
  obtain ⟨i, rfl⟩ : ∃ i, k = i + 3 := ⟨k - 3, by omega⟩
  have f1 := e1 (i + 1) (by omega)
  have f2 := e2 (i + 1) (by omega)
  have f3 := e3 i (by omega)
  simp only at f1 f2 f3
  rw [Int.natCast_succ] at f2
  simp only [laws_FnChancesOfHands.j7, Bool.false_eq_true, if_false, laws_FnChancesOfHands.j8]
  rw [f1]
  simp only [Option.bind_some]
  rw [p_wrap ((c : Int) + 1) (by omega) (by omega), f2]
  simp only [Option.bind_some, if_true]
  rw [if_neg (by have := w2 (c + 1) (by omega); omega), decide_eq_false (by omega)]
  simp only [laws_FnChancesOfHands.j9, Bool.false_eq_true, if_false]
  exact f3
end
/-! ### All that is asked of a number of tiles of a set -/
abbrev R3 := Int × Int × Bool
def vH (n q : Int) : Int := ((impl_CountHands.f 60 n q).getD (0, false)).1
def vT (n q : Int) : R3 := (impl_ChanceOfTile.f 100 n q).getD (0, 0, false)
def vM (n q : Int) : R3 := (impl_DoublesMean.f 100 n q).getD (0, 0, false)
def vO (n q : Int) : R3 := (impl_ChanceOfOpening.f 100 n q).getD (0, 0, false)
def vD (n q m : Int) : R3 := (impl_ChanceOfDoubles.f 100 n q m).getD (0, 0, false)
def vX (n q m : Int) : Int := (laws_iTimes.f (vD n q m).1 (vD n q m).2.1 (vH n q)).getD (-1)
def S1 (n q : Int) : Nat → Int
  | 0 => 0
  | m + 1 => wrap64 (S1 n q m + vX n q (m : Int))
def S2 (n q : Int) : Nat → Int
  | 0 => 0
  | m + 1 => wrap64 (S2 n q m + wrap64 ((m : Int) * vX n q (m : Int)))
def rOk (n q : Int) : Bool := decide (impl_CountHands.f 60 n q = some (vH n q, true)) && (decide (spec_CountHands.f 60 n q = some (vH n q, true)) &&
  (decide (impl_ChanceOfTile.f 100 n q = some (vT n q)) && (decide (spec_ChanceOfTile.f 100 n q = some (vT n q)) && ((vT n q).2.2 &&
  (decide (impl_DoublesMean.f 100 n q = some (vM n q)) && (decide (spec_DoublesMean.f 100 n q = some (vM n q)) && ((vM n q).2.2 &&
  (decide (impl_PipsMean.f n q = some (wrap64 (q * n), 1, true)) && (decide (spec_PipsMean.f n q = some (wrap64 (q * n), 1, true)) &&
  (decide (impl_ChanceOfOpening.f 100 n q = some (vO n q)) && (decide (spec_ChanceOfOpening.f 100 n q = some (vO n q)) && (vO n q).2.2)))))))))))
def lOk (n : Nat) (q : Int) : Bool := (List.range (n + 2)).all fun m => decide (impl_ChanceOfDoubles.f 100 (n : Int) q (m : Int) = some (vD (n : Int) q (m : Int))) && (decide (impl_ChanceOfTimes.f 100 (n : Int) q (m : Int) = some (vD (n : Int) q (m : Int))) &&
  ((vD (n : Int) q (m : Int)).2.2 && (decide (laws_iTimes.f (vD (n : Int) q (m : Int)).1 (vD (n : Int) q (m : Int)).2.1 (vH (n : Int) q) = some (vX (n : Int) q (m : Int))) && decide (0 ≤ vX (n : Int) q (m : Int)))))
def jOk (n : Nat) (q : Int) : Bool := decide (S1 (n : Int) q (n + 2) = vH (n : Int) q) && (decide (wrap64 ((vM (n : Int) q).1 * vH (n : Int) q) = wrap64 (S2 (n : Int) q (n + 2) * (vM (n : Int) q).2.1)) &&
  ((match laws_iTimes.f (vO (n : Int) q).1 (vO (n : Int) q).2.1 (vH (n : Int) q) with
    | some t => decide (wrap64 (vX (n : Int) q 0 + t) = vH (n : Int) q)
    | none => false) && (decide (impl_ChanceOfTiles.f 100 (n : Int) q 1 = some (vT (n : Int) q)) && (decide (impl_ChanceWithout.f 100 (n : Int) q 0 = some (1, 1, true)) && decide (impl_ChanceWithout.f 100 (n : Int) q 1 = some (vD (n : Int) q 0))))))
theorem r_all : ∀ n : Fin 7, ∀ q : Fin 29, (!decide (((q.val : Nat) : Int) ≤ tl ((n.val : Nat) : Int)) || (rOk ((n.val : Nat) : Int) ((q.val : Nat) : Int) && (lOk n.val ((q.val : Nat) : Int) && jOk n.val ((q.val : Nat) : Int)))) = true := by decide +kernel
theorem tl_le (n : Fin 7) : ((tsOf n.val).length : Int) = tl ((n.val : Nat) : Int) := (set_tsOf n).2.2.2.2.2
theorem law_good (l : List Int) (hl : ∀ x ∈ l, 0 ≤ x ∧ x ≤ 255) (n : Fin 7) (q : Nat) (hq : q ≤ (tsOf n.val).length) (code : List Int) (hd : spec_DrawCountHands.f code = some (((n.val : Nat) : Int), (q : Int))) :
    Ev (fun k => laws_FnChancesOfHands.j0 k code l) true := by
  obtain ⟨c, hc, _, ⟨K1, e1⟩, ⟨K2, e2⟩, w1, w2, w3, w4⟩ := pips_all n q hq
  have hq28 := (set_tsOf n).2.2.1
  have ht := tl_le n
  have hall := r_all n ⟨q, by omega⟩
  rw [decide_eq_true (show ((q : Nat) : Int) ≤ tl ((n.val : Nat) : Int) by omega)] at hall
  simp only [Bool.not_true, Bool.false_or, Bool.and_eq_true] at hall
  obtain ⟨h1, h2, h3⟩ := hall
  unfold rOk at h1
  unfold jOk at h3
  simp only [Bool.and_eq_true, decide_eq_true_eq] at h1 h3
  obtain ⟨a1, a2, a3, a4, a5, a6, a7, a8, a9, a10, a11, a12, a13⟩ := h1
  obtain ⟨b1, b2, b3, b4, b5, b6⟩ := h3
  obtain ⟨K3, e3⟩ := law_j7 l hl n q hq c hc w1 w2 w3 w4 _ a1
  have v0 := List.all_eq_true.1 h2
  have v1 : ∀ m : Nat, m < n.val + 2 → (impl_ChanceOfDoubles.f 100 (n.val : Int) q (m : Int) = some (vD (n.val : Int) q (m : Int)) ∧ (impl_ChanceOfTimes.f 100 (n.val : Int) q (m : Int) = some (vD (n.val : Int) q (m : Int)) ∧
      ((vD (n.val : Int) q (m : Int)).2.2 = true ∧ (laws_iTimes.f (vD (n.val : Int) q (m : Int)).1 (vD (n.val : Int) q (m : Int)).2.1 (vH (n.val : Int) q) = some (vX (n.val : Int) q (m : Int)) ∧ 0 ≤ vX (n.val : Int) q (m : Int))))) := by
    intro m hm
    have := v0 m (by rw [List.mem_range]; omega)
    simp only [Bool.and_eq_true, decide_eq_true_eq] at this
    exact this
  clear v0 h2
  have mD : ∀ m : Int, Ev (fun k => impl_ChanceOfDoubles.f k (n.val : Int) q m) (vD (n.val : Int) q m) ∨ ¬ impl_ChanceOfDoubles.f 100 (n.val : Int) q m = some (vD (n.val : Int) q m) := by
    intro m
    by_cases hm : impl_ChanceOfDoubles.f 100 (n.val : Int) q m = some (vD (n.val : Int) q m)
    · exact .inl (Ev.of (fun k => impl_ChanceOfDoubles.mono _ _ _ k) hm)
    · exact .inr hm
  -- the second round of questions
  have h6 : Ev (fun k => laws_FnChancesOfHands.j6 k l (n.val : Int) (q : Int) (vH (n.val : Int) q) (c : Int) (S1 (n.val : Int) q (n.val + 2)) (S2 (n.val : Int) q (n.val + 2)) (vT (n.val : Int) q).1 (vT (n.val : Int) q).2.1 (vM (n.val : Int) q).1 (vM (n.val : Int) q).2.1 (wrap64 ((q : Int) * (n.val : Int))) 1 (vO (n.val : Int) q).1 (vO (n.val : Int) q).2.1) true := by
    obtain ⟨x1, x2, x3, x4, x5⟩ := v1 0 (by omega)
    obtain ⟨L1, y1⟩ := Ev.of (g := fun k => impl_ChanceOfDoubles.f k (n.val : Int) q 0) (fun k => impl_ChanceOfDoubles.mono _ _ _ k) x1
    obtain ⟨L2, y2⟩ := Ev.of (g := fun k => impl_ChanceOfTiles.f k (n.val : Int) q 1) (fun k => impl_ChanceOfTiles.mono _ _ _ k) b4
    obtain ⟨L3, y3⟩ := Ev.of (g := fun k => impl_ChanceWithout.f k (n.val : Int) q 0) (fun k => impl_ChanceWithout.mono _ _ _ k) b5
    obtain ⟨L4, y4⟩ := Ev.of (g := fun k => impl_ChanceWithout.f k (n.val : Int) q 1) (fun k => impl_ChanceWithout.mono _ _ _ k) b6
    obtain ⟨L5, y5⟩ := Ev.of (g := fun k => impl_ChanceOfTimes.f k (n.val : Int) q 0) (fun k => impl_ChanceOfTimes.mono _ _ _ k) x2
    cases hO : laws_iTimes.f (vO (n.val : Int) q).1 (vO (n.val : Int) q).2.1 (vH (n.val : Int) q) with
    | none => rw [hO] at b3; simp at b3
    | some t =>
      rw [hO] at b3
      have b3' : wrap64 (vX (n.val : Int) q 0 + t) = vH (n.val : Int) q := of_decide_eq_true b3
      refine ⟨K3 + L1 + L2 + L3 + L4 + L5 + 1, fun k hk => ?_⟩
      obtain ⟨i, rfl⟩ : ∃ i, k = i + 1 := ⟨k - 1, by omega⟩
      have f1 := y1 i (by omega)
      have f2 := y2 i (by omega)
      have f3 := y3 i (by omega)
      have f4 := y4 i (by omega)
      have f5 := y5 i (by omega)
      have f6 := e3 i (by omega)
      simp only [Int.natCast_zero] at f1 f2 f3 f4 f5 f6 x3 x4
      simp only [laws_FnChancesOfHands.j6]
      rw [f1]
      simp only [Option.bind_some]
      rw [f2]
      simp only [Option.bind_some]
      rw [f3]
      simp only [Option.bind_some]
      rw [f4]
      simp only [Option.bind_some]
      rw [f5]
      simp only [Option.bind_some]
      rw [if_pos b1, if_pos b2, x3, if_pos rfl, x4]
      simp only [Option.bind_some]
      rw [hO]
      simp only [Option.bind_some]
      rw [if_pos b3', a5, if_pos rfl]
      simp only [beq_self_eq_true, Bool.not_true, Bool.or_self, Bool.false_eq_true, if_false, if_true]
      exact f6
  have h0 : ∀ (d j : Nat), j + d = n.val + 2 → Ev (fun k => laws_FnChancesOfHands.l0 k l (n.val : Int) (q : Int) (vH (n.val : Int) q) (c : Int) (S1 (n.val : Int) q j) (S2 (n.val : Int) q j) (j : Int) (vT (n.val : Int) q).1 (vT (n.val : Int) q).2.1 (vM (n.val : Int) q).1 (vM (n.val : Int) q).2.1 (wrap64 ((q : Int) * (n.val : Int))) 1 (vO (n.val : Int) q).1 (vO (n.val : Int) q).2.1) true := by
    intro d
    have hn7 := n.isLt
    induction d with
    | zero =>
      intro j hj
      obtain rfl : j = n.val + 2 := by omega
      refine Ev.step (fun k => ?_) h6
      simp only [laws_FnChancesOfHands.l0]
      rw [p_wrap ((n.val : Int) + 1) (by omega) (by omega), if_neg (by omega)]
    | succ d ih =>
      intro j hj
      obtain ⟨x1, x2, x3, x4, x5⟩ := v1 j (by omega)
      obtain ⟨L1, y1⟩ := Ev.of (g := fun k => impl_ChanceOfDoubles.f k (n.val : Int) q (j : Int)) (fun k => impl_ChanceOfDoubles.mono _ _ _ k) x1
      obtain ⟨L5, y5⟩ := Ev.of (g := fun k => impl_ChanceOfTimes.f k (n.val : Int) q (j : Int)) (fun k => impl_ChanceOfTimes.mono _ _ _ k) x2
      obtain ⟨L2, y2⟩ := ih (j + 1) (by omega)
      refine ⟨L1 + L5 + L2 + 3, fun k hk => ?_⟩
      obtain ⟨i, rfl⟩ : ∃ i, k = i + 3 := ⟨k - 3, by omega⟩
      have f1 := y1 (i + 1) (by omega)
      have f5 := y5 (i + 1) (by omega)
      have f2 := y2 i (by omega)
      simp only at f1 f5 f2
      simp only [laws_FnChancesOfHands.l0]
      rw [p_wrap ((n.val : Int) + 1) (by omega) (by omega), if_pos (by omega)]
      simp only [laws_FnChancesOfHands.j4]
      rw [f1]
      simp only [Option.bind_some]
      rw [f5]
      simp only [Option.bind_some]
      rw [x3, if_pos rfl]
      simp only [beq_self_eq_true, Bool.not_true, Bool.or_self, Bool.false_eq_true, if_false]
      rw [x4]
      simp only [Option.bind_some]
      rw [decide_eq_false (by omega)]
      simp only [laws_FnChancesOfHands.j5, Bool.false_eq_true, if_false]
      rw [x4]
      simp only [Option.bind_some]
      rw [p_wrap ((j : Int) + 1) (by omega) (by omega)]
      rw [Int.natCast_succ, S1, S2] at f2
      exact f2
  obtain ⟨K4, e4⟩ := h0 (n.val + 2) 0 (by omega)
  obtain ⟨M1, z1⟩ := Ev.of (g := fun k => impl_CountHands.f k (n.val : Int) q) (fun k => impl_CountHands.mono _ _ k) a1
  obtain ⟨M2, z2⟩ := Ev.of (g := fun k => spec_CountHands.f k (n.val : Int) q) (fun k => spec_CountHands.mono _ _ k) a2
  obtain ⟨M3, z3⟩ := Ev.of (g := fun k => impl_ChanceOfTile.f k (n.val : Int) q) (fun k => impl_ChanceOfTile.mono _ _ k) a3
  obtain ⟨M4, z4⟩ := Ev.of (g := fun k => spec_ChanceOfTile.f k (n.val : Int) q) (fun k => spec_ChanceOfTile.mono _ _ k) a4
  obtain ⟨M5, z5⟩ := Ev.of (g := fun k => impl_DoublesMean.f k (n.val : Int) q) (fun k => impl_DoublesMean.mono _ _ k) a6
  obtain ⟨M6, z6⟩ := Ev.of (g := fun k => spec_DoublesMean.f k (n.val : Int) q) (fun k => spec_DoublesMean.mono _ _ k) a7
  obtain ⟨M7, z7⟩ := Ev.of (g := fun k => impl_ChanceOfOpening.f k (n.val : Int) q) (fun k => impl_ChanceOfOpening.mono _ _ k) a11
  obtain ⟨M8, z8⟩ := Ev.of (g := fun k => spec_ChanceOfOpening.f k (n.val : Int) q) (fun k => spec_ChanceOfOpening.mono _ _ k) a12
  refine ⟨K1 + K2 + K4 + M1 + M2 + M3 + M4 + M5 + M6 + M7 + M8 + 3, fun k hk => ?_⟩
  obtain ⟨i, rfl⟩ : ∃ i, k = i + 3 := ⟨k - 3, by omega⟩
  have f1 := e1 (i + 2) (by omega)
  have f2 := e2 (i + 2) (by omega)
  have f4 := e4 i (by omega)
  have g1 := z1 (i + 2) (by omega)
  have g2 := z2 (i + 2) (by omega)
  have g3 := z3 (i + 2) (by omega)
  have g4 := z4 (i + 2) (by omega)
  have g5 := z5 (i + 2) (by omega)
  have g6 := z6 (i + 2) (by omega)
  have g7 := z7 (i + 2) (by omega)
  have g8 := z8 (i + 2) (by omega)
  simp only at f1 f2 f4 g1 g2 g3 g4 g5 g6 g7 g8
  simp only [laws_FnChancesOfHands.j0]
  rw [hd]
  simp only [Option.bind_some]
  rw [g1]
  simp only [Option.bind_some]
  rw [g2]
  simp only [Option.bind_some]
  rw [g3]
  simp only [Option.bind_some]
  rw [g4]
  simp only [Option.bind_some]
  rw [g5]
  simp only [Option.bind_some]
  rw [g6]
  simp only [Option.bind_some]
  rw [a9]
  simp only [Option.bind_some]
  rw [a10]
  simp only [Option.bind_some]
  rw [g7]
  simp only [Option.bind_some]
  rw [g8]
  simp only [Option.bind_some]
  rw [f2]
  simp only [Option.bind_some]
  rw [f1]
  simp only [Option.bind_some, a5, a8, a13, bne_self_eq_false, beq_self_eq_true, Bool.not_true, Bool.or_self, Bool.false_eq_true, if_false, if_true, laws_FnChancesOfHands.j1, laws_FnChancesOfHands.j2]
  exact f4
theorem law_bad (l : List Int) (hl : ∀ x ∈ l, 0 ≤ x ∧ x ≤ 255) (n q t : Int) (hb : spec_dcGood.f n q = some false) (ht : impl_isDrawn.f n q = some (t, false)) (code : List Int) (hd : spec_DrawCountHands.f code = some (n, q)) :
    Ev (fun k => laws_FnChancesOfHands.j0 k code l) true := by
  obtain ⟨K, e⟩ := law13 l hl
  refine ⟨K + 4, fun k hk => ?_⟩
  obtain ⟨i, rfl⟩ : ∃ i, k = i + 4 := ⟨k - 4, by omega⟩
  have f := e (i + 1) (by omega)
  simp only at f
  have t1 : impl_ChanceOfTiles.f (i + 3) n q 1 = some (0, 0, false) := by
    simp only [impl_ChanceOfTiles.f, ht, Option.bind_some, Bool.false_eq_true, if_false, impl_ChanceOfTiles.j0, if_true]
  have t2 : impl_ChanceOfDoubles.f (i + 3) n q 0 = some (0, 0, false) := by
    simp only [impl_ChanceOfDoubles.f, ht, Option.bind_some, Bool.false_eq_true, if_false]
  simp only [laws_FnChancesOfHands.j0, hd, impl_CountHands.f, spec_CountHands.f, impl_ChanceOfTile.f, t1, spec_ChanceOfTile.f, impl_DoublesMean.f, spec_DoublesMean.f, impl_PipsMean.f, spec_PipsMean.f, impl_ChanceOfOpening.f, t2, spec_ChanceOfOpening.f, impl_LikeliestPips.f, spec_LikeliestPips.f, hb, ht, Option.bind_some,
    Bool.false_eq_true, if_false, bne_self_eq_false, beq_self_eq_true, Bool.not_true, Bool.or_self, if_true, laws_FnChancesOfHands.j1, laws_FnChancesOfHands.j2]
  exact f
theorem wf_u8 (l : List Int) (h : ∀ x_ ∈ l, (Lit.int .u8 x_).wf = true) : ∀ x ∈ l, 0 ≤ x ∧ x ≤ 255 := by
  intro x hx
  have h1 : (decide (IntKind.u8.min ≤ x) && decide (x ≤ IntKind.u8.max)) = true := h x hx
  have h2 : IntKind.u8.min = 0 := by decide
  have h3 : IntKind.u8.max = 255 := by decide
  rw [h2, h3] at h1
  simpa using h1
theorem law_all (l0 l1 : List Int) (h0 : ∀ x_ ∈ l0, (Lit.int .u8 x_).wf = true) (h1 : ∀ x_ ∈ l1, (Lit.int .u8 x_).wf = true) : ∃ k, laws_FnChancesOfHands.f k l0 l1 = some true := by
  obtain ⟨n, q, hd⟩ := d_count l0 (wf_u8 l0 h0)
  have big : ∃ c, laws_big.f l0 l1 = some c := by
    unfold laws_big.f
    split <;> exact ⟨_, rfl⟩
  obtain ⟨c, hc⟩ := big
  have hj : Ev (fun k => laws_FnChancesOfHands.j0 k l0 l1) true := by
    obtain ⟨b, t, hb, ht, hbd⟩ := g_guard n q
    cases b with
    | false => exact law_bad l1 (wf_u8 l1 h1) n q t hb ht l0 hd
    | true =>
      obtain ⟨p1, p2, p3, p4, p5⟩ := hbd rfl
      have hle := c_guard_le n q t ht
      obtain ⟨m, rfl⟩ : ∃ m : Nat, n = (m : Int) := ⟨n.toNat, by omega⟩
      obtain ⟨r, rfl⟩ : ∃ m : Nat, q = (m : Int) := ⟨q.toNat, by omega⟩
      have htl := tl_le ⟨m, by omega⟩
      simp only at htl
      exact law_good l1 (wf_u8 l1 h1) ⟨m, by omega⟩ r (by simp only; omega) l0 hd
  obtain ⟨K, e⟩ := hj
  refine ⟨K, ?_⟩
  unfold laws_FnChancesOfHands.f
  rw [hc]
  simp only [Option.bind_some]
  cases c with
  | true => rfl
  | false =>
    simp only [Bool.false_eq_true, if_false]
    exact e K (Nat.le_refl _)
theorem FnChancesOfHands (l0 : List Int) (l1 : List Int) (_h0 : (l0.length ≤ 9223372036854775807 ∧ ∀ x_ ∈ l0, (Lit.int .u8 x_).wf = true)) (_h1 : (l1.length ≤ 9223372036854775807 ∧ ∀ x_ ∈ l1, (Lit.int .u8 x_).wf = true)) : ∃ k, laws_FnChancesOfHands.f k l0 l1 = some true := law_all l0 l1 _h0.2 _h1.2

end Go.Proofs.Ytfaobohggphaaaa.QPure
