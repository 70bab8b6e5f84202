/- For every input the law FnChainsLaid answers true: the plain statement over lists and numbers. No conditions. -/
import Derived.Test.YtmgdndgaiicaiaaQFnChainsLaidx1
import Derived.Test.YtmgdndgaiicaiaaQFnChainsLaidx2
import Derived.Test.YtmgdndgaiicaiaaQFnChainsLaidx3
import Derived.Test.YtmgdndgaiicaiaaQFnChainsLaidx4
import Derived.Test.YtmgdndgaiicaiaaQFnChainsLaidx5
import Derived.Test.YtmgdndgaiicaiaaQFnChainsLaidx6
import Derived.Test.YtmgdndgaiicaiaaQFnChainsLaidx7
import Derived.Test.YtmgdndgaiicaiaaQFnChainsLaidx8
import Derived.Test.YtmgdndgaiicaiaaQFnChainsLaidx9
import Derived.Test.YtmgdndgaiicaiaaQFnChainsLaidx10
import Derived.Test.YtmgdndgaiicaiaaQFnChainsLaidx11
import Derived.Test.YtmgdndgaiicaiaaQFnChainsLaidx12
import Derived.Test.YtmgdndgaiicaiaaQFnChainsLaidx13
import Derived.Test.YtmgdndgaiicaiaaQFnChainsLaidx14
import Derived.Test.YtmgdndgaiicaiaaQFnChainsLaidx15
import Derived.Test.YtmgdndgaiicaiaaQPureAFnChainsLaid
namespace Go.Proofs.Ytmgdndgaiicaiaa.QPure
open Go.RowKit Go.Proofs.Ytmgdndgaiicaiaa.QFnChainsLaid Go.Proofs.YtmgdndgaiicaiaaW.PrintWords Go.Proofs.YtmgdndgaiicaiaaW.PrintLast

set_option linter.unusedVariables false
set_option linter.unusedSimpArgs false
/-! What the reference draws out of bytes: it always draws something. -/
theorem d_bits (E : Int) (h0 : 0 ≤ E) (h1 : E ≤ 18446744073709551615) : 0 ≤ Go.bits .and .u64 E 255 ∧ Go.bits .and .u64 E 255 ≤ 255 := by
  have h := bits_and_u64_nat E.toNat 255 (by omega) (by omega)
  rw [Int.toNat_of_nonneg h0] at h
  have h2 : (E.toNat &&& 255) ≤ 255 := Nat.and_le_right
  have h3 : Go.bits .and .u64 E 255 = ((E.toNat &&& 255 : Nat) : Int) := h
  omega
theorem d_w (n : Int) (h : -1000000000 ≤ n) (h' : n ≤ 1000000000) : wrap64 n = n := by
  unfold wrap64
  omega
theorem d_rd (l : List Int) (hl : ∀ x ∈ l, 0 ≤ x ∧ x ≤ 255) (p : Int) : 0 ≤ rd l p ∧ rd l p ≤ 255 := by
  unfold rd
  rw [List.getD_eq_getElem?_getD]
  by_cases h : p.toNat < l.length
  · rw [List.getElem?_eq_getElem h]
    exact hl _ (List.getElem_mem _)
  · rw [List.getElem?_eq_none (by omega)]
    simp
theorem d_next (l : List Int) (hl : ∀ x ∈ l, 0 ≤ x ∧ x ≤ 255) (p s : Int) (hp : 0 ≤ p ∧ p ≤ 1000000) : ∃ v s', spec_l1Cur_next.f l p s = some (v, p + 1, s') ∧ 0 ≤ v ∧ v ≤ 255 := by
  have h := d_rd l hl p
  have hb : ∀ n : Int, 0 ≤ wrap64 (Go.bits .and .u64 (IntKind.u64.wrap n / 1099511627776) 255) ∧ wrap64 (Go.bits .and .u64 (IntKind.u64.wrap n / 1099511627776) 255) ≤ 255 := by
    intro n
    have h := d_bits (IntKind.u64.wrap n / 1099511627776) (by rw [IntKind.wrap_u64]; omega) (by rw [IntKind.wrap_u64]; omega)
    rw [d_w _ (by omega) (by omega)]
    exact h
  unfold spec_l1Cur_next.f
  rw [d_w (p + 1) (by omega) (by omega)]
  by_cases h1 : p < (l.length : Int)
  · rw [if_pos h1, if_pos hp.1]
    by_cases h2 : p + 1 ≤ (l.length : Int)
    · rw [if_pos h2]
      exact ⟨_, _, rfl, by rw [d_w _ (by omega) (by omega)]; exact h⟩
    · rw [if_neg h2]
      exact ⟨_, _, rfl, hb _⟩
  · rw [if_neg h1]
    by_cases h2 : p + 1 ≤ (l.length : Int)
    · rw [if_pos h2]
      exact ⟨_, _, rfl, by omega, by omega⟩
    · rw [if_neg h2]
      exact ⟨_, _, rfl, hb _⟩
theorem d_pick (l : List Int) (hl : ∀ x ∈ l, 0 ≤ x ∧ x ≤ 255) (p s : Int) (hp : 0 ≤ p ∧ p ≤ 100000) (a : Int) (ha : 1 ≤ a) : ∃ v p' s', spec_l1Cur_pick.f l p s a = some (v, p', s') ∧ 0 ≤ v ∧ v < a ∧ 0 ≤ p' ∧ p' ≤ p + 2 := by
  unfold spec_l1Cur_pick.f
  by_cases h1 : a ≤ 1
  · rw [if_pos h1]
    exact ⟨0, p, s, rfl, by omega, by omega, by omega, by omega⟩
  · rw [if_neg h1]
    obtain ⟨v, s1, e1, v0, v1⟩ := d_next l hl p s (by omega)
    rw [e1]
    simp only [Option.bind_some]
    by_cases h2 : a > 200
    · rw [if_pos h2]
      obtain ⟨u, s2, e2, u0, u1⟩ := d_next l hl (p + 1) s1 (by omega)
      rw [e2]
      simp only [Option.bind_some]
      rw [if_neg (by omega), d_w (v * 256) (by omega) (by omega), d_w _ (by omega) (by omega)]
      exact ⟨_, _, _, rfl, Int.tmod_nonneg _ (by omega), Int.tmod_lt_of_pos _ (by omega), by omega, by omega⟩
    · rw [if_neg h2, if_neg (by omega)]
      exact ⟨_, _, _, rfl, Int.tmod_nonneg _ (by omega), Int.tmod_lt_of_pos _ (by omega), by omega, by omega⟩
theorem d_among (l : List Int) (hl : ∀ x ∈ l, 0 ≤ x ∧ x ≤ 255) (p s : Int) (hp : 0 ≤ p ∧ p ≤ 100000) (xs : List Int) (hx : 1 ≤ xs.length) : ∃ v p' s', spec_l1Cur_among.f l p s xs = some (v, p', s') ∧ 0 ≤ p' ∧ p' ≤ p + 2 := by
  unfold spec_l1Cur_among.f
  obtain ⟨v, q, s1, e1, v0, v1, q0, q1⟩ := d_pick l hl p s hp (xs.length : Int) (by omega)
  rw [e1]
  simp only [Option.bind_some]
  rw [if_pos v0, if_pos v1]
  exact ⟨_, _, _, rfl, q0, q1⟩
theorem d_one (l : List Int) (hl : ∀ x ∈ l, 0 ≤ x ∧ x ≤ 255) (p s : Int) (hp : 0 ≤ p ∧ p ≤ 100000) (a : Int) (ha : 1 ≤ a) : ∃ v p' s', spec_l1Cur_one.f l p s a = some (v, p', s') ∧ 0 ≤ p' ∧ p' ≤ p + 2 := by
  unfold spec_l1Cur_one.f
  obtain ⟨v, q, s1, e1, v0, v1, q0, q1⟩ := d_pick l hl p s hp a ha
  rw [e1]
  exact ⟨_, _, _, rfl, q0, q1⟩

/-! ### What the reference draws: chains, rings, texts -/
theorem own_f (c : List Int) (h : c.length ≤ 1000000) : spec_l1Own.f c = some c := by
  unfold spec_l1Own.f
  simp only [Option.bind_some, List.nil_append]
  rw [if_pos (by simp; omega)]
theorem d_sure_l (l : List Int) (hl : ∀ x ∈ l, 0 ≤ x ∧ x ≤ 255) (n : Int) (hn : 0 ≤ n ∧ n ≤ 9) : ∀ (m : Nat) (o : List Int) (p s : Int), m ≤ 20 → 1 ≤ o.length → o.length + m ≤ 100 → (∀ x ∈ o, 0 ≤ x ∧ x ≤ 9) → 0 ≤ p ∧ p + 2 * m ≤ 10000 →
    ∃ r p' s', Ev (fun k => spec_l1Cur_sureChain.l0 k n o (m : Int) l p s) (r, p', s') ∧ 1 ≤ r.length ∧ r.length ≤ o.length + m ∧ (∀ x ∈ r, 0 ≤ x ∧ x ≤ 9) ∧ 0 ≤ p' ∧ p' ≤ p + 2 * m := by
  intro m
  induction m with
  | zero =>
    intro o p s _ h1 h2 h3 h4
    refine ⟨o, p, s, ⟨1, fun k hk => ?_⟩, h1, by omega, h3, h4.1, by omega⟩
    obtain ⟨j, rfl⟩ : ∃ j, k = j + 1 := ⟨k - 1, by omega⟩
    simp only [spec_l1Cur_sureChain.l0]
    rw [if_neg (by omega)]
  | succ m ih =>
    intro o p s hm h1 h2 h3 h4
    obtain ⟨v, q, s1, e1, v0, v1, q0, q1⟩ := d_pick l hl p s (by omega) (n + 1) (by omega)
    have hr : ∀ x ∈ o ++ [v], 0 ≤ x ∧ x ≤ 9 := by
      intro x hx
      rcases List.mem_append.1 hx with h | h
      · exact h3 x h
      · have : x = v := by simpa using h
        omega
    have hlen : (o ++ [v]).length = o.length + 1 := by simp
    have key : ∀ g : Bool, ∃ r p' s', Ev (fun k => if g = true then (spec_l1Cur_sureChain.l0 k n (o ++ [v]) (m : Int) l q s1) else (spec_l1Cur_sureChain.l0 k n o (m : Int) l q s1)) (r, p', s') ∧ 1 ≤ r.length ∧ r.length ≤ o.length + (m + 1) ∧ (∀ x ∈ r, 0 ≤ x ∧ x ≤ 9) ∧ 0 ≤ p' ∧ p' ≤ p + 2 * ((m + 1 : Nat) : Int) := by
      intro g
      cases g with
      | false =>
        obtain ⟨r, p', s', a1, a2, a3, a4, a5, a6⟩ := ih o q s1 (by omega) h1 (by omega) h3 (by omega)
        exact ⟨r, p', s', a1, a2, by omega, a4, a5, by omega⟩
      | true =>
        obtain ⟨r, p', s', a1, a2, a3, a4, a5, a6⟩ := ih (o ++ [v]) q s1 (by omega) (by omega) (by omega) hr (by omega)
        exact ⟨r, p', s', a1, a2, by omega, a4, a5, by omega⟩
    obtain ⟨r, p', s', a1, a2, a3, a4, a5, a6⟩ := key (ch (o ++ [v]))
    refine ⟨r, p', s', Ev.step (f := fun k => (spec_haGood.f k (o ++ [v])).bind fun g => if g = true then (spec_l1Cur_sureChain.l0 k n (o ++ [v]) (m : Int) l q s1) else (spec_l1Cur_sureChain.l0 k n o (m : Int) l q s1)) (fun k => ?_) (Ev.bind (f := fun k g => _) (ch_spec (o ++ [v]) (by omega)) a1), a2, a3, a4, a5, a6⟩
    simp only [spec_l1Cur_sureChain.l0]
    rw [if_pos (by omega), own_f o (by omega)]
    simp only [Option.bind_some]
    rw [d_w (n + 1) (by omega) (by omega), e1]
    simp only [Option.bind_some]
    rw [if_pos (by omega), show (((m + 1 : Nat) : Int) - 1) = (m : Int) by omega, d_w (m : Int) (by omega) (by omega)]
theorem d_sure (l : List Int) (hl : ∀ x ∈ l, 0 ≤ x ∧ x ≤ 255) (most n : Int) (hm : 0 ≤ most ∧ most ≤ 15) (hn : 0 ≤ n ∧ n ≤ 9) (p s : Int) (hp : 0 ≤ p ∧ p ≤ 1000) :
    ∃ r p' s', Ev (fun k => spec_l1Cur_sureChain.f k l p s most n) (r, p', s') ∧ 1 ≤ r.length ∧ r.length ≤ 20 ∧ (∀ x ∈ r, 0 ≤ x ∧ x ≤ 9) ∧ 0 ≤ p' ∧ p' ≤ p + 40 := by
  unfold spec_l1Cur_sureChain.f
  obtain ⟨v, q1, s1, e1, v0, v1, q10, q11⟩ := d_pick l hl p s (by omega) (n + 1) (by omega)
  rw [d_w (n + 1) (by omega) (by omega), d_w (most + 1) (by omega) (by omega), e1]
  simp only [Option.bind_some]
  obtain ⟨u, q2, s2, e2, u0, u1, q20, q21⟩ := d_pick l hl q1 s1 (by omega) (most + 1) (by omega)
  rw [e2]
  simp only [Option.bind_some]
  have hv : ∀ x ∈ [v], 0 ≤ x ∧ x ≤ 9 := by
    intro x hx
    have : x = v := by simpa using hx
    omega
  obtain ⟨r, p', s', a1, a2, a3, a4, a5, a6⟩ := d_sure_l l hl n hn u.toNat [v] q2 s2 (by omega) (by simp) (by simp; omega) hv (by omega)
  rw [Int.toNat_of_nonneg u0] at a1 a6
  simp only [List.length_singleton] at a3
  exact ⟨r, p', s', a1, a2, by omega, a4, a5, by omega⟩
theorem d_chain (l : List Int) (hl : ∀ x ∈ l, 0 ≤ x ∧ x ≤ 255) (most n : Int) (hm : 0 ≤ most ∧ most ≤ 15) (hn : 0 ≤ n ∧ n ≤ 9) (p s : Int) (hp : 0 ≤ p ∧ p ≤ 1000) :
    ∃ r p' s', Ev (fun k => spec_l1Cur_chain.f k l p s most n) (r, p', s') ∧ r.length ≤ 40 ∧ 0 ≤ p' ∧ p' ≤ p + 50 := by
  unfold spec_l1Cur_chain.f
  obtain ⟨r, q1, s1, a1, a2, a3, a4, a5, a6⟩ := d_sure l hl most n hm hn p s hp
  obtain ⟨u, q2, s2, e2, u0, u1, q20, q21⟩ := d_pick l hl q1 s1 (by omega) 14 (by omega)
  by_cases h0 : u = 0
  · obtain ⟨x, q3, s3, e3, q30, q31⟩ := d_among l hl q2 s2 (by omega) [(-1), 10, 4611686018427387904, rd r 0] (by simp)
    refine ⟨r ++ [x], q3, s3, Ev.bind (f := fun k t => _) a1 ⟨0, fun k _ => ?_⟩, by simp; omega, q30, by omega⟩
    simp only
    rw [e2]
    simp only [Option.bind_some]
    rw [if_pos h0, if_pos (by omega), e3]
    simp only [Option.bind_some]
    rw [if_pos (by omega)]
  · by_cases h1 : u = 1
    · refine ⟨r ++ r, q2, s2, Ev.bind (f := fun k t => _) a1 ⟨0, fun k _ => ?_⟩, by simp; omega, q20, by omega⟩
      simp only
      rw [e2]
      simp only [Option.bind_some]
      rw [if_neg h0, if_pos h1, if_pos (by omega)]
    · by_cases h2 : u = 2
      · refine ⟨[], q2, s2, Ev.bind (f := fun k t => _) a1 ⟨0, fun k _ => ?_⟩, by simp, q20, by omega⟩
        simp only
        rw [e2]
        simp only [Option.bind_some]
        rw [if_neg h0, if_neg h1, if_pos h2]
      · refine ⟨r, q2, s2, Ev.bind (f := fun k t => _) a1 ⟨0, fun k _ => ?_⟩, by omega, q20, by omega⟩
        simp only
        rw [e2]
        simp only [Option.bind_some]
        rw [if_neg h0, if_neg h1, if_neg h2]
theorem d_isChain (l : List Int) (hl : ∀ x ∈ l, 0 ≤ x ∧ x ≤ 255) : ∃ r, Ev (fun k => spec_DrawTilesOfChain.f k l) r ∧ r.length ≤ 40 := by
  obtain ⟨r, p, s, a1, a2, _⟩ := d_chain l hl 9 6 (by omega) (by omega) 0 0 (by omega)
  refine ⟨r, ?_, a2⟩
  unfold spec_DrawTilesOfChain.f spec_DrawIsChain.f
  exact Ev.bind (f := fun k t => some t) (Ev.bind (f := fun k (t : List Int × Int × Int) => some t.1) a1 ⟨0, fun _ _ => rfl⟩) ⟨0, fun _ _ => rfl⟩
theorem d_ring (l : List Int) (hl : ∀ x ∈ l, 0 ≤ x ∧ x ≤ 255) : ∃ r p' s', Ev (fun k => spec_l1Cur_ring.f k l 0 0) (r, p', s') ∧ r.length ≤ 41 ∧ 0 ≤ p' ∧ p' ≤ 60 := by
  unfold spec_l1Cur_ring.f
  obtain ⟨r, q1, s1, a1, a2, a3, a4⟩ := d_chain l hl 7 4 (by omega) (by omega) 0 0 (by omega)
  have no : ∀ q s, Ev (fun k => spec_l1Cur_ring.j0 k r false l q s) (r, q, s) := by
    intro q s
    refine ⟨1, fun k hk => ?_⟩
    obtain ⟨j, rfl⟩ : ∃ j, k = j + 1 := ⟨k - 1, by omega⟩
    simp only [spec_l1Cur_ring.j0, Bool.false_eq_true, if_false]
  by_cases h : (r.length : Int) > 0
  · obtain ⟨o, q2, s2, e2, q20, q21⟩ := d_one l hl q1 s1 (by omega) 4 (by omega)
    cases o with
    | true =>
      refine ⟨r, q2, s2, Ev.bind (f := fun k t => _) a1 ?_, by omega, q20, by omega⟩
      simp only [if_pos h]
      rw [e2]
      exact no q2 s2
    | false =>
      have hl2 : (r ++ [rd r 0]).length = r.length + 1 := by simp
      have key : ∃ z : List Int, z.length ≤ 41 ∧ Ev (fun k => spec_l1Cur_ring.j0 k r true l q2 s2) (z, q2, s2) := by
        refine ⟨if ch (r ++ [rd r 0]) = true then r ++ [rd r 0] else r, by split <;> omega, Ev.step (f := fun k => (spec_haGood.f k (r ++ [rd r 0])).bind fun t => if t = true then some (r ++ [rd r 0], q2, s2) else some (r, q2, s2)) (fun k => ?_) (Ev.bind (f := fun k t => _) (ch_spec (r ++ [rd r 0]) (by omega)) ⟨0, fun k _ => ?_⟩)⟩
        · simp only [spec_l1Cur_ring.j0, if_true]
          rw [own_f r (by omega)]
          simp only [Option.bind_some]
          rw [if_pos (by omega), if_pos (by simp; omega)]
        · cases ch (r ++ [rd r 0]) <;> rfl
      obtain ⟨z, z1, z2⟩ := key
      refine ⟨z, q2, s2, Ev.bind (f := fun k t => _) a1 ?_, z1, q20, by omega⟩
      simp only [if_pos h]
      rw [e2]
      exact z2
  · refine ⟨r, q1, s1, Ev.bind (f := fun k t => _) a1 ?_, by omega, a3, by omega⟩
    simp only [if_neg h]
    exact no q1 s1
theorem d_spin (l : List Int) (hl : ∀ x ∈ l, 0 ≤ x ∧ x ≤ 255) : ∃ r k, Ev (fun q => spec_DrawSpinRing.f q l) (r, k) ∧ r.length ≤ 41 := by
  unfold spec_DrawSpinRing.f
  obtain ⟨r, p, s, a1, a2, a3, a4⟩ := d_ring l hl
  obtain ⟨u, q2, s2, e2, u0, u1, q20, q21⟩ := d_pick l hl p s (by omega) 7 (by omega)
  obtain ⟨v, q3, s3, e3, v0, v1, q30, q31⟩ := d_pick l hl q2 s2 (by omega) 9 (by omega)
  refine ⟨r, wrap64 (u - wrap64 (Int.tdiv v 8)), Ev.bind (f := fun k t => _) a1 ⟨0, fun k _ => ?_⟩, a2⟩
  simp only
  rw [e2]
  simp only [Option.bind_some]
  rw [e3]
  rfl
theorem d_join_l (l : List Int) (hl : ∀ x ∈ l, 0 ≤ x ∧ x ≤ 255) (a : List Int) : ∀ (m : Nat) (b : List Int) (p s : Int), m ≤ 20 → b.length + m ≤ 100 → 0 ≤ p ∧ p + 2 * m ≤ 10000 →
    ∃ r, Ev (fun k => spec_DrawJoinChains.l0 k a b (m : Int) l p s) (a, r) ∧ r.length ≤ 100 := by
  intro m
  induction m with
  | zero =>
    intro b p s _ h1 h2
    refine ⟨b, ⟨1, fun k hk => ?_⟩, by omega⟩
    obtain ⟨j, rfl⟩ : ∃ j, k = j + 1 := ⟨k - 1, by omega⟩
    simp only [spec_DrawJoinChains.l0]
    rw [if_neg (by omega)]
  | succ m ih =>
    intro b p s hm h1 h2
    obtain ⟨v, q, s1, e1, v0, v1, q0, q1⟩ := d_pick l hl p s (by omega) 6 (by omega)
    have hlen : (b ++ [v]).length = b.length + 1 := by simp
    have key : ∀ g : Bool, ∃ r, Ev (fun k => if g = true then (spec_DrawJoinChains.l0 k a (b ++ [v]) (m : Int) l q s1) else (spec_DrawJoinChains.l0 k a b (m : Int) l q s1)) (a, r) ∧ r.length ≤ 100 := by
      intro g
      cases g with
      | false => exact ih b q s1 (by omega) (by omega) (by omega)
      | true => exact ih (b ++ [v]) q s1 (by omega) (by omega) (by omega)
    obtain ⟨r, a1, a2⟩ := key (ch (b ++ [v]))
    refine ⟨r, Ev.step (f := fun k => (spec_haGood.f k (b ++ [v])).bind fun g => if g = true then (spec_DrawJoinChains.l0 k a (b ++ [v]) (m : Int) l q s1) else (spec_DrawJoinChains.l0 k a b (m : Int) l q s1)) (fun k => ?_) (Ev.bind (f := fun k g => _) (ch_spec (b ++ [v]) (by omega)) a1), a2⟩
    simp only [spec_DrawJoinChains.l0]
    rw [if_pos (by omega), own_f b (by omega)]
    simp only [Option.bind_some]
    rw [e1]
    simp only [Option.bind_some]
    rw [if_pos (by omega), show (((m + 1 : Nat) : Int) - 1) = (m : Int) by omega, d_w (m : Int) (by omega) (by omega)]
theorem d_joins (l : List Int) (hl : ∀ x ∈ l, 0 ≤ x ∧ x ≤ 255) : ∃ a b, Ev (fun q => spec_DrawJoinChains.f q l) (a, b) ∧ a.length ≤ 100 ∧ b.length ≤ 100 := by
  unfold spec_DrawJoinChains.f
  obtain ⟨a, q1, s1, a1, a2, a3, a4⟩ := d_chain l hl 5 5 (by omega) (by omega) 0 0 (by omega)
  have no : ∀ q s, 0 ≤ q ∧ q ≤ 1000 → ∃ b, Ev (fun k => spec_DrawJoinChains.j0 k a false l q s) (a, b) ∧ b.length ≤ 100 := by
    intro q s hq
    obtain ⟨b, q1, s1, b1, b2, _⟩ := d_chain l hl 5 5 (by omega) (by omega) q s hq
    refine ⟨b, Ev.step (f := fun k => (spec_l1Cur_chain.f k l q s 5 5).bind fun t => some (a, t.1)) (fun k => ?_) (Ev.bind (f := fun k (t : List Int × Int × Int) => some (a, t.1)) b1 ⟨0, fun _ _ => rfl⟩), by omega⟩
    simp only [spec_DrawJoinChains.j0, Bool.false_eq_true, if_false]
  by_cases h : (a.length : Int) > 0
  · obtain ⟨o, q2, s2, e2, q20, q21⟩ := d_one l hl q1 s1 (by omega) 5 (by omega)
    cases o with
    | true =>
      obtain ⟨b, b1, b2⟩ := no q2 s2 (by omega)
      refine ⟨a, b, Ev.bind (f := fun k t => _) a1 ?_, by omega, b2⟩
      simp only [if_pos h]
      rw [e2]
      exact b1
    | false =>
      obtain ⟨u, q3, s3, e3, u0, u1, q30, q31⟩ := d_pick l hl q2 s2 (by omega) 5 (by omega)
      obtain ⟨b, b1, b2⟩ := d_join_l l hl a u.toNat [rd a ((a.length : Int) - 1)] q3 s3 (by omega) (by simp; omega) (by omega)
      rw [Int.toNat_of_nonneg u0] at b1
      refine ⟨a, b, Ev.bind (f := fun k t => _) a1 ?_, by omega, b2⟩
      simp only [if_pos h]
      rw [e2]
      refine Ev.step (f := fun k => spec_DrawJoinChains.l0 k a [rd a ((a.length : Int) - 1)] u l q3 s3) (fun k => ?_) b1
      simp only [Option.bind_some, spec_DrawJoinChains.j0, Bool.not_false, if_true]
      rw [wn _ (by omega), if_pos (by omega), if_pos (by omega), e3]
      rfl
  · obtain ⟨b, b1, b2⟩ := no q1 s1 (by omega)
    refine ⟨a, b, Ev.bind (f := fun k t => _) a1 ?_, by omega, b2⟩
    simp only [if_neg h]
    exact b1
theorem ext_size (t : ByteArray) (i j : Nat) (h : j ≤ t.size) : (t.extract i j).size = j - i := by
  rw [ByteArray.size_extract]
  omega
theorem sp1 (t c : ByteArray) (n : Nat) (hn : n < t.size) (hc : c.size = 1) (ht : t.size ≤ 1000) : (t.extract 0 n).size + c.size ≤ 9223372036854775807 ∧ (t.extract 0 n ++ c).size + (t.extract n t.size).size ≤ 9223372036854775807 ∧ ((t.extract 0 n ++ c) ++ t.extract n t.size).size ≤ t.size + 1 := by
  simp only [ByteArray.size_append, ext_size t 0 n (by omega), ext_size t n t.size (Nat.le_refl _), hc]
  omega
theorem sp2 (t c : ByteArray) (n : Nat) (hn : n < t.size) (hc : c.size = 1) (ht : t.size ≤ 1000) : (t.extract 0 n).size + c.size ≤ 9223372036854775807 ∧ (t.extract 0 n ++ c).size + (t.extract (n + 1) t.size).size ≤ 9223372036854775807 ∧ ((t.extract 0 n ++ c) ++ t.extract (n + 1) t.size).size ≤ t.size + 1 := by
  simp only [ByteArray.size_append, ext_size t 0 n (by omega), ext_size t (n + 1) t.size (Nat.le_refl _), hc]
  omega
theorem sp3 (t : ByteArray) (n : Nat) (hn : n < t.size) (ht : t.size ≤ 1000) : (t.extract 0 n).size + (t.extract (n + 1) t.size).size ≤ 9223372036854775807 ∧ (t.extract 0 n ++ t.extract (n + 1) t.size).size ≤ t.size + 1 := by
  simp only [ByteArray.size_append, ext_size t 0 n (by omega), ext_size t (n + 1) t.size (Nat.le_refl _)]
  omega
theorem d_spoil_l (l : List Int) (hl : ∀ x ∈ l, 0 ≤ x ∧ x ≤ 255) (w : ByteArray) (hw : 1 ≤ w.size ∧ w.size ≤ 100) : ∀ (m : Nat) (t : ByteArray) (p s : Int), m ≤ 20 → t.size + m ≤ 1000 → 0 ≤ p ∧ p + 6 * m ≤ 10000 →
    ∃ r p' s', Ev (fun k => spec_l1Cur_spoilt.l0 k t w (m : Int) l p s) (r, p', s') ∧ r.size ≤ 1000 := by
  intro m
  induction m with
  | zero =>
    intro t p s _ h1 h2
    refine ⟨t, p, s, ⟨2, fun k hk => ?_⟩, by omega⟩
    obtain ⟨j, rfl⟩ : ∃ j, k = j + 2 := ⟨k - 2, by omega⟩
    simp only [spec_l1Cur_spoilt.l0]
    rw [if_neg (by omega)]
    simp only [spec_l1Cur_spoilt.j1, Bool.false_eq_true, if_false]
  | succ m ih =>
    intro t p s hm h1 h2
    by_cases h0 : 0 < t.size
    · obtain ⟨i, q1, s1, e1, i0, i1, q10, q11⟩ := d_pick l hl p s (by omega) (t.size : Int) (by omega)
      obtain ⟨v, q2, s2, e2, v0, v1, q20, q21⟩ := d_pick l hl q1 s1 (by omega) (w.size : Int) (by omega)
      obtain ⟨u, q3, s3, e3, u0, u1, q30, q31⟩ := d_pick l hl q2 s2 (by omega) 3 (by omega)
      obtain ⟨n, rfl⟩ : ∃ n : Nat, i = (n : Int) := ⟨i.toNat, by omega⟩
      have hn : n < t.size := by omega
      have hnl : (n : Int) ≤ (t.size : Int) := by omega
      have ht : t.size ≤ 1000 := by omega
      have hm' : m ≤ 20 := by omega
      have hq : 0 ≤ q3 ∧ q3 + 6 * m ≤ 10000 := by omega
      have hsz : ∀ z : ByteArray, z.size ≤ t.size + 1 → z.size + m ≤ 1000 := by
        intro z h
        omega
      have hn1 : (0 : Int) ≤ ((n + 1 : Nat) : Int) := by omega
      have hn2 : ((n + 1 : Nat) : Int) ≤ (t.size : Int) := by omega
      have hmp : ((m + 1 : Nat) : Int) > 0 := by omega
      have htp : (t.size : Int) > 0 := by omega
      have go : ∀ r p' s' z, Ev (fun k => spec_l1Cur_spoilt.l0 k z w (m : Int) l q3 s3) (r, p', s') → r.size ≤ 1000 →
          (∀ k, spec_l1Cur_spoilt.j1 (k + 1) t w ((m + 1 : Nat) : Int) true l p s = spec_l1Cur_spoilt.l0 k z w (m : Int) l q3 s3) →
          ∃ r p' s', Ev (fun k => spec_l1Cur_spoilt.l0 k t w ((m + 1 : Nat) : Int) l p s) (r, p', s') ∧ r.size ≤ 1000 := by
        intro r p' s' z ⟨K, hK⟩ hr hz
        refine ⟨r, p', s', ⟨K + 2, fun k hk => ?_⟩, hr⟩
        obtain ⟨j, rfl⟩ : ∃ j, k = j + 2 := ⟨k - 2, by omega⟩
        simp only [spec_l1Cur_spoilt.l0]
        rw [if_pos hmp, decide_eq_true htp, hz j]
        exact hK j (by omega)
      have wi : wrap64 ((n : Int) + 1) = ((n + 1 : Nat) : Int) := by rw [d_w _ (by omega) (by omega)]; rfl
      have wm : wrap64 (((m + 1 : Nat) : Int) - 1) = (m : Int) := by rw [d_w _ (by omega) (by omega)]; omega
      have x4 : (strOfNums [bt w v]).size = 1 := (strOfNums_size _).trans rfl
      obtain ⟨c, hc⟩ : ∃ c, c = strOfNums [bt w v] := ⟨_, rfl⟩
      rw [← hc] at x4
      by_cases hu0 : u = 0
      · obtain ⟨y1, y2, y3⟩ := sp1 t c n hn x4 ht
        obtain ⟨r, p', s', a1, a2⟩ := ih ((t.extract 0 n ++ c) ++ t.extract n t.size) q3 s3 hm' (hsz _ y3) hq
        refine go r p' s' _ a1 a2 (fun k => ?_)
        simp only [spec_l1Cur_spoilt.j1, if_true]
        rw [e1]
        simp only [Option.bind_some]
        rw [e2]
        simp only [Option.bind_some]
        rw [if_pos v0, if_pos v1, e3]
        simp only [Option.bind_some, Int.toNat_natCast]
        rw [← hc, if_pos hu0, if_pos i0, if_pos hnl, if_pos y1, if_pos y2, wm]
      · by_cases hu1 : u = 1
        · obtain ⟨y1, y2, y3⟩ := sp2 t c n hn x4 ht
          obtain ⟨r, p', s', a1, a2⟩ := ih ((t.extract 0 n ++ c) ++ t.extract (n + 1) t.size) q3 s3 hm' (hsz _ y3) hq
          refine go r p' s' _ a1 a2 (fun k => ?_)
          simp only [spec_l1Cur_spoilt.j1, if_true]
          rw [e1]
          simp only [Option.bind_some]
          rw [e2]
          simp only [Option.bind_some]
          rw [if_pos v0, if_pos v1, e3, wi]
          simp only [Option.bind_some, Int.toNat_natCast]
          rw [← hc, if_neg hu0, if_pos hu1, if_pos i0, if_pos hnl, if_pos y1, if_pos hn1, if_pos hn2, if_pos y2, wm]
        · obtain ⟨y1, y3⟩ := sp3 t n hn ht
          obtain ⟨r, p', s', a1, a2⟩ := ih (t.extract 0 n ++ t.extract (n + 1) t.size) q3 s3 hm' (hsz _ y3) hq
          refine go r p' s' _ a1 a2 (fun k => ?_)
          simp only [spec_l1Cur_spoilt.j1, if_true]
          rw [e1]
          simp only [Option.bind_some]
          rw [e2]
          simp only [Option.bind_some]
          rw [if_pos v0, if_pos v1, e3, wi]
          simp only [Option.bind_some, Int.toNat_natCast]
          rw [if_neg hu0, if_neg hu1, if_pos i0, if_pos hnl, if_pos hn1, if_pos hn2, if_pos y1, wm]
    · refine ⟨t, p, s, ⟨2, fun k hk => ?_⟩, by omega⟩
      obtain ⟨j, rfl⟩ : ∃ j, k = j + 2 := ⟨k - 2, by omega⟩
      simp only [spec_l1Cur_spoilt.l0]
      rw [if_pos (by omega), decide_eq_false (by omega)]
      simp only [spec_l1Cur_spoilt.j1, Bool.false_eq_true, if_false]
theorem d_text (l : List Int) (hl : ∀ x ∈ l, 0 ≤ x ∧ x ≤ 255) : ∃ t, Ev (fun q => spec_DrawParseChain.f q l) t ∧ t.size ≤ 1000 := by
  unfold spec_DrawParseChain.f
  obtain ⟨r, q1, s1, a1, a2, a3, a4, a5, a6⟩ := d_sure l hl 8 6 (by omega) (by omega) 0 0 (by omega)
  have ht := haText_f r (by omega) (fun x hx => by have := a4 x hx; omega)
  have hs : (strOfNums (r.map dg)).size ≤ 20 := by rw [strOfNums_size, List.length_map]; exact a3
  obtain ⟨o, q2, s2, e2, q20, q21⟩ := d_one l hl q1 s1 (by omega) 3 (by omega)
  cases o with
  | false =>
    refine ⟨strOfNums (r.map dg), Ev.bind (f := fun k t => _) a1 (Ev.bind (f := fun k t => _) ht ⟨0, fun k _ => ?_⟩), by omega⟩
    simp only
    rw [e2]
    rfl
  | true =>
    obtain ⟨u, q3, s3, e3, u0, u1, q30, q31⟩ := d_pick l hl q2 s2 (by omega) 2 (by omega)
    obtain ⟨z, p', s', z1, z2⟩ := d_spoil_l l hl (⟨#[48, 49, 50, 51, 52, 53, 54, 55, 56, 57, 45, 32]⟩ : ByteArray) (by decide) (1 + u).toNat (strOfNums (r.map dg)) q3 s3 (by omega) (by omega) (by omega)
    rw [Int.toNat_of_nonneg (by omega)] at z1
    refine ⟨z, Ev.bind (f := fun k t => _) a1 (Ev.bind (f := fun k t => _) ht ?_), z2⟩
    simp only
    rw [e2]
    simp only [Option.bind_some, if_true]
    refine Ev.bind (f := fun k (t : ByteArray × Int × Int) => some t.1) (?_ : Ev (fun k => spec_l1Cur_spoilt.f k l q2 s2 (strOfNums (r.map dg)) (⟨#[48, 49, 50, 51, 52, 53, 54, 55, 56, 57, 45, 32]⟩ : ByteArray)) (z, p', s')) ⟨0, fun _ _ => rfl⟩
    unfold spec_l1Cur_spoilt.f
    rw [e3]
    simp only [Option.bind_some]
    rw [d_w (1 + u) (by omega) (by omega)]
    exact z1


end Go.Proofs.Ytmgdndgaiicaiaa.QPure
