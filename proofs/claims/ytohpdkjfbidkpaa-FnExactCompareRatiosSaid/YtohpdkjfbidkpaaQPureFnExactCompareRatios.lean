/- For every input the program's CompareRatios returns what the reference's returns. No conditions. -/
import Derived.Test.YtohpdkjfbidkpaaQFnExactCompareRatiosx4
namespace Go.Proofs.Ytohpdkjfbidkpaa.QPure
open Go.RowKit Go.Proofs.Ytohpdkjfbidkpaa.QFnExactCompareRatios Go.Proofs.YtohpdkjfbidkpaaW.PrintWords Go.Proofs.YtohpdkjfbidkpaaW.PrintLast

set_option linter.unusedSimpArgs false
set_option linter.unusedVariables false

theorem c_wrap (n : Int) (h : -9223372036854775808 ≤ n) (h' : n ≤ 9223372036854775807) : wrap64 n = n := by
  unfold wrap64
  omega

/-- Both loops of Euclid's go the same way. -/
theorem c_gcd (fuel : Nat) : ∀ x y : Int, 0 ≤ x → 0 ≤ y → y < fuel → ∃ g : Int, 0 ≤ g ∧ (0 < x ∨ 0 < y → 0 < g) ∧ impl_common.l0 fuel x y = some g ∧
    ∀ n d : Int, spec_dcRatio.l0 fuel n d x y = if g = 0 then none else some (wrap64 (Int.tdiv n g), wrap64 (Int.tdiv d g)) := by
  induction fuel with
  | zero => intro x y _ h1 h2; omega
  | succ k ih =>
    intro x y hx hy hk
    by_cases h : y > 0
    · have h0 : ¬ y = 0 := by omega
      have hm : Int.tmod x y = x % y := Int.tmod_eq_emod_of_nonneg hx
      have h1 : 0 ≤ x % y := Int.emod_nonneg x h0
      have h2 : x % y < y := Int.emod_lt_of_pos x h
      obtain ⟨g, hg0, hgp, hgi, hgs⟩ := ih y (x % y) hy h1 (by omega)
      refine ⟨g, hg0, fun _ => hgp (Or.inl h), ?_, fun n d => ?_⟩
      · simp only [impl_common.l0]
        rw [if_pos h, if_neg h0, hm]
        exact hgi
      · simp only [spec_dcRatio.l0]
        rw [if_pos h, if_neg h0, hm]
        exact hgs n d
    · refine ⟨x, hx, fun h' => by omega, ?_, fun n d => ?_⟩
      · simp only [impl_common.l0]
        rw [if_neg h]
      · simp only [spec_dcRatio.l0]
        rw [if_neg h]

theorem c_div_lt (d g : Int) (hd : 1 ≤ d) (hg : 2 ≤ g) : Int.tdiv d g ≠ d := by
  rw [Int.tdiv_eq_ediv_of_nonneg (by omega)]
  have h1 : d / g * g ≤ d := Int.ediv_mul_le d (by omega)
  intro h
  rw [h] at h1
  have : d * 2 ≤ d * g := Int.mul_le_mul_of_nonneg_left hg (by omega)
  omega

theorem c_is (k : Nat) (n d : Int) (hk : d < k) : ∃ b : Bool, spec_dcIs.f k n d = some b ∧ impl_isRatio.f k n d = some b ∧ (b = true → 0 ≤ n ∧ n ≤ 1000000000 ∧ 1 ≤ d ∧ d ≤ 1000000000) := by
  unfold spec_dcIs.f impl_isRatio.f spec_l1In.f impl_within.f
  by_cases h1 : 0 ≤ n
  · rw [if_pos h1]
    by_cases h2 : n ≤ 1000000000
    · simp only [Option.bind_some, h2, decide_true, if_true]
      by_cases h3 : 1 ≤ d
      · rw [if_pos h3]
        by_cases h4 : d ≤ 1000000000
        · simp only [Option.bind_some, h4, decide_true, if_true]
          obtain ⟨g, hg0, hgp, hgi, hgs⟩ := c_gcd k n d h1 (by omega) hk
          have hg := hgp (Or.inr (by omega))
          refine ⟨(g == 1 : Bool), ?_, ?_, fun _ => ⟨h1, by first | exact h2 | trivial, h3, by first | exact h4 | trivial⟩⟩
          · unfold spec_dcRatio.f
            rw [hgs n d, if_neg (by omega)]
            simp only [Option.bind_some]
            by_cases e : g = 1
            · subst e
              rw [Int.tdiv_one, Int.tdiv_one, c_wrap n (by omega) (by omega), c_wrap d (by omega) (by omega)]
              simp
            · have hne := c_div_lt d g h3 (by omega)
              have hq : Int.tdiv d g ≤ d := by
                rw [Int.tdiv_eq_ediv_of_nonneg (by omega)]
                exact Int.ediv_le_self g (by omega)
              have hq0 : 0 ≤ Int.tdiv d g := Int.tdiv_nonneg (by omega) (by omega)
              rw [c_wrap (Int.tdiv d g) (by omega) (by omega)]
              have e1 : (Int.tdiv d g == d) = false := by simpa using hne
              have e2 : (g == 1) = false := by simpa using e
              rw [e1, e2, Bool.and_false]
          · unfold impl_common.f
            rw [hgi]
            rfl
        · simp only [Option.bind_some, h4, decide_false, Bool.false_eq_true, if_false]
          exact ⟨false, rfl, rfl, fun h => by cases h⟩
      · rw [if_neg h3]
        exact ⟨false, rfl, rfl, fun h => by cases h⟩
    · simp only [Option.bind_some, h2, decide_false, Bool.false_eq_true, if_false]
      exact ⟨false, rfl, rfl, fun h => by cases h⟩
  · rw [if_neg h1]
    exact ⟨false, rfl, rfl, fun h => by cases h⟩

theorem c_mul (n d : Int) (h1 : 0 ≤ n) (h2 : n ≤ 1000000000) (h3 : 1 ≤ d) (h4 : d ≤ 1000000000) : 0 ≤ n * d ∧ n * d ≤ 1000000000000000000 := by
  constructor
  · exact Int.mul_nonneg h1 (by omega)
  · have := Int.mul_le_mul h2 h4 (by omega) (by omega)
    omega

theorem c_sign (x y : Int) (hx : 0 ≤ x ∧ x ≤ 1000000000000000000) (hy : 0 ≤ y ∧ y ≤ 1000000000000000000) :
    ∃ s, spec_l1Sign.f (wrap64 (wrap64 x - wrap64 y)) = some s ∧ ((impl_bit.f (decide (wrap64 x > wrap64 y))).bind fun t => (impl_bit.f (decide (wrap64 x < wrap64 y))).bind fun u => some (wrap64 (t - u), true)) = some (s, true) := by
  rw [c_wrap x (by omega) (by omega), c_wrap y (by omega) (by omega), c_wrap (x - y) (by omega) (by omega)]
  unfold spec_l1Sign.f impl_bit.f
  rcases Int.lt_trichotomy x y with h | h | h
  · have a1 : decide (x > y) = false := by simp; omega
    have a2 : decide (x < y) = true := by simp [h]
    rw [if_neg (by omega), if_pos (by omega)]
    simp only [a1, a2]
    exact ⟨_, rfl, by decide +kernel⟩
  · subst h
    have a1 : decide (x > x) = false := by simp
    have a2 : decide (x < x) = false := by simp
    rw [if_neg (by omega), if_neg (by omega)]
    simp only [a1, a2]
    exact ⟨_, rfl, by decide +kernel⟩
  · have a1 : decide (x > y) = true := by simp; omega
    have a2 : decide (x < y) = false := by simp; omega
    rw [if_pos (by omega)]
    simp only [a1, a2]
    exact ⟨_, rfl, by decide +kernel⟩

theorem c_law (a b c d : Int) : ∃ k, laws_FnExactCompareRatios.f k a b c d = some true := by
  refine ⟨(b.toNat + d.toNat + 1) + 1, ?_⟩
  obtain ⟨p, p1, p2, p3⟩ := c_is ((b.toNat + d.toNat + 1) + 1) a b (by omega)
  obtain ⟨q, q1, q2, q3⟩ := c_is ((b.toNat + d.toNat + 1) + 1) c d (by omega)
  unfold laws_FnExactCompareRatios.f laws_toRatio.f spec_CompareRatios.f impl_CompareRatios.f
  simp only [Option.bind_some]
  rw [p1, p2]
  simp only [Option.bind_some]
  cases p
  · simp only [Bool.false_eq_true, if_false, Option.bind_some, impl_CompareRatios.j0, if_true]
    decide
  · simp only [if_true]
    rw [q1, q2]
    simp only [Option.bind_some]
    cases q
    · simp only [Bool.false_eq_true, if_false, Option.bind_some, impl_CompareRatios.j0, Bool.not_false, if_true]
      decide
    · obtain ⟨p4, p5, p6, p7⟩ := p3 rfl
      obtain ⟨q4, q5, q6, q7⟩ := q3 rfl
      obtain ⟨s, s1, s2⟩ := c_sign (a * d) (c * b) (c_mul a d p4 p5 q6 q7) (c_mul c b q4 q5 p6 p7)
      simp only [if_true, impl_CompareRatios.j0, Bool.not_true, Bool.false_eq_true, if_false]
      rw [s1, s2]
      simp

theorem FnExactCompareRatios (a0_0 : Int) (a0_1 : Int) (a1_0 : Int) (a1_1 : Int) (_h0 : (Lit.int .i64 a0_0).wf = true) (_h1 : (Lit.int .i64 a0_1).wf = true) (_h2 : (Lit.int .i64 a1_0).wf = true) (_h3 : (Lit.int .i64 a1_1).wf = true) : ∃ k, laws_FnExactCompareRatios.f k a0_0 a0_1 a1_0 a1_1 = some true :=
  c_law a0_0 a0_1 a1_0 a1_1

end Go.Proofs.Ytohpdkjfbidkpaa.QPure
