/- For every input the program's ChanceOfBoth returns what the reference's returns. No conditions. -/
import Derived.Test.YtldlakmjeaghiaaQFnExactChanceOfBothx2
namespace Go.Proofs.Ytldlakmjeaghiaa.QPure
open Go.RowKit Go.Proofs.Ytldlakmjeaghiaa.QFnExactChanceOfBoth Go.Proofs.YtldlakmjeaghiaaW.PrintWords Go.Proofs.YtldlakmjeaghiaaW.PrintLast

theorem g_l1In_no (a b c : Int) (h : ¬ (b ≤ a ∧ a ≤ c)) : spec_l1In.f a b c = some false := by
  unfold spec_l1In.f
  split
  · rename_i h1
    have h2 : ¬ a ≤ c := fun h3 => h ⟨h1, h3⟩
    simp [h2]
  · rfl

theorem g_within_no (a b c : Int) (h : ¬ (b ≤ a ∧ a ≤ c)) : impl_within.f a b c = some false := by
  unfold impl_within.f
  split
  · rename_i h1
    have h2 : ¬ a ≤ c := fun h3 => h ⟨h1, h3⟩
    simp [h2]
  · rfl

theorem g_l1In_yes (a b c : Int) (h : b ≤ a ∧ a ≤ c) : spec_l1In.f a b c = some true := by
  unfold spec_l1In.f
  rw [if_pos h.1]
  simp [h.2]

theorem g_within_yes (a b c : Int) (h : b ≤ a ∧ a ≤ c) : impl_within.f a b c = some true := by
  unfold impl_within.f
  rw [if_pos h.1]
  simp [h.2]

theorem g_tiles (n : Int) (h : 0 ≤ n ∧ n ≤ 6) : wrap64 (Int.tdiv (wrap64 ((wrap64 (n + 1)) * (wrap64 (n + 2)))) 2) ≤ 28 := by
  have : ∀ m : Fin 7, wrap64 (Int.tdiv (wrap64 ((wrap64 (((m.val : Nat) : Int) + 1)) * (wrap64 (((m.val : Nat) : Int) + 2)))) 2) ≤ 28 := by decide +kernel
  obtain ⟨m, rfl⟩ : ∃ m : Nat, n = (m : Int) := ⟨n.toNat, by omega⟩
  exact this ⟨m, by omega⟩

theorem g_drawn_no (n k : Int) (h : ¬ (0 ≤ n ∧ n ≤ 6 ∧ 0 ≤ k ∧ k ≤ 28)) : ∃ t, impl_isDrawn.f n k = some (t, false) := by
  unfold impl_isDrawn.f
  by_cases hn : 0 ≤ n ∧ n ≤ 6
  · rw [g_within_yes n 0 6 hn]
    simp only [Option.bind_some, if_true]
    have ht := g_tiles n hn
    rw [g_within_no k 0 _ (by omega)]
    exact ⟨_, rfl⟩
  · rw [g_within_no n 0 6 hn]
    exact ⟨_, rfl⟩

theorem g_all : ∀ n : Fin 7, ∀ a : Fin 29, ∀ b : Fin 29, laws_FnExactChanceOfBoth.f 100 ((n.val : Nat) : Int) ((a.val : Nat) : Int) ((b.val : Nat) : Int) = some true := by decide +kernel

theorem g_tiles0 (n : Int) (h : 0 ≤ n ∧ n ≤ 6) : 0 ≤ wrap64 (Int.tdiv (wrap64 ((wrap64 (n + 1)) * (wrap64 (n + 2)))) 2) := by
  have : ∀ m : Fin 7, 0 ≤ wrap64 (Int.tdiv (wrap64 ((wrap64 (((m.val : Nat) : Int) + 1)) * (wrap64 (((m.val : Nat) : Int) + 2)))) 2) := by decide +kernel
  obtain ⟨m, rfl⟩ : ∃ m : Nat, n = (m : Int) := ⟨n.toNat, by omega⟩
  exact this ⟨m, by omega⟩

theorem g_wrap (n : Int) (h : -1000 ≤ n) (h' : n ≤ 1000) : wrap64 n = n := by
  unfold wrap64
  omega

theorem FnExactChanceOfBoth (a0 : Int) (a1 : Int) (a2 : Int) (_h0 : (Lit.int .i64 a0).wf = true) (_h1 : (Lit.int .i64 a1).wf = true) (_h2 : (Lit.int .i64 a2).wf = true) : ∃ k, laws_FnExactChanceOfBoth.f k a0 a1 a2 = some true := by
  refine ⟨100, ?_⟩
  by_cases h : 0 ≤ a0 ∧ a0 ≤ 6 ∧ 0 ≤ a1 ∧ a1 ≤ 28 ∧ 0 ≤ a2 ∧ a2 ≤ 28
  · obtain ⟨n, rfl⟩ : ∃ m : Nat, a0 = (m : Int) := ⟨a0.toNat, by omega⟩
    obtain ⟨k, rfl⟩ : ∃ m : Nat, a1 = (m : Int) := ⟨a1.toNat, by omega⟩
    obtain ⟨m, rfl⟩ : ∃ m : Nat, a2 = (m : Int) := ⟨a2.toNat, by omega⟩
    exact g_all ⟨n, by omega⟩ ⟨k, by omega⟩ ⟨m, by omega⟩
  · have hs : spec_ChanceOfBoth.f 100 a0 a1 a2 = some (0, 0, false) := by
      unfold spec_ChanceOfBoth.f
      by_cases hn : 0 ≤ a0 ∧ a0 ≤ 6
      · have ht := g_tiles a0 hn
        have h0 : 0 ≤ wrap64 (Int.tdiv (wrap64 ((wrap64 (a0 + 1)) * (wrap64 (a0 + 2)))) 2) := g_tiles0 a0 hn
        rw [g_l1In_yes a0 0 6 hn]
        simp only [Option.bind_some, if_true, spec_dcTiles.f]
        generalize wrap64 (Int.tdiv (wrap64 ((wrap64 (a0 + 1)) * (wrap64 (a0 + 2)))) 2) = t at ht h0
        by_cases ha : 0 ≤ a1 ∧ a1 ≤ t
        · rw [g_l1In_yes a1 0 t ha]
          simp only [Option.bind_some, if_true]
          rw [g_wrap (t - a1) (by omega) (by omega), g_l1In_no a2 0 (t - a1) (by omega)]
          rfl
        · rw [g_l1In_no a1 0 t ha]
          rfl
      · rw [g_l1In_no a0 0 6 hn]
        rfl
    have hi : impl_ChanceOfBoth.f 100 a0 a1 a2 = some (0, 0, false) := by
      unfold impl_ChanceOfBoth.f
      by_cases h1 : a1 < 0
      · rw [if_pos h1]
      · rw [if_neg h1]
        by_cases h2 : a2 < 0
        · rw [if_pos h2]
        · rw [if_neg h2]
          by_cases h3 : a1 > 55
          · rw [if_pos h3]
          · rw [if_neg h3]
            by_cases h4 : a2 > 55
            · rw [if_pos h4]
            · rw [if_neg h4, g_wrap (a1 + a2) (by omega) (by omega)]
              obtain ⟨t, ht⟩ := g_drawn_no a0 (a1 + a2) (by omega)
              unfold impl_ChanceOfDoubles.f
              rw [ht]
              rfl
    simp only [laws_FnExactChanceOfBoth.f, hs, hi, laws_eqRatio.f, Option.bind_some]
    decide

end Go.Proofs.Ytldlakmjeaghiaa.QPure
