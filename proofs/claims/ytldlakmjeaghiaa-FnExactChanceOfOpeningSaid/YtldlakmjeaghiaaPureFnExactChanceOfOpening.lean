/- For every input the program's ChanceOfOpening returns what the reference's returns. No conditions. -/
import Derived.Test.YtldlakmjeaghiaaPFnExactChanceOfOpeningx2
namespace Go.Proofs.Ytldlakmjeaghiaa.Pure
open Go.RowKit Go.Proofs.Ytldlakmjeaghiaa.PFnExactChanceOfOpening Go.Proofs.YtldlakmjeaghiaaW.PrintWords Go.Proofs.YtldlakmjeaghiaaW.PrintLast

theorem g_l1In_no (a b c : Int) (h : ¬ (b ≤ a ∧ a ≤ c)) : spec_l1In.f a b c = some false := by
  unfold spec_l1In.f
  split
  · rename_i h1
    have h2 : ¬ a ≤ c := fun h3 => h ⟨h1, h3⟩
    simp [h2]
  · rfl

theorem g_within_no (a b c : Int) (h : ¬ (b ≤ a ∧ a ≤ c)) : impl_within.f a b c = some false := by
  unfold impl_within.f
  split
  · rename_i h1
    have h2 : ¬ a ≤ c := fun h3 => h ⟨h1, h3⟩
    simp [h2]
  · rfl

theorem g_l1In_yes (a b c : Int) (h : b ≤ a ∧ a ≤ c) : spec_l1In.f a b c = some true := by
  unfold spec_l1In.f
  rw [if_pos h.1]
  simp [h.2]

theorem g_within_yes (a b c : Int) (h : b ≤ a ∧ a ≤ c) : impl_within.f a b c = some true := by
  unfold impl_within.f
  rw [if_pos h.1]
  simp [h.2]

theorem g_tiles (n : Int) (h : 0 ≤ n ∧ n ≤ 6) : wrap64 (Int.tdiv (wrap64 ((wrap64 (n + 1)) * (wrap64 (n + 2)))) 2) ≤ 28 := by
  have : ∀ m : Fin 7, wrap64 (Int.tdiv (wrap64 ((wrap64 (((m.val : Nat) : Int) + 1)) * (wrap64 (((m.val : Nat) : Int) + 2)))) 2) ≤ 28 := by decide +kernel
  obtain ⟨m, rfl⟩ : ∃ m : Nat, n = (m : Int) := ⟨n.toNat, by omega⟩
  exact this ⟨m, by omega⟩

theorem g_good_no (n k : Int) (h : ¬ (0 ≤ n ∧ n ≤ 6 ∧ 0 ≤ k ∧ k ≤ 28)) : spec_dcGood.f n k = some false := by
  unfold spec_dcGood.f
  by_cases hn : 0 ≤ n ∧ n ≤ 6
  · rw [g_l1In_yes n 0 6 hn]
    simp only [Option.bind_some, if_true]
    unfold spec_dcTiles.f
    have ht := g_tiles n hn
    simp only [Option.bind_some]
    rw [g_l1In_no k 0 _ (by omega)]
    rfl
  · rw [g_l1In_no n 0 6 hn]
    rfl

theorem g_drawn_no (n k : Int) (h : ¬ (0 ≤ n ∧ n ≤ 6 ∧ 0 ≤ k ∧ k ≤ 28)) : ∃ t, impl_isDrawn.f n k = some (t, false) := by
  unfold impl_isDrawn.f
  by_cases hn : 0 ≤ n ∧ n ≤ 6
  · rw [g_within_yes n 0 6 hn]
    simp only [Option.bind_some, if_true]
    have ht := g_tiles n hn
    rw [g_within_no k 0 _ (by omega)]
    exact ⟨_, rfl⟩
  · rw [g_within_no n 0 6 hn]
    exact ⟨_, rfl⟩

theorem g_all : ∀ n : Fin 7, ∀ k : Fin 29, laws_FnExactChanceOfOpening.f 100 ((n.val : Nat) : Int) ((k.val : Nat) : Int) = some true := by decide +kernel

theorem FnExactChanceOfOpening : laws_FnExactChanceOfOpening.Pure := by
  intro a0 a1 _ _
  refine ⟨100, ?_⟩
  by_cases h : 0 ≤ a0 ∧ a0 ≤ 6 ∧ 0 ≤ a1 ∧ a1 ≤ 28
  · obtain ⟨n, rfl⟩ : ∃ m : Nat, a0 = (m : Int) := ⟨a0.toNat, by omega⟩
    obtain ⟨k, rfl⟩ : ∃ m : Nat, a1 = (m : Int) := ⟨a1.toNat, by omega⟩
    exact g_all ⟨n, by omega⟩ ⟨k, by omega⟩
  · obtain ⟨t, ht⟩ := g_drawn_no a0 a1 h
    simp only [laws_FnExactChanceOfOpening.f, spec_ChanceOfOpening.f, impl_ChanceOfOpening.f, impl_ChanceOfDoubles.f, laws_eqRatio.f, g_good_no a0 a1 h, ht, Option.bind_some, Bool.false_eq_true, if_false, if_true]
    decide

end Go.Proofs.Ytldlakmjeaghiaa.Pure
