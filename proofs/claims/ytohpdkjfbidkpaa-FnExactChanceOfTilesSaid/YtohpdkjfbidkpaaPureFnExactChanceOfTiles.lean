/- For every input the program's ChanceOfTiles returns what the reference's returns. No conditions. -/
import Derived.Test.YtohpdkjfbidkpaaPFnExactChanceOfTilesx2
namespace Go.Proofs.Ytohpdkjfbidkpaa.Pure
open Go.RowKit Go.Proofs.Ytohpdkjfbidkpaa.PFnExactChanceOfTiles Go.Proofs.YtohpdkjfbidkpaaW.PrintWords Go.Proofs.YtohpdkjfbidkpaaW.PrintLast

theorem g_l1In_no (a b c : Int) (h : ¬ (b ≤ a ∧ a ≤ c)) : spec_l1In.f a b c = some false := by
  unfold spec_l1In.f
  split
  · rename_i h1
    have h2 : ¬ a ≤ c := fun h3 => h ⟨h1, h3⟩
    simp [h2]
  · rfl

theorem g_within_no (a b c : Int) (h : ¬ (b ≤ a ∧ a ≤ c)) : impl_within.f a b c = some false := by
  unfold impl_within.f
  split
  · rename_i h1
    have h2 : ¬ a ≤ c := fun h3 => h ⟨h1, h3⟩
    simp [h2]
  · rfl

theorem g_l1In_yes (a b c : Int) (h : b ≤ a ∧ a ≤ c) : spec_l1In.f a b c = some true := by
  unfold spec_l1In.f
  rw [if_pos h.1]
  simp [h.2]

theorem g_within_yes (a b c : Int) (h : b ≤ a ∧ a ≤ c) : impl_within.f a b c = some true := by
  unfold impl_within.f
  rw [if_pos h.1]
  simp [h.2]

theorem g_tiles (n : Int) (h : 0 ≤ n ∧ n ≤ 6) : wrap64 (Int.tdiv (wrap64 ((wrap64 (n + 1)) * (wrap64 (n + 2)))) 2) ≤ 28 := by
  have : ∀ m : Fin 7, wrap64 (Int.tdiv (wrap64 ((wrap64 (((m.val : Nat) : Int) + 1)) * (wrap64 (((m.val : Nat) : Int) + 2)))) 2) ≤ 28 := by decide +kernel
  obtain ⟨m, rfl⟩ : ∃ m : Nat, n = (m : Int) := ⟨n.toNat, by omega⟩
  exact this ⟨m, by omega⟩

theorem g_good_no (n k : Int) (h : ¬ (0 ≤ n ∧ n ≤ 6 ∧ 0 ≤ k ∧ k ≤ 28)) : spec_dcGood.f n k = some false := by
  unfold spec_dcGood.f
  by_cases hn : 0 ≤ n ∧ n ≤ 6
  · rw [g_l1In_yes n 0 6 hn]
    simp only [Option.bind_some, if_true]
    unfold spec_dcTiles.f
    have ht := g_tiles n hn
    simp only [Option.bind_some]
    rw [g_l1In_no k 0 _ (by omega)]
    rfl
  · rw [g_l1In_no n 0 6 hn]
    rfl

theorem g_drawn_no (n k : Int) (h : ¬ (0 ≤ n ∧ n ≤ 6 ∧ 0 ≤ k ∧ k ≤ 28)) : ∃ t, impl_isDrawn.f n k = some (t, false) := by
  unfold impl_isDrawn.f
  by_cases hn : 0 ≤ n ∧ n ≤ 6
  · rw [g_within_yes n 0 6 hn]
    simp only [Option.bind_some, if_true]
    have ht := g_tiles n hn
    rw [g_within_no k 0 _ (by omega)]
    exact ⟨_, rfl⟩
  · rw [g_within_no n 0 6 hn]
    exact ⟨_, rfl⟩

theorem g_good_some (n k : Int) : spec_dcGood.f n k ≠ none := by
  unfold spec_dcGood.f spec_l1In.f spec_dcTiles.f
  intro h
  simp only [Option.bind_some] at h
  by_cases h1 : n ≥ 0
  · rw [if_pos h1] at h
    simp only [Option.bind_some] at h
    by_cases h2 : decide (n ≤ 6) = true
    · rw [if_pos h2] at h
      by_cases h3 : k ≥ 0
      · rw [if_pos h3] at h
        cases h
      · rw [if_neg h3] at h
        cases h
    · rw [if_neg h2] at h
      cases h
  · rw [if_neg h1] at h
    cases h

theorem g_drawn_some (n k : Int) (hn : 0 ≤ n ∧ n ≤ 6) : ∃ t b, impl_isDrawn.f n k = some (t, b) ∧ t ≤ 28 := by
  unfold impl_isDrawn.f
  rw [g_within_yes n 0 6 hn]
  simp only [Option.bind_some, if_true]
  have ht := g_tiles n hn
  unfold impl_within.f
  by_cases h3 : 0 ≤ k
  · rw [if_pos h3]
    exact ⟨_, _, rfl, ht⟩
  · rw [if_neg h3]
    exact ⟨_, _, rfl, ht⟩

theorem g_all : ∀ n : Fin 7, ∀ k : Fin 29, ∀ m : Fin 29, laws_FnExactChanceOfTiles.f 100 ((n.val : Nat) : Int) ((k.val : Nat) : Int) ((m.val : Nat) : Int) = some true := by decide +kernel

theorem FnExactChanceOfTiles : laws_FnExactChanceOfTiles.Pure := by
  intro a0 a1 a2 _ _ _
  refine ⟨100, ?_⟩
  by_cases h : 0 ≤ a0 ∧ a0 ≤ 6 ∧ 0 ≤ a1 ∧ a1 ≤ 28
  · by_cases h2 : 0 ≤ a2 ∧ a2 ≤ 28
    · obtain ⟨n, rfl⟩ : ∃ m : Nat, a0 = (m : Int) := ⟨a0.toNat, by omega⟩
      obtain ⟨k, rfl⟩ : ∃ m : Nat, a1 = (m : Int) := ⟨a1.toNat, by omega⟩
      obtain ⟨m, rfl⟩ : ∃ m : Nat, a2 = (m : Int) := ⟨a2.toNat, by omega⟩
      exact g_all ⟨n, by omega⟩ ⟨k, by omega⟩ ⟨m, by omega⟩
    · have hs : spec_ChanceOfTiles.f 100 a0 a1 a2 = some (0, 0, false) := by
        unfold spec_ChanceOfTiles.f
        cases hg : spec_dcGood.f a0 a1 with
        | none => exact absurd hg (g_good_some a0 a1)
        | some b =>
          cases b
          · rfl
          · simp only [Option.bind_some, if_true, spec_dcTiles.f]
            have ht := g_tiles a0 ⟨h.1, h.2.1⟩
            rw [g_l1In_no a2 0 _ (by omega)]
            rfl
      have hi : impl_ChanceOfTiles.f 100 a0 a1 a2 = some (0, 0, false) := by
        obtain ⟨t, b, ht, hle⟩ := g_drawn_some a0 a1 ⟨h.1, h.2.1⟩
        unfold impl_ChanceOfTiles.f
        rw [ht]
        cases b
        · rfl
        · simp only [Option.bind_some, if_true]
          rw [g_within_no a2 0 _ (by omega)]
          rfl
      simp only [laws_FnExactChanceOfTiles.f, hs, hi, laws_eqRatio.f, Option.bind_some]
      decide
  · obtain ⟨t, ht⟩ := g_drawn_no a0 a1 h
    simp only [laws_FnExactChanceOfTiles.f, spec_ChanceOfTiles.f, impl_ChanceOfTiles.f, spec_ChanceOfTiles.j0, impl_ChanceOfTiles.j0, laws_eqRatio.f, g_good_no a0 a1 h, ht, Option.bind_some, Bool.false_eq_true, if_false, if_true]
    decide

end Go.Proofs.Ytohpdkjfbidkpaa.Pure
