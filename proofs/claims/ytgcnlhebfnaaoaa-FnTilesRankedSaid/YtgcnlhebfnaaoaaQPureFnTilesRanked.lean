/- For every input the law FnTilesRanked answers true: the plain statement over lists and numbers. No conditions. -/
import Derived.WalkSmall
import Derived.Test.YtgcnlhebfnaaoaaQFnTilesRankedx1
import Derived.Test.YtgcnlhebfnaaoaaQFnTilesRankedx2
import Derived.Test.YtgcnlhebfnaaoaaQFnTilesRankedx3
import Derived.Test.YtgcnlhebfnaaoaaQFnTilesRankedx4
import Derived.Test.YtgcnlhebfnaaoaaQFnTilesRankedx5
import Derived.Test.YtgcnlhebfnaaoaaQFnTilesRankedx6
namespace Go.Proofs.Ytgcnlhebfnaaoaa.QPure
open Go.RowKit Go.Proofs.Ytgcnlhebfnaaoaa.QFnTilesRanked Go.Proofs.YtgcnlhebfnaaoaaW.PrintWords Go.Proofs.YtgcnlhebfnaaoaaW.PrintLast

set_option linter.unusedVariables false
set_option linter.unusedSimpArgs false
/-! What the reference draws out of bytes: it always draws something. -/
theorem d_bits (E : Int) (h0 : 0 ≤ E) (h1 : E ≤ 18446744073709551615) : 0 ≤ Go.bits .and .u64 E 255 ∧ Go.bits .and .u64 E 255 ≤ 255 := by
  have h := bits_and_u64_nat E.toNat 255 (by omega) (by omega)
  rw [Int.toNat_of_nonneg h0] at h
  have h2 : (E.toNat &&& 255) ≤ 255 := Nat.and_le_right
  have h3 : Go.bits .and .u64 E 255 = ((E.toNat &&& 255 : Nat) : Int) := h
  omega
theorem d_w (n : Int) (h : -1000000000 ≤ n) (h' : n ≤ 1000000000) : wrap64 n = n := by
  unfold wrap64
  omega
theorem d_rd (l : List Int) (hl : ∀ x ∈ l, 0 ≤ x ∧ x ≤ 255) (p : Int) : 0 ≤ rd l p ∧ rd l p ≤ 255 := by
  unfold rd
  rw [List.getD_eq_getElem?_getD]
  by_cases h : p.toNat < l.length
  · rw [List.getElem?_eq_getElem h]
    exact hl _ (List.getElem_mem _)
  · rw [List.getElem?_eq_none (by omega)]
    simp
theorem d_next (l : List Int) (hl : ∀ x ∈ l, 0 ≤ x ∧ x ≤ 255) (p s : Int) (hp : 0 ≤ p ∧ p ≤ 1000000) : ∃ v s', spec_l1Cur_next.f l p s = some (v, p + 1, s') ∧ 0 ≤ v ∧ v ≤ 255 := by
  have h := d_rd l hl p
  have hb : ∀ n : Int, 0 ≤ wrap64 (Go.bits .and .u64 (IntKind.u64.wrap n / 1099511627776) 255) ∧ wrap64 (Go.bits .and .u64 (IntKind.u64.wrap n / 1099511627776) 255) ≤ 255 := by
    intro n
    have h := d_bits (IntKind.u64.wrap n / 1099511627776) (by rw [IntKind.wrap_u64]; omega) (by rw [IntKind.wrap_u64]; omega)
    rw [d_w _ (by omega) (by omega)]
    exact h
  unfold spec_l1Cur_next.f
  rw [d_w (p + 1) (by omega) (by omega)]
  by_cases h1 : p < (l.length : Int)
  · rw [if_pos h1, if_pos hp.1]
    by_cases h2 : p + 1 ≤ (l.length : Int)
    · rw [if_pos h2]
      exact ⟨_, _, rfl, by rw [d_w _ (by omega) (by omega)]; exact h⟩
    · rw [if_neg h2]
      exact ⟨_, _, rfl, hb _⟩
  · rw [if_neg h1]
    by_cases h2 : p + 1 ≤ (l.length : Int)
    · rw [if_pos h2]
      exact ⟨_, _, rfl, by omega, by omega⟩
    · rw [if_neg h2]
      exact ⟨_, _, rfl, hb _⟩
theorem d_pick (l : List Int) (hl : ∀ x ∈ l, 0 ≤ x ∧ x ≤ 255) (p s : Int) (hp : 0 ≤ p ∧ p ≤ 100000) (a : Int) (ha : 1 ≤ a) : ∃ v p' s', spec_l1Cur_pick.f l p s a = some (v, p', s') ∧ 0 ≤ v ∧ v < a ∧ 0 ≤ p' ∧ p' ≤ p + 2 := by
  unfold spec_l1Cur_pick.f
  by_cases h1 : a ≤ 1
  · rw [if_pos h1]
    exact ⟨0, p, s, rfl, by omega, by omega, by omega, by omega⟩
  · rw [if_neg h1]
    obtain ⟨v, s1, e1, v0, v1⟩ := d_next l hl p s (by omega)
    rw [e1]
    simp only [Option.bind_some]
    by_cases h2 : a > 200
    · rw [if_pos h2]
      obtain ⟨u, s2, e2, u0, u1⟩ := d_next l hl (p + 1) s1 (by omega)
      rw [e2]
      simp only [Option.bind_some]
      rw [if_neg (by omega), d_w (v * 256) (by omega) (by omega), d_w _ (by omega) (by omega)]
      exact ⟨_, _, _, rfl, Int.tmod_nonneg _ (by omega), Int.tmod_lt_of_pos _ (by omega), by omega, by omega⟩
    · rw [if_neg h2, if_neg (by omega)]
      exact ⟨_, _, _, rfl, Int.tmod_nonneg _ (by omega), Int.tmod_lt_of_pos _ (by omega), by omega, by omega⟩
theorem d_among (l : List Int) (hl : ∀ x ∈ l, 0 ≤ x ∧ x ≤ 255) (p s : Int) (hp : 0 ≤ p ∧ p ≤ 100000) (xs : List Int) (hx : 1 ≤ xs.length) : ∃ v p' s', spec_l1Cur_among.f l p s xs = some (v, p', s') ∧ 0 ≤ p' ∧ p' ≤ p + 2 := by
  unfold spec_l1Cur_among.f
  obtain ⟨v, q, s1, e1, v0, v1, q0, q1⟩ := d_pick l hl p s hp (xs.length : Int) (by omega)
  rw [e1]
  simp only [Option.bind_some]
  rw [if_pos v0, if_pos v1]
  exact ⟨_, _, _, rfl, q0, q1⟩
theorem d_one (l : List Int) (hl : ∀ x ∈ l, 0 ≤ x ∧ x ≤ 255) (p s : Int) (hp : 0 ≤ p ∧ p ≤ 100000) (a : Int) (ha : 1 ≤ a) : ∃ v p' s', spec_l1Cur_one.f l p s a = some (v, p', s') ∧ 0 ≤ p' ∧ p' ≤ p + 2 := by
  unfold spec_l1Cur_one.f
  obtain ⟨v, q, s1, e1, v0, v1, q0, q1⟩ := d_pick l hl p s hp a ha
  rw [e1]
  exact ⟨_, _, _, rfl, q0, q1⟩

def code (l : List S25) : List (Int × Int) := l.map fun t => (t.f0, t.f1)
theorem code_inj (a b : List S25) (h : code a = code b) : a = b := by
  unfold code at h
  induction a generalizing b with
  | nil => cases b with
    | nil => rfl
    | cons y b => simp at h
  | cons x a ih => cases b with
    | nil => simp at h
    | cons y b =>
      simp only [List.map_cons, List.cons.injEq, Prod.mk.injEq] at h
      rw [ih b h.2]
      cases x
      cases y
      simp_all

theorem d_number (l : List Int) (hl : ∀ x ∈ l, 0 ≤ x ∧ x ≤ 255) (p s : Int) (hp : 0 ≤ p ∧ p ≤ 1000) : ∃ v p' s', spec_l1Cur_number.f l p s = some (v, p', s') ∧ 0 ≤ p' ∧ p' ≤ p + 4 := by
  unfold spec_l1Cur_number.f
  obtain ⟨b, q, s1, e1, q0, q1⟩ := d_one l hl p s (by omega) 12 (by omega)
  rw [e1]
  simp only [Option.bind_some]
  cases b
  · obtain ⟨v, q2, s2, e2, _, _, r0, r1⟩ := d_pick l hl q s1 (by omega) 8 (by omega)
    simp only [Bool.false_eq_true, if_false]
    rw [e2]
    exact ⟨v, q2, s2, rfl, by omega, by omega⟩
  · obtain ⟨v, q2, s2, e2, r0, r1⟩ := d_among l hl q s1 (by omega) [(-1), 9, 10, 4611686018427387904] (by simp)
    simp only [if_true]
    rw [e2]
    exact ⟨v, q2, s2, rfl, by omega, by omega⟩
theorem d_tile (l : List Int) (hl : ∀ x ∈ l, 0 ≤ x ∧ x ≤ 255) (p s : Int) (hp : 0 ≤ p ∧ p ≤ 1000) : ∃ a b p' s', spec_l1Cur_tile.f l p s = some (a, b, p', s') ∧ 0 ≤ p' ∧ p' ≤ p + 8 := by
  unfold spec_l1Cur_tile.f
  obtain ⟨b, q, s1, e1, q0, q1⟩ := d_one l hl p s (by omega) 10 (by omega)
  rw [e1]
  simp only [Option.bind_some]
  cases b
  · obtain ⟨v, q2, s2, e2, _, _, r0, r1⟩ := d_pick l hl q s1 (by omega) 10 (by omega)
    obtain ⟨v3, q3, s3, e3, _, _, t0, t1⟩ := d_pick l hl q2 s2 (by omega) 10 (by omega)
    simp only [Bool.false_eq_true, if_false]
    rw [e2]
    simp only [Option.bind_some]
    rw [e3]
    simp only [Option.bind_some]
    unfold spec_tiOf.f spec_l1Least.f spec_l1Most.f
    split <;> split <;> exact ⟨_, _, q3, s3, rfl, by omega, by omega⟩
  · obtain ⟨v, q2, s2, e2, r0, r1⟩ := d_among l hl q s1 (by omega) [(-1), 3, 9, 10] (by simp)
    obtain ⟨v3, q3, s3, e3, t0, t1⟩ := d_among l hl q2 s2 (by omega) [2, 9, 10, 4611686018427387904] (by simp)
    simp only [if_true]
    rw [e2]
    simp only [Option.bind_some]
    rw [e3]
    exact ⟨_, _, q3, s3, rfl, by omega, by omega⟩
theorem d_rankOf (l : List Int) (hl : ∀ x ∈ l, 0 ≤ x ∧ x ≤ 255) : ∃ a b, spec_DrawRankOf.f l = some (a, b) := by
  unfold spec_DrawRankOf.f spec_DrawIsTile.f
  obtain ⟨a, b, p, s, e, _⟩ := d_tile l hl 0 0 (by omega)
  rw [e]
  exact ⟨_, _, rfl⟩
theorem d_tileOfRank (l : List Int) (hl : ∀ x ∈ l, 0 ≤ x ∧ x ≤ 255) : ∃ r, spec_DrawTileOfRank.f l = some r := by
  unfold spec_DrawTileOfRank.f
  obtain ⟨v, q, s1, e1, _, _, q0, q1⟩ := d_pick l hl 0 0 (by omega) 55 (by omega)
  obtain ⟨v2, q2, s2, e2, _, _, r0, r1⟩ := d_pick l hl q s1 (by omega) 55 (by omega)
  obtain ⟨v3, q3, s3, e3, t0, t1⟩ := d_among l hl q2 s2 (by omega) [0, 9, 10, 54, 55, (-1), v, v2] (by simp)
  rw [e1]
  simp only [Option.bind_some]
  rw [e2]
  simp only [Option.bind_some]
  rw [e3]
  exact ⟨_, rfl⟩
theorem d_tileOf (l : List Int) (hl : ∀ x ∈ l, 0 ≤ x ∧ x ≤ 255) : ∃ a b, spec_DrawTileOf.f l = some (a, b) := by
  unfold spec_DrawTileOf.f
  obtain ⟨v, q, s1, e1, q0, q1⟩ := d_number l hl 0 0 (by omega)
  obtain ⟨v2, q2, s2, e2, r0, r1⟩ := d_number l hl q s1 (by omega)
  rw [e1]
  simp only [Option.bind_some]
  rw [e2]
  exact ⟨_, _, rfl⟩
theorem d_setOf (l : List Int) (hl : ∀ x ∈ l, 0 ≤ x ∧ x ≤ 255) : ∃ a, spec_DrawSetOf.f l = some a := by
  unfold spec_DrawSetOf.f
  obtain ⟨v, q, s1, e1, q0, q1⟩ := d_number l hl 0 0 (by omega)
  rw [e1]
  exact ⟨_, rfl⟩

/-! ### Which numbers and tiles are right -/
theorem in_yes (a b c : Int) (h : b ≤ a ∧ a ≤ c) : spec_l1In.f a b c = some true ∧ impl_within.f a b c = some true := by
  unfold spec_l1In.f impl_within.f
  rw [if_pos (show a ≥ b from h.1)]
  simp [h.2]
theorem in_no (a b c : Int) (h : ¬ (b ≤ a ∧ a ≤ c)) : spec_l1In.f a b c = some false ∧ impl_within.f a b c = some false := by
  unfold spec_l1In.f impl_within.f
  by_cases h1 : b ≤ a
  · rw [if_pos (show a ≥ b from h1)]
    have : ¬ a ≤ c := fun h2 => h ⟨h1, h2⟩
    simp [this]
  · rw [if_neg (show ¬ a ≥ b from h1)]
    exact ⟨rfl, rfl⟩
def gd (a b : Int) : Bool := decide (0 ≤ a) && (decide (a ≤ b) && decide (b ≤ 9))
theorem isTile (a b : Int) : impl_IsTile.f a b = some (gd a b) ∧ spec_tiGood.f a b = some (gd a b) := by
  unfold impl_IsTile.f spec_tiGood.f gd
  by_cases h : 0 ≤ a ∧ a ≤ b
  · rw [(in_yes a 0 b h).1, (in_yes a 0 b h).2]
    simp [h.1, h.2]
  · rw [(in_no a 0 b h).1, (in_no a 0 b h).2]
    by_cases h1 : 0 ≤ a
    · have : ¬ a ≤ b := fun h2 => h ⟨h1, h2⟩
      simp [h1, this]
    · simp [h1]
/-- A right tile: its rank, and back. -/
theorem rank_yes : ∀ a : Fin 10, ∀ b : Fin 10, a.val ≤ b.val → ∃ r : Int, impl_RankOf.f 100 (a.val : Int) (b.val : Int) = some (r, true) ∧ spec_RankOf.f 100 (a.val : Int) (b.val : Int) = some (r, true) ∧ impl_TileOfRank.f 100 r = some ((a.val : Int), (b.val : Int), true) ∧ impl_TileOf.f (b.val : Int) (a.val : Int) = some ((a.val : Int), (b.val : Int), true) := by
  have h : ∀ a : Fin 10, ∀ b : Fin 10, a.val ≤ b.val → ((impl_RankOf.f 100 (a.val : Int) (b.val : Int)).bind fun r => if spec_RankOf.f 100 (a.val : Int) (b.val : Int) = some r ∧ r.2 = true ∧ impl_TileOfRank.f 100 r.1 = some ((a.val : Int), (b.val : Int), true) ∧ impl_TileOf.f (b.val : Int) (a.val : Int) = some ((a.val : Int), (b.val : Int), true) then some true else none) = some true := by decide +kernel
  intro a b hab
  have := h a b hab
  obtain ⟨r, e, this⟩ := Option.bind_eq_some_iff.1 this
  by_cases hc : spec_RankOf.f 100 (a.val : Int) (b.val : Int) = some r ∧ r.2 = true ∧ impl_TileOfRank.f 100 r.1 = some ((a.val : Int), (b.val : Int), true) ∧ impl_TileOf.f (b.val : Int) (a.val : Int) = some ((a.val : Int), (b.val : Int), true)
  · obtain ⟨r1, r2⟩ := r
    obtain ⟨c1, c2, c3, c4⟩ := hc
    simp only at c2 c3
    subst c2
    exact ⟨r1, e, c1, c3, c4⟩
  · rw [if_neg hc] at this
    cases this
/-- A rank: its tile, and back. -/
theorem tile_yes : ∀ r : Fin 55, ∃ a b : Int, impl_TileOfRank.f 100 (r.val : Int) = some (a, b, true) ∧ spec_TileOfRank.f 100 (r.val : Int) = some (a, b, true) ∧ impl_RankOf.f 100 a b = some ((r.val : Int), true) := by
  have h : ∀ r : Fin 55, ((impl_TileOfRank.f 100 (r.val : Int)).bind fun t => if spec_TileOfRank.f 100 (r.val : Int) = some t ∧ t.2.2 = true ∧ impl_RankOf.f 100 t.1 t.2.1 = some ((r.val : Int), true) then some true else none) = some true := by decide +kernel
  intro r
  obtain ⟨t, e, this⟩ := Option.bind_eq_some_iff.1 (h r)
  by_cases hc : spec_TileOfRank.f 100 (r.val : Int) = some t ∧ t.2.2 = true ∧ impl_RankOf.f 100 t.1 t.2.1 = some ((r.val : Int), true)
  · obtain ⟨a, b, c⟩ := t
    obtain ⟨c1, c2, c3⟩ := hc
    simp only at c2 c3
    subst c2
    exact ⟨a, b, e, c1, c3⟩
  · rw [if_neg hc] at this
    cases this
theorem tile_both (k : Int) : ∃ a b ok, Ev (fun f => impl_TileOfRank.f f k) (a, b, ok) ∧ Ev (fun f => spec_TileOfRank.f f k) (a, b, ok) ∧ (ok = true → Ev (fun f => impl_RankOf.f f a b) (k, true)) := by
  by_cases h : 0 ≤ k ∧ k ≤ 54
  · obtain ⟨r, rfl⟩ : ∃ m : Nat, k = (m : Int) := ⟨k.toNat, by omega⟩
    obtain ⟨a, b, e1, e2, e3⟩ := tile_yes ⟨r, by omega⟩
    exact ⟨a, b, true, Ev.of (fun f => impl_TileOfRank.mono _ f) e1, Ev.of (fun f => spec_TileOfRank.mono _ f) e2, fun _ => Ev.of (fun f => impl_RankOf.mono _ _ f) e3⟩
  · refine ⟨0, 0, false, ⟨0, fun f _ => ?_⟩, ⟨0, fun f _ => ?_⟩, fun h => by cases h⟩
    · show impl_TileOfRank.f f k = _
      unfold impl_TileOfRank.f
      rw [(in_no k 0 54 h).2]
      rfl
    · show spec_TileOfRank.f f k = _
      unfold spec_TileOfRank.f
      rw [(in_no k 0 54 h).1]
      rfl
theorem tileOf_both (a b : Int) : ∃ r, impl_TileOf.f a b = some r ∧ spec_TileOf.f a b = some r := by
  unfold impl_TileOf.f spec_TileOf.f impl_isNumber.f spec_tiNumber.f
  by_cases h : 0 ≤ a ∧ a ≤ 9
  · rw [(in_yes a 0 9 h).1, (in_yes a 0 9 h).2]
    by_cases h2 : 0 ≤ b ∧ b ≤ 9
    · rw [(in_yes b 0 9 h2).1, (in_yes b 0 9 h2).2]
      refine ⟨(mn a b, mx a b, true), rfl, ?_⟩
      simp only [Option.bind_some, if_true, spec_tiOf.f, spec_l1Least.f, spec_l1Most.f]
      unfold mn mx
      by_cases h3 : a < b
      · rw [if_pos h3, if_neg (show ¬ a > b from by omega)]
        simp only [Option.bind_some]
        repeat' split
        all_goals (simp; try omega)
      · rw [if_neg h3]
        by_cases h4 : a > b
        · rw [if_pos h4]
          simp only [Option.bind_some]
          repeat' split
          all_goals (simp; try omega)
        · rw [if_neg h4]
          simp only [Option.bind_some]
          repeat' split
          all_goals (simp; try omega)
    · rw [(in_no b 0 9 h2).1, (in_no b 0 9 h2).2]
      exact ⟨_, rfl, rfl⟩
  · rw [(in_no a 0 9 h).1, (in_no a 0 9 h).2]
    exact ⟨_, rfl, rfl⟩
/-- A whole set. -/
theorem set_yes : ∀ n : Fin 10, ∃ (S : List S25) (p : Int), impl_setOf.f 200 (n.val : Int) = some S ∧ spec_tiSet.f 200 (n.val : Int) = some S ∧ laws_mTiles.f 200 S S = some true ∧ spec_CountSet.f (n.val : Int) = some ((S.length : Int), true) ∧ impl_PipsOf.f 400 S = some (p, true) ∧ p = wrap64 ((wrap64 (Int.tdiv (wrap64 ((n.val : Int) * (wrap64 ((n.val : Int) + 1)))) 2)) * (wrap64 ((n.val : Int) + 2))) ∧ S.length ≤ 55 ∧ (S.all fun x => decide (x.f1 ≤ (n.val : Int)) && gd x.f0 x.f1) = true := by
  have h : ∀ n : Fin 10, ((impl_setOf.f 200 (n.val : Int)).bind fun S => (spec_tiSet.f 200 (n.val : Int)).bind fun U => (impl_PipsOf.f 400 S).bind fun q => if code S = code U ∧ laws_mTiles.f 200 S S = some true ∧ spec_CountSet.f (n.val : Int) = some ((S.length : Int), true) ∧ q.2 = true ∧ q.1 = wrap64 ((wrap64 (Int.tdiv (wrap64 ((n.val : Int) * (wrap64 ((n.val : Int) + 1)))) 2)) * (wrap64 ((n.val : Int) + 2))) ∧ S.length ≤ 55 ∧ (S.all fun x => decide (x.f1 ≤ (n.val : Int)) && gd x.f0 x.f1) = true then some true else none) = some true := by decide +kernel
  intro n
  obtain ⟨S, e1, h1⟩ := Option.bind_eq_some_iff.1 (h n)
  obtain ⟨U, e2, h2⟩ := Option.bind_eq_some_iff.1 h1
  obtain ⟨q, e3, h3⟩ := Option.bind_eq_some_iff.1 h2
  by_cases hc : code S = code U ∧ laws_mTiles.f 200 S S = some true ∧ spec_CountSet.f (n.val : Int) = some ((S.length : Int), true) ∧ q.2 = true ∧ q.1 = wrap64 ((wrap64 (Int.tdiv (wrap64 ((n.val : Int) * (wrap64 ((n.val : Int) + 1)))) 2)) * (wrap64 ((n.val : Int) + 2))) ∧ S.length ≤ 55 ∧ (S.all fun x => decide (x.f1 ≤ (n.val : Int)) && gd x.f0 x.f1) = true
  · obtain ⟨c1, c2, c3, c4, c5, c6, c7⟩ := hc
    obtain ⟨p, ok⟩ := q
    simp only at c4 c5
    subst c4
    have := code_inj S U c1
    subst this
    exact ⟨S, p, e1, e2, c2, c3, e3, c5, c6, c7⟩
  · rw [if_neg hc] at h3
    cases h3
/-- The end of the law: a rank's tile has the rank. -/
theorem last_ev (k : Int) (ok : Bool) (a b : Int) (h : ok = true → Ev (fun f => impl_RankOf.f f a b) (k, true)) : Ev (fun f => if ok = true then ((impl_RankOf.f f a b).bind fun bt => (if bt.2 = true then (some (bt.1 == k)) else (none))) else (some true)) true := by
  cases ok
  · exact ⟨0, fun f _ => rfl⟩
  · refine Ev.congr (fun f => ?_) (Ev.bind (f := fun f (bt : Int × Bool) => (if bt.2 = true then (some (bt.1 == k)) else (none))) (h rfl) ⟨0, fun f _ => ?_⟩)
    · simp only [if_true]
    · simp
theorem loop_ev (k n : Int) (ok : Bool) (a b : Int) (h : ok = true → Ev (fun f => impl_RankOf.f f a b) (k, true)) (S : List S25) (hS : S.length ≤ 55) (hall : ∀ x ∈ S, x.f1 ≤ n ∧ gd x.f0 x.f1 = true) : ∀ (d j : Nat), j + d = S.length → Ev (fun f => laws_FnTilesRanked.l0 f k ok n S (S.length : Int) (j : Int) a b) true := by
  intro d
  induction d with
  | zero =>
    intro j hj
    refine Ev.step (fun f => ?_) (last_ev k ok a b h)
    simp only [laws_FnTilesRanked.l0]
    rw [if_neg (by omega)]
  | succ d ih =>
    intro j hj
    have hg : rd_T25 S (j : Int) ∈ S := by
      unfold rd_T25
      rw [show ((j : Int)).toNat = j from rfl, List.getD_eq_getElem?_getD, List.getElem?_eq_getElem (by omega)]
      exact List.getElem_mem _
    obtain ⟨g1, g2⟩ := hall _ hg
    refine Ev.step (fun f => ?_) (ih (j + 1) (by omega))
    simp only [laws_FnTilesRanked.l0]
    rw [if_pos (by omega), if_pos (by omega), if_pos (by omega), if_neg (by omega), (isTile _ _).1, g2, d_w ((j : Int) + 1) (by omega) (by omega)]
    simp
theorem set_both (n : Int) : ∃ (S : List S25) (c : Int) (ok : Bool), Ev (fun f => impl_SetOf.f f n) (S, ok) ∧ Ev (fun f => spec_SetOf.f f n) (S, ok) ∧ Ev (fun f => laws_mTiles.f f S S) true ∧ Ev (fun f => impl_CountSet.f f n) (c, ok) ∧ spec_CountSet.f n = some (c, ok) ∧ (ok = true → c = (S.length : Int) ∧ S.length ≤ 55 ∧ (∃ p, Ev (fun f => impl_PipsOf.f f S) (p, true) ∧ p = wrap64 ((wrap64 (Int.tdiv (wrap64 (n * (wrap64 (n + 1)))) 2)) * (wrap64 (n + 2)))) ∧ (∀ x ∈ S, x.f1 ≤ n ∧ gd x.f0 x.f1 = true)) := by
  by_cases h : 0 ≤ n ∧ n ≤ 9
  · obtain ⟨m, rfl⟩ : ∃ m : Nat, n = (m : Int) := ⟨n.toNat, by omega⟩
    obtain ⟨S, p, e1, e2, e3, e4, e5, e6, e7, e8⟩ := set_yes ⟨m, by omega⟩
    have v1 : Ev (fun f => impl_setOf.f f (m : Int)) S := Ev.of (fun f => impl_setOf.mono _ f) e1
    have v2 : Ev (fun f => spec_tiSet.f f (m : Int)) S := Ev.of (fun f => spec_tiSet.mono _ f) e2
    have v3 : Ev (fun f => impl_SetOf.f f (m : Int)) (S, true) := by
      unfold impl_SetOf.f impl_isNumber.f
      rw [(in_yes _ 0 9 h).2]
      simp only [Option.bind_some, if_true]
      exact Ev.bind (f := fun f t => _) v1 ⟨0, fun f _ => rfl⟩
    refine ⟨S, (S.length : Int), true, v3, ?_, Ev.of (fun f => laws_mTiles.mono _ _ f) e3, ?_, e4, fun _ => ⟨rfl, e7, ⟨p, Ev.of (fun f => impl_PipsOf.mono _ f) e5, e6⟩, ?_⟩⟩
    · unfold spec_SetOf.f spec_tiNumber.f
      rw [(in_yes _ 0 9 h).1]
      simp only [Option.bind_some, if_true]
      exact Ev.bind (f := fun f t => _) v2 ⟨0, fun f _ => rfl⟩
    · unfold impl_CountSet.f
      exact Ev.bind (f := fun f (t : List S25 × Bool) => _) v3 ⟨0, fun f _ => rfl⟩
    · intro x hx
      have := List.all_eq_true.1 e8 x hx
      simpa using this
  · refine ⟨[], 0, false, ⟨0, fun f _ => ?_⟩, ⟨0, fun f _ => ?_⟩, ⟨1, fun f hf => ?_⟩, ⟨0, fun f _ => ?_⟩, ?_, fun h => by cases h⟩
    · show impl_SetOf.f f n = _
      unfold impl_SetOf.f impl_isNumber.f
      rw [(in_no n 0 9 h).2]
      rfl
    · show spec_SetOf.f f n = _
      unfold spec_SetOf.f spec_tiNumber.f
      rw [(in_no n 0 9 h).1]
      rfl
    · show laws_mTiles.f f [] [] = _
      obtain ⟨g, rfl⟩ : ∃ g, f = g + 1 := ⟨f - 1, by omega⟩
      unfold laws_mTiles.f
      rw [if_pos rfl]
      simp only [laws_mTiles.l0]
      rw [if_neg (by decide)]
    · show impl_CountSet.f f n = _
      unfold impl_CountSet.f impl_SetOf.f impl_isNumber.f
      rw [(in_no n 0 9 h).2]
      rfl
    · unfold spec_CountSet.f spec_tiNumber.f
      rw [(in_no n 0 9 h).1]
      rfl
theorem part1 (l1 : List Int) (hl : ∀ x ∈ l1, 0 ≤ x ∧ x ≤ 255) : Ev (fun f => laws_FnTilesRanked.j1 f l1) true := by
  obtain ⟨k, hk⟩ := d_tileOfRank l1 hl
  obtain ⟨a, b, hab⟩ := d_tileOf l1 hl
  obtain ⟨n, hn⟩ := d_setOf l1 hl
  obtain ⟨x, y, ok, t1, t2, t3⟩ := tile_both k
  obtain ⟨r, o1, o2⟩ := tileOf_both a b
  obtain ⟨S, c, oks, s1, s2, s3, s4, s5, s6⟩ := set_both n
  refine Ev.step (fun f => by simp only [laws_FnTilesRanked.j1, hk, hab, o1, o2, hn, s5, Option.bind_some]; rfl) ?_
  refine Ev.bind (f := fun f (d : Int × Int × Bool) => _) t1 ?_
  refine Ev.bind (f := fun f (d : Int × Int × Bool) => _) t2 ?_
  refine Ev.bind (f := fun f (d : List S25 × Bool) => _) s1 ?_
  refine Ev.bind (f := fun f (d : List S25 × Bool) => _) s2 ?_
  refine Ev.bind (f := fun f (d : Int × Bool) => _) s4 ?_
  simp only [bne_self_eq_false, beq_self_eq_true, Bool.not_true, Bool.or_self, Bool.false_eq_true, if_false, if_true]
  refine Ev.bind (f := fun f d => _) s3 ?_
  simp only [if_true]
  cases oks
  · refine Ev.step (fun f => ?_) (last_ev k ok x y t3)
    simp only [laws_FnTilesRanked.j2, Bool.false_eq_true, if_false]
  · obtain ⟨hc, hS, ⟨p, p1, p2⟩, hall⟩ := s6 rfl
    subst hc
    refine Ev.step (fun f => by simp only [laws_FnTilesRanked.j2, Bool.false_eq_true, if_false, if_true]; rfl) ?_
    refine Ev.bind (f := fun f (d : Int × Bool) => _) p1 ?_
    simp only [if_true, p2, bne_self_eq_false]
    refine Ev.step (fun f => ?_) (loop_ev k n ok x y t3 S hS hall S.length 0 (by omega))
    simp [laws_FnTilesRanked.j3]
theorem rankOf_no (a b : Int) (h : gd a b = false) : Ev (fun f => impl_RankOf.f f a b) (0, false) ∧ Ev (fun f => spec_RankOf.f f a b) (0, false) := by
  constructor
  · refine ⟨0, fun f _ => ?_⟩
    show impl_RankOf.f f a b = _
    unfold impl_RankOf.f
    rw [(isTile a b).1, h]
    rfl
  · refine ⟨0, fun f _ => ?_⟩
    show spec_RankOf.f f a b = _
    unfold spec_RankOf.f
    rw [(isTile a b).2, h]
    rfl
theorem part0 (l1 : List Int) (hl : ∀ x ∈ l1, 0 ≤ x ∧ x ≤ 255) (r a b : Int) (h : gd a b = true → Ev (fun f => impl_TileOfRank.f f r) (a, b, true) ∧ impl_TileOf.f b a = some (a, b, true)) : Ev (fun f => laws_FnTilesRanked.j0 f l1 r (gd a b) false a b) true := by
  cases hg : gd a b
  · refine Ev.step (fun f => ?_) (part1 l1 hl)
    simp [laws_FnTilesRanked.j0]
  · obtain ⟨h1, h2⟩ := h hg
    refine Ev.step (fun f => by simp only [laws_FnTilesRanked.j0, Bool.false_eq_true, if_false, if_true, h2, Option.bind_some]; rfl) ?_
    refine Ev.bind (f := fun f (d : Int × Int × Bool) => _) h1 ?_
    simp only [bne_self_eq_false, beq_self_eq_true, Bool.not_true, Bool.or_self, Bool.false_eq_true, if_false, if_true]
    exact part1 l1 hl
theorem wf_u8 (l : List Int) (h : ∀ x_ ∈ l, (Lit.int .u8 x_).wf = true) : ∀ x ∈ l, 0 ≤ x ∧ x ≤ 255 := by
  intro x hx
  have h1 : (decide (IntKind.u8.min ≤ x) && decide (x ≤ IntKind.u8.max)) = true := h x hx
  have h2 : IntKind.u8.min = 0 := by decide
  have h3 : IntKind.u8.max = 255 := by decide
  rw [h2, h3] at h1
  simpa using h1
theorem FnTilesRanked (l0 : List Int) (l1 : List Int) (_h0 : (l0.length ≤ 9223372036854775807 ∧ ∀ x_ ∈ l0, (Lit.int .u8 x_).wf = true)) (_h1 : (l1.length ≤ 9223372036854775807 ∧ ∀ x_ ∈ l1, (Lit.int .u8 x_).wf = true)) : ∃ k, laws_FnTilesRanked.f k l0 l1 = some true := by
  refine Ev.rounds (g := fun f => laws_FnTilesRanked.f f l0 l1) ?_
  obtain ⟨a, b, hd⟩ := d_rankOf l0 (wf_u8 l0 _h0.2)
  unfold laws_FnTilesRanked.f laws_big.f
  have big : ∃ c, (if (l0.length : Int) > 1048576 then (some true) else (some (decide ((l1.length : Int) > (wrap64 (1048576 - (l0.length : Int))))))) = some c := by
    split <;> exact ⟨_, rfl⟩
  obtain ⟨c, hc⟩ := big
  rw [hc, hd]
  simp only [Option.bind_some]
  cases c
  · simp only [Bool.false_eq_true, if_false]
    cases hg : gd a b
    · obtain ⟨n1, n2⟩ := rankOf_no a b hg
      refine Ev.bind (f := fun f (d : Int × Bool) => _) n1 ?_
      refine Ev.bind (f := fun f (d : Int × Bool) => _) n2 ?_
      unfold spec_IsTile.f
      simp only [(isTile a b).1, (isTile a b).2, hg, Option.bind_some, bne_self_eq_false, Bool.false_eq_true, if_false, if_true]
      have := part0 l1 (wf_u8 l1 _h1.2) 0 a b (fun h => by rw [hg] at h; cases h)
      rw [hg] at this
      exact this
    · have hg2 := hg
      unfold gd at hg2
      simp only [Bool.and_eq_true, decide_eq_true_eq] at hg2
      obtain ⟨r, e1, e2, e3, e4⟩ := rank_yes ⟨a.toNat, by omega⟩ ⟨b.toNat, by omega⟩ (by simp; omega)
      simp only at e1 e2 e3 e4
      rw [Int.toNat_of_nonneg (by omega), Int.toNat_of_nonneg (by omega)] at e1 e2 e3 e4
      refine Ev.bind (f := fun f (d : Int × Bool) => _) (Ev.of (fun f => impl_RankOf.mono _ _ f) e1) ?_
      refine Ev.bind (f := fun f (d : Int × Bool) => _) (Ev.of (fun f => spec_RankOf.mono _ _ f) e2) ?_
      unfold spec_IsTile.f
      simp only [(isTile a b).1, (isTile a b).2, hg, Option.bind_some, bne_self_eq_false, Bool.false_eq_true, if_false, if_true]
      have := part0 l1 (wf_u8 l1 _h1.2) r a b (fun _ => ⟨Ev.of (fun f => impl_TileOfRank.mono _ f) e3, e4⟩)
      rw [hg] at this
      exact this
  · exact ⟨0, fun f _ => rfl⟩


end Go.Proofs.Ytgcnlhebfnaaoaa.QPure
