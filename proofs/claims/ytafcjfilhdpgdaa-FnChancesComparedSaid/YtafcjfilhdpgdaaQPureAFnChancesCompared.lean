/- Hands by their pips, counted in two ways, for FnChancesCompared. No conditions. -/
import Derived.Test.YtafcjfilhdpgdaaQFnChancesComparedx15
namespace Go.Proofs.Ytafcjfilhdpgdaa.QPureA
open Go.RowKit Go.Proofs.Ytafcjfilhdpgdaa.QFnChancesCompared Go.Proofs.YtafcjfilhdpgdaaW.PrintWords Go.Proofs.YtafcjfilhdpgdaaW.PrintLast

set_option linter.unusedVariables false
set_option linter.unusedSimpArgs false

theorem p_wrap (n : Int) (h : -100000 ≤ n) (h' : n ≤ 100000) : wrap64 n = n := by
  unfold wrap64
  omega

/-- A row behind the sums from p up to m. -/
def upd (row prev : List Int) (p m : Nat) : List Int :=
  (List.range row.length).map fun s => if p ≤ s ∧ s < m then wrap64 (row.getD s 0 + prev.getD (s - p) 0) else row.getD s 0

theorem upd_length (row prev : List Int) (p m : Nat) : (upd row prev p m).length = row.length := by
  unfold upd
  simp

theorem upd_getD (row prev : List Int) (p m s : Nat) (hs : s < row.length) :
    (upd row prev p m).getD s 0 = if p ≤ s ∧ s < m then wrap64 (row.getD s 0 + prev.getD (s - p) 0) else row.getD s 0 := by
  unfold upd
  rw [List.getD_eq_getElem?_getD, List.getElem?_map, List.getElem?_range hs]
  rfl

theorem ext_getD (a b : List Int) (h : a.length = b.length) (hg : ∀ s, s < a.length → a.getD s 0 = b.getD s 0) : a = b := by
  apply List.ext_getElem h
  intro s h1 h2
  have := hg s h1
  rw [List.getD_eq_getElem?_getD, List.getD_eq_getElem?_getD, List.getElem?_eq_getElem h1, List.getElem?_eq_getElem h2] at this
  exact this

theorem upd_none (row prev : List Int) (p m : Nat) (h : m ≤ p) : upd row prev p m = row := by
  apply ext_getD _ _ (upd_length _ _ _ _)
  intro s hs
  rw [upd_length] at hs
  rw [upd_getD _ _ _ _ _ hs, if_neg (by omega)]

theorem getD_set_self (l : List Int) (i : Nat) (x : Int) (h : i < l.length) : (l.set i x).getD i 0 = x := by
  rw [List.getD_eq_getElem?_getD, List.getElem?_set_self h]
  rfl

theorem getD_set_ne (l : List Int) (i j : Nat) (x : Int) (h : i ≠ j) : (l.set i x).getD j 0 = l.getD j 0 := by
  rw [List.getD_eq_getElem?_getD, List.getElem?_set_ne h, ← List.getD_eq_getElem?_getD]

theorem upd_more (row prev : List Int) (p m : Nat) (h : p ≤ m) (hm : m < row.length) :
    upd (row.set m (wrap64 (row.getD m 0 + prev.getD (m - p) 0))) prev p m = upd row prev p (m + 1) := by
  apply ext_getD
  · rw [upd_length, upd_length, List.length_set]
  · intro s hs
    rw [upd_length, List.length_set] at hs
    rw [upd_getD _ _ _ _ _ (by rw [List.length_set]; exact hs), upd_getD _ _ _ _ _ hs]
    by_cases e : m = s
    · subst e
      rw [getD_set_self _ _ _ hm, if_neg (by omega), if_pos (by omega)]
    · rw [getD_set_ne _ _ _ _ e]
      by_cases h1 : p ≤ s ∧ s < m
      · rw [if_pos h1, if_pos (by omega)]
      · rw [if_neg h1, if_neg (by omega)]

theorem rows_set_self (l : List (List Int)) (i : Nat) (x : List Int) (h : i < l.length) : (l.set i x).getD i [] = x := by
  rw [List.getD_eq_getElem?_getD, List.getElem?_set_self h]
  rfl

theorem rows_set_ne (l : List (List Int)) (i j : Nat) (x : List Int) (h : i ≠ j) : (l.set i x).getD j [] = l.getD j [] := by
  rw [List.getD_eq_getElem?_getD, List.getElem?_set_ne h, ← List.getD_eq_getElem?_getD]

theorem rows_set_same (l : List (List Int)) (i : Nat) (h : i < l.length) : l.set i (l.getD i []) = l := by
  apply List.ext_getElem (by simp)
  intro j h1 h2
  rw [List.getElem_set]
  split
  · rename_i e
    subst e
    rw [List.getD_eq_getElem?_getD, List.getElem?_eq_getElem h2]
    rfl
  · rfl

theorem rows_ext (a b : List (List Int)) (h : a.length = b.length) (hg : ∀ s, s < a.length → a.getD s [] = b.getD s []) : a = b := by
  apply List.ext_getElem h
  intro s h1 h2
  have := hg s h1
  rw [List.getD_eq_getElem?_getD, List.getD_eq_getElem?_getD, List.getElem?_eq_getElem h1, List.getElem?_eq_getElem h2] at this
  exact this

/-- All rows from i down to 1, each out of itself and the one before it. -/
def updAll (p m : Nat) : Nat → List (List Int) → List (List Int)
  | 0, x => x
  | i + 1, x => updAll p m i (x.set (i + 1) (upd (x.getD (i + 1) []) (x.getD i []) p m))

theorem updAll_length (p m : Nat) : ∀ i x, (updAll p m i x).length = x.length := by
  intro i
  induction i with
  | zero => intro x; rfl
  | succ i ih => intro x; unfold updAll; rw [ih, List.length_set]

theorem updAll_getD (p m : Nat) : ∀ (i : Nat) (x : List (List Int)) (j : Nat), i < x.length →
    (updAll p m i x).getD j [] = if 1 ≤ j ∧ j ≤ i then upd (x.getD j []) (x.getD (j - 1) []) p m else x.getD j [] := by
  intro i
  induction i with
  | zero => intro x j _; unfold updAll; rw [if_neg (by omega)]
  | succ i ih =>
    intro x j hx
    unfold updAll
    rw [ih _ j (by rw [List.length_set]; omega)]
    by_cases e : j = i + 1
    · subst e
      rw [if_neg (by omega), if_pos (by omega), rows_set_self _ _ _ hx]
      rfl
    · rw [rows_set_ne _ _ _ _ (by omega)]
      by_cases h1 : 1 ≤ j ∧ j ≤ i
      · rw [if_pos h1, if_pos (by omega), rows_set_ne _ _ _ _ (by omega)]
      · rw [if_neg h1, if_neg (by omega)]

/-- The pips of a tile. -/
def pp (t : S53) : Nat := (t.f0 + t.f1).toNat

/-- How many hands of i of these tiles have the sum s (the last tile first). -/
def ways : List S53 → Nat → Nat → Int
  | [], i, s => if i = 0 ∧ s = 0 then 1 else 0
  | t :: ts, i, s => if 0 < i ∧ pp t ≤ s then wrap64 (ways ts i s + ways ts (i - 1) (s - pp t)) else ways ts i s

def row (ts : List S53) (L i : Nat) : List Int := (List.range L).map (ways ts i)
def tab (ts : List S53) (L k : Nat) : List (List Int) := (List.range (k + 1)).map (row ts L)

theorem row_length (ts : List S53) (L i : Nat) : (row ts L i).length = L := by
  unfold row
  simp
theorem row_getD (ts : List S53) (L i s : Nat) (h : s < L) : (row ts L i).getD s 0 = ways ts i s := by
  unfold row
  rw [List.getD_eq_getElem?_getD, List.getElem?_map, List.getElem?_range h]
  rfl
theorem tab_length (ts : List S53) (L k : Nat) : (tab ts L k).length = k + 1 := by
  unfold tab
  simp
theorem tab_getD (ts : List S53) (L k i : Nat) (h : i ≤ k) : (tab ts L k).getD i [] = row ts L i := by
  unfold tab
  rw [List.getD_eq_getElem?_getD, List.getElem?_map, List.getElem?_range (by omega)]
  rfl

theorem tab_next (t : S53) (ts : List S53) (L k : Nat) : updAll (pp t) L k (tab ts L k) = tab (t :: ts) L k := by
  apply rows_ext
  · rw [updAll_length, tab_length, tab_length]
  · intro j hj
    rw [updAll_length, tab_length] at hj
    rw [updAll_getD _ _ _ _ _ (by rw [tab_length]; omega), tab_getD (t :: ts) L k j (by omega), tab_getD ts L k j (by omega)]
    by_cases h1 : 1 ≤ j ∧ j ≤ k
    · rw [if_pos h1, tab_getD ts L k (j - 1) (by omega)]
      apply ext_getD
      · rw [upd_length, row_length, row_length]
      · intro s hs
        rw [upd_length, row_length] at hs
        rw [upd_getD _ _ _ _ _ (by rw [row_length]; exact hs), row_getD _ _ _ _ hs, row_getD _ _ _ _ hs]
        simp only [ways]
        by_cases h2 : pp t ≤ s
        · rw [if_pos ⟨h2, hs⟩, if_pos ⟨by omega, h2⟩, row_getD _ _ _ _ (by omega)]
        · rw [if_neg (by omega), if_neg (by omega)]
    · rw [if_neg h1]
      have : j = 0 := by omega
      subst this
      apply ext_getD
      · rw [row_length, row_length]
      · intro s hs
        rw [row_length] at hs
        rw [row_getD _ _ _ _ hs, row_getD _ _ _ _ hs]
        simp only [ways]
        rw [if_neg (by omega)]

/-- The tiles that are met: their numbers are few. -/
def Small (ts : List S53) : Prop := ∀ j, j < ts.length → 0 ≤ (ts.getD j z53).f0 ∧ (ts.getD j z53).f0 ≤ 9 ∧ 0 ≤ (ts.getD j z53).f1 ∧ (ts.getD j z53).f1 ≤ 9

/-- The ways are none behind all pips together. -/
def total (ts : List S53) : Nat := (ts.map pp).foldr (· + ·) 0
theorem ways_zero (ts : List S53) : ∀ i s, total ts < s → ways ts i s = 0 := by
  induction ts with
  | nil => intro i s h; simp only [ways]; rw [if_neg (by omega)]
  | cons t ts ih =>
    intro i s h
    have e : total (t :: ts) = pp t + total ts := rfl
    rw [e] at h
    simp only [ways]
    by_cases h1 : 0 < i ∧ pp t ≤ s
    · rw [if_pos h1, ih i s (by omega), ih (i - 1) (s - pp t) (by omega)]
      simp [wrap64]
    · rw [if_neg h1, ih i s (by omega)]

theorem take_succ_rev (ts : List S53) (j : Nat) (h : j < ts.length) : (ts.take (j + 1)).reverse = ts.getD j z53 :: (ts.take j).reverse := by
  rw [List.take_succ_eq_append_getElem h, List.reverse_append, List.getD_eq_getElem?_getD, List.getElem?_eq_getElem h]
  rfl

theorem i3 (x1 : Int) (ts : List S53) (x30 x31 f0 f1 : Int) (hf0 : 0 ≤ f0 ∧ f0 ≤ 9) (hf1 : 0 ≤ f1 ∧ f1 ≤ 9) (L : Nat) (hL : L ≤ 2000) (i : Nat) (hi : i ≤ 1000) (r : List Int) :
    ∀ (d : Nat) (x5 : List (List Int)) (x10 : Int), x10 + 1 = f0 + f1 + d → x10 < L → i + 1 < x5.length → (x5.getD (i + 1) []).length = L → (x5.getD i []).length = L →
    Ev (fun k => impl_withPips.l2 k x1 (x5.set (i + 1) (upd (x5.getD (i + 1) []) (x5.getD i []) (f0 + f1).toNat (x10 + 1).toNat)) (i : Int) ts x30 x31 f0 f1) r →
    Ev (fun k => impl_withPips.l3 k x1 x5 ((i : Int) + 1) x10 ts x30 x31 f0 f1) r := by
  intro d
  induction d with
  | zero =>
    intro x5 x10 hd hx hlen h1 h2 h
    rw [upd_none _ _ _ _ (by omega), rows_set_same _ _ hlen] at h
    refine Ev.step (fun k => ?_) h
    simp only [impl_withPips.l3]
    rw [p_wrap (f0 + f1) (by omega) (by omega), if_neg (by omega), p_wrap ((i : Int) + 1 - 1) (by omega) (by omega)]
    congr 1
    omega
  | succ d ih =>
    intro x5 x10 hd hx hlen h1 h2 h
    refine Ev.step (f := fun k => impl_withPips.l3 k x1 (x5.set (i + 1) ((x5.getD (i + 1) []).set x10.toNat (wrap64 ((x5.getD (i + 1) []).getD x10.toNat 0 + (x5.getD i []).getD (x10.toNat - (f0 + f1).toNat) 0)))) ((i : Int) + 1) (x10 - 1) ts x30 x31 f0 f1) (fun k => ?_) ?_
    · have e1 : ((i : Int) + 1).toNat = i + 1 := by omega
      have e2 : ((i : Int) + 1 - 1).toNat = i := by omega
      have e3 : (x10 - f0 - f1).toNat = x10.toNat - (f0 + f1).toNat := by omega
      have r1 : rd_L3 x5 ((i : Int) + 1) = x5.getD (i + 1) [] := by unfold rd_L3; rw [e1]
      have r2 : rd_L3 x5 ((i : Int) + 1 - 1) = x5.getD i [] := by unfold rd_L3; rw [e2]
      simp only [impl_withPips.l3]
      rw [p_wrap (f0 + f1) (by omega) (by omega), p_wrap ((i : Int) + 1 - 1) (by omega) (by omega), p_wrap (x10 - f0) (by omega) (by omega), p_wrap (x10 - f0 - f1) (by omega) (by omega), p_wrap (x10 - 1) (by omega) (by omega)]
      rw [r1, r2, h1, h2]
      rw [if_pos (by omega), if_pos (by omega), if_pos (by omega), if_pos (by omega), if_pos (by omega), if_pos (by omega), if_pos (by omega), if_pos (by omega), if_pos (by omega)]
      simp only [rd, e1, e3]
    · refine ih _ (x10 - 1) (by omega) (by omega) (by rw [List.length_set]; exact hlen) ?_ ?_ ?_
      · rw [rows_set_self _ _ _ hlen, List.length_set, h1]
      · rw [rows_set_ne _ _ _ _ (by omega), h2]
      · rw [rows_set_self _ _ _ hlen, rows_set_ne _ _ _ _ (by omega), List.set_set]
        have e4 : (x10 - 1 + 1).toNat = x10.toNat := by omega
        have e5 : (x10 + 1).toNat = x10.toNat + 1 := by omega
        rw [e4, upd_more _ _ _ _ (by omega) (by rw [h1]; omega), ← e5]
        exact h

theorem i2 (x1 : Int) (ts : List S53) (x30 : Int) (j : Nat) (hj : j < 1000) (f0 f1 : Int) (hf0 : 0 ≤ f0 ∧ f0 ≤ 9) (hf1 : 0 ≤ f1 ∧ f1 ≤ 9) (r : List Int) :
    ∀ (i : Nat) (x5 : List (List Int)), i < x5.length → i ≤ 1000 → (∀ q, q < x5.length → (x5.getD q []).length = 1001) →
    Ev (fun k => impl_withPips.l1 k x1 (updAll (f0 + f1).toNat 1001 i x5) ts x30 ((j : Int) + 1)) r →
    Ev (fun k => impl_withPips.l2 k x1 x5 (i : Int) ts x30 (j : Int) f0 f1) r := by
  intro i
  induction i with
  | zero =>
    intro x5 hx hi hall h
    refine Ev.step (fun k => ?_) h
    simp only [impl_withPips.l2]
    rw [if_neg (by omega), p_wrap ((j : Int) + 1) (by omega) (by omega)]
    rfl
  | succ i ih =>
    intro x5 hx hi hall h
    refine Ev.step (f := fun k => impl_withPips.l3 k x1 x5 ((i : Int) + 1) 1000 ts x30 (j : Int) f0 f1) (fun k => ?_) ?_
    · simp only [impl_withPips.l2]
      rw [if_pos (by omega)]
      rfl
    · refine i3 x1 ts x30 (j : Int) f0 f1 hf0 hf1 1001 (by omega) i (by omega) r (1001 - (f0 + f1).toNat) x5 1000 (by omega) (by omega) hx (hall _ hx) (hall _ (by omega)) ?_
      refine ih _ (by rw [List.length_set]; omega) (by omega) ?_ h
      intro q hq
      rw [List.length_set] at hq
      by_cases e : i + 1 = q
      · subst e
        rw [rows_set_self _ _ _ hx, upd_length, hall _ hx]
      · rw [rows_set_ne _ _ _ _ e, hall q hq]

theorem i1 (k0 : Nat) (hk0 : k0 ≤ 900) (ts : List S53) (hts : ts.length ≤ 900) (hs : Small ts) : ∀ (d j : Nat), j + d = ts.length →
    Ev (fun k => impl_withPips.l1 k (k0 : Int) (tab (ts.take j).reverse 1001 k0) ts (ts.length : Int) (j : Int)) (row ts.reverse 1001 k0) := by
  intro d
  induction d with
  | zero =>
    intro j hj
    refine Ev.step (f := fun _ => some (row ts.reverse 1001 k0)) (fun k => ?_) (⟨0, fun _ _ => rfl⟩)
    simp only [impl_withPips.l1, rd_L3]
    rw [if_neg (by omega), if_pos (by omega), if_pos (by rw [tab_length]; omega)]
    rw [show ((k0 : Int)).toNat = k0 from rfl, tab_getD _ _ _ _ (by omega), List.take_of_length_le (by omega)]
  | succ d ih =>
    intro j hj
    have hb := hs j (by omega)
    refine Ev.step (f := fun k => impl_withPips.l2 k (k0 : Int) (tab (ts.take j).reverse 1001 k0) (k0 : Int) ts (ts.length : Int) (j : Int) (ts.getD j z53).f0 (ts.getD j z53).f1) (fun k => ?_) ?_
    · simp only [impl_withPips.l1, rd_T53]
      rw [if_pos (by omega), if_pos (by omega), if_pos (by omega), show ((j : Int)).toNat = j from rfl]
    · refine i2 (k0 : Int) ts (ts.length : Int) j (by omega) _ _ ⟨hb.1, hb.2.1⟩ ⟨hb.2.2.1, hb.2.2.2⟩ _ k0 _ (by rw [tab_length]; omega) (by omega) ?_ ?_
      · intro q hq
        rw [tab_length] at hq
        rw [tab_getD _ _ _ _ (by omega), row_length]
      · have e : (((ts.getD j z53).f0 + (ts.getD j z53).f1).toNat) = pp (ts.getD j z53) := rfl
        rw [e, tab_next, ← take_succ_rev ts j (by omega)]
        exact ih (j + 1) (by omega)

theorem tab_first (L k : Nat) (hL : 0 < L) : (List.replicate (k + 1) (List.replicate L (0 : Int))).set 0 ((List.replicate L (0 : Int)).set 0 1) = tab [] L k := by
  apply rows_ext
  · rw [List.length_set, List.length_replicate, tab_length]
  · intro j hj
    rw [List.length_set, List.length_replicate] at hj
    rw [tab_getD _ _ _ _ (by omega)]
    have hrep : (List.replicate (k + 1) (List.replicate L (0 : Int))).getD j [] = List.replicate L 0 := by
      rw [List.getD_eq_getElem?_getD, List.getElem?_replicate, if_pos hj]
      rfl
    have hz : ∀ s, s < L → (List.replicate L (0 : Int)).getD s 0 = 0 := by
      intro s hs
      rw [List.getD_eq_getElem?_getD, List.getElem?_replicate, if_pos hs]
      rfl
    by_cases e : j = 0
    · subst e
      rw [rows_set_self _ _ _ (by rw [List.length_replicate]; omega)]
      apply ext_getD
      · rw [List.length_set, List.length_replicate, row_length]
      · intro s h2
        rw [List.length_set, List.length_replicate] at h2
        rw [row_getD _ _ _ _ h2]
        simp only [ways]
        by_cases e2 : s = 0
        · subst e2
          rw [getD_set_self _ _ _ (by rw [List.length_replicate]; omega)]
          rfl
        · rw [getD_set_ne _ _ _ _ (by omega), if_neg (by omega), hz s h2]
    · rw [rows_set_ne _ _ _ _ (by omega), hrep]
      apply ext_getD
      · rw [List.length_replicate, row_length]
      · intro s h2
        rw [List.length_replicate] at h2
        rw [row_getD _ _ _ _ h2, hz s h2]
        simp only [ways]
        rw [if_neg (by omega)]

/-- The rows up to j are made. -/
def made (L n j : Nat) : List (List Int) := List.replicate j (List.replicate L (0 : Int)) ++ List.replicate (n - j) []
theorem made_length (L n j : Nat) (h : j ≤ n) : (made L n j).length = n := by
  unfold made
  simp
  omega
theorem made_next (L n j : Nat) (h : j < n) : (made L n j).set j (List.replicate L 0) = made L n (j + 1) := by
  unfold made
  rw [List.set_append_right _ _ (by simp), List.length_replicate, Nat.sub_self]
  obtain ⟨m, hm⟩ : ∃ m, n - j = m + 1 := ⟨n - j - 1, by omega⟩
  have hm2 : n - (j + 1) = m := by omega
  rw [hm, hm2, List.replicate_succ, List.set_cons_zero, List.replicate_succ', List.append_assoc]
  rfl

set_option maxRecDepth 100000 in
theorem i0 (n : Int) (k0 : Nat) (hk0 : k0 ≤ 900) (ts : List S53) (hts : ts.length ≤ 900) (hs : Small ts) (hset : Ev (fun k => impl_setOf.f k n) ts) : ∀ (d j : Nat), j + d = k0 + 1 →
    Ev (fun k => impl_withPips.l0 k n (k0 : Int) (made 1001 (k0 + 1) j) ((k0 : Int) + 1) (j : Int)) (row ts.reverse 1001 k0) := by
  intro d
  induction d with
  | zero =>
    intro j hj
    obtain rfl : j = k0 + 1 := by omega
    have e0 : made 1001 (k0 + 1) (k0 + 1) = List.replicate (k0 + 1) (List.replicate 1001 (0 : Int)) := by
      unfold made
      simp
    have e1 : (List.replicate (k0 + 1) (List.replicate 1001 (0 : Int))).getD 0 [] = List.replicate 1001 0 := by
      rw [List.getD_eq_getElem?_getD, List.getElem?_replicate, if_pos (by omega)]
      rfl
    refine Ev.step (f := fun k => (impl_setOf.f k n).bind fun t => impl_withPips.l1 k (k0 : Int) (tab [] 1001 k0) t (t.length : Int) 0) (fun k => ?_) (Ev.bind (f := fun k t => impl_withPips.l1 k (k0 : Int) (tab [] 1001 k0) t (t.length : Int) 0) hset (i1 k0 hk0 ts hts hs ts.length 0 (by omega)))
    have r0 : rd_L3 (List.replicate (k0 + 1) (List.replicate 1001 (0 : Int))) 0 = List.replicate 1001 0 := e1
    simp only [impl_withPips.l0]
    rw [e0, if_neg (by omega), if_pos (by rw [List.length_replicate]; omega), r0, if_pos (by rw [List.length_replicate]; omega), show (0 : Int).toNat = 0 from rfl, tab_first _ _ (by omega)]
  | succ d ih =>
    intro j hj
    refine Ev.step (f := fun k => impl_withPips.l0 k n (k0 : Int) (made 1001 (k0 + 1) (j + 1)) ((k0 : Int) + 1) (((j + 1 : Nat)) : Int)) (fun k => ?_) (ih (j + 1) (by omega))
    simp only [impl_withPips.l0]
    rw [if_pos (by omega), if_pos (by omega), if_pos (by omega), if_pos (by rw [made_length _ _ _ (by omega)]; omega), p_wrap ((j : Int) + 1) (by omega) (by omega), show ((j : Int)).toNat = j from rfl, made_next _ _ _ (by omega)]
    rfl

set_option maxRecDepth 100000 in
theorem i_all (n : Int) (k0 : Nat) (hk0 : k0 ≤ 900) (ts : List S53) (hts : ts.length ≤ 900) (hs : Small ts) (hset : Ev (fun k => impl_setOf.f k n) ts) :
    Ev (fun k => impl_withPips.f k n (k0 : Int)) (row ts.reverse 1001 k0) := by
  refine Ev.congr (fun k => ?_) (i0 n k0 hk0 ts hts hs hset (k0 + 1) 0 (by omega))
  unfold impl_withPips.f
  rw [p_wrap ((k0 : Int) + 1) (by omega) (by omega), if_pos (by omega), if_pos (by omega)]
  have e : ((k0 : Int) + 1).toNat = k0 + 1 := by omega
  rw [e]
  simp only [Option.bind_some, List.length_replicate]
  rfl

theorem s4 (x1 most : Int) (ts : List S53) (x51 x52 p : Int) (hp : 0 ≤ p ∧ p ≤ 18) (L : Nat) (hL : L ≤ 2000) (i : Nat) (hi : i ≤ 1000) (r : List Int) :
    ∀ (d : Nat) (x8 : List (List Int)) (x14 : Int), x14 + 1 ≤ p + d → (x14 + 1 = p + d ∨ (d = 0 ∧ x14 < p)) → 0 ≤ x14 + 1 → x14 < L → i + 1 < x8.length → (x8.getD (i + 1) []).length = L → (x8.getD i []).length = L →
    Ev (fun k => spec_dcPips.l3 k x1 most (x8.set (i + 1) (upd (x8.getD (i + 1) []) (x8.getD i []) p.toNat (x14 + 1).toNat)) p (i : Int) ts x51 x52) r →
    Ev (fun k => spec_dcPips.l4 k x1 most x8 p ((i : Int) + 1) x14 ts x51 x52) r := by
  intro d
  induction d with
  | zero =>
    intro x8 x14 hd hd3 h0 hx hlen h1 h2 h
    rw [upd_none _ _ _ _ (by omega), rows_set_same _ _ hlen] at h
    refine Ev.step (fun k => ?_) h
    simp only [spec_dcPips.l4]
    rw [if_neg (by omega), p_wrap ((i : Int) + 1 - 1) (by omega) (by omega)]
    congr 1
    omega
  | succ d ih =>
    intro x8 x14 hd hd3 h0 hx hlen h1 h2 h
    refine Ev.step (f := fun k => spec_dcPips.l4 k x1 most (x8.set (i + 1) ((x8.getD (i + 1) []).set x14.toNat (wrap64 ((x8.getD (i + 1) []).getD x14.toNat 0 + (x8.getD i []).getD (x14.toNat - p.toNat) 0)))) p ((i : Int) + 1) (x14 - 1) ts x51 x52) (fun k => ?_) ?_
    · have e1 : ((i : Int) + 1).toNat = i + 1 := by omega
      have e2 : ((i : Int) + 1 - 1).toNat = i := by omega
      have e3 : (x14 - p).toNat = x14.toNat - p.toNat := by omega
      have r1 : rd_L3 x8 ((i : Int) + 1) = x8.getD (i + 1) [] := by unfold rd_L3; rw [e1]
      have r2 : rd_L3 x8 ((i : Int) + 1 - 1) = x8.getD i [] := by unfold rd_L3; rw [e2]
      simp only [spec_dcPips.l4]
      rw [p_wrap ((i : Int) + 1 - 1) (by omega) (by omega), p_wrap (x14 - p) (by omega) (by omega), p_wrap (x14 - 1) (by omega) (by omega)]
      rw [r1, r2, h1, h2]
      rw [if_pos (by omega), if_pos (by omega), if_pos (by omega), if_pos (by omega), if_pos (by omega), if_pos (by omega), if_pos (by omega), if_pos (by omega), if_pos (by omega)]
      simp only [rd, e1, e3]
    · refine ih _ (x14 - 1) (by omega) (by omega) (by omega) (by omega) (by rw [List.length_set]; exact hlen) ?_ ?_ ?_
      · rw [rows_set_self _ _ _ hlen, List.length_set, h1]
      · rw [rows_set_ne _ _ _ _ (by omega), h2]
      · rw [rows_set_self _ _ _ hlen, rows_set_ne _ _ _ _ (by omega), List.set_set]
        have e4 : (x14 - 1 + 1).toNat = x14.toNat := by omega
        have e5 : (x14 + 1).toNat = x14.toNat + 1 := by omega
        rw [e4, upd_more _ _ _ _ (by omega) (by rw [h1]; omega), ← e5]
        exact h

theorem s3 (x1 : Int) (m : Nat) (hm : m ≤ 1000) (ts : List S53) (x51 : Int) (j : Nat) (hj : j < 1000) (p : Int) (hp : 0 ≤ p ∧ p ≤ 18) (r : List Int) :
    ∀ (i : Nat) (x8 : List (List Int)), i < x8.length → i ≤ 1000 → (∀ q, q < x8.length → (x8.getD q []).length = m + 1) →
    Ev (fun k => spec_dcPips.l2 k x1 (m : Int) (updAll p.toNat (m + 1) i x8) ts x51 ((j : Int) + 1)) r →
    Ev (fun k => spec_dcPips.l3 k x1 (m : Int) x8 p (i : Int) ts x51 (j : Int)) r := by
  intro i
  induction i with
  | zero =>
    intro x8 hx hi hall h
    refine Ev.step (fun k => ?_) h
    simp only [spec_dcPips.l3]
    rw [if_neg (by omega), p_wrap ((j : Int) + 1) (by omega) (by omega)]
    rfl
  | succ i ih =>
    intro x8 hx hi hall h
    refine Ev.step (f := fun k => spec_dcPips.l4 k x1 (m : Int) x8 p ((i : Int) + 1) (m : Int) ts x51 (j : Int)) (fun k => ?_) ?_
    · simp only [spec_dcPips.l3]
      rw [if_pos (by omega)]
      rfl
    · refine s4 x1 (m : Int) ts x51 (j : Int) p hp (m + 1) (by omega) i (by omega) r (m + 1 - p.toNat) x8 (m : Int) (by omega) (by omega) (by omega) (by omega) hx (hall _ hx) (hall _ (by omega)) ?_
      refine ih _ (by rw [List.length_set]; omega) (by omega) ?_ h
      intro q hq
      rw [List.length_set] at hq
      by_cases e : i + 1 = q
      · subst e
        rw [rows_set_self _ _ _ hx, upd_length, hall _ hx]
      · rw [rows_set_ne _ _ _ _ e, hall q hq]

theorem s2 (m : Nat) (hm : m ≤ 1000) (k0 : Nat) (hk0 : k0 ≤ 900) (ts : List S53) (hts : ts.length ≤ 900) (hs : Small ts) : ∀ (d j : Nat), j + d = ts.length →
    Ev (fun k => spec_dcPips.l2 k (k0 : Int) (m : Int) (tab (ts.take j).reverse (m + 1) k0) ts (ts.length : Int) (j : Int)) (row ts.reverse (m + 1) k0) := by
  intro d
  induction d with
  | zero =>
    intro j hj
    refine Ev.step (f := fun _ => some (row ts.reverse (m + 1) k0)) (fun k => ?_) (⟨0, fun _ _ => rfl⟩)
    simp only [spec_dcPips.l2, rd_L3]
    rw [if_neg (by omega), if_pos (by omega), if_pos (by rw [tab_length]; omega)]
    rw [show ((k0 : Int)).toNat = k0 from rfl, tab_getD _ _ _ _ (by omega), List.take_of_length_le (by omega)]
  | succ d ih =>
    intro j hj
    have hb := hs j (by omega)
    refine Ev.step (f := fun k => spec_dcPips.l3 k (k0 : Int) (m : Int) (tab (ts.take j).reverse (m + 1) k0) ((ts.getD j z53).f0 + (ts.getD j z53).f1) (k0 : Int) ts (ts.length : Int) (j : Int)) (fun k => ?_) ?_
    · simp only [spec_dcPips.l2, rd_T53]
      rw [if_pos (by omega), if_pos (by omega), if_pos (by omega), show ((j : Int)).toNat = j from rfl, p_wrap ((ts.getD j z53).f0 + (ts.getD j z53).f1) (by omega) (by omega)]
    · refine s3 (k0 : Int) m hm ts (ts.length : Int) j (by omega) _ ⟨by omega, by omega⟩ _ k0 _ (by rw [tab_length]; omega) (by omega) ?_ ?_
      · intro q hq
        rw [tab_length] at hq
        rw [tab_getD _ _ _ _ (by omega), row_length]
      · have e : (((ts.getD j z53).f0 + (ts.getD j z53).f1).toNat) = pp (ts.getD j z53) := rfl
        rw [e, tab_next, ← take_succ_rev ts j (by omega)]
        exact ih (j + 1) (by omega)

theorem s1 (n : Int) (m : Nat) (hm : m ≤ 1000) (k0 : Nat) (hk0 : k0 ≤ 900) (ts : List S53) (hts : ts.length ≤ 900) (hs : Small ts) (hset : Ev (fun k => spec_tiSet.f k n) ts) : ∀ (d j : Nat), j + d = k0 + 1 →
    Ev (fun k => spec_dcPips.l1 k n (k0 : Int) (m : Int) (made (m + 1) (k0 + 1) j) ((k0 : Int) + 1) (j : Int)) (row ts.reverse (m + 1) k0) := by
  intro d
  induction d with
  | zero =>
    intro j hj
    obtain rfl : j = k0 + 1 := by omega
    have e0 : made (m + 1) (k0 + 1) (k0 + 1) = List.replicate (k0 + 1) (List.replicate (m + 1) (0 : Int)) := by
      unfold made
      simp
    have e1 : (List.replicate (k0 + 1) (List.replicate (m + 1) (0 : Int))).getD 0 [] = List.replicate (m + 1) 0 := by
      rw [List.getD_eq_getElem?_getD, List.getElem?_replicate, if_pos (by omega)]
      rfl
    refine Ev.step (f := fun k => (spec_tiSet.f k n).bind fun t => spec_dcPips.l2 k (k0 : Int) (m : Int) (tab [] (m + 1) k0) t (t.length : Int) 0) (fun k => ?_) (Ev.bind (f := fun k t => spec_dcPips.l2 k (k0 : Int) (m : Int) (tab [] (m + 1) k0) t (t.length : Int) 0) hset (s2 m hm k0 hk0 ts hts hs ts.length 0 (by omega)))
    have r0 : rd_L3 (List.replicate (k0 + 1) (List.replicate (m + 1) (0 : Int))) 0 = List.replicate (m + 1) 0 := e1
    simp only [spec_dcPips.l1]
    rw [e0, if_neg (by omega), if_pos (by rw [List.length_replicate]; omega), r0, if_pos (by rw [List.length_replicate]; omega), show (0 : Int).toNat = 0 from rfl, tab_first _ _ (by omega)]
  | succ d ih =>
    intro j hj
    refine Ev.step (f := fun k => spec_dcPips.l1 k n (k0 : Int) (m : Int) (made (m + 1) (k0 + 1) (j + 1)) ((k0 : Int) + 1) (((j + 1 : Nat)) : Int)) (fun k => ?_) (ih (j + 1) (by omega))
    simp only [spec_dcPips.l1]
    have e : ((m : Int) + 1).toNat = m + 1 := by omega
    rw [p_wrap ((m : Int) + 1) (by omega) (by omega), e, if_pos (by omega), if_pos (by omega), if_pos (by omega), if_pos (by omega), if_pos (by rw [made_length _ _ _ (by omega)]; omega), p_wrap ((j : Int) + 1) (by omega) (by omega), show ((j : Int)).toNat = j from rfl, made_next _ _ _ (by omega)]
    rfl

theorem total_take (ts : List S53) (j : Nat) (h : j < ts.length) : total (ts.take (j + 1)) = total (ts.take j) + pp (ts.getD j z53) := by
  unfold total
  rw [List.take_succ_eq_append_getElem h, List.map_append, List.foldr_append]
  have : ts.getD j z53 = ts[j] := by
    rw [List.getD_eq_getElem?_getD, List.getElem?_eq_getElem h]
    rfl
  rw [this]
  have gen : ∀ (l : List Nat) (a : Nat), l.foldr (· + ·) a = l.foldr (· + ·) 0 + a := by
    intro l
    induction l with
    | nil => intro a; simp
    | cons x l ih => intro a; simp only [List.foldr_cons]; rw [ih a]; omega
  rw [gen]
  simp

theorem total_small (ts : List S53) (hs : Small ts) : ∀ j, j ≤ ts.length → total (ts.take j) ≤ 18 * j := by
  intro j
  induction j with
  | zero => intro _; simp [total]
  | succ j ih =>
    intro h
    rw [total_take ts j (by omega)]
    have hb := hs j (by omega)
    have := ih (by omega)
    have : pp (ts.getD j z53) ≤ 18 := by unfold pp; omega
    omega

theorem s0 (n : Int) (k0 : Nat) (hk0 : k0 ≤ 900) (ts : List S53) (hts : ts.length ≤ 50) (hs : Small ts) (hset : Ev (fun k => spec_tiSet.f k n) ts) : ∀ (d j : Nat), j + d = ts.length →
    Ev (fun k => spec_dcPips.l0 k n (k0 : Int) ((total (ts.take j) : Nat) : Int) ts (ts.length : Int) (j : Int)) (row ts.reverse (total ts + 1) k0) := by
  have hT := total_small ts hs ts.length (Nat.le_refl _)
  rw [List.take_length] at hT
  intro d
  induction d with
  | zero =>
    intro j hj
    obtain rfl : j = ts.length := by omega
    rw [List.take_length]
    refine Ev.step (f := fun k => spec_dcPips.l1 k n (k0 : Int) ((total ts : Nat) : Int) (made (total ts + 1) (k0 + 1) 0) ((k0 : Int) + 1) 0) (fun k => ?_) (s1 n (total ts) (by omega) k0 hk0 ts (by omega) hs hset (k0 + 1) 0 (by omega))
    simp only [spec_dcPips.l0]
    have e : ((k0 : Int) + 1).toNat = k0 + 1 := by omega
    rw [if_neg (by omega), p_wrap ((k0 : Int) + 1) (by omega) (by omega), e, if_pos (by omega), if_pos (by omega)]
    simp only [Option.bind_some, List.length_replicate]
    rfl
  | succ d ih =>
    intro j hj
    have hb := hs j (by omega)
    have hT2 := total_small ts hs j (by omega)
    have hi := ih (j + 1) (by omega)
    rw [total_take ts j (by omega)] at hi
    refine Ev.step (fun k => ?_) hi
    simp only [spec_dcPips.l0, rd_T53]
    have e : pp (ts.getD j z53) = ((ts.getD j z53).f0 + (ts.getD j z53).f1).toNat := rfl
    rw [if_pos (by omega), if_pos (by omega), if_pos (by omega), show ((j : Int)).toNat = j from rfl, p_wrap ((ts.getD j z53).f0 + (ts.getD j z53).f1) (by omega) (by omega), p_wrap _ (by omega) (by omega), p_wrap ((j : Int) + 1) (by omega) (by omega)]
    congr 1
    rw [e]
    omega

theorem s_all (n : Int) (k0 : Nat) (hk0 : k0 ≤ 900) (ts : List S53) (hts : ts.length ≤ 50) (hs : Small ts) (hset : Ev (fun k => spec_tiSet.f k n) ts) :
    Ev (fun k => spec_dcPips.f k n (k0 : Int)) (row ts.reverse (total ts + 1) k0) := by
  have h0 := s0 n k0 hk0 ts hts hs hset ts.length 0 (by omega)
  exact Ev.bind (f := fun k t => spec_dcPips.l0 k n (k0 : Int) 0 t (t.length : Int) 0) hset h0

theorem total_reverse (ts : List S53) : total ts.reverse = total ts := by
  unfold total
  rw [List.map_reverse]
  generalize ts.map pp = l
  have app : ∀ (a b : List Nat), (a ++ b).foldr (· + ·) 0 = a.foldr (· + ·) 0 + b.foldr (· + ·) 0 := by
    intro a b
    induction a with
    | nil => simp
    | cons x a ih => simp only [List.cons_append, List.foldr_cons]; rw [ih]; omega
  induction l with
  | nil => rfl
  | cons x l ih => rw [List.reverse_cons, app, ih]; simp only [List.foldr_cons, List.foldr_nil]; omega

def code (l : List S53) : List (Int × Int) := l.map fun t => (t.f0, t.f1)
theorem code_inj (a b : List S53) (h : code a = code b) : a = b := by
  unfold code at h
  induction a generalizing b with
  | nil => cases b with
    | nil => rfl
    | cons y b => simp at h
  | cons x a ih => cases b with
    | nil => simp at h
    | cons y b =>
      simp only [List.map_cons, List.cons.injEq, Prod.mk.injEq] at h
      rw [ih b h.2]
      cases x
      cases y
      simp_all
def lst (n : Nat) : List (Int × Int) := (List.range (n + 1)).flatMap fun a => (List.range (n + 1 - a)).map fun b => ((a : Int), ((a + b : Nat) : Int))
theorem lst_small (l : List S53) (p : List (Int × Int)) (hp : code l = p) (h2 : p.all (fun t => decide (0 ≤ t.1 ∧ t.1 ≤ 9 ∧ 0 ≤ t.2 ∧ t.2 ≤ 9)) = true) : Small l := by
  intro j hj
  have e : l.getD j z53 = l[j] := by
    rw [List.getD_eq_getElem?_getD, List.getElem?_eq_getElem hj]
    rfl
  rw [e]
  have hm : ((l[j]).f0, (l[j]).f1) ∈ p := by
    rw [← hp]
    unfold code
    exact List.mem_map.2 ⟨_, List.getElem_mem hj, rfl⟩
  have := List.all_eq_true.1 h2 _ hm
  simpa using this
/-- The tiles of the set of n. -/
theorem the_set (n : Fin 7) : ∃ l : List S53, Ev (fun k => impl_setOf.f k ((n.val : Nat) : Int)) l ∧ Ev (fun k => spec_tiSet.f k ((n.val : Nat) : Int)) l ∧ l.length ≤ 28 ∧ Small l ∧ total l ≤ 504 := by
  have h1 : ∀ m : Fin 7, ((impl_setOf.f 60 ((m.val : Nat) : Int)).map code) = some (lst m.val) := by decide +kernel
  have h2 : ∀ m : Fin 7, ((spec_tiSet.f 60 ((m.val : Nat) : Int)).map code) = some (lst m.val) := by decide +kernel
  have h3 : ∀ m : Fin 7, decide ((lst m.val).length ≤ 28) = true := by decide +kernel
  have h4 : ∀ m : Fin 7, (lst m.val).all (fun t => decide (0 ≤ t.1 ∧ t.1 ≤ 9 ∧ 0 ≤ t.2 ∧ t.2 ≤ 9)) = true := by decide +kernel
  have a1 := h1 n
  have a2 := h2 n
  have a3 := of_decide_eq_true (h3 n)
  have a4 := h4 n
  clear h1 h2 h3 h4
  generalize lst n.val = p at a1 a2 a3 a4
  obtain ⟨l, hl, hc⟩ := Option.map_eq_some_iff.1 a1
  obtain ⟨l2, hl2, hc2⟩ := Option.map_eq_some_iff.1 a2
  have e : l2 = l := code_inj _ _ (hc2.trans hc.symm)
  subst e
  have hlen : l2.length ≤ 28 := by
    have : (code l2).length = l2.length := by
      unfold code
      rw [List.length_map]
    rw [hc] at this
    omega
  have hs := lst_small l2 p hc a4
  refine ⟨l2, Ev.of (fun k => impl_setOf.mono _ k) hl, Ev.of (fun k => spec_tiSet.mono _ k) hl2, hlen, hs, ?_⟩
  have h := total_small _ hs l2.length (Nat.le_refl _)
  rw [List.take_length] at h
  omega

theorem g_l1In_no (a b c : Int) (h : ¬ (b ≤ a ∧ a ≤ c)) : spec_l1In.f a b c = some false := by
  unfold spec_l1In.f
  split
  · rename_i h1
    have h2 : ¬ a ≤ c := fun h3 => h ⟨h1, h3⟩
    simp [h2]
  · rfl
theorem g_within_no (a b c : Int) (h : ¬ (b ≤ a ∧ a ≤ c)) : impl_within.f a b c = some false := by
  unfold impl_within.f
  split
  · rename_i h1
    have h2 : ¬ a ≤ c := fun h3 => h ⟨h1, h3⟩
    simp [h2]
  · rfl
theorem g_l1In_yes (a b c : Int) (h : b ≤ a ∧ a ≤ c) : spec_l1In.f a b c = some true := by
  unfold spec_l1In.f
  rw [if_pos h.1]
  simp [h.2]
theorem g_within_yes (a b c : Int) (h : b ≤ a ∧ a ≤ c) : impl_within.f a b c = some true := by
  unfold impl_within.f
  rw [if_pos h.1]
  simp [h.2]
/-- How many tiles the set has. -/
def tl (n : Int) : Int := wrap64 (Int.tdiv (wrap64 ((wrap64 (n + 1)) * (wrap64 (n + 2)))) 2)
theorem g_tiles (n : Int) (h : 0 ≤ n ∧ n ≤ 6) : 0 ≤ tl n ∧ tl n ≤ 28 := by
  have : ∀ m : Fin 7, 0 ≤ tl ((m.val : Nat) : Int) ∧ tl ((m.val : Nat) : Int) ≤ 28 := by decide +kernel
  obtain ⟨m, rfl⟩ : ∃ m : Nat, n = (m : Int) := ⟨n.toNat, by omega⟩
  exact this ⟨m, by omega⟩
/-- Both guards say the same. -/
theorem g_guard (n k : Int) : ∃ b t, spec_dcGood.f n k = some b ∧ impl_isDrawn.f n k = some (t, b) ∧ (b = true → 0 ≤ n ∧ n ≤ 6 ∧ 0 ≤ k ∧ k ≤ 28 ∧ t = tl n) := by
  unfold spec_dcGood.f impl_isDrawn.f spec_dcTiles.f
  by_cases hn : 0 ≤ n ∧ n ≤ 6
  · rw [g_l1In_yes n 0 6 hn, g_within_yes n 0 6 hn]
    simp only [Option.bind_some, if_true]
    have ht := g_tiles n hn
    unfold tl at ht
    by_cases hk : 0 ≤ k ∧ k ≤ wrap64 (Int.tdiv (wrap64 ((wrap64 (n + 1)) * (wrap64 (n + 2)))) 2)
    · rw [g_l1In_yes k 0 _ hk, g_within_yes k 0 _ hk]
      exact ⟨true, _, rfl, rfl, fun _ => ⟨hn.1, hn.2, hk.1, by omega, rfl⟩⟩
    · rw [g_l1In_no k 0 _ hk, g_within_no k 0 _ hk]
      exact ⟨false, _, rfl, rfl, fun h => by cases h⟩
  · rw [g_l1In_no n 0 6 hn, g_within_no n 0 6 hn]
    exact ⟨false, _, rfl, rfl, fun h => by cases h⟩

theorem c_spec_no (a0 a1 a2 : Int) (h : spec_dcGood.f a0 a1 = some false) : Ev (fun k => spec_CountWithPips.f k a0 a1 a2) (0, false) := by
  refine Ev.step (f := fun _ => some (0, false)) (fun k => ?_) (⟨0, fun _ _ => rfl⟩)
  unfold spec_CountWithPips.f
  rw [h]
  simp only [Option.bind_some, Bool.false_eq_true, if_false, spec_CountWithPips.j0, if_true]
theorem c_spec_no2 (a0 a1 a2 : Int) (h : spec_dcGood.f a0 a1 = some true) (hs : ¬ (0 ≤ a2 ∧ a2 ≤ 1000)) : Ev (fun k => spec_CountWithPips.f k a0 a1 a2) (0, false) := by
  refine Ev.step (f := fun _ => some (0, false)) (fun k => ?_) (⟨0, fun _ _ => rfl⟩)
  unfold spec_CountWithPips.f
  rw [h]
  simp only [Option.bind_some, if_true]
  rw [g_l1In_no _ _ _ hs]
  simp only [Option.bind_some, Bool.not_false, spec_CountWithPips.j0, if_true]
theorem c_spec_yes (a0 a1 a2 : Int) (l : List Int) (v : Int) (h : spec_dcGood.f a0 a1 = some true) (hs : 0 ≤ a2 ∧ a2 ≤ 1000) (hl : Ev (fun k => spec_dcPips.f k a0 a1) l) (hv : ∀ s : Nat, a2 = s → v = if s < l.length then l.getD s 0 else 0) :
    Ev (fun k => spec_CountWithPips.f k a0 a1 a2) (v, true) := by
  refine Ev.step (f := fun k => (spec_dcPips.f k a0 a1).bind fun t141 => (if a2 ≥ (t141.length : Int) then (some (0, true)) else (if 0 ≤ a2 then (if a2 < (t141.length : Int) then (some (rd t141 a2, true)) else (none)) else (none)))) (fun k => ?_) ?_
  · unfold spec_CountWithPips.f
    rw [h]
    simp only [Option.bind_some, if_true]
    rw [g_l1In_yes _ _ _ hs]
    simp only [Option.bind_some, Bool.not_true, spec_CountWithPips.j0, Bool.false_eq_true, if_false]
  · refine Ev.bind (f := fun _ t141 => (if a2 ≥ (t141.length : Int) then (some (0, true)) else (if 0 ≤ a2 then (if a2 < (t141.length : Int) then (some (rd t141 a2, true)) else (none)) else (none)))) hl ⟨0, fun k _ => ?_⟩
    have e := hv a2.toNat (by omega)
    by_cases hlt : a2 ≥ (l.length : Int)
    · rw [if_pos hlt, e, if_neg (by omega)]
    · rw [if_neg hlt, if_pos hs.1, if_pos (by omega), e, if_pos (by omega)]
      rfl
theorem c_impl_no (a0 a1 a2 t : Int) (h : impl_isDrawn.f a0 a1 = some (t, false)) : Ev (fun k => impl_CountWithPips.f k a0 a1 a2) (0, false) := by
  refine ⟨0, fun k _ => ?_⟩
  unfold impl_CountWithPips.f
  rw [h]
  simp only [Option.bind_some, Bool.false_eq_true, if_false]
theorem c_impl_no2 (a0 a1 a2 t : Int) (h : impl_isDrawn.f a0 a1 = some (t, true)) (hs : ¬ (0 ≤ a2 ∧ a2 ≤ 1000)) : Ev (fun k => impl_CountWithPips.f k a0 a1 a2) (0, false) := by
  refine ⟨0, fun k _ => ?_⟩
  unfold impl_CountWithPips.f impl_isSum.f
  rw [h]
  simp only [Option.bind_some, if_true]
  rw [g_within_no _ _ _ hs]
  simp only [Option.bind_some, Bool.false_eq_true, if_false]
theorem c_impl_yes (a0 a1 a2 t : Int) (l : List Int) (v : Int) (h : impl_isDrawn.f a0 a1 = some (t, true)) (hs : 0 ≤ a2 ∧ a2 ≤ 1000) (hl : Ev (fun k => impl_withPips.f k a0 a1) l) (hv : ∀ s : Nat, a2 = s → s < l.length ∧ v = l.getD s 0) :
    Ev (fun k => impl_CountWithPips.f k a0 a1 a2) (v, true) := by
  refine Ev.congr (f := fun k => (impl_withPips.f k a0 a1).bind fun t190 => (if 0 ≤ a2 then (if a2 < (t190.length : Int) then (some (rd t190 a2, true)) else (none)) else (none))) (fun k => ?_) ?_
  · unfold impl_CountWithPips.f impl_isSum.f
    rw [h]
    simp only [Option.bind_some, if_true]
    rw [g_within_yes _ _ _ hs]
    simp only [Option.bind_some, if_true]
  · refine Ev.bind (f := fun _ t190 => (if 0 ≤ a2 then (if a2 < (t190.length : Int) then (some (rd t190 a2, true)) else (none)) else (none))) hl ⟨0, fun k _ => ?_⟩
    obtain ⟨e1, e2⟩ := hv a2.toNat (by omega)
    rw [if_pos hs.1, if_pos (by omega), e2]
    rfl

/-- What both tables hold. -/
theorem c_tabs (a0 a1 : Int) (h : 0 ≤ a0 ∧ a0 ≤ 6 ∧ 0 ≤ a1 ∧ a1 ≤ 28) : ∃ P Q : List Int, Ev (fun k => impl_withPips.f k a0 a1) P ∧ Ev (fun k => spec_dcPips.f k a0 a1) Q ∧ P.length = 1001 ∧ 0 < Q.length ∧ Q.length ≤ 505 ∧
    (∀ s, s < 1001 → P.getD s 0 = if s < Q.length then Q.getD s 0 else 0) := by
  obtain ⟨n, hn⟩ : ∃ m : Nat, a0 = (m : Int) := ⟨a0.toNat, by omega⟩
  obtain ⟨q, hq⟩ : ∃ m : Nat, a1 = (m : Int) := ⟨a1.toNat, by omega⟩
  subst hn hq
  obtain ⟨ts, S1, S2, hl, hsm, htot⟩ := the_set ⟨n, by omega⟩
  refine ⟨row ts.reverse 1001 q, row ts.reverse (total ts + 1) q, i_all (n : Int) q (by omega) ts (by omega) hsm S1, s_all (n : Int) q (by omega) ts (by omega) hsm S2, row_length _ _ _, ?_, ?_, fun s hs => ?_⟩
  · rw [row_length]
    omega
  · rw [row_length]
    omega
  · rw [row_getD _ _ _ _ hs, row_length]
    by_cases hlt : s < total ts + 1
    · rw [if_pos hlt, row_getD _ _ _ _ hlt]
    · rw [if_neg hlt, ways_zero _ _ _ (by rw [total_reverse]; omega)]

/-- The number of hands with a sum: the same on both sides. -/
theorem c_both (a0 a1 a2 : Int) : ∃ r : Int × Bool, Ev (fun k => spec_CountWithPips.f k a0 a1 a2) r ∧ Ev (fun k => impl_CountWithPips.f k a0 a1 a2) r ∧
    (r.2 = true → 0 ≤ a0 ∧ a0 ≤ 6 ∧ 0 ≤ a1 ∧ a1 ≤ 28) ∧ (r.2 = false → r.1 = 0) := by
  obtain ⟨b, t, hb, ht, hbd⟩ := g_guard a0 a1
  cases b
  · exact ⟨(0, false), c_spec_no _ _ _ hb, c_impl_no _ _ _ _ ht, (fun h => by cases h), fun _ => rfl⟩
  · obtain ⟨h1, h2, h3, h4, _⟩ := hbd rfl
    by_cases hs : 0 ≤ a2 ∧ a2 ≤ 1000
    · obtain ⟨P, Q, hP, hQ, lP, _, _, hPQ⟩ := c_tabs a0 a1 ⟨h1, h2, h3, h4⟩
      refine ⟨(P.getD a2.toNat 0, true), c_spec_yes a0 a1 a2 Q _ hb hs hQ (fun s e => ?_), c_impl_yes a0 a1 a2 t P _ ht hs hP (fun s e => ?_), (fun _ => ⟨h1, h2, h3, h4⟩), fun h => by cases h⟩
      · have : a2.toNat = s := by omega
        rw [this]
        exact hPQ s (by omega)
      · have : a2.toNat = s := by omega
        rw [this]
        exact ⟨by omega, rfl⟩
    · exact ⟨(0, false), c_spec_no2 _ _ _ hb hs, c_impl_no2 _ _ _ _ ht hs, (fun h => by cases h), fun _ => rfl⟩

/-- Both loops of Euclid's go the same way. -/
theorem c_gcd (fuel : Nat) : ∀ x y : Int, (0 < x ∨ 0 < y) → y < fuel → 0 < fuel → ∃ g : Int, 0 < g ∧ impl_common.l0 fuel x y = some g ∧
    ∀ n d : Int, spec_dcRatio.l0 fuel n d x y = some (wrap64 (Int.tdiv n g), wrap64 (Int.tdiv d g)) := by
  induction fuel with
  | zero => intro x y _ _ h; exact absurd h (Nat.lt_irrefl 0)
  | succ k ih =>
    intro x y hxy hk _
    by_cases h : y > 0
    · have h0 : ¬ y = 0 := by omega
      have h2 : Int.tmod x y < y := Int.tmod_lt_of_pos x h
      obtain ⟨g, hgp, hgi, hgs⟩ := ih y (Int.tmod x y) (Or.inl h) (by omega) (by omega)
      refine ⟨g, hgp, ?_, fun n d => ?_⟩
      · simp only [impl_common.l0]
        rw [if_pos h, if_neg h0]
        exact hgi
      · simp only [spec_dcRatio.l0]
        rw [if_pos h, if_neg h0]
        exact hgs n d
    · refine ⟨x, by omega, ?_, fun n d => ?_⟩
      · simp only [impl_common.l0]
        rw [if_neg h]
      · simp only [spec_dcRatio.l0]
        rw [if_neg h, if_neg (by omega)]

theorem c_ratio (n d : Int) (hd : 0 < d) : ∃ r : Int × Int, Ev (fun k => spec_dcRatio.f k n d) r ∧ Ev (fun k => impl_ratio.f k n d) r := by
  obtain ⟨g, hg, h1, h2⟩ := c_gcd (d.toNat + 1) n d (Or.inr hd) (by omega) (by omega)
  refine ⟨(wrap64 (Int.tdiv n g), wrap64 (Int.tdiv d g)), Ev.of (fun k => spec_dcRatio.mono n d k) (k := d.toNat + 1) ?_, Ev.of (fun k => impl_ratio.mono n d k) (k := d.toNat + 1) ?_⟩
  · unfold spec_dcRatio.f
    exact h2 n d
  · unfold impl_ratio.f impl_common.f
    rw [h1]
    simp only [Option.bind_some]
    rw [if_neg (by omega)]

theorem c_choose (n k : Int) (h : 0 ≤ n ∧ n ≤ 6 ∧ 0 ≤ k ∧ k ≤ 28) (hk : k ≤ tl n) : ∃ c, 0 < c ∧ Ev (fun q => spec_dcChoose.f q (tl n) k) c ∧ Ev (fun q => impl_choose.f q (tl n) k) c := by
  have all : ∀ m : Fin 7, ∀ j : Fin 29, ((j.val : Nat) : Int) ≤ tl ((m.val : Nat) : Int) → spec_dcChoose.f 60 (tl ((m.val : Nat) : Int)) ((j.val : Nat) : Int) = impl_choose.f 60 (tl ((m.val : Nat) : Int)) ((j.val : Nat) : Int) ∧
      ((impl_choose.f 60 (tl ((m.val : Nat) : Int)) ((j.val : Nat) : Int)).map (fun c => decide (0 < c))) = some true := by decide +kernel
  obtain ⟨m, hm⟩ : ∃ m : Nat, n = (m : Int) := ⟨n.toNat, by omega⟩
  obtain ⟨j, hj⟩ : ∃ m : Nat, k = (m : Int) := ⟨k.toNat, by omega⟩
  subst hm hj
  obtain ⟨h1, h2⟩ := all ⟨m, by omega⟩ ⟨j, by omega⟩ hk
  clear all
  obtain ⟨c, hc, hp⟩ := Option.map_eq_some_iff.1 h2
  exact ⟨c, of_decide_eq_true hp, Ev.of (fun q => spec_dcChoose.mono _ _ q) (h1.trans hc), Ev.of (fun q => impl_choose.mono _ _ q) hc⟩

theorem c_guard_le (n k t : Int) (hb : impl_isDrawn.f n k = some (t, true)) : k ≤ t := by
  unfold impl_isDrawn.f impl_within.f at hb
  by_cases h1 : 0 ≤ n
  · rw [if_pos h1] at hb
    simp only [Option.bind_some] at hb
    by_cases h2 : decide (n ≤ 6) = true
    · rw [if_pos h2] at hb
      by_cases h3 : 0 ≤ k
      · rw [if_pos h3] at hb
        simp only [Option.bind_some, Option.some.injEq, Prod.mk.injEq, decide_eq_true_eq] at hb
        omega
      · rw [if_neg h3] at hb
        simp at hb
    · rw [if_neg h2] at hb
      simp at hb
  · rw [if_neg h1] at hb
    simp at hb

theorem c_chance (a0 a1 a2 : Int) : ∃ (c : Int × Bool) (r : Int × Int × Bool), Ev (fun k => spec_CountWithPips.f k a0 a1 a2) c ∧ Ev (fun k => impl_CountWithPips.f k a0 a1 a2) c ∧ Ev (fun k => spec_ChanceOfPips.f k a0 a1 a2) r ∧ Ev (fun k => impl_ChanceOfPips.f k a0 a1 a2) r ∧ r.2.2 = c.2 := by
  obtain ⟨r, h1, h2, h3, h4⟩ := c_both a0 a1 a2
  obtain ⟨v, b⟩ := r
  cases b
  · refine ⟨(v, false), (0, 0, false), h1, h2, ?_, ?_, rfl⟩
    · refine Ev.congr (fun k => by unfold spec_ChanceOfPips.f; rfl) (Ev.bind (f := fun k (bt147 : Int × Bool) => (if bt147.2 = true then ((spec_dcTiles.f a0).bind fun t149 => ((spec_dcChoose.f k t149 a1).bind fun t150 => ((spec_dcRatio.f k bt147.1 t150).bind fun bt151 => (some (bt151.1, bt151.2, true))))) else (some (0, 0, false)))) h1 ⟨0, fun k _ => ?_⟩)
      simp only [Bool.false_eq_true, if_false]
    · refine Ev.congr (fun k => by unfold impl_ChanceOfPips.f; rfl) (Ev.bind (f := fun k (bt201 : Int × Bool) => (if bt201.2 = true then ((impl_CountHands.f k a0 a1).bind fun bt203 => ((impl_ratio.f k bt201.1 bt203.1).bind fun bt205 => (some (bt205.1, bt205.2, true)))) else (some (0, 0, false)))) h2 ⟨0, fun k _ => ?_⟩)
      simp only [Bool.false_eq_true, if_false]
  · obtain ⟨b, t, hb, ht, hbd⟩ := g_guard a0 a1
    have hh := h3 rfl
    have hbt : b = true := by
      cases b
      · have := c_impl_no a0 a1 a2 t ht
        obtain ⟨K1, e1⟩ := this
        obtain ⟨K2, e2⟩ := h2
        have x1 := e1 (K1 + K2) (by omega)
        have x2 := e2 (K1 + K2) (by omega)
        rw [x1] at x2
        simp at x2
      · rfl
    subst hbt
    obtain ⟨_, _, _, _, rfl⟩ := hbd rfl
    have hle := c_guard_le a0 a1 _ ht
    obtain ⟨c, hc0, c1, c2⟩ := c_choose a0 a1 hh hle
    obtain ⟨q, q1, q2⟩ := c_ratio v c hc0
    refine ⟨(v, true), (q.1, q.2, true), h1, h2, ?_, ?_, rfl⟩
    · refine Ev.congr (fun k => by unfold spec_ChanceOfPips.f; rfl) (Ev.bind (f := fun k (bt147 : Int × Bool) => (if bt147.2 = true then ((spec_dcTiles.f a0).bind fun t149 => ((spec_dcChoose.f k t149 a1).bind fun t150 => ((spec_dcRatio.f k bt147.1 t150).bind fun bt151 => (some (bt151.1, bt151.2, true))))) else (some (0, 0, false)))) h1 ?_)
      refine Ev.congr (f := fun k => (spec_dcChoose.f k (tl a0) a1).bind fun t150 => ((spec_dcRatio.f k v t150).bind fun bt151 => (some (bt151.1, bt151.2, true)))) (fun k => ?_) ?_
      · simp only [if_true, spec_dcTiles.f, Option.bind_some]
        rfl
      · exact Ev.bind (f := fun k t150 => ((spec_dcRatio.f k v t150).bind fun bt151 => (some (bt151.1, bt151.2, true)))) c1 (Ev.bind (f := fun _ (bt151 : Int × Int) => (some (bt151.1, bt151.2, true))) q1 ⟨0, fun k _ => rfl⟩)
    · refine Ev.congr (fun k => by unfold impl_ChanceOfPips.f; rfl) (Ev.bind (f := fun k (bt201 : Int × Bool) => (if bt201.2 = true then ((impl_CountHands.f k a0 a1).bind fun bt203 => ((impl_ratio.f k bt201.1 bt203.1).bind fun bt205 => (some (bt205.1, bt205.2, true)))) else (some (0, 0, false)))) h2 ?_)
      refine Ev.congr (f := fun k => (impl_choose.f k (tl a0) a1).bind fun t150 => ((impl_ratio.f k v t150).bind fun bt151 => (some (bt151.1, bt151.2, true)))) (fun k => ?_) ?_
      · unfold impl_CountHands.f
        rw [ht]
        simp only [if_true, Option.bind_some]
        cases impl_choose.f k (tl a0) a1 with
        | none => rfl
        | some z => rfl
      · exact Ev.bind (f := fun k t150 => ((impl_ratio.f k v t150).bind fun bt151 => (some (bt151.1, bt151.2, true)))) c2 (Ev.bind (f := fun _ (bt151 : Int × Int) => (some (bt151.1, bt151.2, true))) q2 ⟨0, fun k _ => rfl⟩)


end Go.Proofs.Ytafcjfilhdpgdaa.QPureA
