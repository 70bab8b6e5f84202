/- Hands by their pips, counted in two ways, for FnChancesOfHands. No conditions. -/
import Derived.Test.YtfaobohggphaaaaQFnChancesOfHandsx9
namespace Go.Proofs.Ytfaobohggphaaaa.QPureA
open Go.RowKit Go.Proofs.Ytfaobohggphaaaa.QFnChancesOfHands Go.Proofs.YtfaobohggphaaaaW.PrintWords Go.Proofs.YtfaobohggphaaaaW.PrintLast

set_option linter.unusedVariables false
set_option linter.unusedSimpArgs false

theorem p_wrap (n : Int) (h : -100000 ≤ n) (h' : n ≤ 100000) : wrap64 n = n := by
  unfold wrap64
  omega

/-- A row behind the sums from p up to m. -/
def upd (row prev : List Int) (p m : Nat) : List Int :=
  (List.range row.length).map fun s => if p ≤ s ∧ s < m then wrap64 (row.getD s 0 + prev.getD (s - p) 0) else row.getD s 0

theorem upd_length (row prev : List Int) (p m : Nat) : (upd row prev p m).length = row.length := by
  unfold upd
  simp

theorem upd_getD (row prev : List Int) (p m s : Nat) (hs : s < row.length) :
    (upd row prev p m).getD s 0 = if p ≤ s ∧ s < m then wrap64 (row.getD s 0 + prev.getD (s - p) 0) else row.getD s 0 := by
  unfold upd
  rw [List.getD_eq_getElem?_getD, List.getElem?_map, List.getElem?_range hs]
  rfl

theorem ext_getD (a b : List Int) (h : a.length = b.length) (hg : ∀ s, s < a.length → a.getD s 0 = b.getD s 0) : a = b := by
  apply List.ext_getElem h
  intro s h1 h2
  have := hg s h1
  rw [List.getD_eq_getElem?_getD, List.getD_eq_getElem?_getD, List.getElem?_eq_getElem h1, List.getElem?_eq_getElem h2] at this
  exact this

theorem upd_none (row prev : List Int) (p m : Nat) (h : m ≤ p) : upd row prev p m = row := by
  apply ext_getD _ _ (upd_length _ _ _ _)
  intro s hs
  rw [upd_length] at hs
  rw [upd_getD _ _ _ _ _ hs, if_neg (by omega)]

theorem getD_set_self (l : List Int) (i : Nat) (x : Int) (h : i < l.length) : (l.set i x).getD i 0 = x := by
  rw [List.getD_eq_getElem?_getD, List.getElem?_set_self h]
  rfl

theorem getD_set_ne (l : List Int) (i j : Nat) (x : Int) (h : i ≠ j) : (l.set i x).getD j 0 = l.getD j 0 := by
  rw [List.getD_eq_getElem?_getD, List.getElem?_set_ne h, ← List.getD_eq_getElem?_getD]

theorem upd_more (row prev : List Int) (p m : Nat) (h : p ≤ m) (hm : m < row.length) :
    upd (row.set m (wrap64 (row.getD m 0 + prev.getD (m - p) 0))) prev p m = upd row prev p (m + 1) := by
  apply ext_getD
  · rw [upd_length, upd_length, List.length_set]
  · intro s hs
    rw [upd_length, List.length_set] at hs
    rw [upd_getD _ _ _ _ _ (by rw [List.length_set]; exact hs), upd_getD _ _ _ _ _ hs]
    by_cases e : m = s
    · subst e
      rw [getD_set_self _ _ _ hm, if_neg (by omega), if_pos (by omega)]
    · rw [getD_set_ne _ _ _ _ e]
      by_cases h1 : p ≤ s ∧ s < m
      · rw [if_pos h1, if_pos (by omega)]
      · rw [if_neg h1, if_neg (by omega)]

theorem rows_set_self (l : List (List Int)) (i : Nat) (x : List Int) (h : i < l.length) : (l.set i x).getD i [] = x := by
  rw [List.getD_eq_getElem?_getD, List.getElem?_set_self h]
  rfl

theorem rows_set_ne (l : List (List Int)) (i j : Nat) (x : List Int) (h : i ≠ j) : (l.set i x).getD j [] = l.getD j [] := by
  rw [List.getD_eq_getElem?_getD, List.getElem?_set_ne h, ← List.getD_eq_getElem?_getD]

theorem rows_set_same (l : List (List Int)) (i : Nat) (h : i < l.length) : l.set i (l.getD i []) = l := by
  apply List.ext_getElem (by simp)
  intro j h1 h2
  rw [List.getElem_set]
  split
  · rename_i e
    subst e
    rw [List.getD_eq_getElem?_getD, List.getElem?_eq_getElem h2]
    rfl
  · rfl

theorem rows_ext (a b : List (List Int)) (h : a.length = b.length) (hg : ∀ s, s < a.length → a.getD s [] = b.getD s []) : a = b := by
  apply List.ext_getElem h
  intro s h1 h2
  have := hg s h1
  rw [List.getD_eq_getElem?_getD, List.getD_eq_getElem?_getD, List.getElem?_eq_getElem h1, List.getElem?_eq_getElem h2] at this
  exact this

/-- All rows from i down to 1, each out of itself and the one before it. -/
def updAll (p m : Nat) : Nat → List (List Int) → List (List Int)
  | 0, x => x
  | i + 1, x => updAll p m i (x.set (i + 1) (upd (x.getD (i + 1) []) (x.getD i []) p m))

theorem updAll_length (p m : Nat) : ∀ i x, (updAll p m i x).length = x.length := by
  intro i
  induction i with
  | zero => intro x; rfl
  | succ i ih => intro x; unfold updAll; rw [ih, List.length_set]

theorem updAll_getD (p m : Nat) : ∀ (i : Nat) (x : List (List Int)) (j : Nat), i < x.length →
    (updAll p m i x).getD j [] = if 1 ≤ j ∧ j ≤ i then upd (x.getD j []) (x.getD (j - 1) []) p m else x.getD j [] := by
  intro i
  induction i with
  | zero => intro x j _; unfold updAll; rw [if_neg (by omega)]
  | succ i ih =>
    intro x j hx
    unfold updAll
    rw [ih _ j (by rw [List.length_set]; omega)]
    by_cases e : j = i + 1
    · subst e
      rw [if_neg (by omega), if_pos (by omega), rows_set_self _ _ _ hx]
      rfl
    · rw [rows_set_ne _ _ _ _ (by omega)]
      by_cases h1 : 1 ≤ j ∧ j ≤ i
      · rw [if_pos h1, if_pos (by omega), rows_set_ne _ _ _ _ (by omega)]
      · rw [if_neg h1, if_neg (by omega)]

/-- The pips of a tile. -/
def pp (t : S57) : Nat := (t.f0 + t.f1).toNat

/-- How many hands of i of these tiles have the sum s (the last tile first). -/
def ways : List S57 → Nat → Nat → Int
  | [], i, s => if i = 0 ∧ s = 0 then 1 else 0
  | t :: ts, i, s => if 0 < i ∧ pp t ≤ s then wrap64 (ways ts i s + ways ts (i - 1) (s - pp t)) else ways ts i s

def row (ts : List S57) (L i : Nat) : List Int := (List.range L).map (ways ts i)
def tab (ts : List S57) (L k : Nat) : List (List Int) := (List.range (k + 1)).map (row ts L)

theorem row_length (ts : List S57) (L i : Nat) : (row ts L i).length = L := by
  unfold row
  simp
theorem row_getD (ts : List S57) (L i s : Nat) (h : s < L) : (row ts L i).getD s 0 = ways ts i s := by
  unfold row
  rw [List.getD_eq_getElem?_getD, List.getElem?_map, List.getElem?_range h]
  rfl
theorem tab_length (ts : List S57) (L k : Nat) : (tab ts L k).length = k + 1 := by
  unfold tab
  simp
theorem tab_getD (ts : List S57) (L k i : Nat) (h : i ≤ k) : (tab ts L k).getD i [] = row ts L i := by
  unfold tab
  rw [List.getD_eq_getElem?_getD, List.getElem?_map, List.getElem?_range (by omega)]
  rfl

theorem tab_next (t : S57) (ts : List S57) (L k : Nat) : updAll (pp t) L k (tab ts L k) = tab (t :: ts) L k := by
  apply rows_ext
  · rw [updAll_length, tab_length, tab_length]
  · intro j hj
    rw [updAll_length, tab_length] at hj
    rw [updAll_getD _ _ _ _ _ (by rw [tab_length]; omega), tab_getD (t :: ts) L k j (by omega), tab_getD ts L k j (by omega)]
    by_cases h1 : 1 ≤ j ∧ j ≤ k
    · rw [if_pos h1, tab_getD ts L k (j - 1) (by omega)]
      apply ext_getD
      · rw [upd_length, row_length, row_length]
      · intro s hs
        rw [upd_length, row_length] at hs
        rw [upd_getD _ _ _ _ _ (by rw [row_length]; exact hs), row_getD _ _ _ _ hs, row_getD _ _ _ _ hs]
        simp only [ways]
        by_cases h2 : pp t ≤ s
        · rw [if_pos ⟨h2, hs⟩, if_pos ⟨by omega, h2⟩, row_getD _ _ _ _ (by omega)]
        · rw [if_neg (by omega), if_neg (by omega)]
    · rw [if_neg h1]
      have : j = 0 := by omega
      subst this
      apply ext_getD
      · rw [row_length, row_length]
      · intro s hs
        rw [row_length] at hs
        rw [row_getD _ _ _ _ hs, row_getD _ _ _ _ hs]
        simp only [ways]
        rw [if_neg (by omega)]

/-- The tiles that are met: their numbers are few. -/
def Small (ts : List S57) : Prop := ∀ j, j < ts.length → 0 ≤ (ts.getD j z57).f0 ∧ (ts.getD j z57).f0 ≤ 9 ∧ 0 ≤ (ts.getD j z57).f1 ∧ (ts.getD j z57).f1 ≤ 9

/-- The ways are none behind all pips together. -/
def total (ts : List S57) : Nat := (ts.map pp).foldr (· + ·) 0
theorem ways_zero (ts : List S57) : ∀ i s, total ts < s → ways ts i s = 0 := by
  induction ts with
  | nil => intro i s h; simp only [ways]; rw [if_neg (by omega)]
  | cons t ts ih =>
    intro i s h
    have e : total (t :: ts) = pp t + total ts := rfl
    rw [e] at h
    simp only [ways]
    by_cases h1 : 0 < i ∧ pp t ≤ s
    · rw [if_pos h1, ih i s (by omega), ih (i - 1) (s - pp t) (by omega)]
      simp [wrap64]
    · rw [if_neg h1, ih i s (by omega)]

theorem take_succ_rev (ts : List S57) (j : Nat) (h : j < ts.length) : (ts.take (j + 1)).reverse = ts.getD j z57 :: (ts.take j).reverse := by
  rw [List.take_succ_eq_append_getElem h, List.reverse_append, List.getD_eq_getElem?_getD, List.getElem?_eq_getElem h]
  rfl

theorem i3 (x1 : Int) (ts : List S57) (x30 x31 f0 f1 : Int) (hf0 : 0 ≤ f0 ∧ f0 ≤ 9) (hf1 : 0 ≤ f1 ∧ f1 ≤ 9) (L : Nat) (hL : L ≤ 2000) (i : Nat) (hi : i ≤ 1000) (r : List Int) :
    ∀ (d : Nat) (x5 : List (List Int)) (x10 : Int), x10 + 1 = f0 + f1 + d → x10 < L → i + 1 < x5.length → (x5.getD (i + 1) []).length = L → (x5.getD i []).length = L →
    Ev (fun k => impl_withPips.l2 k x1 (x5.set (i + 1) (upd (x5.getD (i + 1) []) (x5.getD i []) (f0 + f1).toNat (x10 + 1).toNat)) (i : Int) ts x30 x31 f0 f1) r →
    Ev (fun k => impl_withPips.l3 k x1 x5 ((i : Int) + 1) x10 ts x30 x31 f0 f1) r := by
  intro d
  induction d with
  | zero =>
    intro x5 x10 hd hx hlen h1 h2 h
    rw [upd_none _ _ _ _ (by omega), rows_set_same _ _ hlen] at h
    refine Ev.step (fun k => ?_) h
    simp only [impl_withPips.l3]
    rw [p_wrap (f0 + f1) (by omega) (by omega), if_neg (by omega), p_wrap ((i : Int) + 1 - 1) (by omega) (by omega)]
    congr 1
    omega
  | succ d ih =>
    intro x5 x10 hd hx hlen h1 h2 h
    refine Ev.step (f := fun k => impl_withPips.l3 k x1 (x5.set (i + 1) ((x5.getD (i + 1) []).set x10.toNat (wrap64 ((x5.getD (i + 1) []).getD x10.toNat 0 + (x5.getD i []).getD (x10.toNat - (f0 + f1).toNat) 0)))) ((i : Int) + 1) (x10 - 1) ts x30 x31 f0 f1) (fun k => ?_) ?_
    · have e1 : ((i : Int) + 1).toNat = i + 1 := by omega
      have e2 : ((i : Int) + 1 - 1).toNat = i := by omega
      have e3 : (x10 - f0 - f1).toNat = x10.toNat - (f0 + f1).toNat := by omega
      have r1 : rd_L3 x5 ((i : Int) + 1) = x5.getD (i + 1) [] := by unfold rd_L3; rw [e1]
      have r2 : rd_L3 x5 ((i : Int) + 1 - 1) = x5.getD i [] := by unfold rd_L3; rw [e2]
      simp only [impl_withPips.l3]
      rw [p_wrap (f0 + f1) (by omega) (by omega), p_wrap ((i : Int) + 1 - 1) (by omega) (by omega), p_wrap (x10 - f0) (by omega) (by omega), p_wrap (x10 - f0 - f1) (by omega) (by omega), p_wrap (x10 - 1) (by omega) (by omega)]
      rw [r1, r2, h1, h2]
      rw [if_pos (by omega), if_pos (by omega), if_pos (by omega), if_pos (by omega), if_pos (by omega), if_pos (by omega), if_pos (by omega), if_pos (by omega), if_pos (by omega)]
      simp only [rd, e1, e3]
    · refine ih _ (x10 - 1) (by omega) (by omega) (by rw [List.length_set]; exact hlen) ?_ ?_ ?_
      · rw [rows_set_self _ _ _ hlen, List.length_set, h1]
      · rw [rows_set_ne _ _ _ _ (by omega), h2]
      · rw [rows_set_self _ _ _ hlen, rows_set_ne _ _ _ _ (by omega), List.set_set]
        have e4 : (x10 - 1 + 1).toNat = x10.toNat := by omega
        have e5 : (x10 + 1).toNat = x10.toNat + 1 := by omega
        rw [e4, upd_more _ _ _ _ (by omega) (by rw [h1]; omega), ← e5]
        exact h

theorem i2 (x1 : Int) (ts : List S57) (x30 : Int) (j : Nat) (hj : j < 1000) (f0 f1 : Int) (hf0 : 0 ≤ f0 ∧ f0 ≤ 9) (hf1 : 0 ≤ f1 ∧ f1 ≤ 9) (r : List Int) :
    ∀ (i : Nat) (x5 : List (List Int)), i < x5.length → i ≤ 1000 → (∀ q, q < x5.length → (x5.getD q []).length = 1001) →
    Ev (fun k => impl_withPips.l1 k x1 (updAll (f0 + f1).toNat 1001 i x5) ts x30 ((j : Int) + 1)) r →
    Ev (fun k => impl_withPips.l2 k x1 x5 (i : Int) ts x30 (j : Int) f0 f1) r := by
  intro i
  induction i with
  | zero =>
    intro x5 hx hi hall h
    refine Ev.step (fun k => ?_) h
    simp only [impl_withPips.l2]
    rw [if_neg (by omega), p_wrap ((j : Int) + 1) (by omega) (by omega)]
    rfl
  | succ i ih =>
    intro x5 hx hi hall h
    refine Ev.step (f := fun k => impl_withPips.l3 k x1 x5 ((i : Int) + 1) 1000 ts x30 (j : Int) f0 f1) (fun k => ?_) ?_
    · simp only [impl_withPips.l2]
      rw [if_pos (by omega)]
      rfl
    · refine i3 x1 ts x30 (j : Int) f0 f1 hf0 hf1 1001 (by omega) i (by omega) r (1001 - (f0 + f1).toNat) x5 1000 (by omega) (by omega) hx (hall _ hx) (hall _ (by omega)) ?_
      refine ih _ (by rw [List.length_set]; omega) (by omega) ?_ h
      intro q hq
      rw [List.length_set] at hq
      by_cases e : i + 1 = q
      · subst e
        rw [rows_set_self _ _ _ hx, upd_length, hall _ hx]
      · rw [rows_set_ne _ _ _ _ e, hall q hq]

theorem i1 (k0 : Nat) (hk0 : k0 ≤ 900) (ts : List S57) (hts : ts.length ≤ 900) (hs : Small ts) : ∀ (d j : Nat), j + d = ts.length →
    Ev (fun k => impl_withPips.l1 k (k0 : Int) (tab (ts.take j).reverse 1001 k0) ts (ts.length : Int) (j : Int)) (row ts.reverse 1001 k0) := by
  intro d
  induction d with
  | zero =>
    intro j hj
    refine Ev.step (f := fun _ => some (row ts.reverse 1001 k0)) (fun k => ?_) ⟨0, fun _ _ => rfl⟩
    simp only [impl_withPips.l1, rd_L3]
    rw [if_neg (by omega), if_pos (by omega), if_pos (by rw [tab_length]; omega)]
    rw [show ((k0 : Int)).toNat = k0 from rfl, tab_getD _ _ _ _ (by omega), List.take_of_length_le (by omega)]
  | succ d ih =>
    intro j hj
    have hb := hs j (by omega)
    refine Ev.step (f := fun k => impl_withPips.l2 k (k0 : Int) (tab (ts.take j).reverse 1001 k0) (k0 : Int) ts (ts.length : Int) (j : Int) (ts.getD j z57).f0 (ts.getD j z57).f1) (fun k => ?_) ?_
    · simp only [impl_withPips.l1, rd_T57]
      rw [if_pos (by omega), if_pos (by omega), if_pos (by omega), show ((j : Int)).toNat = j from rfl]
    · refine i2 (k0 : Int) ts (ts.length : Int) j (by omega) _ _ ⟨hb.1, hb.2.1⟩ ⟨hb.2.2.1, hb.2.2.2⟩ _ k0 _ (by rw [tab_length]; omega) (by omega) ?_ ?_
      · intro q hq
        rw [tab_length] at hq
        rw [tab_getD _ _ _ _ (by omega), row_length]
      · have e : (((ts.getD j z57).f0 + (ts.getD j z57).f1).toNat) = pp (ts.getD j z57) := rfl
        rw [e, tab_next, ← take_succ_rev ts j (by omega)]
        exact ih (j + 1) (by omega)

theorem tab_first (L k : Nat) (hL : 0 < L) : (List.replicate (k + 1) (List.replicate L (0 : Int))).set 0 ((List.replicate L (0 : Int)).set 0 1) = tab [] L k := by
  apply rows_ext
  · rw [List.length_set, List.length_replicate, tab_length]
  · intro j hj
    rw [List.length_set, List.length_replicate] at hj
    rw [tab_getD _ _ _ _ (by omega)]
    have hrep : (List.replicate (k + 1) (List.replicate L (0 : Int))).getD j [] = List.replicate L 0 := by
      rw [List.getD_eq_getElem?_getD, List.getElem?_replicate, if_pos hj]
      rfl
    have hz : ∀ s, s < L → (List.replicate L (0 : Int)).getD s 0 = 0 := by
      intro s hs
      rw [List.getD_eq_getElem?_getD, List.getElem?_replicate, if_pos hs]
      rfl
    by_cases e : j = 0
    · subst e
      rw [rows_set_self _ _ _ (by rw [List.length_replicate]; omega)]
      apply ext_getD
      · rw [List.length_set, List.length_replicate, row_length]
      · intro s h2
        rw [List.length_set, List.length_replicate] at h2
        rw [row_getD _ _ _ _ h2]
        simp only [ways]
        by_cases e2 : s = 0
        · subst e2
          rw [getD_set_self _ _ _ (by rw [List.length_replicate]; omega)]
          rfl
        · rw [getD_set_ne _ _ _ _ (by omega), if_neg (by omega), hz s h2]
    · rw [rows_set_ne _ _ _ _ (by omega), hrep]
      apply ext_getD
      · rw [List.length_replicate, row_length]
      · intro s h2
        rw [List.length_replicate] at h2
        rw [row_getD _ _ _ _ h2, hz s h2]
        simp only [ways]
        rw [if_neg (by omega)]

/-- The rows up to j are made. -/
def made (L n j : Nat) : List (List Int) := List.replicate j (List.replicate L (0 : Int)) ++ List.replicate (n - j) []
theorem made_length (L n j : Nat) (h : j ≤ n) : (made L n j).length = n := by
  unfold made
  simp
  omega
theorem made_next (L n j : Nat) (h : j < n) : (made L n j).set j (List.replicate L 0) = made L n (j + 1) := by
  unfold made
  rw [List.set_append_right _ _ (by simp), List.length_replicate, Nat.sub_self]
  obtain ⟨m, hm⟩ : ∃ m, n - j = m + 1 := ⟨n - j - 1, by omega⟩
  have hm2 : n - (j + 1) = m := by omega
  rw [hm, hm2, List.replicate_succ, List.set_cons_zero, List.replicate_succ', List.append_assoc]
  rfl

set_option maxRecDepth 100000 in
theorem i0 (n : Int) (k0 : Nat) (hk0 : k0 ≤ 900) (ts : List S57) (hts : ts.length ≤ 900) (hs : Small ts) (hset : Ev (fun k => impl_setOf.f k n) ts) : ∀ (d j : Nat), j + d = k0 + 1 →
    Ev (fun k => impl_withPips.l0 k n (k0 : Int) (made 1001 (k0 + 1) j) ((k0 : Int) + 1) (j : Int)) (row ts.reverse 1001 k0) := by
  intro d
  induction d with
  | zero =>
    intro j hj
    obtain rfl : j = k0 + 1 := by omega
    have e0 : made 1001 (k0 + 1) (k0 + 1) = List.replicate (k0 + 1) (List.replicate 1001 (0 : Int)) := by
      unfold made
      simp
    have e1 : (List.replicate (k0 + 1) (List.replicate 1001 (0 : Int))).getD 0 [] = List.replicate 1001 0 := by
      rw [List.getD_eq_getElem?_getD, List.getElem?_replicate, if_pos (by omega)]
      rfl
    refine Ev.step (f := fun k => (impl_setOf.f k n).bind fun t => impl_withPips.l1 k (k0 : Int) (tab [] 1001 k0) t (t.length : Int) 0) (fun k => ?_) (Ev.bind (f := fun k t => impl_withPips.l1 k (k0 : Int) (tab [] 1001 k0) t (t.length : Int) 0) hset (i1 k0 hk0 ts hts hs ts.length 0 (by omega)))
    have r0 : rd_L3 (List.replicate (k0 + 1) (List.replicate 1001 (0 : Int))) 0 = List.replicate 1001 0 := e1
    simp only [impl_withPips.l0]
    rw [e0, if_neg (by omega), if_pos (by rw [List.length_replicate]; omega), r0, if_pos (by rw [List.length_replicate]; omega), show (0 : Int).toNat = 0 from rfl, tab_first _ _ (by omega)]
  | succ d ih =>
    intro j hj
    refine Ev.step (f := fun k => impl_withPips.l0 k n (k0 : Int) (made 1001 (k0 + 1) (j + 1)) ((k0 : Int) + 1) (((j + 1 : Nat)) : Int)) (fun k => ?_) (ih (j + 1) (by omega))
    simp only [impl_withPips.l0]
    rw [if_pos (by omega), if_pos (by omega), if_pos (by omega), if_pos (by rw [made_length _ _ _ (by omega)]; omega), p_wrap ((j : Int) + 1) (by omega) (by omega), show ((j : Int)).toNat = j from rfl, made_next _ _ _ (by omega)]
    rfl

set_option maxRecDepth 100000 in
theorem i_all (n : Int) (k0 : Nat) (hk0 : k0 ≤ 900) (ts : List S57) (hts : ts.length ≤ 900) (hs : Small ts) (hset : Ev (fun k => impl_setOf.f k n) ts) :
    Ev (fun k => impl_withPips.f k n (k0 : Int)) (row ts.reverse 1001 k0) := by
  refine Ev.congr (fun k => ?_) (i0 n k0 hk0 ts hts hs hset (k0 + 1) 0 (by omega))
  unfold impl_withPips.f
  rw [p_wrap ((k0 : Int) + 1) (by omega) (by omega), if_pos (by omega), if_pos (by omega)]
  have e : ((k0 : Int) + 1).toNat = k0 + 1 := by omega
  rw [e]
  simp only [Option.bind_some, List.length_replicate]
  rfl

theorem s4 (x1 most : Int) (ts : List S57) (x51 x52 p : Int) (hp : 0 ≤ p ∧ p ≤ 18) (L : Nat) (hL : L ≤ 2000) (i : Nat) (hi : i ≤ 1000) (r : List Int) :
    ∀ (d : Nat) (x8 : List (List Int)) (x14 : Int), x14 + 1 ≤ p + d → (x14 + 1 = p + d ∨ (d = 0 ∧ x14 < p)) → 0 ≤ x14 + 1 → x14 < L → i + 1 < x8.length → (x8.getD (i + 1) []).length = L → (x8.getD i []).length = L →
    Ev (fun k => spec_dcPips.l3 k x1 most (x8.set (i + 1) (upd (x8.getD (i + 1) []) (x8.getD i []) p.toNat (x14 + 1).toNat)) p (i : Int) ts x51 x52) r →
    Ev (fun k => spec_dcPips.l4 k x1 most x8 p ((i : Int) + 1) x14 ts x51 x52) r := by
  intro d
  induction d with
  | zero =>
    intro x8 x14 hd hd3 h0 hx hlen h1 h2 h
    rw [upd_none _ _ _ _ (by omega), rows_set_same _ _ hlen] at h
    refine Ev.step (fun k => ?_) h
    simp only [spec_dcPips.l4]
    rw [if_neg (by omega), p_wrap ((i : Int) + 1 - 1) (by omega) (by omega)]
    congr 1
    omega
  | succ d ih =>
    intro x8 x14 hd hd3 h0 hx hlen h1 h2 h
    refine Ev.step (f := fun k => spec_dcPips.l4 k x1 most (x8.set (i + 1) ((x8.getD (i + 1) []).set x14.toNat (wrap64 ((x8.getD (i + 1) []).getD x14.toNat 0 + (x8.getD i []).getD (x14.toNat - p.toNat) 0)))) p ((i : Int) + 1) (x14 - 1) ts x51 x52) (fun k => ?_) ?_
    · have e1 : ((i : Int) + 1).toNat = i + 1 := by omega
      have e2 : ((i : Int) + 1 - 1).toNat = i := by omega
      have e3 : (x14 - p).toNat = x14.toNat - p.toNat := by omega
      have r1 : rd_L3 x8 ((i : Int) + 1) = x8.getD (i + 1) [] := by unfold rd_L3; rw [e1]
      have r2 : rd_L3 x8 ((i : Int) + 1 - 1) = x8.getD i [] := by unfold rd_L3; rw [e2]
      simp only [spec_dcPips.l4]
      rw [p_wrap ((i : Int) + 1 - 1) (by omega) (by omega), p_wrap (x14 - p) (by omega) (by omega), p_wrap (x14 - 1) (by omega) (by omega)]
      rw [r1, r2, h1, h2]
      rw [if_pos (by omega), if_pos (by omega), if_pos (by omega), if_pos (by omega), if_pos (by omega), if_pos (by omega), if_pos (by omega), if_pos (by omega), if_pos (by omega)]
      simp only [rd, e1, e3]
    · refine ih _ (x14 - 1) (by omega) (by omega) (by omega) (by omega) (by rw [List.length_set]; exact hlen) ?_ ?_ ?_
      · rw [rows_set_self _ _ _ hlen, List.length_set, h1]
      · rw [rows_set_ne _ _ _ _ (by omega), h2]
      · rw [rows_set_self _ _ _ hlen, rows_set_ne _ _ _ _ (by omega), List.set_set]
        have e4 : (x14 - 1 + 1).toNat = x14.toNat := by omega
        have e5 : (x14 + 1).toNat = x14.toNat + 1 := by omega
        rw [e4, upd_more _ _ _ _ (by omega) (by rw [h1]; omega), ← e5]
        exact h

theorem s3 (x1 : Int) (m : Nat) (hm : m ≤ 1000) (ts : List S57) (x51 : Int) (j : Nat) (hj : j < 1000) (p : Int) (hp : 0 ≤ p ∧ p ≤ 18) (r : List Int) :
    ∀ (i : Nat) (x8 : List (List Int)), i < x8.length → i ≤ 1000 → (∀ q, q < x8.length → (x8.getD q []).length = m + 1) →
    Ev (fun k => spec_dcPips.l2 k x1 (m : Int) (updAll p.toNat (m + 1) i x8) ts x51 ((j : Int) + 1)) r →
    Ev (fun k => spec_dcPips.l3 k x1 (m : Int) x8 p (i : Int) ts x51 (j : Int)) r := by
  intro i
  induction i with
  | zero =>
    intro x8 hx hi hall h
    refine Ev.step (fun k => ?_) h
    simp only [spec_dcPips.l3]
    rw [if_neg (by omega), p_wrap ((j : Int) + 1) (by omega) (by omega)]
    rfl
  | succ i ih =>
    intro x8 hx hi hall h
    refine Ev.step (f := fun k => spec_dcPips.l4 k x1 (m : Int) x8 p ((i : Int) + 1) (m : Int) ts x51 (j : Int)) (fun k => ?_) ?_
    · simp only [spec_dcPips.l3]
      rw [if_pos (by omega)]
      rfl
    · refine s4 x1 (m : Int) ts x51 (j : Int) p hp (m + 1) (by omega) i (by omega) r (m + 1 - p.toNat) x8 (m : Int) (by omega) (by omega) (by omega) (by omega) hx (hall _ hx) (hall _ (by omega)) ?_
      refine ih _ (by rw [List.length_set]; omega) (by omega) ?_ h
      intro q hq
      rw [List.length_set] at hq
      by_cases e : i + 1 = q
      · subst e
        rw [rows_set_self _ _ _ hx, upd_length, hall _ hx]
      · rw [rows_set_ne _ _ _ _ e, hall q hq]

theorem s2 (m : Nat) (hm : m ≤ 1000) (k0 : Nat) (hk0 : k0 ≤ 900) (ts : List S57) (hts : ts.length ≤ 900) (hs : Small ts) : ∀ (d j : Nat), j + d = ts.length →
    Ev (fun k => spec_dcPips.l2 k (k0 : Int) (m : Int) (tab (ts.take j).reverse (m + 1) k0) ts (ts.length : Int) (j : Int)) (row ts.reverse (m + 1) k0) := by
  intro d
  induction d with
  | zero =>
    intro j hj
    refine Ev.step (f := fun _ => some (row ts.reverse (m + 1) k0)) (fun k => ?_) ⟨0, fun _ _ => rfl⟩
    simp only [spec_dcPips.l2, rd_L3]
    rw [if_neg (by omega), if_pos (by omega), if_pos (by rw [tab_length]; omega)]
    rw [show ((k0 : Int)).toNat = k0 from rfl, tab_getD _ _ _ _ (by omega), List.take_of_length_le (by omega)]
  | succ d ih =>
    intro j hj
    have hb := hs j (by omega)
    refine Ev.step (f := fun k => spec_dcPips.l3 k (k0 : Int) (m : Int) (tab (ts.take j).reverse (m + 1) k0) ((ts.getD j z57).f0 + (ts.getD j z57).f1) (k0 : Int) ts (ts.length : Int) (j : Int)) (fun k => ?_) ?_
    · simp only [spec_dcPips.l2, rd_T57]
      rw [if_pos (by omega), if_pos (by omega), if_pos (by omega), show ((j : Int)).toNat = j from rfl, p_wrap ((ts.getD j z57).f0 + (ts.getD j z57).f1) (by omega) (by omega)]
    · refine s3 (k0 : Int) m hm ts (ts.length : Int) j (by omega) _ ⟨by omega, by omega⟩ _ k0 _ (by rw [tab_length]; omega) (by omega) ?_ ?_
      · intro q hq
        rw [tab_length] at hq
        rw [tab_getD _ _ _ _ (by omega), row_length]
      · have e : (((ts.getD j z57).f0 + (ts.getD j z57).f1).toNat) = pp (ts.getD j z57) := rfl
        rw [e, tab_next, ← take_succ_rev ts j (by omega)]
        exact ih (j + 1) (by omega)

theorem s1 (n : Int) (m : Nat) (hm : m ≤ 1000) (k0 : Nat) (hk0 : k0 ≤ 900) (ts : List S57) (hts : ts.length ≤ 900) (hs : Small ts) (hset : Ev (fun k => spec_tiSet.f k n) ts) : ∀ (d j : Nat), j + d = k0 + 1 →
    Ev (fun k => spec_dcPips.l1 k n (k0 : Int) (m : Int) (made (m + 1) (k0 + 1) j) ((k0 : Int) + 1) (j : Int)) (row ts.reverse (m + 1) k0) := by
  intro d
  induction d with
  | zero =>
    intro j hj
    obtain rfl : j = k0 + 1 := by omega
    have e0 : made (m + 1) (k0 + 1) (k0 + 1) = List.replicate (k0 + 1) (List.replicate (m + 1) (0 : Int)) := by
      unfold made
      simp
    have e1 : (List.replicate (k0 + 1) (List.replicate (m + 1) (0 : Int))).getD 0 [] = List.replicate (m + 1) 0 := by
      rw [List.getD_eq_getElem?_getD, List.getElem?_replicate, if_pos (by omega)]
      rfl
    refine Ev.step (f := fun k => (spec_tiSet.f k n).bind fun t => spec_dcPips.l2 k (k0 : Int) (m : Int) (tab [] (m + 1) k0) t (t.length : Int) 0) (fun k => ?_) (Ev.bind (f := fun k t => spec_dcPips.l2 k (k0 : Int) (m : Int) (tab [] (m + 1) k0) t (t.length : Int) 0) hset (s2 m hm k0 hk0 ts hts hs ts.length 0 (by omega)))
    have r0 : rd_L3 (List.replicate (k0 + 1) (List.replicate (m + 1) (0 : Int))) 0 = List.replicate (m + 1) 0 := e1
    simp only [spec_dcPips.l1]
    rw [e0, if_neg (by omega), if_pos (by rw [List.length_replicate]; omega), r0, if_pos (by rw [List.length_replicate]; omega), show (0 : Int).toNat = 0 from rfl, tab_first _ _ (by omega)]
  | succ d ih =>
    intro j hj
    refine Ev.step (f := fun k => spec_dcPips.l1 k n (k0 : Int) (m : Int) (made (m + 1) (k0 + 1) (j + 1)) ((k0 : Int) + 1) (((j + 1 : Nat)) : Int)) (fun k => ?_) (ih (j + 1) (by omega))
    simp only [spec_dcPips.l1]
    have e : ((m : Int) + 1).toNat = m + 1 := by omega
    rw [p_wrap ((m : Int) + 1) (by omega) (by omega), e, if_pos (by omega), if_pos (by omega), if_pos (by omega), if_pos (by omega), if_pos (by rw [made_length _ _ _ (by omega)]; omega), p_wrap ((j : Int) + 1) (by omega) (by omega), show ((j : Int)).toNat = j from rfl, made_next _ _ _ (by omega)]
    rfl

theorem total_take (ts : List S57) (j : Nat) (h : j < ts.length) : total (ts.take (j + 1)) = total (ts.take j) + pp (ts.getD j z57) := by
  unfold total
  rw [List.take_succ_eq_append_getElem h, List.map_append, List.foldr_append]
  have : ts.getD j z57 = ts[j] := by
    rw [List.getD_eq_getElem?_getD, List.getElem?_eq_getElem h]
    rfl
  rw [this]
  have gen : ∀ (l : List Nat) (a : Nat), l.foldr (· + ·) a = l.foldr (· + ·) 0 + a := by
    intro l
    induction l with
    | nil => intro a; simp
    | cons x l ih => intro a; simp only [List.foldr_cons]; rw [ih a]; omega
  rw [gen]
  simp

theorem total_small (ts : List S57) (hs : Small ts) : ∀ j, j ≤ ts.length → total (ts.take j) ≤ 18 * j := by
  intro j
  induction j with
  | zero => intro _; simp [total]
  | succ j ih =>
    intro h
    rw [total_take ts j (by omega)]
    have hb := hs j (by omega)
    have := ih (by omega)
    have : pp (ts.getD j z57) ≤ 18 := by unfold pp; omega
    omega

theorem s0 (n : Int) (k0 : Nat) (hk0 : k0 ≤ 900) (ts : List S57) (hts : ts.length ≤ 50) (hs : Small ts) (hset : Ev (fun k => spec_tiSet.f k n) ts) : ∀ (d j : Nat), j + d = ts.length →
    Ev (fun k => spec_dcPips.l0 k n (k0 : Int) ((total (ts.take j) : Nat) : Int) ts (ts.length : Int) (j : Int)) (row ts.reverse (total ts + 1) k0) := by
  have hT := total_small ts hs ts.length (Nat.le_refl _)
  rw [List.take_length] at hT
  intro d
  induction d with
  | zero =>
    intro j hj
    obtain rfl : j = ts.length := by omega
    rw [List.take_length]
    refine Ev.step (f := fun k => spec_dcPips.l1 k n (k0 : Int) ((total ts : Nat) : Int) (made (total ts + 1) (k0 + 1) 0) ((k0 : Int) + 1) 0) (fun k => ?_) (s1 n (total ts) (by omega) k0 hk0 ts (by omega) hs hset (k0 + 1) 0 (by omega))
    simp only [spec_dcPips.l0]
    have e : ((k0 : Int) + 1).toNat = k0 + 1 := by omega
    rw [if_neg (by omega), p_wrap ((k0 : Int) + 1) (by omega) (by omega), e, if_pos (by omega), if_pos (by omega)]
    simp only [Option.bind_some, List.length_replicate]
    rfl
  | succ d ih =>
    intro j hj
    have hb := hs j (by omega)
    have hT2 := total_small ts hs j (by omega)
    have hi := ih (j + 1) (by omega)
    rw [total_take ts j (by omega)] at hi
    refine Ev.step (fun k => ?_) hi
    simp only [spec_dcPips.l0, rd_T57]
    have e : pp (ts.getD j z57) = ((ts.getD j z57).f0 + (ts.getD j z57).f1).toNat := rfl
    rw [if_pos (by omega), if_pos (by omega), if_pos (by omega), show ((j : Int)).toNat = j from rfl, p_wrap ((ts.getD j z57).f0 + (ts.getD j z57).f1) (by omega) (by omega), p_wrap _ (by omega) (by omega), p_wrap ((j : Int) + 1) (by omega) (by omega)]
    congr 1
    rw [e]
    omega

theorem s_all (n : Int) (k0 : Nat) (hk0 : k0 ≤ 900) (ts : List S57) (hts : ts.length ≤ 50) (hs : Small ts) (hset : Ev (fun k => spec_tiSet.f k n) ts) :
    Ev (fun k => spec_dcPips.f k n (k0 : Int)) (row ts.reverse (total ts + 1) k0) := by
  have h0 := s0 n k0 hk0 ts hts hs hset ts.length 0 (by omega)
  exact Ev.bind (f := fun k t => spec_dcPips.l0 k n (k0 : Int) 0 t (t.length : Int) 0) hset h0

theorem total_reverse (ts : List S57) : total ts.reverse = total ts := by
  unfold total
  rw [List.map_reverse]
  generalize ts.map pp = l
  have app : ∀ (a b : List Nat), (a ++ b).foldr (· + ·) 0 = a.foldr (· + ·) 0 + b.foldr (· + ·) 0 := by
    intro a b
    induction a with
    | nil => simp
    | cons x a ih => simp only [List.cons_append, List.foldr_cons]; rw [ih]; omega
  induction l with
  | nil => rfl
  | cons x l ih => rw [List.reverse_cons, app, ih]; simp only [List.foldr_cons, List.foldr_nil]; omega

def code (l : List S57) : List (Int × Int) := l.map fun t => (t.f0, t.f1)
theorem code_inj (a b : List S57) (h : code a = code b) : a = b := by
  unfold code at h
  induction a generalizing b with
  | nil => cases b with
    | nil => rfl
    | cons y b => simp at h
  | cons x a ih => cases b with
    | nil => simp at h
    | cons y b =>
      simp only [List.map_cons, List.cons.injEq, Prod.mk.injEq] at h
      rw [ih b h.2]
      cases x
      cases y
      simp_all
def lst (n : Nat) : List (Int × Int) := (List.range (n + 1)).flatMap fun a => (List.range (n + 1 - a)).map fun b => ((a : Int), ((a + b : Nat) : Int))
theorem lst_small (l : List S57) (p : List (Int × Int)) (hp : code l = p) (h2 : p.all (fun t => decide (0 ≤ t.1 ∧ t.1 ≤ 9 ∧ 0 ≤ t.2 ∧ t.2 ≤ 9)) = true) : Small l := by
  intro j hj
  have e : l.getD j z57 = l[j] := by
    rw [List.getD_eq_getElem?_getD, List.getElem?_eq_getElem hj]
    rfl
  rw [e]
  have hm : ((l[j]).f0, (l[j]).f1) ∈ p := by
    rw [← hp]
    unfold code
    exact List.mem_map.2 ⟨_, List.getElem_mem hj, rfl⟩
  have := List.all_eq_true.1 h2 _ hm
  simpa using this
/-- The tiles of the set of n. -/
theorem the_set (n : Fin 7) : ∃ l : List S57, Ev (fun k => impl_setOf.f k ((n.val : Nat) : Int)) l ∧ Ev (fun k => spec_tiSet.f k ((n.val : Nat) : Int)) l ∧ l.length ≤ 28 ∧ Small l ∧ total l ≤ 504 := by
  have h1 : ∀ m : Fin 7, ((impl_setOf.f 60 ((m.val : Nat) : Int)).map code) = some (lst m.val) := by decide +kernel
  have h2 : ∀ m : Fin 7, ((spec_tiSet.f 60 ((m.val : Nat) : Int)).map code) = some (lst m.val) := by decide +kernel
  have h3 : ∀ m : Fin 7, decide ((lst m.val).length ≤ 28) = true := by decide +kernel
  have h4 : ∀ m : Fin 7, (lst m.val).all (fun t => decide (0 ≤ t.1 ∧ t.1 ≤ 9 ∧ 0 ≤ t.2 ∧ t.2 ≤ 9)) = true := by decide +kernel
  have a1 := h1 n
  have a2 := h2 n
  have a3 := of_decide_eq_true (h3 n)
  have a4 := h4 n
  clear h1 h2 h3 h4
  generalize lst n.val = p at a1 a2 a3 a4
  obtain ⟨l, hl, hc⟩ := Option.map_eq_some_iff.1 a1
  obtain ⟨l2, hl2, hc2⟩ := Option.map_eq_some_iff.1 a2
  have e : l2 = l := code_inj _ _ (hc2.trans hc.symm)
  subst e
  have hlen : l2.length ≤ 28 := by
    have : (code l2).length = l2.length := by
      unfold code
      rw [List.length_map]
    rw [hc] at this
    omega
  have hs := lst_small l2 p hc a4
  refine ⟨l2, Ev.of (fun k => impl_setOf.mono _ k) hl, Ev.of (fun k => spec_tiSet.mono _ k) hl2, hlen, hs, ?_⟩
  have h := total_small _ hs l2.length (Nat.le_refl _)
  rw [List.take_length] at h
  omega

theorem g_l1In_no (a b c : Int) (h : ¬ (b ≤ a ∧ a ≤ c)) : spec_l1In.f a b c = some false := by
  unfold spec_l1In.f
  split
  · rename_i h1
    have h2 : ¬ a ≤ c := fun h3 => h ⟨h1, h3⟩
    simp [h2]
  · rfl
theorem g_within_no (a b c : Int) (h : ¬ (b ≤ a ∧ a ≤ c)) : impl_within.f a b c = some false := by
  unfold impl_within.f
  split
  · rename_i h1
    have h2 : ¬ a ≤ c := fun h3 => h ⟨h1, h3⟩
    simp [h2]
  · rfl
theorem g_l1In_yes (a b c : Int) (h : b ≤ a ∧ a ≤ c) : spec_l1In.f a b c = some true := by
  unfold spec_l1In.f
  rw [if_pos h.1]
  simp [h.2]
theorem g_within_yes (a b c : Int) (h : b ≤ a ∧ a ≤ c) : impl_within.f a b c = some true := by
  unfold impl_within.f
  rw [if_pos h.1]
  simp [h.2]
/-- How many tiles the set has. -/
def tl (n : Int) : Int := wrap64 (Int.tdiv (wrap64 ((wrap64 (n + 1)) * (wrap64 (n + 2)))) 2)
theorem g_tiles (n : Int) (h : 0 ≤ n ∧ n ≤ 6) : 0 ≤ tl n ∧ tl n ≤ 28 := by
  have : ∀ m : Fin 7, 0 ≤ tl ((m.val : Nat) : Int) ∧ tl ((m.val : Nat) : Int) ≤ 28 := by decide +kernel
  obtain ⟨m, rfl⟩ : ∃ m : Nat, n = (m : Int) := ⟨n.toNat, by omega⟩
  exact this ⟨m, by omega⟩
/-- Both guards say the same. -/
theorem g_guard (n k : Int) : ∃ b t, spec_dcGood.f n k = some b ∧ impl_isDrawn.f n k = some (t, b) ∧ (b = true → 0 ≤ n ∧ n ≤ 6 ∧ 0 ≤ k ∧ k ≤ 28 ∧ t = tl n) := by
  unfold spec_dcGood.f impl_isDrawn.f spec_dcTiles.f
  by_cases hn : 0 ≤ n ∧ n ≤ 6
  · rw [g_l1In_yes n 0 6 hn, g_within_yes n 0 6 hn]
    simp only [Option.bind_some, if_true]
    have ht := g_tiles n hn
    unfold tl at ht
    by_cases hk : 0 ≤ k ∧ k ≤ wrap64 (Int.tdiv (wrap64 ((wrap64 (n + 1)) * (wrap64 (n + 2)))) 2)
    · rw [g_l1In_yes k 0 _ hk, g_within_yes k 0 _ hk]
      exact ⟨true, _, rfl, rfl, fun _ => ⟨hn.1, hn.2, hk.1, by omega, rfl⟩⟩
    · rw [g_l1In_no k 0 _ hk, g_within_no k 0 _ hk]
      exact ⟨false, _, rfl, rfl, fun h => by cases h⟩
  · rw [g_l1In_no n 0 6 hn, g_within_no n 0 6 hn]
    exact ⟨false, _, rfl, rfl, fun h => by cases h⟩


theorem c_impl_yes (a0 a1 a2 t : Int) (l : List Int) (v : Int) (h : impl_isDrawn.f a0 a1 = some (t, true)) (hs : 0 ≤ a2 ∧ a2 ≤ 1000) (hl : Ev (fun k => impl_withPips.f k a0 a1) l) (hv : ∀ s : Nat, a2 = s → s < l.length ∧ v = l.getD s 0) :
    Ev (fun k => impl_CountWithPips.f k a0 a1 a2) (v, true) := by
  refine Ev.congr (f := fun k => (impl_withPips.f k a0 a1).bind fun t190 => (if 0 ≤ a2 then (if a2 < (t190.length : Int) then (some (rd t190 a2, true)) else (none)) else (none))) (fun k => ?_) ?_
  · unfold impl_CountWithPips.f impl_isSum.f
    rw [h]
    simp only [Option.bind_some, if_true]
    rw [g_within_yes _ _ _ hs]
    simp only [Option.bind_some, if_true]
  · refine Ev.bind (f := fun _ t190 => (if 0 ≤ a2 then (if a2 < (t190.length : Int) then (some (rd t190 a2, true)) else (none)) else (none))) hl ⟨0, fun k _ => ?_⟩
    obtain ⟨e1, e2⟩ := hv a2.toNat (by omega)
    rw [if_pos hs.1, if_pos (by omega), e2]
    rfl


theorem c_guard_le (n k t : Int) (hb : impl_isDrawn.f n k = some (t, true)) : k ≤ t := by
  unfold impl_isDrawn.f impl_within.f at hb
  by_cases h1 : 0 ≤ n
  · rw [if_pos h1] at hb
    simp only [Option.bind_some] at hb
    by_cases h2 : decide (n ≤ 6) = true
    · rw [if_pos h2] at hb
      by_cases h3 : 0 ≤ k
      · rw [if_pos h3] at hb
        simp only [Option.bind_some, Option.some.injEq, Prod.mk.injEq, decide_eq_true_eq] at hb
        omega
      · rw [if_neg h3] at hb
        simp at hb
    · rw [if_neg h2] at hb
      simp at hb
  · rw [if_neg h1] at hb
    simp at hb


/-- No number is below nothing, and none is large. -/
theorem ways_bound (ts : List S57) : ts.length ≤ 40 → ∀ i s, 0 ≤ ways ts i s ∧ ways ts i s ≤ (2 ^ ts.length : Nat) := by
  induction ts with
  | nil => intro _ i s; unfold ways; split <;> simp
  | cons t ts ih =>
    intro hl i s
    have hl' : ts.length ≤ 40 := by simp at hl; omega
    have h1 := ih hl' i s
    have h2 := ih hl' (i - 1) (s - pp t)
    have hp : (2 ^ (t :: ts).length : Nat) = 2 * 2 ^ ts.length := by rw [List.length_cons, Nat.pow_succ]; omega
    have hb : (2 ^ ts.length : Nat) ≤ 2 ^ 40 := Nat.pow_le_pow_right (by omega) hl'
    rw [hp]
    generalize (2 ^ ts.length : Nat) = B at *
    have hc : (2 ^ 40 : Nat) = 1099511627776 := by decide
    rw [hc] at hb
    unfold ways
    split
    · unfold wrap64
      omega
    · omega
theorem q_getD (l : List Int) (j : Nat) : rd l (j : Int) = l.getD j 0 := rfl
theorem q_wrap (j : Nat) (h : j ≤ 2000) : wrap64 ((j : Int) + 1) = ((j + 1 : Nat) : Int) := by
  rw [p_wrap _ (by omega) (by omega)]
  rfl
/-- The least place of the greatest, in the reference's way. -/
theorem q_best (Q : List Int) (hQ : Q.length ≤ 1500) : ∀ (d j b : Nat), j + d = Q.length → b < Q.length → b ≤ j → (∀ i, i < j → Q.getD i 0 ≤ Q.getD b 0) → (∀ i, i < b → Q.getD i 0 < Q.getD b 0) →
    ∃ c : Nat, c < Q.length ∧ Ev (fun k => spec_LikeliestPips.l0 k (b : Int) Q Q (Q.length : Int) (j : Int)) ((c : Int), true) ∧ (∀ i, i < Q.length → Q.getD i 0 ≤ Q.getD c 0) ∧ (∀ i, i < c → Q.getD i 0 < Q.getD c 0) := by
  intro d
  induction d with
  | zero =>
    intro j b h1 h2 h3 h4 h5
    refine ⟨b, h2, Ev.step (f := fun _ => some ((b : Int), true)) (fun k => ?_) ⟨0, fun _ _ => rfl⟩, fun i hi => h4 i (by omega), h5⟩
    simp only [spec_LikeliestPips.l0]
    rw [if_neg (by omega)]
  | succ d ih =>
    intro j b h1 h2 h3 h4 h5
    by_cases hx : Q.getD j 0 > Q.getD b 0
    · obtain ⟨c, c1, c2, c3, c4⟩ := ih (j + 1) j (by omega) (by omega) (by omega)
        (fun i hi => by by_cases e : i = j; (· subst e; exact Int.le_refl _); (· have := h4 i (by omega); omega))
        (fun i hi => by have := h4 i (by omega); omega)
      refine ⟨c, c1, Ev.step (fun k => ?_) c2, c3, c4⟩
      simp only [spec_LikeliestPips.l0]
      rw [if_pos (by omega), if_pos (by omega), if_pos (by omega), if_pos (by omega), if_pos (by omega), q_getD, q_getD, if_pos hx, q_wrap j (by omega)]
    · obtain ⟨c, c1, c2, c3, c4⟩ := ih (j + 1) b (by omega) h2 (by omega)
        (fun i hi => by by_cases e : i = j; (· subst e; omega); (· exact h4 i (by omega))) h5
      refine ⟨c, c1, Ev.step (fun k => ?_) c2, c3, c4⟩
      simp only [spec_LikeliestPips.l0]
      rw [if_pos (by omega), if_pos (by omega), if_pos (by omega), if_pos (by omega), if_pos (by omega), q_getD, q_getD, if_neg hx, q_wrap j (by omega)]
/-- The greatest of a list that has a greatest at c. -/
theorem q_max (P : List Int) (hP : P.length ≤ 1500) (M : Int) (hle : ∀ i, i < P.length → P.getD i 0 ≤ M) : ∀ (d j : Nat) (m : Int), j + d = P.length → m ≤ M → (m = M ∨ ∃ i, j ≤ i ∧ i < P.length ∧ P.getD i 0 = M) →
    Ev (fun k => slices_Max_int_int.l0 k P m (j : Int)) M := by
  intro d
  induction d with
  | zero =>
    intro j m h1 h2 h3
    have e : m = M := by
      rcases h3 with e | ⟨i, i1, i2, _⟩
      · exact e
      · omega
    subst e
    refine Ev.step (f := fun _ => some m) (fun k => ?_) ⟨0, fun _ _ => rfl⟩
    simp only [slices_Max_int_int.l0]
    rw [if_neg (by omega)]
  | succ d ih =>
    intro j m h1 h2 h3
    have hj := hle j (by omega)
    refine Ev.step (fun k => ?_) (ih (j + 1) (mx m (P.getD j 0)) (by omega) (by unfold mx; split <;> omega) ?_)
    · simp only [slices_Max_int_int.l0]
      rw [if_pos (by omega), if_pos (by omega), q_getD, q_wrap j (by omega)]
    · rcases h3 with e | ⟨i, i1, i2, i3⟩
      · left
        unfold mx
        split <;> omega
      · by_cases e : i = j
        · subst e
          left
          unfold mx
          split <;> omega
        · exact .inr ⟨i, by omega, i2, i3⟩
theorem q_index (P : List Int) (hP : P.length ≤ 1500) (M : Int) (c : Nat) (hc : c < P.length) (hM : P.getD c 0 = M) (hb : ∀ i, i < c → P.getD i 0 ≠ M) : ∀ (d j : Nat), j + d = c → Ev (fun k => slices_Index_int_int.l0 k P M (P.length : Int) (j : Int)) (c : Int) := by
  intro d
  induction d with
  | zero =>
    intro j h1
    obtain rfl : j = c := by omega
    refine Ev.step (f := fun _ => some (j : Int)) (fun k => ?_) ⟨0, fun _ _ => rfl⟩
    simp only [slices_Index_int_int.l0]
    rw [if_pos (by omega), if_pos (by omega), if_pos (by omega), q_getD, if_pos hM.symm]
  | succ d ih =>
    intro j h1
    refine Ev.step (fun k => ?_) (ih (j + 1) (by omega))
    simp only [slices_Index_int_int.l0]
    rw [if_pos (by omega), if_pos (by omega), if_pos (by omega), q_getD, if_neg (fun e => hb j (by omega) e.symm), q_wrap j (by omega)]

/-! ### The sets, told as they are -/
def tsOf (n : Nat) : List S57 := (lst n).map fun p => ⟨p.1, p.2⟩
theorem code_tsOf (n : Nat) : code (tsOf n) = lst n := by
  unfold code tsOf
  rw [List.map_map]
  exact List.map_id _
theorem set_tsOf (n : Fin 7) : Ev (fun k => impl_setOf.f k ((n.val : Nat) : Int)) (tsOf n.val) ∧ Ev (fun k => spec_tiSet.f k ((n.val : Nat) : Int)) (tsOf n.val) ∧ (tsOf n.val).length ≤ 28 ∧ Small (tsOf n.val) ∧ total (tsOf n.val) ≤ 504 ∧ ((tsOf n.val).length : Int) = tl ((n.val : Nat) : Int) := by
  have h1 : ∀ m : Fin 7, ((impl_setOf.f 60 ((m.val : Nat) : Int)).map code) = some (lst m.val) := by decide +kernel
  have h2 : ∀ m : Fin 7, ((spec_tiSet.f 60 ((m.val : Nat) : Int)).map code) = some (lst m.val) := by decide +kernel
  have h3 : ∀ m : Fin 7, decide ((lst m.val).length ≤ 28) = true := by decide +kernel
  have h4 : ∀ m : Fin 7, (lst m.val).all (fun t => decide (0 ≤ t.1 ∧ t.1 ≤ 9 ∧ 0 ≤ t.2 ∧ t.2 ≤ 9)) = true := by decide +kernel
  have h5 : ∀ m : Fin 7, decide (((lst m.val).length : Int) = tl ((m.val : Nat) : Int)) = true := by decide +kernel
  have a1 := h1 n
  have a2 := h2 n
  have a3 := of_decide_eq_true (h3 n)
  have a4 := h4 n
  have a5 := of_decide_eq_true (h5 n)
  clear h1 h2 h3 h4 h5
  have c0 := code_tsOf n.val
  generalize tsOf n.val = ts at c0
  generalize lst n.val = p at *
  obtain ⟨l, hl, hc⟩ := Option.map_eq_some_iff.1 a1
  obtain ⟨l2, hl2, hc2⟩ := Option.map_eq_some_iff.1 a2
  have e : l2 = ts := code_inj _ _ (hc2.trans c0.symm)
  have e' : l = ts := code_inj _ _ (hc.trans c0.symm)
  subst e
  subst e'
  have hlen : (code l).length = l.length := by
    unfold code
    rw [List.length_map]
  rw [hc] at hlen
  have hs := lst_small l p hc a4
  refine ⟨Ev.of (fun k => impl_setOf.mono _ k) hl, Ev.of (fun k => spec_tiSet.mono _ k) hl2, by omega, hs, ?_, by omega⟩
  have h := total_small _ hs l.length (Nat.le_refl _)
  rw [List.take_length] at h
  omega
/-- So many tiles have some sum. -/
theorem ways_some (ts : List S57) : ts.length ≤ 40 → ∀ q, q ≤ ts.length → ∃ s, 1 ≤ ways ts q s := by
  induction ts with
  | nil =>
    intro _ q hq
    refine ⟨0, ?_⟩
    have : q = 0 := by simpa using hq
    subst this
    unfold ways
    simp
  | cons t ts ih =>
    intro hl q hq
    have hl' : ts.length ≤ 40 := by simp at hl; omega
    have hb : (2 ^ ts.length : Nat) ≤ 2 ^ 40 := Nat.pow_le_pow_right (by omega) hl'
    have hc : (2 ^ 40 : Nat) = 1099511627776 := by decide
    rw [hc] at hb
    by_cases hq2 : q ≤ ts.length
    · obtain ⟨s, hs⟩ := ih hl' q hq2
      refine ⟨s, ?_⟩
      have h1 := ways_bound ts hl' q s
      have h2 := ways_bound ts hl' (q - 1) (s - pp t)
      generalize (2 ^ ts.length : Nat) = B at *
      unfold ways
      split
      · unfold wrap64
        omega
      · exact hs
    · have hq3 : q = ts.length + 1 := by simp at hq; omega
      subst hq3
      obtain ⟨s, hs⟩ := ih hl' ts.length (Nat.le_refl _)
      refine ⟨s + pp t, ?_⟩
      have h1 := ways_bound ts hl' (ts.length + 1) (s + pp t)
      have h2 := ways_bound ts hl' ts.length s
      generalize (2 ^ ts.length : Nat) = B at *
      unfold ways
      rw [if_pos ⟨by omega, by omega⟩]
      rw [show ts.length + 1 - 1 = ts.length from rfl, show s + pp t - pp t = s by omega]
      unfold wrap64
      omega
def W (n q s : Nat) : Int := ways (tsOf n).reverse q s
theorem likely_impl (a0 a1 t : Int) (hg2 : impl_isDrawn.f a0 a1 = some (t, true)) (P Q : List Int) (hP : Ev (fun k => impl_withPips.f k a0 a1) P) (lP : P.length = 1001) (lQ : Q.length ≤ 505) (c : Nat) (c1 : c < Q.length)
    (e : ∀ i, i < Q.length → P.getD i 0 = Q.getD i 0) (hle : ∀ i, i < P.length → P.getD i 0 ≤ Q.getD c 0) (c4 : ∀ i, i < c → Q.getD i 0 < Q.getD c 0) : Ev (fun k => impl_LikeliestPips.f k a0 a1) ((c : Int), true) := by
  unfold impl_LikeliestPips.f
  rw [hg2]
  simp only [Option.bind_some, if_true]
  refine Ev.bind (f := fun k t => _) hP ?_
  refine Ev.bind (f := fun k t => _) (show Ev (fun k => slices_Max_int_int.f k P) (Q.getD c 0) from ?_) ?_
  · unfold slices_Max_int_int.f
    simp only [if_neg (show ¬ (P.length : Int) < 1 from by omega), if_pos (show 0 < (P.length : Int) from by omega)]
    refine q_max P (by omega) (Q.getD c 0) hle (P.length - 1) 1 (rd P 0) (by omega) (hle 0 (by omega)) ?_
    by_cases h0 : c = 0
    · left
      rw [show rd P 0 = P.getD 0 0 from rfl, e 0 (by omega), h0]
    · exact .inr ⟨c, by omega, by omega, e c c1⟩
  · refine Ev.bind (f := fun k t => _) (show Ev (fun k => slices_Index_int_int.f k P (Q.getD c 0)) (c : Int) from ?_) ⟨0, fun k _ => rfl⟩
    exact q_index P (by omega) _ c (by omega) (e c c1) (fun i hi he => by have := c4 i hi; rw [e i (by omega)] at he; omega) c 0 (by omega)
/-- All about the sums of the hands of q tiles of the set of n. -/
theorem pips_all (n : Fin 7) (q : Nat) (hq : q ≤ (tsOf n.val).length) : ∃ c : Nat, c ≤ 504 ∧ Ev (fun k => spec_dcPips.f k ((n.val : Nat) : Int) (q : Int)) (row (tsOf n.val).reverse (total (tsOf n.val) + 1) q) ∧
    Ev (fun k => spec_LikeliestPips.f k ((n.val : Nat) : Int) (q : Int)) ((c : Int), true) ∧ Ev (fun k => impl_LikeliestPips.f k ((n.val : Nat) : Int) (q : Int)) ((c : Int), true) ∧
    (∀ s : Nat, s ≤ 1000 → Ev (fun k => impl_CountWithPips.f k ((n.val : Nat) : Int) (q : Int) (s : Int)) (W n.val q s, true)) ∧
    (∀ s : Nat, s ≤ 1000 → W n.val q s ≤ W n.val q c) ∧ (∀ s : Nat, s < c → W n.val q s < W n.val q c) ∧ 1 ≤ W n.val q c := by
  obtain ⟨S1, S2, hl, hsm, htot, htl⟩ := set_tsOf n
  have hg1 : spec_dcGood.f ((n.val : Nat) : Int) (q : Int) = some true := by
    unfold spec_dcGood.f spec_dcTiles.f
    rw [g_l1In_yes _ _ _ (by omega)]
    simp only [Option.bind_some, if_true]
    unfold tl at htl
    rw [g_l1In_yes _ _ _ (by omega)]
    rfl
  have hg2 : impl_isDrawn.f ((n.val : Nat) : Int) (q : Int) = some (tl ((n.val : Nat) : Int), true) := by
    unfold impl_isDrawn.f
    rw [g_within_yes _ _ _ (by omega)]
    simp only [Option.bind_some, if_true]
    unfold tl at htl ⊢
    rw [g_within_yes _ _ _ (by omega)]
    rfl
  clear htl
  generalize tl ((n.val : Nat) : Int) = t at hg2
  have hW : ∀ s, W n.val q s = ways (tsOf n.val).reverse q s := fun s => rfl
  have hsome := ways_some (tsOf n.val).reverse (by simp; omega) q (by simpa using hq)
  have hP := i_all ((n.val : Nat) : Int) q (by omega) (tsOf n.val) (by omega) hsm S1
  have hQ := s_all ((n.val : Nat) : Int) q (by omega) (tsOf n.val) (by omega) hsm S2
  generalize W n.val q = w at hW
  generalize hts : tsOf n.val = ts at *
  clear hts
  have hz : ∀ s, total ts < s → ways ts.reverse q s = 0 := fun s h => ways_zero _ _ _ (by rw [total_reverse]; exact h)
  have h0 : ∀ s, 0 ≤ ways ts.reverse q s := fun s => (ways_bound ts.reverse (by simp; omega) q s).1
  obtain ⟨P, hPe⟩ : ∃ P, P = row ts.reverse 1001 q := ⟨_, rfl⟩
  obtain ⟨Q, hQe⟩ : ∃ Q, Q = row ts.reverse (total ts + 1) q := ⟨_, rfl⟩
  rw [← hPe] at hP
  have lP : P.length = 1001 := by rw [hPe, row_length]
  have lQ : Q.length = total ts + 1 := by rw [hQe, row_length]
  have gP : ∀ s, s < 1001 → P.getD s 0 = ways ts.reverse q s := fun s h => by rw [hPe, row_getD _ _ _ _ h]
  have gQ : ∀ s, s < total ts + 1 → Q.getD s 0 = ways ts.reverse q s := fun s h => by rw [hQe, row_getD _ _ _ _ h]
  rw [← hQe] at hQ ⊢
  obtain ⟨c, c1, c2, c3, c4⟩ := q_best Q (by omega) Q.length 0 0 (by omega) (by omega) (by omega) (fun i hi => by omega) (fun i hi => by omega)
  have e : ∀ i, i < Q.length → P.getD i 0 = Q.getD i 0 := fun i hi => by rw [gP i (by omega), gQ i (by omega)]
  have hall : ∀ s, ways ts.reverse q s ≤ ways ts.reverse q c := by
    intro s
    by_cases hs : s < total ts + 1
    · have := c3 s (by omega)
      rw [gQ s hs, gQ c (by omega)] at this
      exact this
    · rw [hz s (by omega)]
      exact h0 c
  have hle : ∀ i, i < P.length → P.getD i 0 ≤ Q.getD c 0 := by
    intro i hi
    rw [gP i (by omega), gQ c (by omega)]
    exact hall i
  refine ⟨c, by omega, hQ, ?_, ?_, fun s hs => ?_, fun s hs => ?_, fun s hs => ?_, ?_⟩
  · refine Ev.congr (fun k => ?_) (Ev.bind (f := fun k (t289 : List Int) => spec_LikeliestPips.l0 k 0 t289 t289 (t289.length : Int) 0) hQ c2)
    unfold spec_LikeliestPips.f
    rw [hg1]
    simp only [Option.bind_some, if_true]
  · exact likely_impl _ _ _ hg2 P Q hP lP (by omega) c c1 e hle c4
  · refine c_impl_yes _ _ _ _ P _ hg2 (by omega) hP (fun s' e' => ?_)
    have : s' = s := by omega
    subst this
    exact ⟨by omega, by rw [gP s' (by omega), hW]⟩
  · rw [hW, hW]
    exact hall s
  · have := c4 s hs
    rw [gQ s (by omega), gQ c (by omega)] at this
    rw [hW, hW]
    exact this
  · obtain ⟨s, hs⟩ := hsome
    have := hall s
    rw [hW]
    omega
/-! ### The sums over all pips, for small sets: reckoned -/
section
variable {α : Type}
def forceN (n : Nat) (k : Nat → α) : α := match n with
  | 0 => k 0
  | m + 1 => k (m + 1)
theorem forceN_eq (n : Nat) (k : Nat → α) : forceN n k = k n := by cases n <;> rfl
def forceI (x : Int) (k : Int → α) : α := match x with
  | .ofNat n => forceN n fun m => k (.ofNat m)
  | .negSucc n => forceN n fun m => k (.negSucc m)
theorem forceI_eq (x : Int) (k : Int → α) : forceI x k = k x := by
  cases x <;> simp only [forceI, forceN_eq]
def nf : List Int → (List Int → α) → α
  | [], k => k []
  | x :: xs, k => forceI x fun y => nf xs fun ys => k (y :: ys)
theorem nf_eq : ∀ (l : List Int) (k : List Int → α), nf l k = k l
  | [], _ => rfl
  | x :: xs, k => by simp only [nf, forceI_eq, nf_eq xs]
def nf2 : List (List Int) → (List (List Int) → α) → α
  | [], k => k []
  | x :: xs, k => nf x fun y => nf2 xs fun ys => k (y :: ys)
theorem nf2_eq : ∀ (l : List (List Int)) (k : List (List Int) → α), nf2 l k = k l
  | [], _ => rfl
  | x :: xs, k => by simp only [nf2, nf_eq, nf2_eq xs]
/-- The tables, tile by tile, each number reckoned at once. -/
def tbF : List S57 → (List (List Int) → α) → α
  | [], k => nf2 (tab [] 61 10) k
  | t :: ts, k => tbF ts fun x => nf2 (updAll (pp t) 61 10 x) k
theorem tbF_eq : ∀ (ts : List S57) (k : List (List Int) → α), tbF ts k = k (tab ts 61 10)
  | [], k => by rw [tbF, nf2_eq]
  | t :: ts, k => by rw [tbF, tbF_eq ts, nf2_eq, tab_next]
end
def sumA (r : List Int) : Nat → Int
  | 0 => 0
  | m + 1 => wrap64 (sumA r m + r.getD m 0)
def sumB (r : List Int) : Nat → Int
  | 0 => 0
  | m + 1 => wrap64 (sumB r m + wrap64 ((m : Int) * r.getD m 0))
def pipOk (n q : Nat) (r : List Int) : Bool := match impl_CountHands.f 60 (n : Int) (q : Int) with
  | some (h, true) => forceI h fun h => (List.range 61).all (fun s => match impl_ratio.f 100 (r.getD s 0) h with
      | some (a, b) => (match laws_iTimes.f a b h with
        | some w => decide (w = r.getD s 0)
        | none => false)
      | none => false) && (decide (sumA r 61 = h) && decide (sumB r 61 = wrap64 (wrap64 (h * (q : Int)) * (n : Int))))
  | _ => false
theorem tabs3 : ∀ n : Fin 4, tbF (tsOf n.val).reverse (fun T => (List.range 11).all fun q => !decide (q ≤ (tsOf n.val).length) || pipOk n.val q (T.getD q [])) = true := by decide +kernel
theorem pips3 (n q : Nat) (hn : n ≤ 3) (hq : q ≤ (tsOf n).length) : pipOk n q (row (tsOf n).reverse 61 q) = true := by
  have h10 : ∀ m : Fin 4, decide ((tsOf m.val).length ≤ 10) = true := by decide +kernel
  have h10' := of_decide_eq_true (h10 ⟨n, by omega⟩)
  simp only at h10'
  have h := tabs3 ⟨n, by omega⟩
  rw [tbF_eq] at h
  have h2 := List.all_eq_true.1 h q (by rw [List.mem_range]; omega)
  simp only [tab_getD _ _ _ _ (show q ≤ 10 by omega), decide_eq_true hq, Bool.not_true, Bool.false_or] at h2
  exact h2

end Go.Proofs.Ytfaobohggphaaaa.QPureA
