/- For every input the law FnExactIsSolution answers true: the plain statement over lists and numbers. No conditions. -/
import Derived.Test.YtncogkhhecgcbaaQFnExactIsSolutionx1
import Derived.Test.YtncogkhhecgcbaaQFnExactIsSolutionx2
import Derived.Test.YtncogkhhecgcbaaQFnExactIsSolutionx3
import Derived.Test.YtncogkhhecgcbaaQFnExactIsSolutionx4
import Derived.Test.YtncogkhhecgcbaaQFnExactIsSolutionx5
import Derived.Test.YtncogkhhecgcbaaQFnExactIsSolutionx6
import Derived.Test.YtncogkhhecgcbaaQFnExactIsSolutionx7
import Derived.Test.YtncogkhhecgcbaaQFnExactIsSolutionx8
import Derived.Test.YtncogkhhecgcbaaQFnExactIsSolutionx9
import Derived.Test.YtncogkhhecgcbaaQFnExactIsSolutionx10
import Derived.Test.YtncogkhhecgcbaaQFnExactIsSolutionx11
namespace Go.Proofs.Ytncogkhhecgcbaa.QPure
open Go.RowKit Go.Proofs.Ytncogkhhecgcbaa.QFnExactIsSolution Go.Proofs.YtncogkhhecgcbaaW.PrintWords Go.Proofs.YtncogkhhecgcbaaW.PrintLast

set_option linter.unusedVariables false
set_option linter.unusedSimpArgs false
/-! Hands and their order, in plain words. -/
theorem t_eta (x : S55) : (⟨x.f0, x.f1⟩ : S55) = x := rfl
theorem t_ext (x y : S55) (h0 : x.f0 = y.f0) (h1 : x.f1 = y.f1) : x = y := by
  cases x
  cases y
  simp_all
instance t_dec : DecidableEq S55 := fun x y => if h : x.f0 = y.f0 ∧ x.f1 = y.f1 then isTrue (t_ext x y h.1 h.2) else isFalse (fun e => h (by subst e; exact ⟨rfl, rfl⟩))
theorem t_beq (x y : S55) : (x.f0 == y.f0 && (x.f1 == y.f1)) = decide (x = y) := by
  by_cases h : x = y
  · subst h
    simp
  · have : ¬ (x.f0 = y.f0 ∧ x.f1 = y.f1) := fun e => h (t_ext x y e.1 e.2)
    rw [decide_eq_false h]
    by_cases h0 : x.f0 = y.f0
    · have h1 : ¬ x.f1 = y.f1 := fun e => this ⟨h0, e⟩
      simp [h1]
    · simp [h0]
theorem t_mid (pre : List S55) (x : S55) (xs : List S55) (d : S55) : (pre ++ x :: xs).getD pre.length d = x := by
  rw [List.getD_eq_getElem?_getD, List.getElem?_append_right (Nat.le_refl _), Nat.sub_self]
  rfl
theorem t_wrap (n : Int) (h : -1000000000 ≤ n) (h' : n ≤ 1000000000) : wrap64 n = n := by
  unfold wrap64
  omega

theorem t_wrap2 (n : Int) (h : -1000000000000 ≤ n) (h' : n ≤ 1000000000000) : wrap64 n = n := by
  unfold wrap64
  omega

def good (x : S55) : Bool := decide (0 ≤ x.f0) && (decide (x.f0 ≤ x.f1) && decide (x.f1 ≤ 9))
theorem good_iff (x : S55) : good x = true ↔ 0 ≤ x.f0 ∧ x.f0 ≤ x.f1 ∧ x.f1 ≤ 9 := by
  unfold good
  simp
theorem tiGood_f (x : S55) : spec_tiGood.f x.f0 x.f1 = some (good x) := by
  unfold spec_tiGood.f spec_l1In.f good
  by_cases h1 : 0 ≤ x.f0
  · have h1' : x.f0 ≥ 0 := h1
    rw [if_pos h1']
    by_cases h2 : x.f0 ≤ x.f1
    · simp [h1, h2]
    · simp [h1, h2]
  · have h1' : ¬ x.f0 ≥ 0 := h1
    rw [if_neg h1']
    simp [h1]

/-- The first place of a tile behind pre. -/
theorem place_ev (t : S55) : ∀ (rest pre : List S55), (pre ++ rest).length ≤ 2000000 → ∃ r : Int, Ev (fun k => spec_tiPlace.l0 k (pre ++ rest) ((pre ++ rest).length : Int) (pre.length : Int) t.f0 t.f1) r ∧ decide (r ≥ 0) = decide (t ∈ rest) := by
  intro rest
  induction rest with
  | nil =>
    intro pre hl
    refine ⟨-1, Ev.step (f := fun _ => some (-1)) (fun k => ?_) (Ev.now _), by simp⟩
    simp only [spec_tiPlace.l0, List.append_nil]
    rw [if_neg (by omega)]
  | cons x xs ih =>
    intro pre hl
    have hlen : (pre ++ x :: xs).length = pre.length + xs.length + 1 := by simp; omega
    have hget : rd_T55 (pre ++ x :: xs) (pre.length : Int) = x := by
      unfold rd_T55
      exact t_mid pre x xs _
    by_cases e : x = t
    · refine ⟨(pre.length : Int), Ev.step (f := fun _ => some (pre.length : Int)) (fun k => ?_) (Ev.now _), by simp [e]⟩
      simp only [spec_tiPlace.l0]
      rw [if_pos (by omega), if_pos (by omega), if_pos (by omega), hget, t_beq, if_pos (by simp [e])]
    · obtain ⟨r, h1, h2⟩ := ih (pre ++ [x]) (by simpa using hl)
      have e1 : pre ++ [x] ++ xs = pre ++ x :: xs := by simp
      rw [e1] at h1
      refine ⟨r, Ev.step (fun k => ?_) h1, by rw [h2]; simp [Ne.symm e]⟩
      simp only [spec_tiPlace.l0]
      rw [if_pos (by omega), if_pos (by omega), if_pos (by omega), hget, t_beq, if_neg (by simp [e]), t_wrap ((pre.length : Int) + 1) (by omega) (by omega)]
      simp
theorem place_f (t : S55) (l : List S55) (hl : l.length ≤ 2000000) : ∃ r : Int, Ev (fun k => spec_tiPlace.f k l t.f0 t.f1) r ∧ decide (r ≥ 0) = decide (t ∈ l) := place_ev t l [] hl

/-- .. and the program's. -/
theorem index_ev (t : S55) : ∀ (rest pre : List S55), (pre ++ rest).length ≤ 2000000 → ∃ r : Int, Ev (fun k => slices_Index_impl_Tile_impl_Tile.l0 k (pre ++ rest) ((pre ++ rest).length : Int) (pre.length : Int) t.f0 t.f1) r ∧ decide (r ≥ 0) = decide (t ∈ rest) := by
  intro rest
  induction rest with
  | nil =>
    intro pre hl
    refine ⟨-1, Ev.step (f := fun _ => some (-1)) (fun k => ?_) (Ev.now _), by simp⟩
    simp only [slices_Index_impl_Tile_impl_Tile.l0, List.append_nil]
    rw [if_neg (by omega)]
  | cons x xs ih =>
    intro pre hl
    have hlen : (pre ++ x :: xs).length = pre.length + xs.length + 1 := by simp; omega
    have hget : rd_T55 (pre ++ x :: xs) (pre.length : Int) = x := by
      unfold rd_T55
      exact t_mid pre x xs _
    by_cases e : t = x
    · refine ⟨(pre.length : Int), Ev.step (f := fun _ => some (pre.length : Int)) (fun k => ?_) (Ev.now _), by simp [e]⟩
      simp only [slices_Index_impl_Tile_impl_Tile.l0]
      rw [if_pos (by omega), if_pos (by omega), if_pos (by omega), hget, t_beq, if_pos (by simp [e])]
    · obtain ⟨r, h1, h2⟩ := ih (pre ++ [x]) (by simpa using hl)
      have e1 : pre ++ [x] ++ xs = pre ++ x :: xs := by simp
      rw [e1] at h1
      refine ⟨r, Ev.step (fun k => ?_) h1, by rw [h2]; simp [e]⟩
      simp only [slices_Index_impl_Tile_impl_Tile.l0]
      rw [if_pos (by omega), if_pos (by omega), if_pos (by omega), hget, t_beq, if_neg (by simp [e]), t_wrap ((pre.length : Int) + 1) (by omega) (by omega)]
      simp
theorem contains_f (t : S55) (l : List S55) (hl : l.length ≤ 2000000) : Ev (fun k => slices_Contains_impl_Tile_impl_Tile.f k l t.f0 t.f1) (decide (t ∈ l)) := by
  obtain ⟨r, h1, h2⟩ := index_ev t l [] hl
  rw [← h2]
  exact Ev.bind (f := fun _ t177 => (some (decide (t177 ≥ 0)))) h1 ⟨0, fun k _ => rfl⟩

/-- No two the same, behind pre. -/
def nd : List S55 → List S55 → Bool
  | _, [] => true
  | pre, x :: xs => !decide (x ∈ pre) && nd (pre ++ [x]) xs
def hb : List S55 → List S55 → Bool
  | _, [] => true
  | pre, x :: xs => good x && (!decide (x ∈ pre) && hb (pre ++ [x]) xs)
theorem hb_nd : ∀ (rest pre : List S55), hb pre rest = (rest.all good && nd pre rest) := by
  intro rest
  induction rest with
  | nil => intro pre; rfl
  | cons x xs ih =>
    intro pre
    unfold hb nd
    rw [ih, List.all_cons]
    cases good x <;> cases decide (x ∈ pre) <;> cases xs.all good <;> simp
theorem nd_nodup : ∀ (rest pre : List S55), nd pre rest = true → (∀ x ∈ rest, x ∉ pre) ∧ rest.Nodup := by
  intro rest
  induction rest with
  | nil => intro pre _; exact ⟨(fun x h => by cases h), List.nodup_nil⟩
  | cons x xs ih =>
    intro pre h
    unfold nd at h
    simp only [Bool.and_eq_true, Bool.not_eq_true', decide_eq_false_iff_not] at h
    obtain ⟨h1, h2⟩ := ih _ h.2
    refine ⟨fun y hy => ?_, ?_⟩
    · rcases List.mem_cons.1 hy with rfl | hy
      · exact h.1
      · exact fun hp => h1 y hy (List.mem_append_left _ hp)
    · rw [List.nodup_cons]
      exact ⟨fun hx => h1 x hx (by simp), h2⟩

theorem tiHand_ev : ∀ (rest pre : List S55), (pre ++ rest).length ≤ 2000000 → Ev (fun k => spec_tiHand.l0 k (pre ++ rest) (pre ++ rest) ((pre ++ rest).length : Int) (pre.length : Int)) (hb pre rest) := by
  intro rest
  induction rest with
  | nil =>
    intro pre hl
    refine Ev.step (f := fun _ => some true) (fun k => ?_) (Ev.now _)
    simp only [spec_tiHand.l0, List.append_nil]
    rw [if_neg (by omega)]
  | cons x xs ih =>
    intro pre hl
    have hlen : (pre ++ x :: xs).length = pre.length + xs.length + 1 := by simp; omega
    have hget : rd_T55 (pre ++ x :: xs) (pre.length : Int) = x := by
      unfold rd_T55
      exact t_mid pre x xs _
    have htake : (pre ++ x :: xs).take ((pre.length : Int)).toNat = pre := by simp
    cases hg : good x
    · refine Ev.step (f := fun _ => some (hb pre (x :: xs))) (fun k => ?_) (Ev.now _)
      simp only [spec_tiHand.l0]
      rw [if_pos (by omega), if_pos (by omega), if_pos (by omega), hget, tiGood_f, hg]
      simp [hb, hg]
    · obtain ⟨r, h1, h2⟩ := place_f x pre (by omega)
      have e1 : pre ++ [x] ++ xs = pre ++ x :: xs := by simp
      have hi := ih (pre ++ [x]) (by simpa using hl)
      rw [e1] at hi
      refine Ev.step (f := fun k => (spec_tiPlace.f k pre x.f0 x.f1).bind fun t123 => (if t123 ≥ 0 then (some false) else (spec_tiHand.l0 k (pre ++ x :: xs) (pre ++ x :: xs) ((pre ++ x :: xs).length : Int) (((pre ++ [x]).length : Nat) : Int)))) (fun k => ?_) ?_
      · simp only [spec_tiHand.l0]
        rw [if_pos (by omega), if_pos (by omega), if_pos (by omega), hget, tiGood_f, hg]
        simp only [Option.bind_some, if_true]
        rw [if_pos (by omega), htake, t_wrap ((pre.length : Int) + 1) (by omega) (by omega)]
        simp
      · refine Ev.bind (f := fun k t123 => (if t123 ≥ 0 then (some false) else (spec_tiHand.l0 k (pre ++ x :: xs) (pre ++ x :: xs) ((pre ++ x :: xs).length : Int) (((pre ++ [x]).length : Nat) : Int)))) h1 ?_
        by_cases hm : x ∈ pre
        · have hr : r ≥ 0 := by
            rw [decide_eq_true hm] at h2
            exact of_decide_eq_true h2
          refine ⟨0, fun k _ => ?_⟩
          (try dsimp only)
          rw [if_pos hr]
          simp [hb, hm]
        · have hr : ¬ r ≥ 0 := by
            rw [decide_eq_false hm] at h2
            exact of_decide_eq_false h2
          refine Ev.congr (fun k => ?_) (show Ev _ (hb pre (x :: xs)) from by
            have : hb pre (x :: xs) = hb (pre ++ [x]) xs := by simp [hb, hg, hm]
            rw [this]
            exact hi)
          (try dsimp only)
          rw [if_neg hr]

theorem areDiff_ev : ∀ (rest pre : List S55), (pre ++ rest).length ≤ 2000000 → Ev (fun k => impl_areDifferent_impl_Tile.l0 k (pre ++ rest) (pre ++ rest) ((pre ++ rest).length : Int) (pre.length : Int)) (nd pre rest) := by
  intro rest
  induction rest with
  | nil =>
    intro pre hl
    refine Ev.step (f := fun _ => some true) (fun k => ?_) (Ev.now _)
    simp only [impl_areDifferent_impl_Tile.l0, List.append_nil]
    rw [if_neg (by omega)]
  | cons x xs ih =>
    intro pre hl
    have hlen : (pre ++ x :: xs).length = pre.length + xs.length + 1 := by simp; omega
    have hget : rd_T55 (pre ++ x :: xs) (pre.length : Int) = x := by
      unfold rd_T55
      exact t_mid pre x xs _
    have htake : (pre ++ x :: xs).take ((pre.length : Int)).toNat = pre := by simp
    have h1 := contains_f x pre (by omega)
    have e1 : pre ++ [x] ++ xs = pre ++ x :: xs := by simp
    have hi := ih (pre ++ [x]) (by simpa using hl)
    rw [e1] at hi
    refine Ev.step (f := fun k => (slices_Contains_impl_Tile_impl_Tile.f k pre x.f0 x.f1).bind fun t184 => (if t184 = true then (some false) else (impl_areDifferent_impl_Tile.l0 k (pre ++ x :: xs) (pre ++ x :: xs) ((pre ++ x :: xs).length : Int) (((pre ++ [x]).length : Nat) : Int)))) (fun k => ?_) ?_
    · simp only [impl_areDifferent_impl_Tile.l0]
      rw [if_pos (by omega), if_pos (by omega), if_pos (by omega), if_pos (by omega), hget, htake, t_wrap ((pre.length : Int) + 1) (by omega) (by omega)]
      simp
    · refine Ev.bind (f := fun k t184 => (if t184 = true then (some false) else (impl_areDifferent_impl_Tile.l0 k (pre ++ x :: xs) (pre ++ x :: xs) ((pre ++ x :: xs).length : Int) (((pre ++ [x]).length : Nat) : Int)))) h1 ?_
      by_cases hm : x ∈ pre
      · refine ⟨0, fun k _ => ?_⟩
        simp [nd, hm]
      · refine Ev.congr (fun k => ?_) (show Ev _ (nd pre (x :: xs)) from by
          have : nd pre (x :: xs) = nd (pre ++ [x]) xs := by simp [nd, hm]
          rw [this]
          exact hi)
        simp only [hm, decide_false, Bool.false_eq_true, if_false]

theorem noTile_good (x : S55) : noTile x = !good x := rfl
theorem any_no (l : List S55) : l.any noTile = !l.all good := by
  induction l with
  | nil => rfl
  | cons x xs ih => rw [List.any_cons, List.all_cons, ih, noTile_good]; cases good x <;> simp

/-- Is it a hand? The same on both sides. -/
def isH (l : List S55) : Bool := decide (l.length ≤ 55) && (l.all good && nd [] l)
theorem isH_spec (l : List S55) (hl : l.length ≤ 2000000) : Ev (fun k => spec_tiHand.f k l) (isH l) := by
  by_cases h : l.length ≤ 55
  · have hi := tiHand_ev l [] hl
    rw [hb_nd] at hi
    refine Ev.congr (fun k => ?_) (show Ev _ (isH l) from by
      have : isH l = (l.all good && nd [] l) := by simp [isH, h]
      rw [this]
      exact hi)
    unfold spec_tiHand.f
    rw [if_neg (by omega)]
    rfl
  · refine ⟨0, fun k _ => ?_⟩
    show spec_tiHand.f k l = _
    unfold spec_tiHand.f
    rw [if_pos (by omega)]
    simp [isH, h]
theorem isH_impl (l : List S55) (hl : l.length ≤ 2000000) : Ev (fun k => impl_IsHand.f k l) (isH l) := by
  by_cases h : l.length ≤ 55
  · cases hg : l.all good
    · refine ⟨0, fun k _ => ?_⟩
      show impl_IsHand.f k l = _
      unfold impl_IsHand.f
      rw [if_pos (by omega), any_no, hg]
      simp [isH, hg]
    · have hi := areDiff_ev l [] hl
      refine Ev.congr (fun k => ?_) (show Ev _ (isH l) from by
        have : isH l = nd [] l := by simp [isH, h, hg]
        rw [this]
        exact hi)
      unfold impl_IsHand.f
      rw [if_pos (by omega), any_no, hg]
      simp only [Bool.not_true, Bool.false_eq_true, if_false]
      rfl
  · refine ⟨0, fun k _ => ?_⟩
    show impl_IsHand.f k l = _
    unfold impl_IsHand.f
    rw [if_neg (by omega)]
    simp [isH, h]
theorem isH_true (l : List S55) (h : isH l = true) : l.length ≤ 55 ∧ (∀ x ∈ l, good x = true) ∧ l.Nodup := by
  unfold isH at h
  simp only [Bool.and_eq_true, decide_eq_true_eq] at h
  exact ⟨h.1, List.all_eq_true.1 h.2.1, (nd_nodup l [] h.2.2).2⟩

/-! ### Order -/
def lt (x y : S55) : Prop := x.f0 < y.f0 ∨ (x.f0 = y.f0 ∧ x.f1 < y.f1)
theorem lt_irrefl (x : S55) : ¬ lt x x := by
  unfold lt
  omega
theorem lt_trans {x y z : S55} (h : lt x y) (k : lt y z) : lt x z := by
  unfold lt at *
  omega
theorem lt_asymm {x y : S55} (h : lt x y) : ¬ lt y x := by
  unfold lt at *
  omega
theorem cmpT_neg (x y : S55) (hx : good x = true) (hy : good y = true) : cmpT x y < 0 ↔ lt x y := by
  rw [good_iff] at hx hy
  unfold cmpT lt
  by_cases h : x.f0 = y.f0
  · rw [if_pos h, t_wrap _ (by omega) (by omega)]
    omega
  · rw [if_neg h, t_wrap _ (by omega) (by omega)]
    omega
theorem lt_total (x y : S55) (h : ¬ lt x y) (k : x ≠ y) : lt y x := by
  have : ¬ (x.f0 = y.f0 ∧ x.f1 = y.f1) := fun e => k (t_ext x y e.1 e.2)
  unfold lt at *
  omega

theorem uniq : ∀ (a b : List S55), a.Pairwise lt → b.Pairwise lt → (∀ x, x ∈ a ↔ x ∈ b) → a = b := by
  intro a
  induction a with
  | nil =>
    intro b _ _ h
    cases b with
    | nil => rfl
    | cons y ys => exact absurd ((h y).2 List.mem_cons_self) (by simp)
  | cons x xs ih =>
    intro b ha hb h
    cases b with
    | nil => exact absurd ((h x).1 List.mem_cons_self) (by simp)
    | cons y ys =>
      rw [List.pairwise_cons] at ha hb
      have e : x = y := by
        rcases List.mem_cons.1 ((h x).1 List.mem_cons_self) with e | e
        · exact e
        · rcases List.mem_cons.1 ((h y).2 List.mem_cons_self) with e2 | e2
          · exact e2.symm
          · exact absurd (ha.1 y e2) (lt_asymm (hb.1 x e))
      subst e
      congr 1
      refine ih ys ha.2 hb.2 (fun z => ?_)
      constructor
      · intro hz
        rcases List.mem_cons.1 ((h z).1 (List.mem_cons_of_mem _ hz)) with e | e
        · subst e
          exact absurd (ha.1 z hz) (lt_irrefl z)
        · exact e
      · intro hz
        rcases List.mem_cons.1 ((h z).2 (List.mem_cons_of_mem _ hz)) with e | e
        · subst e
          exact absurd (hb.1 z hz) (lt_irrefl z)
        · exact e

theorem sortedT_iff : ∀ (l : List S55), (∀ x ∈ l, good x = true) → l.Nodup → (sortedT l = true ↔ l.Pairwise lt) := by
  intro l
  induction l with
  | nil => intro _ _; exact ⟨fun _ => List.Pairwise.nil, fun _ => rfl⟩
  | cons x xs ih =>
    intro hg hn
    rw [List.nodup_cons] at hn
    have hgx := hg x List.mem_cons_self
    have hi := ih (fun y hy => hg y (List.mem_cons_of_mem _ hy)) hn.2
    unfold sortedT
    cases xs with
    | nil => simp [sortedT]
    | cons y ys =>
      have hgy := hg y (by simp)
      simp only [Bool.and_eq_true, Bool.not_eq_true', decide_eq_false_iff_not]
      rw [hi, cmpT_neg y x hgy hgx]
      constructor
      · rintro ⟨h1, h2⟩
        have hxy : lt x y := lt_total y x h1 (fun e => hn.1 (by rw [← e]; exact List.mem_cons_self))
        refine List.pairwise_cons.2 ⟨fun z hz => ?_, h2⟩
        rcases List.mem_cons.1 hz with rfl | hz
        · exact hxy
        · exact lt_trans hxy ((List.pairwise_cons.1 h2).1 z hz)
      · intro h
        obtain ⟨h1, h2⟩ := List.pairwise_cons.1 h
        exact ⟨lt_asymm (h1 y List.mem_cons_self), h2⟩

/-! ### The whole set -/
def code (l : List S55) : List (Int × Int) := l.map fun t => (t.f0, t.f1)
theorem code_inj (a b : List S55) (h : code a = code b) : a = b := by
  unfold code at h
  induction a generalizing b with
  | nil => cases b with
    | nil => rfl
    | cons y b => simp at h
  | cons x a ih => cases b with
    | nil => simp at h
    | cons y b =>
      simp only [List.map_cons, List.cons.injEq, Prod.mk.injEq] at h
      rw [ih b h.2]
      cases x
      cases y
      simp_all
def lst (n : Nat) : List (Int × Int) := (List.range (n + 1)).flatMap fun a => (List.range (n + 1 - a)).map fun b => ((a : Int), ((a + b : Nat) : Int))
/-- The tiles of the set of 9: in order, all, and none but them. -/
theorem whole : ∃ A : List S55, Ev (fun k => spec_tiSet.f k 9) A ∧ A.length = 55 ∧ A.Pairwise lt ∧ (∀ x, x ∈ A ↔ good x = true) := by
  have h2 : ((spec_tiSet.f 100 9).map code) = some (lst 9) := by decide +kernel
  obtain ⟨A, hA, hc⟩ := Option.map_eq_some_iff.1 h2
  have hl : (lst 9).length = 55 := by decide +kernel
  have hp : (lst 9).Pairwise (fun x y => x.1 < y.1 ∨ (x.1 = y.1 ∧ x.2 < y.2)) := by decide +kernel
  have hg : ∀ p ∈ lst 9, 0 ≤ p.1 ∧ p.1 ≤ p.2 ∧ p.2 ≤ 9 := by decide +kernel
  have hall : ∀ a : Fin 10, ∀ b : Fin 10, a.val ≤ b.val → (((a.val : Nat) : Int), ((b.val : Nat) : Int)) ∈ lst 9 := by decide +kernel
  generalize lst 9 = P at hc hl hp hg hall
  subst hc
  refine ⟨A, Ev.of (fun k => spec_tiSet.mono _ k) hA, ?_, ?_, fun x => ?_⟩
  · unfold code at hl
    rw [List.length_map] at hl
    exact hl
  · unfold code at hp
    rw [List.pairwise_map] at hp
    exact hp
  · constructor
    · intro hx
      rw [good_iff]
      exact hg (x.f0, x.f1) (by unfold code; exact List.mem_map.2 ⟨x, hx, rfl⟩)
    · intro hx
      rw [good_iff] at hx
      have := hall ⟨x.f0.toNat, by omega⟩ ⟨x.f1.toNat, by omega⟩ (by simp; omega)
      simp only at this
      rw [Int.toNat_of_nonneg (by omega), Int.toNat_of_nonneg (by omega)] at this
      unfold code at this
      obtain ⟨y, hy, e⟩ := List.mem_map.1 this
      simp only [Prod.mk.injEq] at e
      have : y = x := t_ext y x e.1 e.2
      rw [← this]
      exact hy

theorem pick_ev (l : List S55) (hl : l.length ≤ 2000000) (b : Bool) : ∀ (rest pre out : List S55), (pre ++ rest).length ≤ 1000 → out.length ≤ pre.length →
    Ev (fun k => spec_tiPick.l0 k l b out (pre ++ rest) ((pre ++ rest).length : Int) (pre.length : Int)) (out ++ rest.filter fun x => decide (x ∈ l) == b) := by
  intro rest
  induction rest with
  | nil =>
    intro pre out h1 h2
    refine Ev.step (f := fun _ => some (out ++ [])) (fun k => ?_) (Ev.now _)
    simp only [spec_tiPick.l0, List.append_nil]
    rw [if_neg (by omega)]
  | cons x xs ih =>
    intro pre out h1 h2
    have hlen : (pre ++ x :: xs).length = pre.length + xs.length + 1 := by simp; omega
    have hget : rd_T55 (pre ++ x :: xs) (pre.length : Int) = x := by
      unfold rd_T55
      exact t_mid pre x xs _
    obtain ⟨r, p1, p2⟩ := place_f x l hl
    have e1 : pre ++ [x] ++ xs = pre ++ x :: xs := by simp
    refine Ev.step (f := fun k => (spec_tiPlace.f k l x.f0 x.f1).bind fun t135 => (if ((decide (t135 ≥ 0)) == b) = true then (spec_tiPick.l0 k l b (out ++ [x]) (pre ++ x :: xs) ((pre ++ x :: xs).length : Int) (((pre ++ [x]).length : Nat) : Int)) else (spec_tiPick.l0 k l b out (pre ++ x :: xs) ((pre ++ x :: xs).length : Int) (((pre ++ [x]).length : Nat) : Int)))) (fun k => ?_) ?_
    · simp only [spec_tiPick.l0]
      rw [if_pos (by omega), if_pos (by omega), if_pos (by omega), hget, t_wrap ((pre.length : Int) + 1) (by omega) (by omega), if_pos (by omega)]
      simp
    · refine Ev.bind (f := fun k t135 => (if ((decide (t135 ≥ 0)) == b) = true then (spec_tiPick.l0 k l b (out ++ [x]) (pre ++ x :: xs) ((pre ++ x :: xs).length : Int) (((pre ++ [x]).length : Nat) : Int)) else (spec_tiPick.l0 k l b out (pre ++ x :: xs) ((pre ++ x :: xs).length : Int) (((pre ++ [x]).length : Nat) : Int)))) p1 ?_
      rw [List.filter_cons]
      cases hd : (decide (x ∈ l) == b)
      · have hi := ih (pre ++ [x]) out (by simpa using h1) (by simp; omega)
        rw [e1] at hi
        refine Ev.congr (fun k => ?_) (by simpa using hi)
        (try dsimp only)
        rw [p2, hd]
        simp
      · have hi := ih (pre ++ [x]) (out ++ [x]) (by simpa using h1) (by simp; omega)
        rw [e1] at hi
        refine Ev.congr (fun k => ?_) (by simpa using hi)
        (try dsimp only)
        rw [p2, hd]
        simp

theorem len_le : ∀ (a b : List S55), a.Nodup → (∀ x, x ∈ a → x ∈ b) → a.length ≤ b.length := by
  intro a
  induction a with
  | nil => intro b _ _; simp
  | cons x xs ih =>
    intro b hn h
    rw [List.nodup_cons] at hn
    have hx := h x List.mem_cons_self
    have := ih (b.erase x) hn.2 (fun y hy => (List.mem_erase_of_ne (fun e => hn.1 (by rw [← e]; exact hy))).2 (h y (List.mem_cons_of_mem _ hy)))
    rw [List.length_erase_of_mem hx] at this
    have hp : 0 < b.length := List.length_pos_of_mem hx
    simp
    omega
theorem len_eq (a b : List S55) (ha : a.Nodup) (hb : b.Nodup) (h : ∀ x, x ∈ a ↔ x ∈ b) : a.length = b.length :=
  Nat.le_antisymm (len_le a b ha (fun x hx => (h x).1 hx)) (len_le b a hb (fun x hx => (h x).2 hx))

/-- A hand in order. -/
theorem sort_f (l : List S55) (h : isH l = true) : ∃ s : List S55, Ev (fun k => spec_tiSort.f k l) s ∧ s.length = l.length ∧ s.Pairwise lt ∧ (∀ x, x ∈ s ↔ x ∈ l) ∧ decide (s = l) = sortedT l := by
  obtain ⟨h1, h2, h3⟩ := isH_true l h
  obtain ⟨A, hA, hl, hp, hm⟩ := whole
  have hk := pick_ev l (by omega) true A [] [] (by simp; omega) (by simp)
  simp only [List.nil_append] at hk
  have hmem : ∀ x, x ∈ A.filter (fun x => decide (x ∈ l) == true) ↔ x ∈ l := by
    intro x
    rw [List.mem_filter, hm]
    constructor
    · rintro ⟨_, h⟩
      simpa using h
    · intro h
      exact ⟨h2 x h, by simp [h]⟩
  have hps := hp.filter (fun x => decide (x ∈ l) == true)
  have hnd : ∀ (s : List S55), s.Pairwise lt → s.Nodup := fun s hs => hs.imp (fun {a b} hab e => by subst e; exact lt_irrefl a hab)
  refine ⟨A.filter (fun x => decide (x ∈ l) == true), ?_, ?_, hps, hmem, ?_⟩
  · refine Ev.congr (fun k => ?_) (Ev.bind (f := fun k t130 => (spec_tiPick.l0 k l true [] t130 (t130.length : Int) 0)) hA hk)
    unfold spec_tiSort.f spec_tiPick.f
    cases spec_tiSet.f k 9 with
    | none => rfl
    | some t =>
      simp only [Option.bind_some]
      cases spec_tiPick.l0 k l true [] t (t.length : Int) 0 with
      | none => rfl
      | some u => rfl
  · exact len_eq _ _ (hnd _ hps) h3 hmem
  · by_cases e : A.filter (fun x => decide (x ∈ l) == true) = l
    · rw [decide_eq_true e]
      rw [e] at hps
      exact ((sortedT_iff l h2 h3).2 hps).symm
    · rw [decide_eq_false e]
      cases hs : sortedT l
      · rfl
      · exact absurd (uniq _ _ hps ((sortedT_iff l h2 h3).1 hs) hmem) e

/-! Tiles of the laws and of the program; lists that are compared with themselves. -/
def conv (x : S74) : S55 := ⟨x.f0, x.f1⟩
theorem m_mid (pre : List S74) (x : S74) (xs : List S74) (d : S74) : (pre ++ x :: xs).getD pre.length d = x := by
  rw [List.getD_eq_getElem?_getD, List.getElem?_append_right (Nat.le_refl _), Nat.sub_self]
  rfl
theorem toTileS_ev : ∀ (rest pre : List S74), (pre ++ rest).length ≤ 100000000 → Ev (fun k => laws_toTileS.l0 k (pre ++ rest) (pre.map conv ++ List.replicate rest.length z55) (pre.length : Int)) ((pre ++ rest).map conv) := by
  intro rest
  induction rest with
  | nil =>
    intro pre hl
    refine Ev.step (f := fun _ => some ((pre ++ []).map conv)) (fun k => ?_) (Ev.now _)
    simp only [laws_toTileS.l0, List.append_nil]
    rw [if_neg (by omega)]
    simp
  | cons x xs ih =>
    intro pre hl
    have hlen : (pre ++ x :: xs).length = pre.length + xs.length + 1 := by simp; omega
    have hlen2 : (pre.map conv ++ List.replicate (x :: xs).length z55).length = pre.length + xs.length + 1 := by simp; omega
    have hget : rd_T74 (pre ++ x :: xs) (pre.length : Int) = x := by
      unfold rd_T74
      exact m_mid pre x xs _
    have hset : (pre.map conv ++ List.replicate (x :: xs).length z55).set ((pre.length : Int)).toNat (⟨x.f0, x.f1⟩ : S55) = (pre ++ [x]).map conv ++ List.replicate xs.length z55 := by
      rw [show ((pre.length : Int)).toNat = (pre.map conv).length from by simp, List.set_append_right _ _ (Nat.le_refl _), Nat.sub_self, List.length_cons, List.replicate_succ, List.set_cons_zero]
      simp [conv]
    have e1 : pre ++ [x] ++ xs = pre ++ x :: xs := by simp
    have hi := ih (pre ++ [x]) (by simpa using hl)
    rw [e1] at hi
    refine Ev.step (fun k => ?_) hi
    simp only [laws_toTileS.l0, laws_toTile.f, Option.bind_some]
    rw [if_pos (by omega), if_pos (by omega), hget, hlen2, if_pos (by omega), hset, t_wrap2 ((pre.length : Int) + 1) (by omega) (by omega)]
    simp
theorem toTileS_f (l : List S74) (hl : l.length ≤ 100000000) : Ev (fun k => laws_toTileS.f k l) (l.map conv) := by
  have h := toTileS_ev l [] hl
  refine Ev.congr (fun k => ?_) h
  unfold laws_toTileS.f
  rw [if_pos (by omega), if_pos (by omega)]
  simp

theorem eqTileS_ev : ∀ (rest pre : List S55), (pre ++ rest).length ≤ 100000000 → Ev (fun k => laws_eqTileS.l0 k (pre ++ rest) (pre ++ rest) (pre.length : Int)) true := by
  intro rest
  induction rest with
  | nil =>
    intro pre hl
    refine Ev.step (f := fun _ => some true) (fun k => ?_) (Ev.now _)
    simp only [laws_eqTileS.l0, List.append_nil]
    rw [if_neg (by omega)]
  | cons x xs ih =>
    intro pre hl
    have hlen : (pre ++ x :: xs).length = pre.length + xs.length + 1 := by simp; omega
    have e1 : pre ++ [x] ++ xs = pre ++ x :: xs := by simp
    have hi := ih (pre ++ [x]) (by simpa using hl)
    rw [e1] at hi
    refine Ev.step (fun k => ?_) hi
    simp only [laws_eqTileS.l0, laws_eqTile.f, if_true, Option.bind_some]
    rw [if_pos (by omega), if_pos (by omega), if_pos (by omega), t_wrap2 ((pre.length : Int) + 1) (by omega) (by omega)]
    simp
theorem eqTileS_f (l : List S55) (hl : l.length ≤ 100000000) : Ev (fun k => laws_eqTileS.f k l l) true := by
  refine Ev.congr (fun k => ?_) (eqTileS_ev l [] hl)
  unfold laws_eqTileS.f
  rw [if_pos rfl]
  rfl
theorem szTileS_f (l : List S74) (n : Int) (hl : l.length ≤ 9223372036854775807) (hn : 0 ≤ n ∧ n ≤ 1048576) : laws_szTileS.f l n = some (if (l.length : Int) ≤ n then n - l.length else -1) := by
  have hw : wrap64 (n - (l.length : Int)) = n - l.length := by
    unfold wrap64
    omega
  unfold laws_szTileS.f
  rw [hw]
  by_cases h : (l.length : Int) ≤ n
  · rw [if_neg (by omega), if_pos h]
  · rw [if_pos (by omega), if_neg h]

/-! Lists of numbers; puzzles of the laws. -/
theorem i_mid (pre : List Int) (x : Int) (xs : List Int) : rd (pre ++ x :: xs) (pre.length : Int) = x := by
  unfold rd
  rw [show ((pre.length : Int)).toNat = pre.length from rfl, List.getD_eq_getElem?_getD, List.getElem?_append_right (Nat.le_refl _), Nat.sub_self]
  rfl
theorem toIntS_ev : ∀ (rest pre : List Int), (pre ++ rest).length ≤ 100000000 → Ev (fun k => laws_toIntS.l0 k (pre ++ rest) (pre ++ List.replicate rest.length 0) (pre.length : Int)) (pre ++ rest) := by
  intro rest
  induction rest with
  | nil =>
    intro pre hl
    refine Ev.step (f := fun _ => some (pre ++ [])) (fun k => ?_) (Ev.now _)
    simp only [laws_toIntS.l0, List.append_nil]
    rw [if_neg (by omega)]
    simp
  | cons x xs ih =>
    intro pre hl
    have hlen : (pre ++ x :: xs).length = pre.length + xs.length + 1 := by simp; omega
    have hlen2 : (pre ++ List.replicate (x :: xs).length (0 : Int)).length = pre.length + xs.length + 1 := by simp; omega
    have hset : (pre ++ List.replicate (x :: xs).length (0 : Int)).set ((pre.length : Int)).toNat x = (pre ++ [x]) ++ List.replicate xs.length 0 := by
      rw [show ((pre.length : Int)).toNat = pre.length from rfl, List.set_append_right _ _ (Nat.le_refl _), Nat.sub_self, List.length_cons, List.replicate_succ, List.set_cons_zero]
      simp
    have e1 : pre ++ [x] ++ xs = pre ++ x :: xs := by simp
    have hi := ih (pre ++ [x]) (by simpa using hl)
    rw [e1] at hi
    refine Ev.step (fun k => ?_) hi
    simp only [laws_toIntS.l0]
    rw [if_pos (by omega), if_pos (by omega), hlen2, if_pos (by omega), i_mid, hset, t_wrap2 ((pre.length : Int) + 1) (by omega) (by omega)]
    simp
theorem toIntS_f (l : List Int) (hl : l.length ≤ 100000000) : Ev (fun k => laws_toIntS.f k l) l := by
  refine Ev.congr (fun k => ?_) (toIntS_ev l [] hl)
  unfold laws_toIntS.f
  rw [if_pos (by omega), if_pos (by omega)]
  simp
theorem eqIntS_ev : ∀ (rest pre : List Int), (pre ++ rest).length ≤ 100000000 → Ev (fun k => laws_eqIntS.l0 k (pre ++ rest) (pre ++ rest) (pre.length : Int)) true := by
  intro rest
  induction rest with
  | nil =>
    intro pre hl
    refine Ev.step (f := fun _ => some true) (fun k => ?_) (Ev.now _)
    simp only [laws_eqIntS.l0, List.append_nil]
    rw [if_neg (by omega)]
  | cons x xs ih =>
    intro pre hl
    have hlen : (pre ++ x :: xs).length = pre.length + xs.length + 1 := by simp; omega
    have e1 : pre ++ [x] ++ xs = pre ++ x :: xs := by simp
    have hi := ih (pre ++ [x]) (by simpa using hl)
    rw [e1] at hi
    refine Ev.step (fun k => ?_) hi
    simp only [laws_eqIntS.l0, if_true]
    rw [if_pos (by omega), if_pos (by omega), if_pos (by omega), t_wrap2 ((pre.length : Int) + 1) (by omega) (by omega)]
    simp
theorem eqIntS_f (l : List Int) (hl : l.length ≤ 100000000) : Ev (fun k => laws_eqIntS.f k l l) true := by
  refine Ev.congr (fun k => ?_) (eqIntS_ev l [] hl)
  unfold laws_eqIntS.f
  rw [if_pos rfl]
  rfl
theorem szIntS_f (l : List Int) (n : Int) (hl : l.length ≤ 9223372036854775807) (hn : 0 ≤ n ∧ n ≤ 1048576) : laws_szIntS.f l n = some (if (l.length : Int) ≤ n then n - l.length else -1) := by
  have hw : wrap64 (n - (l.length : Int)) = n - l.length := by
    unfold wrap64
    omega
  unfold laws_szIntS.f
  rw [hw]
  by_cases h : (l.length : Int) ≤ n
  · rw [if_neg (by omega), if_pos h]
  · rw [if_pos (by omega), if_neg h]
/-- Either a puzzle of the laws is too large to be asked, or it is small. -/
theorem szPuzzle_f (l : List S74) (c : List Int) (hl : l.length ≤ 9223372036854775807) (hc : c.length ≤ 9223372036854775807) :
    laws_szPuzzle.f l c 1048576 = some (-1) ∨ ∃ n, laws_szPuzzle.f l c 1048576 = some n ∧ ¬ n < 0 ∧ l.length ≤ 1048576 ∧ c.length ≤ 1048576 := by
  unfold laws_szPuzzle.f
  rw [szTileS_f l 1048576 hl (by omega)]
  by_cases h : (l.length : Int) ≤ 1048576
  · rw [if_pos h]
    simp only [Option.bind_some]
    rw [if_neg (by omega), szIntS_f c _ hc (by omega)]
    by_cases h2 : (c.length : Int) ≤ 1048576 - l.length
    · rw [if_pos h2]
      simp only [Option.bind_some]
      rw [if_neg (by omega)]
      exact .inr ⟨_, rfl, by omega, by omega, by omega⟩
    · rw [if_neg h2]
      exact .inl rfl
  · rw [if_neg h]
    exact .inl rfl
theorem toPuzzle_f (l : List S74) (c : List Int) (hl : l.length ≤ 1048576) (hc : c.length ≤ 1048576) : Ev (fun k => laws_toPuzzle.f k l c) (l.map conv, c) := by
  unfold laws_toPuzzle.f
  exact Ev.bind (f := fun k t122 => ((laws_toIntS.f k c).bind fun t125 => (some (t122, t125)))) (toTileS_f l (by omega)) (Ev.bind (f := fun _ t125 => (some (l.map conv, t125))) (toIntS_f c (by omega)) ⟨0, fun k _ => rfl⟩)
theorem eqPuzzle_f (l : List S55) (c : List Int) (hl : l.length ≤ 1048576) (hc : c.length ≤ 1048576) : Ev (fun k => laws_eqPuzzle.f k l c l c) true := by
  unfold laws_eqPuzzle.f
  refine Ev.bind (f := fun k t137 => (if t137 = true then ((laws_eqIntS.f k c c).bind fun t138 => (if t138 = true then (some true) else (some false))) else (some false))) (eqTileS_f l (by omega)) ?_
  simp only [if_true]
  exact Ev.bind (f := fun _ t138 => (if t138 = true then (some true) else (some false))) (eqIntS_f c (by omega)) ⟨0, fun k _ => rfl⟩

/-! What a puzzle is, the same on both sides. -/
theorem l1In_f (n lo hi : Int) : spec_l1In.f n lo hi = some (inB lo hi n) := by
  unfold spec_l1In.f inB
  by_cases h1 : lo ≤ n
  · rw [if_pos (show n ≥ lo from h1)]
    simp [h1]
  · rw [if_neg (show ¬ n ≥ lo from h1)]
    simp [h1]
theorem l1All_ev (lo hi : Int) : ∀ (rest pre : List Int), (pre ++ rest).length ≤ 2000000 → Ev (fun k => spec_l1All.l0 k lo hi (pre ++ rest) ((pre ++ rest).length : Int) (pre.length : Int)) (rest.all (inB lo hi)) := by
  intro rest
  induction rest with
  | nil =>
    intro pre hl
    refine Ev.step (f := fun _ => some true) (fun k => ?_) (Ev.now _)
    simp only [spec_l1All.l0, List.append_nil]
    rw [if_neg (by omega)]
  | cons x xs ih =>
    intro pre hl
    have hlen : (pre ++ x :: xs).length = pre.length + xs.length + 1 := by simp; omega
    have e1 : pre ++ [x] ++ xs = pre ++ x :: xs := by simp
    have hq := ih (pre ++ [x]) (by simpa using hl)
    rw [e1] at hq
    rw [List.all_cons]
    cases hx : inB lo hi x
    · refine Ev.step (f := fun _ => some false) (fun k => ?_) (Ev.now _)
      simp only [spec_l1All.l0]
      rw [if_pos (by omega), if_pos (by omega), if_pos (by omega), i_mid, l1In_f, hx]
      rfl
    · rw [Bool.true_and]
      refine Ev.step (fun k => ?_) hq
      simp only [spec_l1All.l0]
      rw [if_pos (by omega), if_pos (by omega), if_pos (by omega), i_mid, l1In_f, hx, t_wrap ((pre.length : Int) + 1) (by omega) (by omega)]
      simp
theorem l1All_f (lo hi : Int) (l : List Int) (hl : l.length ≤ 2000000) : Ev (fun k => spec_l1All.f k l lo hi) (l.all (inB lo hi)) := l1All_ev lo hi l [] hl
theorem any_out (lo hi : Int) (l : List Int) : (!(l.any fun n => !inB lo hi n)) = l.all (inB lo hi) := by
  induction l with
  | nil => rfl
  | cons x xs ih => rw [List.any_cons, List.all_cons, ← ih]; cases inB lo hi x <;> simp
theorem pzl_ev (s l : List S55) (c : List Int) (hs : s.length ≤ l.length) (hl : l.length ≤ 1000) : ∀ (d i : Nat), i + d = s.length → ∃ b : Bool, Ev (fun k => spec_pzGood.l0 k s (s.length : Int) (i : Int) l c) b ∧ (b = true ↔ ∀ j, i ≤ j → j < s.length → s.getD j z55 = l.getD j z55) := by
  intro d
  induction d with
  | zero =>
    intro i hi
    refine ⟨true, Ev.step (f := fun _ => some true) (fun k => ?_) (Ev.now _), by simp; intro j h1 h2; omega⟩
    simp only [spec_pzGood.l0]
    rw [if_neg (by omega)]
  | succ d ih =>
    intro i hi
    obtain ⟨b, h1, h2⟩ := ih (i + 1) (by omega)
    have hb : (!(((rd_T55 s (i : Int)).f0) == ((rd_T55 l (i : Int)).f0)) || (!(((rd_T55 s (i : Int)).f1) == ((rd_T55 l (i : Int)).f1)))) = !decide (s.getD i z55 = l.getD i z55) := by
      rw [← t_beq]
      unfold rd_T55
      rw [show ((i : Int)).toNat = i from rfl, Bool.not_and]
    by_cases e : s.getD i z55 = l.getD i z55
    · refine ⟨b, Ev.step (fun k => ?_) h1, ?_⟩
      · simp only [spec_pzGood.l0]
        rw [if_pos (by omega), if_pos (by omega), if_pos (by omega), if_pos (by omega), hb, if_neg (by simp only [e]; simp), t_wrap ((i : Int) + 1) (by omega) (by omega)]
        rfl
      · rw [h2]
        constructor
        · intro h j hj1 hj2
          by_cases ej : j = i
          · subst ej
            exact e
          · exact h j (by omega) hj2
        · intro h j hj1 hj2
          exact h j (by omega) hj2
    · refine ⟨false, Ev.step (f := fun _ => some false) (fun k => ?_) (Ev.now _), ?_⟩
      · simp only [spec_pzGood.l0]
        rw [if_pos (by omega), if_pos (by omega), if_pos (by omega), if_pos (by omega), hb, if_pos (by simp only [decide_eq_false e]; rfl)]
      · constructor
        · intro h
          cases h
        · intro h
          exact absurd (h i (Nat.le_refl _) (by omega)) e
theorem pzl_all (s l : List S55) (c : List Int) (hs : s.length = l.length) (hl : l.length ≤ 1000) : Ev (fun k => spec_pzGood.l0 k s (s.length : Int) 0 l c) (decide (s = l)) := by
  obtain ⟨b, h1, h2⟩ := pzl_ev s l c (by omega) hl s.length 0 (by omega)
  have : b = decide (s = l) := by
    rw [Bool.eq_iff_iff, h2, decide_eq_true_eq]
    constructor
    · intro h
      apply List.ext_getElem hs
      intro j j1 j2
      have := h j (by omega) j1
      rw [List.getD_eq_getElem?_getD, List.getD_eq_getElem?_getD, List.getElem?_eq_getElem j2, List.getElem?_eq_getElem j1] at this
      exact this
    · intro e j _ _
      rw [e]
  rw [← this]
  exact h1
/-- Is it a puzzle? -/
def pz (l : List S55) (c : List Int) : Bool := inB 1 9 (l.length : Int) && (isH l && (decide ((c.length : Int) = (l.length : Int) + 1) && (c.all (inB (-1) 9) && sortedT l)))
theorem inB_iff (lo hi n : Int) : inB lo hi n = true ↔ lo ≤ n ∧ n ≤ hi := by
  unfold inB
  simp
theorem pz_true (l : List S55) (c : List Int) (h : pz l c = true) : 1 ≤ l.length ∧ l.length ≤ 9 ∧ isH l = true ∧ c.length = l.length + 1 ∧ (∀ x ∈ c, -1 ≤ x ∧ x ≤ 9) ∧ sortedT l = true := by
  unfold pz at h
  simp only [Bool.and_eq_true, decide_eq_true_eq, inB_iff] at h
  obtain ⟨h1, h2, h3, h4, h5⟩ := h
  refine ⟨by omega, by omega, h2, by omega, fun x hx => ?_, h5⟩
  exact (inB_iff _ _ _).1 (List.all_eq_true.1 h4 x hx)
theorem pz_spec (l : List S55) (c : List Int) (hl : l.length ≤ 2000000) (hc : c.length ≤ 2000000) : Ev (fun k => spec_pzGood.f k l c) (pz l c) := by
  unfold spec_pzGood.f
  rw [l1In_f]
  simp only [Option.bind_some]
  cases h1 : inB 1 9 (l.length : Int)
  · refine Ev.step (f := fun _ => some (pz l c)) (fun k => ?_) (Ev.now _)
    simp [spec_pzGood.j0, pz, h1]
  · simp only [if_true]
    have s1 := isH_spec l hl
    have hln := (inB_iff _ _ _).1 h1
    refine Ev.bind (f := fun k t171 => (if t171 = true then (if (c.length : Int) = (wrap64 ((l.length : Int) + 1)) then ((spec_l1All.f k c (-1) 9).bind fun t172 => (spec_pzGood.j0 k (!t172) l c)) else (spec_pzGood.j0 k true l c)) else (spec_pzGood.j0 k true l c))) s1 ?_
    rw [t_wrap ((l.length : Int) + 1) (by omega) (by omega)]
    cases h2 : isH l
    · refine Ev.step (f := fun _ => some (pz l c)) (fun k => ?_) (Ev.now _)
      simp [spec_pzGood.j0, pz, h1, h2]
    · by_cases h3 : (c.length : Int) = (l.length : Int) + 1
      · have hd : decide ((c.length : Int) = (l.length : Int) + 1) = true := decide_eq_true h3
        simp only [if_true, h3]
        refine Ev.bind (f := fun k t172 => (spec_pzGood.j0 k (!t172) l c)) (l1All_f (-1) 9 c hc) ?_
        cases h4 : c.all (inB (-1) 9)
        · refine Ev.step (f := fun _ => some (pz l c)) (fun k => ?_) (Ev.now _)
          simp [spec_pzGood.j0, pz, h1, h2, hd, h4]
        · obtain ⟨s, q1, q2, _, _, q5⟩ := sort_f l h2
          have e : pz l c = decide (s = l) := by
            unfold pz
            rw [h1, h2, hd, h4, q5]
            rfl
          rw [e]
          refine Ev.step (f := fun k => (spec_tiSort.f k l).bind fun t173 => (spec_pzGood.l0 k t173 (t173.length : Int) 0 l c)) (fun k => ?_) (Ev.bind (f := fun k t173 => (spec_pzGood.l0 k t173 (t173.length : Int) 0 l c)) q1 (pzl_all s l c q2 (by omega)))
          simp [spec_pzGood.j0]
      · have hd : decide ((c.length : Int) = (l.length : Int) + 1) = false := decide_eq_false h3
        refine Ev.step (f := fun _ => some (pz l c)) (fun k => ?_) (Ev.now _)
        simp only [if_true]
        rw [if_neg h3]
        simp [spec_pzGood.j0, pz, h1, h2, hd]
theorem pz_impl (l : List S55) (c : List Int) (hl : l.length ≤ 2000000) : Ev (fun k => impl_IsPuzzle.f k l c) (pz l c) := by
  unfold impl_IsPuzzle.f impl_areWithin.f
  refine Ev.bind (f := fun k b1 => if b1 = true then (if inB 1 9 (l.length : Int) = true then (if sortedT l = true then (if (c.length : Int) = (l.length : Int) + 1 then some (!(c.any fun n => !inB (-1) 9 n)) else some false) else some false) else some false) else some false) (isH_impl l hl) ⟨0, fun k _ => ?_⟩
  (try dsimp only)
  rw [any_out]
  unfold pz
  by_cases h3 : (c.length : Int) = (l.length : Int) + 1
  · rw [decide_eq_true h3]
    cases isH l <;> cases inB 1 9 (l.length : Int) <;> cases sortedT l <;> simp [h3]
  · rw [decide_eq_false h3]
    cases isH l <;> cases inB 1 9 (l.length : Int) <;> cases sortedT l <;> simp [h3]

/-! Two lists of tiles, compared. -/
theorem seq_ev (s l : List S55) (hs : s.length ≤ l.length) (hl : l.length ≤ 1000) : ∀ (d i : Nat), i + d = s.length → ∃ b : Bool, Ev (fun k => slices_Equal_impl_Tile_impl_Tile.l0 k s l (s.length : Int) (i : Int)) b ∧ (b = true ↔ ∀ j, i ≤ j → j < s.length → s.getD j z55 = l.getD j z55) := by
  intro d
  induction d with
  | zero =>
    intro i hi
    refine ⟨true, Ev.step (f := fun _ => some true) (fun k => ?_) (Ev.now _), by simp; intro j h1 h2; omega⟩
    simp only [slices_Equal_impl_Tile_impl_Tile.l0]
    rw [if_neg (by omega)]
  | succ d ih =>
    intro i hi
    obtain ⟨b, h1, h2⟩ := ih (i + 1) (by omega)
    have hb : (!(((rd_T55 s (i : Int)).f0) == ((rd_T55 l (i : Int)).f0)) || (!(((rd_T55 s (i : Int)).f1) == ((rd_T55 l (i : Int)).f1)))) = !decide (s.getD i z55 = l.getD i z55) := by
      rw [← t_beq]
      unfold rd_T55
      rw [show ((i : Int)).toNat = i from rfl, Bool.not_and]
    by_cases e : s.getD i z55 = l.getD i z55
    · refine ⟨b, Ev.step (fun k => ?_) h1, ?_⟩
      · simp only [slices_Equal_impl_Tile_impl_Tile.l0]
        rw [if_pos (by omega), if_pos (by omega), if_pos (by omega), if_pos (by omega), hb, if_neg (by simp only [e]; simp), t_wrap ((i : Int) + 1) (by omega) (by omega)]
        rfl
      · rw [h2]
        constructor
        · intro h j hj1 hj2
          by_cases ej : j = i
          · subst ej
            exact e
          · exact h j (by omega) hj2
        · intro h j hj1 hj2
          exact h j (by omega) hj2
    · refine ⟨false, Ev.step (f := fun _ => some false) (fun k => ?_) (Ev.now _), ?_⟩
      · simp only [slices_Equal_impl_Tile_impl_Tile.l0]
        rw [if_pos (by omega), if_pos (by omega), if_pos (by omega), if_pos (by omega), hb, if_pos (by simp only [decide_eq_false e]; rfl)]
      · constructor
        · intro h
          cases h
        · intro h
          exact absurd (h i (Nat.le_refl _) (by omega)) e
theorem seq_all (s l : List S55) (hs : s.length = l.length) (hl : l.length ≤ 1000) : Ev (fun k => slices_Equal_impl_Tile_impl_Tile.l0 k s l (s.length : Int) 0) (decide (s = l)) := by
  obtain ⟨b, h1, h2⟩ := seq_ev s l (by omega) hl s.length 0 (by omega)
  have : b = decide (s = l) := by
    rw [Bool.eq_iff_iff, h2, decide_eq_true_eq]
    constructor
    · intro h
      apply List.ext_getElem hs
      intro j j1 j2
      have := h j (by omega) j1
      rw [List.getD_eq_getElem?_getD, List.getD_eq_getElem?_getD, List.getElem?_eq_getElem j2, List.getElem?_eq_getElem j1] at this
      exact this
    · intro e j _ _
      rw [e]
  rw [← this]
  exact h1

/-! Chains and their tiles, the same on both sides. -/
def tileOf (x y : Int) : S55 := ⟨mn x y, mx x y⟩
def tilesL : List Int → List S55
  | [] => []
  | x :: xs => (match xs with | [] => [] | y :: _ => [tileOf x y]) ++ tilesL xs
theorem tilesL_two (x y : Int) (r : List Int) : tilesL (x :: y :: r) = tileOf x y :: tilesL (y :: r) := rfl
theorem tilesL_len : ∀ c : List Int, (tilesL c).length = c.length - 1
  | [] => rfl
  | [_] => rfl
  | x :: y :: r => by
    rw [tilesL_two, List.length_cons, tilesL_len (y :: r)]
    simp
theorem tiOf_f (x y : Int) : spec_tiOf.f x y = some ((tileOf x y).f0, (tileOf x y).f1) := by
  unfold spec_tiOf.f spec_l1Least.f spec_l1Most.f tileOf mn mx
  by_cases h : x < y
  · rw [if_pos h, if_neg (by omega)]
    simp [h]
    omega
  · by_cases h2 : x > y
    · rw [if_neg h, if_pos h2]
      simp [h]
      omega
    · have : x = y := by omega
      subst this
      simp
theorem haTiles_ev : ∀ (rest pre : List Int) (o : List S55), (pre ++ rest).length ≤ 2000000 → o.length ≤ pre.length → 0 < pre.length →
    Ev (fun k => spec_haTiles.l0 k (pre ++ rest) o (pre.length : Int)) (o ++ tilesL (pre.getLast! :: rest)) ∧ Ev (fun k => impl_tilesOf.l0 k (pre ++ rest) o (pre.length : Int)) (o ++ tilesL (pre.getLast! :: rest)) := by
  intro rest
  induction rest with
  | nil =>
    intro pre o h1 h2 h3
    constructor
    · refine Ev.step (f := fun _ => some (o ++ tilesL [pre.getLast!])) (fun k => ?_) (Ev.now _)
      simp only [spec_haTiles.l0, List.append_nil]
      rw [if_neg (by omega)]
      simp [tilesL]
    · refine Ev.step (f := fun _ => some (o ++ tilesL [pre.getLast!])) (fun k => ?_) (Ev.now _)
      simp only [impl_tilesOf.l0, List.append_nil]
      rw [if_neg (by omega)]
      simp [tilesL]
  | cons x xs ih =>
    intro pre o h1 h2 h3
    have hlen : (pre ++ x :: xs).length = pre.length + xs.length + 1 := by simp; omega
    have e1 : pre ++ [x] ++ xs = pre ++ x :: xs := by simp
    have hl : (pre ++ [x]).getLast! = x := by simp [List.getLast!_eq_getLast?_getD]
    have hp : rd (pre ++ x :: xs) ((pre.length : Int) - 1) = pre.getLast! := by
      unfold rd
      rw [show ((pre.length : Int) - 1).toNat = pre.length - 1 from by omega, List.getD_eq_getElem?_getD, List.getElem?_append_left (by omega), List.getLast!_eq_getLast?_getD, List.getLast?_eq_getElem?]
      rfl
    obtain ⟨i1, i2⟩ := ih (pre ++ [x]) (o ++ [tileOf pre.getLast! x]) (by simpa using h1) (by simp; omega) (by simp)
    rw [e1, hl] at i1 i2
    have ht : o ++ tilesL (pre.getLast! :: x :: xs) = o ++ [tileOf pre.getLast! x] ++ tilesL (x :: xs) := by
      rw [tilesL_two]
      simp
    rw [ht]
    constructor
    · refine Ev.step (fun k => ?_) i1
      simp only [spec_haTiles.l0]
      rw [if_pos (by omega), t_wrap ((pre.length : Int) - 1) (by omega) (by omega), if_pos (by omega), if_pos (by omega), if_pos (by omega), hp, i_mid, tiOf_f]
      simp only [Option.bind_some]
      rw [if_pos (by omega), t_wrap ((pre.length : Int) + 1) (by omega) (by omega)]
      simp
    · refine Ev.step (fun k => ?_) i2
      simp only [impl_tilesOf.l0, impl_tile.f, Option.bind_some]
      rw [if_pos (by omega), t_wrap ((pre.length : Int) - 1) (by omega) (by omega), if_pos (by omega), if_pos (by omega), if_pos (by omega), hp, i_mid, if_pos (by omega), t_wrap ((pre.length : Int) + 1) (by omega) (by omega)]
      simp [tileOf]
theorem haTiles_f (c : List Int) (h : c.length ≤ 2000000) : Ev (fun k => spec_haTiles.f k c) (tilesL c) ∧ Ev (fun k => impl_tilesOf.f k c) (tilesL c) := by
  unfold spec_haTiles.f impl_tilesOf.f
  cases c with
  | nil =>
    constructor
    · refine Ev.step (f := fun _ => some []) (fun k => ?_) (Ev.now _)
      simp [spec_haTiles.l0]
    · refine Ev.step (f := fun _ => some []) (fun k => ?_) (Ev.now _)
      simp [impl_tilesOf.l0]
  | cons x xs =>
    obtain ⟨i1, i2⟩ := haTiles_ev xs [x] [] (by simpa using h) (by simp) (by simp)
    exact ⟨i1, i2⟩
theorem tilesL_good (c : List Int) (h : c.all (inB 0 9) = true) : ∀ x ∈ tilesL c, good x = true := by
  induction c with
  | nil => intro x hx; cases hx
  | cons a r ih =>
    rw [List.all_cons, Bool.and_eq_true] at h
    cases r with
    | nil => intro x hx; cases hx
    | cons b r =>
      intro x hx
      rw [tilesL_two] at hx
      rcases List.mem_cons.1 hx with rfl | hx
      · have h2 := h.2
        rw [List.all_cons, Bool.and_eq_true] at h2
        have ha := h.1
        have hb := h2.1
        unfold inB at ha hb
        simp only [Bool.and_eq_true, decide_eq_true_eq] at ha hb
        rw [good_iff]
        unfold tileOf mn mx
        simp only
        split <;> split <;> omega
      · exact ih h.2 x hx
/-- Is it a chain? -/
def ch (c : List Int) : Bool := decide (1 ≤ c.length) && (c.all (inB 0 9) && nd [] (tilesL c))
theorem ch_true (c : List Int) (h : ch c = true) : 1 ≤ c.length ∧ c.length ≤ 56 ∧ (∀ x ∈ c, 0 ≤ x ∧ x ≤ 9) ∧ isH (tilesL c) = true := by
  unfold ch at h
  simp only [Bool.and_eq_true, decide_eq_true_eq] at h
  obtain ⟨h1, h2, h3⟩ := h
  have hg := tilesL_good c h2
  obtain ⟨A, _, hA, hP, hm⟩ := whole
  have hle := len_le (tilesL c) A (nd_nodup _ _ h3).2 (fun x hx => (hm x).2 (hg x hx))
  rw [tilesL_len, hA] at hle
  refine ⟨h1, by omega, fun x hx => ?_, ?_⟩
  · have := List.all_eq_true.1 h2 x hx
    unfold inB at this
    simpa using this
  · unfold isH
    rw [decide_eq_true (by rw [tilesL_len]; omega), h3, List.all_eq_true.2 hg]
    rfl

theorem ch_spec (c : List Int) (h : c.length ≤ 2000000) : Ev (fun k => spec_haGood.f k c) (ch c) := by
  unfold spec_haGood.f
  rw [l1In_f]
  simp only [Option.bind_some]
  cases h1 : inB 1 56 (c.length : Int)
  · refine ⟨0, fun k _ => ?_⟩
    have : ch c = false := by
      cases hc : ch c
      · rfl
      · obtain ⟨a, b, _⟩ := ch_true c hc
        have : inB 1 56 (c.length : Int) = true := (inB_iff _ _ _).2 (by omega)
        rw [this] at h1
        cases h1
    simp [this]
  · simp only [if_true]
    have hb := (inB_iff _ _ _).1 h1
    refine Ev.bind (f := fun k t => _) (l1All_f 0 9 c h) ?_
    cases h2 : c.all (inB 0 9)
    · refine ⟨0, fun k _ => ?_⟩
      simp [ch, h2]
    · simp only [if_true]
      refine Ev.bind (f := fun k t => _) (haTiles_f c h).1 ?_
      refine Ev.bind (f := fun k t => _) (isH_spec (tilesL c) (by rw [tilesL_len]; omega)) ⟨0, fun k _ => ?_⟩
      have : isH (tilesL c) = ch c := by
        unfold isH ch
        rw [h2, List.all_eq_true.2 (tilesL_good c h2), decide_eq_true (show (tilesL c).length ≤ 55 from by rw [tilesL_len]; omega), decide_eq_true (show 1 ≤ c.length from by omega)]
      rw [this]
theorem ch_impl (c : List Int) (h : c.length ≤ 2000000) : Ev (fun k => impl_IsChain.f k c) (ch c) := by
  unfold impl_IsChain.f impl_areWithin.f
  by_cases h1 : (c.length : Int) > 0
  · simp only [if_pos h1, Option.bind_some]
    rw [any_out]
    cases h2 : c.all (inB 0 9)
    · refine ⟨0, fun k _ => ?_⟩
      simp [ch, h2]
    · simp only [if_true]
      refine Ev.bind (f := fun k t => _) (haTiles_f c h).2 ?_
      have hi := areDiff_ev (tilesL c) [] (by simp; rw [tilesL_len]; omega)
      refine Ev.bind (f := fun k t => _) (show Ev (fun k => impl_areDifferent_impl_Tile.f k (tilesL c)) (nd [] (tilesL c)) from hi) ⟨0, fun k _ => ?_⟩
      have : nd [] (tilesL c) = ch c := by
        unfold ch
        rw [h2, decide_eq_true (show 1 ≤ c.length from by omega)]
        rfl
      rw [this]
  · simp only [if_neg h1]
    refine ⟨0, fun k _ => ?_⟩
    have : c.length = 0 := by omega
    simp [ch, this]
theorem ltT_lt (x y : S55) : ltT x y = true ↔ lt x y := ltT_iff x y
theorem msort_lt (l : List S55) (h : l.Nodup) : (msort l).Pairwise lt := by
  have hp : (msort l).Pairwise fun x y => (!ltT y x) = true := by
    refine List.pairwise_mergeSort ?_ ?_ l
    · intro a b c h1 h2
      simp only [Bool.not_eq_true', ltT_no] at *
      omega
    · intro a b
      cases h1 : ltT b a
      · rfl
      · have h2 := (ltT_iff _ _).1 h1
        have : ltT a b = false := (ltT_no _ _).2 (by omega)
        rw [this]
        rfl
  have hn : (msort l).Nodup := (List.mergeSort_perm l _).nodup_iff.2 h
  refine List.Pairwise.imp₂ (fun a b h1 h2 => ?_) hp hn
  have h3 := (ltT_no _ _).1 (by simpa using h1)
  refine lt_total b a h3 (fun e => h2 e.symm)
/-- A hand in order, on both sides. -/
theorem sorted_both (l : List S55) (h : isH l = true) : ∃ s : List S55, Ev (fun k => spec_tiSort.f k l) s ∧ impl_sorted.f l = some s ∧ s.length = l.length := by
  obtain ⟨s, h1, h2, h3, h4, _⟩ := sort_f l h
  obtain ⟨i1, i2, i3⟩ := isH_true l h
  have hm : msort l = s := uniq _ _ (msort_lt l i3) h3 (fun x => by rw [h4]; exact (List.mergeSort_perm l _).mem_iff)
  refine ⟨s, h1, ?_, h2⟩
  unfold impl_sorted.f slices_Clone_impl_Tile_impl_Tile.f
  rw [if_pos (by omega)]
  simp only [Option.bind_some]
  rw [if_pos (List.all_eq_true.2 (fun x hx => by rw [smallT_iff]; have := (good_iff x).1 (i2 x hx); omega)), hm]
/-- .. and what it holds. -/
theorem sorted_set (l : List S55) (h : isH l = true) : ∃ s : List S55, impl_sorted.f l = some s ∧ s.length = l.length ∧ s.Pairwise lt ∧ (∀ x, x ∈ s ↔ x ∈ l) := by
  obtain ⟨s, _, h2, h3⟩ := sorted_both l h
  obtain ⟨i1, i2, i3⟩ := isH_true l h
  have e : s = msort l := by
    unfold impl_sorted.f slices_Clone_impl_Tile_impl_Tile.f at h2
    rw [if_pos (by omega)] at h2
    simp only [Option.bind_some] at h2
    rw [if_pos (List.all_eq_true.2 (fun x hx => by rw [smallT_iff]; have := (good_iff x).1 (i2 x hx); omega))] at h2
    exact (Option.some.inj h2).symm
  subst e
  exact ⟨_, h2, h3, msort_lt l i3, fun x => (List.mergeSort_perm l _).mem_iff⟩

/-- Has a chain the numbers of a puzzle where there is no gap? -/
def ft : List Int → List Int → Bool
  | x :: xs, y :: ys => (decide (x = -1) || decide (x = y)) && ft xs ys
  | _, _ => true
theorem fits_ev (l : List S55) : ∀ (rest qrest pre qpre : List Int), pre.length = qpre.length → rest.length = qrest.length → (pre ++ rest).length ≤ 100000 → (∀ x ∈ qrest, -1 ≤ x) →
    Ev (fun k => spec_pzFits.l0 k (pre ++ rest) ((pre ++ rest).length : Int) (pre.length : Int) l (qpre ++ qrest)) (ft qrest rest) ∧ Ev (fun k => impl_IsSolution.l0 k (pre ++ rest) ((pre ++ rest).length : Int) (pre.length : Int) l (qpre ++ qrest)) (ft qrest rest, true) := by
  intro rest
  induction rest with
  | nil =>
    intro qrest pre qpre h1 h2 h3 h4
    obtain rfl : qrest = [] := List.length_eq_zero_iff.1 h2.symm
    constructor
    · refine Ev.step (f := fun _ => some true) (fun k => ?_) (Ev.now _)
      simp only [spec_pzFits.l0, List.append_nil]
      rw [if_neg (by omega)]
    · refine Ev.step (f := fun _ => some (true, true)) (fun k => ?_) (Ev.now _)
      simp only [impl_IsSolution.l0, List.append_nil]
      rw [if_neg (by omega)]
  | cons x xs ih =>
    intro qrest pre qpre h1 h2 h3 h4
    cases qrest with
    | nil => cases h2
    | cons q qs =>
      have hlen : (pre ++ x :: xs).length = pre.length + xs.length + 1 := by simp; omega
      have hql : (qpre ++ q :: qs).length = qpre.length + qs.length + 1 := by simp; omega
      have h2' : xs.length = qs.length := by simpa using h2
      have e1 : pre ++ [x] ++ xs = pre ++ x :: xs := by simp
      have e2 : qpre ++ [q] ++ qs = qpre ++ q :: qs := by simp
      have hq := h4 q List.mem_cons_self
      have hgq : rd (qpre ++ q :: qs) (pre.length : Int) = q := by rw [h1]; exact i_mid _ _ _
      obtain ⟨i1, i2⟩ := ih qs (pre ++ [x]) (qpre ++ [q]) (by simp [h1]) h2' (by simpa using h3) (fun z hz => h4 z (List.mem_cons_of_mem _ hz))
      rw [e1, e2] at i1 i2
      have hfit : impl_Puzzle_fits.f l (qpre ++ q :: qs) (pre.length : Int) x = some (decide (q = -1) || decide (q = x)) := by
        unfold impl_Puzzle_fits.f
        rw [if_pos (by omega), if_pos (by omega), hgq]
        by_cases hg : q = -1
        · rw [if_pos hg]
          simp [hg]
        · rw [if_neg hg]
          by_cases hx : q = x <;> simp [hg, hx]
      have hcons : ft (q :: qs) (x :: xs) = ((decide (q = -1) || decide (q = x)) && ft qs xs) := rfl
      rw [hcons]
      constructor
      · by_cases hg : q = -1
        · rw [decide_eq_true hg, Bool.true_or, Bool.true_and]
          refine Ev.step (fun k => ?_) i1
          simp only [spec_pzFits.l0]
          rw [if_pos (by omega), if_pos (by omega), if_pos (by omega), if_pos (by omega), hgq, if_neg (by omega), t_wrap ((pre.length : Int) + 1) (by omega) (by omega)]
          simp
        · by_cases hx : q = x
          · rw [decide_eq_true hx, Bool.or_true, Bool.true_and]
            refine Ev.step (fun k => ?_) i1
            simp only [spec_pzFits.l0]
            rw [if_pos (by omega), if_pos (by omega), if_pos (by omega), if_pos (by omega), hgq, i_mid, if_pos (by omega), if_pos hx, t_wrap ((pre.length : Int) + 1) (by omega) (by omega)]
            simp
          · rw [decide_eq_false hg, decide_eq_false hx, Bool.or_self, Bool.false_and]
            refine Ev.step (f := fun _ => some false) (fun k => ?_) (Ev.now _)
            simp only [spec_pzFits.l0]
            rw [if_pos (by omega), if_pos (by omega), if_pos (by omega), if_pos (by omega), hgq, i_mid, if_pos (by omega), if_neg hx]
      · cases hb : (decide (q = -1) || decide (q = x))
        · refine Ev.step (f := fun _ => some (false, true)) (fun k => ?_) (Ev.now _)
          simp only [impl_IsSolution.l0]
          rw [if_pos (by omega), if_pos (by omega), if_pos (by omega), i_mid, hfit, hb]
          rfl
        · rw [Bool.true_and]
          refine Ev.step (fun k => ?_) i2
          simp only [impl_IsSolution.l0]
          rw [if_pos (by omega), if_pos (by omega), if_pos (by omega), i_mid, hfit, hb, t_wrap ((pre.length : Int) + 1) (by omega) (by omega)]
          simp
theorem in_ev (l : List S55) (q : List Int) (hl : l.length ≤ 2000000) : ∀ (rest pre : List S55), (pre ++ rest).length ≤ 1000 → Ev (fun k => spec_IsSolution.l0 k (pre ++ rest) ((pre ++ rest).length : Int) (pre.length : Int) l q) (rest.all (fun t => decide (t ∈ l)), true) := by
  intro rest
  induction rest with
  | nil =>
    intro pre h1
    refine Ev.step (f := fun _ => some (true, true)) (fun k => ?_) (Ev.now _)
    simp only [spec_IsSolution.l0, List.append_nil]
    rw [if_neg (by omega)]
  | cons x xs ih =>
    intro pre h1
    have hlen : (pre ++ x :: xs).length = pre.length + xs.length + 1 := by simp; omega
    have hget : rd_T55 (pre ++ x :: xs) (pre.length : Int) = x := by
      unfold rd_T55
      exact t_mid pre x xs _
    have e1 : pre ++ [x] ++ xs = pre ++ x :: xs := by simp
    have hi := ih (pre ++ [x]) (by simpa using h1)
    rw [e1] at hi
    obtain ⟨r, p1, p2⟩ := place_f x l hl
    refine Ev.step (f := fun k => (spec_tiPlace.f k l x.f0 x.f1).bind fun t => (if t < 0 then (some (false, true)) else (spec_IsSolution.l0 k (pre ++ x :: xs) ((pre ++ x :: xs).length : Int) (((pre ++ [x]).length : Nat) : Int) l q))) (fun k => ?_) ?_
    · simp only [spec_IsSolution.l0]
      rw [if_pos (by omega), if_pos (by omega), if_pos (by omega), hget, t_wrap ((pre.length : Int) + 1) (by omega) (by omega)]
      simp
    · refine Ev.bind (f := fun k t => _) p1 ?_
      rw [List.all_cons]
      by_cases hm : x ∈ l
      · have hr : ¬ r < 0 := by
          rw [decide_eq_true hm] at p2
          have := of_decide_eq_true p2
          omega
        simp only [if_neg hr, decide_eq_true hm, Bool.true_and]
        exact hi
      · have hr : r < 0 := by
          rw [decide_eq_false hm] at p2
          have := of_decide_eq_false p2
          omega
        simp only [if_pos hr, decide_eq_false hm, Bool.false_and]
        exact ⟨0, fun k _ => rfl⟩
theorem sol_both (l : List S55) (q c : List Int) (hl : l.length ≤ 2000000) (hq : q.length ≤ 2000000) (hc : c.length ≤ 2000000) : ∃ r : Bool × Bool, Ev (fun k => spec_IsSolution.f k l q c) r ∧ Ev (fun k => impl_IsSolution.f k l q c) r := by
  have h1 := pz_spec l q hl hq
  have h2 := pz_impl l q hl
  have c1 := ch_spec c hc
  have c2 := ch_impl c hc
  have no1 : Ev (fun k => spec_IsSolution.j0 k c true l q) (false, false) := Ev.step (f := fun _ => some _) (fun k => by simp [spec_IsSolution.j0]) (Ev.now _)
  have no2 : Ev (fun k => impl_IsSolution.j0 k c true l q) (false, false) := Ev.step (f := fun _ => some _) (fun k => by simp [impl_IsSolution.j0]) (Ev.now _)
  unfold spec_IsSolution.f impl_IsSolution.f
  cases hp : pz l q
  · rw [hp] at h1 h2
    exact ⟨(false, false), Ev.bind (f := fun k t => _) h1 (by simpa using no1), Ev.bind (f := fun k t => _) h2 (by simpa using no2)⟩
  · rw [hp] at h1 h2
    cases hk : ch c
    · rw [hk] at c1 c2
      refine ⟨(false, false), Ev.bind (f := fun k t => _) h1 ?_, Ev.bind (f := fun k t => _) h2 ?_⟩
      · simp only [if_true]
        exact Ev.bind (f := fun k t => _) c1 (by simpa using no1)
      · simp only [if_true]
        exact Ev.bind (f := fun k t => _) c2 (by simpa using no2)
    · rw [hk] at c1 c2
      obtain ⟨p1, p2, p3, p4, p5, p6⟩ := pz_true l q hp
      obtain ⟨k1, k2, k3, k4⟩ := ch_true c hk
      by_cases hlen : (c.length : Int) = (q.length : Int)
      · obtain ⟨f1, f2⟩ := fits_ev l c q [] [] rfl (by omega) (by simp; omega) (fun x hx => (p5 x hx).1)
        simp only [List.nil_append, List.length_nil] at f1 f2
        have ti := in_ev l q hl (tilesL c) [] (by simp; rw [tilesL_len]; omega)
        simp only [List.nil_append, List.length_nil] at ti
        obtain ⟨s, s1, s2, s3, s4⟩ := sorted_set (tilesL c) k4
        have se := seq_all s l (by rw [s2, tilesL_len]; omega) (by omega)
        obtain ⟨g1, g2, g3⟩ := isH_true l p3
        have hall : (tilesL c).all (fun t => decide (t ∈ l)) = decide (s = l) := by
          rw [Bool.eq_iff_iff, List.all_eq_true, decide_eq_true_eq]
          constructor
          · intro h
            have hsub : s ⊆ l := fun x hx => by have := h x ((s4 x).1 hx); simpa using this
            have hnd : s.Nodup := s3.imp (fun {a b} hab e => by subst e; exact lt_irrefl a hab)
            have hsl : s.length = l.length := by rw [s2, tilesL_len]; omega
            refine uniq s l s3 ((sortedT_iff l g2 g3).1 p6) (fun x => ⟨fun hx => hsub hx, fun hx => ?_⟩)
            by_cases hxs : x ∈ s
            · exact hxs
            · have hle := len_le (x :: s) l (List.nodup_cons.2 ⟨hxs, hnd⟩) (fun y hy => by
                rcases List.mem_cons.1 hy with rfl | hy
                · exact hx
                · exact hsub hy)
              rw [List.length_cons] at hle
              omega
          · intro h x hx
            rw [← h, decide_eq_true_eq]
            exact (s4 x).2 hx
        have r1 : Ev (fun k => spec_IsSolution.j0 k c false l q) (ft q c && decide (s = l), true) := by
          refine Ev.step (fun k => by simp only [spec_IsSolution.j0, Bool.false_eq_true, if_false, if_pos hlen]; rfl) ?_
          refine Ev.bind (f := fun k t => _) (show Ev (fun k => spec_pzFits.f k l q c) (ft q c) from f1) ?_
          cases hf : ft q c
          · refine Ev.step (f := fun _ => some (false, true)) (fun k => ?_) (Ev.now _)
            simp [spec_IsSolution.j1]
          · refine Ev.step (fun k => by simp only [spec_IsSolution.j1, Bool.not_true, Bool.false_eq_true, if_false]; rfl) ?_
            refine Ev.bind (f := fun k t => _) (haTiles_f c hc).1 ?_
            rw [Bool.true_and, ← hall]
            exact ti
        have r2 : Ev (fun k => impl_IsSolution.j0 k c false l q) (ft q c && decide (s = l), true) := by
          refine Ev.step (fun k => by simp only [impl_IsSolution.j0, Bool.false_eq_true, if_false, if_pos hlen]; rfl) ?_
          refine Ev.bind (f := fun k t => _) (haTiles_f c hc).2 ?_
          simp only [s1, Option.bind_some]
          refine Ev.bind (f := fun k t => _) (show Ev (fun k => slices_Equal_impl_Tile_impl_Tile.f k s l) (decide (s = l)) from ?_) ?_
          · unfold slices_Equal_impl_Tile_impl_Tile.f
            simp only [if_pos (show (s.length : Int) = (l.length : Int) from by rw [s2, tilesL_len]; omega)]
            exact se
          · cases hd : decide (s = l)
            · refine Ev.step (f := fun _ => some (false, true)) (fun k => ?_) ⟨0, fun k _ => by simp⟩
              simp [impl_IsSolution.j1]
            · refine Ev.step (fun k => by simp only [impl_IsSolution.j1, Bool.not_true, Bool.false_eq_true, if_false]; rfl) ?_
              rw [Bool.and_true]
              exact f2
        refine ⟨(ft q c && decide (s = l), true), Ev.bind (f := fun k t => _) h1 ?_, Ev.bind (f := fun k t => _) h2 ?_⟩
        · simp only [if_true]
          exact Ev.bind (f := fun k t => _) c1 (by simpa using r1)
        · simp only [if_true]
          exact Ev.bind (f := fun k t => _) c2 (by simpa using r2)
      · have r1 : Ev (fun k => spec_IsSolution.j0 k c false l q) (false, true) := by
          refine Ev.step (fun k => by simp only [spec_IsSolution.j0, Bool.false_eq_true, if_false, if_neg hlen]; rfl) ?_
          exact Ev.step (f := fun _ => some (false, true)) (fun k => by simp [spec_IsSolution.j1]) (Ev.now _)
        have r2 : Ev (fun k => impl_IsSolution.j0 k c false l q) (false, true) := by
          refine Ev.step (fun k => by simp only [impl_IsSolution.j0, Bool.false_eq_true, if_false, if_neg hlen]; rfl) ?_
          exact Ev.step (f := fun _ => some (false, true)) (fun k => by simp [impl_IsSolution.j1]) (Ev.now _)
        refine ⟨(false, true), Ev.bind (f := fun k t => _) h1 ?_, Ev.bind (f := fun k t => _) h2 ?_⟩
        · simp only [if_true]
          exact Ev.bind (f := fun k t => _) c1 (by simpa using r1)
        · simp only [if_true]
          exact Ev.bind (f := fun k t => _) c2 (by simpa using r2)
theorem FnExactIsSolution (l0_0 : List (S74)) (l0_1 : List Int) (l1 : List Int) (_h0 : (l0_0.length ≤ 9223372036854775807 ∧ ∀ x_ ∈ l0_0, ((Lit.int .i64 x_.f0).wf = true ∧ (Lit.int .i64 x_.f1).wf = true))) (_h1 : (l0_1.length ≤ 9223372036854775807 ∧ ∀ x_ ∈ l0_1, (Lit.int .i64 x_).wf = true)) (_h2 : (l1.length ≤ 9223372036854775807 ∧ ∀ x_ ∈ l1, (Lit.int .i64 x_).wf = true)) : ∃ k, laws_FnExactIsSolution.f k l0_0 l0_1 l1 = some true := by
  refine Ev.rounds (g := fun k => laws_FnExactIsSolution.f k l0_0 l0_1 l1) ?_
  unfold laws_FnExactIsSolution.f
  by_cases hbig : (l1.length : Int) > 1048576
  · simp only [if_pos hbig]
    exact ⟨0, fun k _ => rfl⟩
  · simp only [if_neg hbig]
    have hti := toIntS_f l1 (by omega)
    rcases szPuzzle_f l0_0 l0_1 _h0.1 _h1.1 with hsz | ⟨n, hsz, hn, hl, hc⟩
    · rw [hsz]
      exact ⟨0, fun k _ => rfl⟩
    · rw [hsz]
      simp only [Option.bind_some, hn, if_false]
      have htp := toPuzzle_f l0_0 l0_1 hl hc
      have hlm : (l0_0.map conv).length ≤ 1048576 := by simpa using hl
      obtain ⟨r, h1, h2⟩ := sol_both (l0_0.map conv) l0_1 l1 (by omega) (by omega) (by omega)
      refine Ev.bind (f := fun k (d : List S55 × List Int) => _) htp ?_
      refine Ev.bind (f := fun k t => _) hti ?_
      refine Ev.bind (f := fun k (d : Bool × Bool) => _) h1 ?_
      refine Ev.bind (f := fun k (d : List S55 × List Int) => _) htp ?_
      refine Ev.bind (f := fun k t => _) hti ?_
      refine Ev.bind (f := fun k (d : Bool × Bool) => _) h2 ?_
      simp only [bne_self_eq_false, Bool.false_eq_true, if_false]
      refine Ev.step (fun k => by simp only [laws_FnExactIsSolution.j0, Bool.false_eq_true, if_false]; rfl) ?_
      refine Ev.bind (f := fun k (d : List S55 × List Int) => _) htp ?_
      refine Ev.bind (f := fun k t => _) (eqPuzzle_f (l0_0.map conv) l0_1 hlm hc) ?_
      simp only [if_true]
      refine Ev.bind (f := fun k t => _) hti ?_
      exact Ev.bind (f := fun k t => _) (eqIntS_f l1 (by omega)) ⟨0, fun k _ => rfl⟩


end Go.Proofs.Ytncogkhhecgcbaa.QPure
