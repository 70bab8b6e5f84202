/- For every input the law FnExactRenamePuzzle answers true: the plain statement over lists and numbers. No conditions. -/
import Derived.Test.YtncogkhhecgcbaaQFnExactRenamePuzzlex1
import Derived.Test.YtncogkhhecgcbaaQFnExactRenamePuzzlex2
import Derived.Test.YtncogkhhecgcbaaQFnExactRenamePuzzlex3
import Derived.Test.YtncogkhhecgcbaaQFnExactRenamePuzzlex4
import Derived.Test.YtncogkhhecgcbaaQFnExactRenamePuzzlex5
import Derived.Test.YtncogkhhecgcbaaQFnExactRenamePuzzlex6
import Derived.Test.YtncogkhhecgcbaaQFnExactRenamePuzzlex7
import Derived.Test.YtncogkhhecgcbaaQFnExactRenamePuzzlex8
import Derived.Test.YtncogkhhecgcbaaQFnExactRenamePuzzlex9
import Derived.Test.YtncogkhhecgcbaaQFnExactRenamePuzzlex10
import Derived.Test.YtncogkhhecgcbaaQFnExactRenamePuzzlex11
import Derived.Test.YtncogkhhecgcbaaQFnExactRenamePuzzlex12
namespace Go.Proofs.Ytncogkhhecgcbaa.QPure
open Go.RowKit Go.Proofs.Ytncogkhhecgcbaa.QFnExactRenamePuzzle Go.Proofs.YtncogkhhecgcbaaW.PrintWords Go.Proofs.YtncogkhhecgcbaaW.PrintLast

set_option linter.unusedVariables false
set_option linter.unusedSimpArgs false
/-! Hands and their order, in plain words. -/
theorem t_eta (x : S55) : (⟨x.f0, x.f1⟩ : S55) = x := rfl
theorem t_ext (x y : S55) (h0 : x.f0 = y.f0) (h1 : x.f1 = y.f1) : x = y := by
  cases x
  cases y
  simp_all
instance t_dec : DecidableEq S55 := fun x y => if h : x.f0 = y.f0 ∧ x.f1 = y.f1 then isTrue (t_ext x y h.1 h.2) else isFalse (fun e => h (by subst e; exact ⟨rfl, rfl⟩))
theorem t_beq (x y : S55) : (x.f0 == y.f0 && (x.f1 == y.f1)) = decide (x = y) := by
  by_cases h : x = y
  · subst h
    simp
  · have : ¬ (x.f0 = y.f0 ∧ x.f1 = y.f1) := fun e => h (t_ext x y e.1 e.2)
    rw [decide_eq_false h]
    by_cases h0 : x.f0 = y.f0
    · have h1 : ¬ x.f1 = y.f1 := fun e => this ⟨h0, e⟩
      simp [h1]
    · simp [h0]
theorem t_mid (pre : List S55) (x : S55) (xs : List S55) (d : S55) : (pre ++ x :: xs).getD pre.length d = x := by
  rw [List.getD_eq_getElem?_getD, List.getElem?_append_right (Nat.le_refl _), Nat.sub_self]
  rfl
theorem t_wrap (n : Int) (h : -1000000000 ≤ n) (h' : n ≤ 1000000000) : wrap64 n = n := by
  unfold wrap64
  omega

theorem t_wrap2 (n : Int) (h : -1000000000000 ≤ n) (h' : n ≤ 1000000000000) : wrap64 n = n := by
  unfold wrap64
  omega

def good (x : S55) : Bool := decide (0 ≤ x.f0) && (decide (x.f0 ≤ x.f1) && decide (x.f1 ≤ 9))
theorem good_iff (x : S55) : good x = true ↔ 0 ≤ x.f0 ∧ x.f0 ≤ x.f1 ∧ x.f1 ≤ 9 := by
  unfold good
  simp
theorem tiGood_f (x : S55) : spec_tiGood.f x.f0 x.f1 = some (good x) := by
  unfold spec_tiGood.f spec_l1In.f good
  by_cases h1 : 0 ≤ x.f0
  · have h1' : x.f0 ≥ 0 := h1
    rw [if_pos h1']
    by_cases h2 : x.f0 ≤ x.f1
    · simp [h1, h2]
    · simp [h1, h2]
  · have h1' : ¬ x.f0 ≥ 0 := h1
    rw [if_neg h1']
    simp [h1]

/-- The first place of a tile behind pre. -/
theorem place_ev (t : S55) : ∀ (rest pre : List S55), (pre ++ rest).length ≤ 2000000 → ∃ r : Int, Ev (fun k => spec_tiPlace.l0 k (pre ++ rest) ((pre ++ rest).length : Int) (pre.length : Int) t.f0 t.f1) r ∧ decide (r ≥ 0) = decide (t ∈ rest) := by
  intro rest
  induction rest with
  | nil =>
    intro pre hl
    refine ⟨-1, Ev.step (f := fun _ => some (-1)) (fun k => ?_) (Ev.now _), by simp⟩
    simp only [spec_tiPlace.l0, List.append_nil]
    rw [if_neg (by omega)]
  | cons x xs ih =>
    intro pre hl
    have hlen : (pre ++ x :: xs).length = pre.length + xs.length + 1 := by simp; omega
    have hget : rd_T55 (pre ++ x :: xs) (pre.length : Int) = x := by
      unfold rd_T55
      exact t_mid pre x xs _
    by_cases e : x = t
    · refine ⟨(pre.length : Int), Ev.step (f := fun _ => some (pre.length : Int)) (fun k => ?_) (Ev.now _), by simp [e]⟩
      simp only [spec_tiPlace.l0]
      rw [if_pos (by omega), if_pos (by omega), if_pos (by omega), hget, t_beq, if_pos (by simp [e])]
    · obtain ⟨r, h1, h2⟩ := ih (pre ++ [x]) (by simpa using hl)
      have e1 : pre ++ [x] ++ xs = pre ++ x :: xs := by simp
      rw [e1] at h1
      refine ⟨r, Ev.step (fun k => ?_) h1, by rw [h2]; simp [Ne.symm e]⟩
      simp only [spec_tiPlace.l0]
      rw [if_pos (by omega), if_pos (by omega), if_pos (by omega), hget, t_beq, if_neg (by simp [e]), t_wrap ((pre.length : Int) + 1) (by omega) (by omega)]
      simp
theorem place_f (t : S55) (l : List S55) (hl : l.length ≤ 2000000) : ∃ r : Int, Ev (fun k => spec_tiPlace.f k l t.f0 t.f1) r ∧ decide (r ≥ 0) = decide (t ∈ l) := place_ev t l [] hl

/-- .. and the program's. -/
theorem index_ev (t : S55) : ∀ (rest pre : List S55), (pre ++ rest).length ≤ 2000000 → ∃ r : Int, Ev (fun k => slices_Index_impl_Tile_impl_Tile.l0 k (pre ++ rest) ((pre ++ rest).length : Int) (pre.length : Int) t.f0 t.f1) r ∧ decide (r ≥ 0) = decide (t ∈ rest) := by
  intro rest
  induction rest with
  | nil =>
    intro pre hl
    refine ⟨-1, Ev.step (f := fun _ => some (-1)) (fun k => ?_) (Ev.now _), by simp⟩
    simp only [slices_Index_impl_Tile_impl_Tile.l0, List.append_nil]
    rw [if_neg (by omega)]
  | cons x xs ih =>
    intro pre hl
    have hlen : (pre ++ x :: xs).length = pre.length + xs.length + 1 := by simp; omega
    have hget : rd_T55 (pre ++ x :: xs) (pre.length : Int) = x := by
      unfold rd_T55
      exact t_mid pre x xs _
    by_cases e : t = x
    · refine ⟨(pre.length : Int), Ev.step (f := fun _ => some (pre.length : Int)) (fun k => ?_) (Ev.now _), by simp [e]⟩
      simp only [slices_Index_impl_Tile_impl_Tile.l0]
      rw [if_pos (by omega), if_pos (by omega), if_pos (by omega), hget, t_beq, if_pos (by simp [e])]
    · obtain ⟨r, h1, h2⟩ := ih (pre ++ [x]) (by simpa using hl)
      have e1 : pre ++ [x] ++ xs = pre ++ x :: xs := by simp
      rw [e1] at h1
      refine ⟨r, Ev.step (fun k => ?_) h1, by rw [h2]; simp [e]⟩
      simp only [slices_Index_impl_Tile_impl_Tile.l0]
      rw [if_pos (by omega), if_pos (by omega), if_pos (by omega), hget, t_beq, if_neg (by simp [e]), t_wrap ((pre.length : Int) + 1) (by omega) (by omega)]
      simp
theorem contains_f (t : S55) (l : List S55) (hl : l.length ≤ 2000000) : Ev (fun k => slices_Contains_impl_Tile_impl_Tile.f k l t.f0 t.f1) (decide (t ∈ l)) := by
  obtain ⟨r, h1, h2⟩ := index_ev t l [] hl
  rw [← h2]
  exact Ev.bind (f := fun _ t177 => (some (decide (t177 ≥ 0)))) h1 ⟨0, fun k _ => rfl⟩

/-- No two the same, behind pre. -/
def nd : List S55 → List S55 → Bool
  | _, [] => true
  | pre, x :: xs => !decide (x ∈ pre) && nd (pre ++ [x]) xs
def hb : List S55 → List S55 → Bool
  | _, [] => true
  | pre, x :: xs => good x && (!decide (x ∈ pre) && hb (pre ++ [x]) xs)
theorem hb_nd : ∀ (rest pre : List S55), hb pre rest = (rest.all good && nd pre rest) := by
  intro rest
  induction rest with
  | nil => intro pre; rfl
  | cons x xs ih =>
    intro pre
    unfold hb nd
    rw [ih, List.all_cons]
    cases good x <;> cases decide (x ∈ pre) <;> cases xs.all good <;> simp
theorem nd_nodup : ∀ (rest pre : List S55), nd pre rest = true → (∀ x ∈ rest, x ∉ pre) ∧ rest.Nodup := by
  intro rest
  induction rest with
  | nil => intro pre _; exact ⟨(fun x h => by cases h), List.nodup_nil⟩
  | cons x xs ih =>
    intro pre h
    unfold nd at h
    simp only [Bool.and_eq_true, Bool.not_eq_true', decide_eq_false_iff_not] at h
    obtain ⟨h1, h2⟩ := ih _ h.2
    refine ⟨fun y hy => ?_, ?_⟩
    · rcases List.mem_cons.1 hy with rfl | hy
      · exact h.1
      · exact fun hp => h1 y hy (List.mem_append_left _ hp)
    · rw [List.nodup_cons]
      exact ⟨fun hx => h1 x hx (by simp), h2⟩

theorem tiHand_ev : ∀ (rest pre : List S55), (pre ++ rest).length ≤ 2000000 → Ev (fun k => spec_tiHand.l0 k (pre ++ rest) (pre ++ rest) ((pre ++ rest).length : Int) (pre.length : Int)) (hb pre rest) := by
  intro rest
  induction rest with
  | nil =>
    intro pre hl
    refine Ev.step (f := fun _ => some true) (fun k => ?_) (Ev.now _)
    simp only [spec_tiHand.l0, List.append_nil]
    rw [if_neg (by omega)]
  | cons x xs ih =>
    intro pre hl
    have hlen : (pre ++ x :: xs).length = pre.length + xs.length + 1 := by simp; omega
    have hget : rd_T55 (pre ++ x :: xs) (pre.length : Int) = x := by
      unfold rd_T55
      exact t_mid pre x xs _
    have htake : (pre ++ x :: xs).take ((pre.length : Int)).toNat = pre := by simp
    cases hg : good x
    · refine Ev.step (f := fun _ => some (hb pre (x :: xs))) (fun k => ?_) (Ev.now _)
      simp only [spec_tiHand.l0]
      rw [if_pos (by omega), if_pos (by omega), if_pos (by omega), hget, tiGood_f, hg]
      simp [hb, hg]
    · obtain ⟨r, h1, h2⟩ := place_f x pre (by omega)
      have e1 : pre ++ [x] ++ xs = pre ++ x :: xs := by simp
      have hi := ih (pre ++ [x]) (by simpa using hl)
      rw [e1] at hi
      refine Ev.step (f := fun k => (spec_tiPlace.f k pre x.f0 x.f1).bind fun t123 => (if t123 ≥ 0 then (some false) else (spec_tiHand.l0 k (pre ++ x :: xs) (pre ++ x :: xs) ((pre ++ x :: xs).length : Int) (((pre ++ [x]).length : Nat) : Int)))) (fun k => ?_) ?_
      · simp only [spec_tiHand.l0]
        rw [if_pos (by omega), if_pos (by omega), if_pos (by omega), hget, tiGood_f, hg]
        simp only [Option.bind_some, if_true]
        rw [if_pos (by omega), htake, t_wrap ((pre.length : Int) + 1) (by omega) (by omega)]
        simp
      · refine Ev.bind (f := fun k t123 => (if t123 ≥ 0 then (some false) else (spec_tiHand.l0 k (pre ++ x :: xs) (pre ++ x :: xs) ((pre ++ x :: xs).length : Int) (((pre ++ [x]).length : Nat) : Int)))) h1 ?_
        by_cases hm : x ∈ pre
        · have hr : r ≥ 0 := by
            rw [decide_eq_true hm] at h2
            exact of_decide_eq_true h2
          refine ⟨0, fun k _ => ?_⟩
          (try dsimp only)
          rw [if_pos hr]
          simp [hb, hm]
        · have hr : ¬ r ≥ 0 := by
            rw [decide_eq_false hm] at h2
            exact of_decide_eq_false h2
          refine Ev.congr (fun k => ?_) (show Ev _ (hb pre (x :: xs)) from by
            have : hb pre (x :: xs) = hb (pre ++ [x]) xs := by simp [hb, hg, hm]
            rw [this]
            exact hi)
          (try dsimp only)
          rw [if_neg hr]

theorem areDiff_ev : ∀ (rest pre : List S55), (pre ++ rest).length ≤ 2000000 → Ev (fun k => impl_areDifferent_impl_Tile.l0 k (pre ++ rest) (pre ++ rest) ((pre ++ rest).length : Int) (pre.length : Int)) (nd pre rest) := by
  intro rest
  induction rest with
  | nil =>
    intro pre hl
    refine Ev.step (f := fun _ => some true) (fun k => ?_) (Ev.now _)
    simp only [impl_areDifferent_impl_Tile.l0, List.append_nil]
    rw [if_neg (by omega)]
  | cons x xs ih =>
    intro pre hl
    have hlen : (pre ++ x :: xs).length = pre.length + xs.length + 1 := by simp; omega
    have hget : rd_T55 (pre ++ x :: xs) (pre.length : Int) = x := by
      unfold rd_T55
      exact t_mid pre x xs _
    have htake : (pre ++ x :: xs).take ((pre.length : Int)).toNat = pre := by simp
    have h1 := contains_f x pre (by omega)
    have e1 : pre ++ [x] ++ xs = pre ++ x :: xs := by simp
    have hi := ih (pre ++ [x]) (by simpa using hl)
    rw [e1] at hi
    refine Ev.step (f := fun k => (slices_Contains_impl_Tile_impl_Tile.f k pre x.f0 x.f1).bind fun t184 => (if t184 = true then (some false) else (impl_areDifferent_impl_Tile.l0 k (pre ++ x :: xs) (pre ++ x :: xs) ((pre ++ x :: xs).length : Int) (((pre ++ [x]).length : Nat) : Int)))) (fun k => ?_) ?_
    · simp only [impl_areDifferent_impl_Tile.l0]
      rw [if_pos (by omega), if_pos (by omega), if_pos (by omega), if_pos (by omega), hget, htake, t_wrap ((pre.length : Int) + 1) (by omega) (by omega)]
      simp
    · refine Ev.bind (f := fun k t184 => (if t184 = true then (some false) else (impl_areDifferent_impl_Tile.l0 k (pre ++ x :: xs) (pre ++ x :: xs) ((pre ++ x :: xs).length : Int) (((pre ++ [x]).length : Nat) : Int)))) h1 ?_
      by_cases hm : x ∈ pre
      · refine ⟨0, fun k _ => ?_⟩
        simp [nd, hm]
      · refine Ev.congr (fun k => ?_) (show Ev _ (nd pre (x :: xs)) from by
          have : nd pre (x :: xs) = nd (pre ++ [x]) xs := by simp [nd, hm]
          rw [this]
          exact hi)
        simp only [hm, decide_false, Bool.false_eq_true, if_false]

theorem noTile_good (x : S55) : noTile x = !good x := rfl
theorem any_no (l : List S55) : l.any noTile = !l.all good := by
  induction l with
  | nil => rfl
  | cons x xs ih => rw [List.any_cons, List.all_cons, ih, noTile_good]; cases good x <;> simp

/-- Is it a hand? The same on both sides. -/
def isH (l : List S55) : Bool := decide (l.length ≤ 55) && (l.all good && nd [] l)
theorem isH_spec (l : List S55) (hl : l.length ≤ 2000000) : Ev (fun k => spec_tiHand.f k l) (isH l) := by
  by_cases h : l.length ≤ 55
  · have hi := tiHand_ev l [] hl
    rw [hb_nd] at hi
    refine Ev.congr (fun k => ?_) (show Ev _ (isH l) from by
      have : isH l = (l.all good && nd [] l) := by simp [isH, h]
      rw [this]
      exact hi)
    unfold spec_tiHand.f
    rw [if_neg (by omega)]
    rfl
  · refine ⟨0, fun k _ => ?_⟩
    show spec_tiHand.f k l = _
    unfold spec_tiHand.f
    rw [if_pos (by omega)]
    simp [isH, h]
theorem isH_impl (l : List S55) (hl : l.length ≤ 2000000) : Ev (fun k => impl_IsHand.f k l) (isH l) := by
  by_cases h : l.length ≤ 55
  · cases hg : l.all good
    · refine ⟨0, fun k _ => ?_⟩
      show impl_IsHand.f k l = _
      unfold impl_IsHand.f
      rw [if_pos (by omega), any_no, hg]
      simp [isH, hg]
    · have hi := areDiff_ev l [] hl
      refine Ev.congr (fun k => ?_) (show Ev _ (isH l) from by
        have : isH l = nd [] l := by simp [isH, h, hg]
        rw [this]
        exact hi)
      unfold impl_IsHand.f
      rw [if_pos (by omega), any_no, hg]
      simp only [Bool.not_true, Bool.false_eq_true, if_false]
      rfl
  · refine ⟨0, fun k _ => ?_⟩
    show impl_IsHand.f k l = _
    unfold impl_IsHand.f
    rw [if_neg (by omega)]
    simp [isH, h]
theorem isH_true (l : List S55) (h : isH l = true) : l.length ≤ 55 ∧ (∀ x ∈ l, good x = true) ∧ l.Nodup := by
  unfold isH at h
  simp only [Bool.and_eq_true, decide_eq_true_eq] at h
  exact ⟨h.1, List.all_eq_true.1 h.2.1, (nd_nodup l [] h.2.2).2⟩

/-! ### Order -/
def lt (x y : S55) : Prop := x.f0 < y.f0 ∨ (x.f0 = y.f0 ∧ x.f1 < y.f1)
theorem lt_irrefl (x : S55) : ¬ lt x x := by
  unfold lt
  omega
theorem lt_trans {x y z : S55} (h : lt x y) (k : lt y z) : lt x z := by
  unfold lt at *
  omega
theorem lt_asymm {x y : S55} (h : lt x y) : ¬ lt y x := by
  unfold lt at *
  omega
theorem cmpT_neg (x y : S55) (hx : good x = true) (hy : good y = true) : cmpT x y < 0 ↔ lt x y := by
  rw [good_iff] at hx hy
  unfold cmpT lt
  by_cases h : x.f0 = y.f0
  · rw [if_pos h, t_wrap _ (by omega) (by omega)]
    omega
  · rw [if_neg h, t_wrap _ (by omega) (by omega)]
    omega
theorem lt_total (x y : S55) (h : ¬ lt x y) (k : x ≠ y) : lt y x := by
  have : ¬ (x.f0 = y.f0 ∧ x.f1 = y.f1) := fun e => k (t_ext x y e.1 e.2)
  unfold lt at *
  omega

theorem uniq : ∀ (a b : List S55), a.Pairwise lt → b.Pairwise lt → (∀ x, x ∈ a ↔ x ∈ b) → a = b := by
  intro a
  induction a with
  | nil =>
    intro b _ _ h
    cases b with
    | nil => rfl
    | cons y ys => exact absurd ((h y).2 List.mem_cons_self) (by simp)
  | cons x xs ih =>
    intro b ha hb h
    cases b with
    | nil => exact absurd ((h x).1 List.mem_cons_self) (by simp)
    | cons y ys =>
      rw [List.pairwise_cons] at ha hb
      have e : x = y := by
        rcases List.mem_cons.1 ((h x).1 List.mem_cons_self) with e | e
        · exact e
        · rcases List.mem_cons.1 ((h y).2 List.mem_cons_self) with e2 | e2
          · exact e2.symm
          · exact absurd (ha.1 y e2) (lt_asymm (hb.1 x e))
      subst e
      congr 1
      refine ih ys ha.2 hb.2 (fun z => ?_)
      constructor
      · intro hz
        rcases List.mem_cons.1 ((h z).1 (List.mem_cons_of_mem _ hz)) with e | e
        · subst e
          exact absurd (ha.1 z hz) (lt_irrefl z)
        · exact e
      · intro hz
        rcases List.mem_cons.1 ((h z).2 (List.mem_cons_of_mem _ hz)) with e | e
        · subst e
          exact absurd (hb.1 z hz) (lt_irrefl z)
        · exact e

theorem sortedT_iff : ∀ (l : List S55), (∀ x ∈ l, good x = true) → l.Nodup → (sortedT l = true ↔ l.Pairwise lt) := by
  intro l
  induction l with
  | nil => intro _ _; exact ⟨fun _ => List.Pairwise.nil, fun _ => rfl⟩
  | cons x xs ih =>
    intro hg hn
    rw [List.nodup_cons] at hn
    have hgx := hg x List.mem_cons_self
    have hi := ih (fun y hy => hg y (List.mem_cons_of_mem _ hy)) hn.2
    unfold sortedT
    cases xs with
    | nil => simp [sortedT]
    | cons y ys =>
      have hgy := hg y (by simp)
      simp only [Bool.and_eq_true, Bool.not_eq_true', decide_eq_false_iff_not]
      rw [hi, cmpT_neg y x hgy hgx]
      constructor
      · rintro ⟨h1, h2⟩
        have hxy : lt x y := lt_total y x h1 (fun e => hn.1 (by rw [← e]; exact List.mem_cons_self))
        refine List.pairwise_cons.2 ⟨fun z hz => ?_, h2⟩
        rcases List.mem_cons.1 hz with rfl | hz
        · exact hxy
        · exact lt_trans hxy ((List.pairwise_cons.1 h2).1 z hz)
      · intro h
        obtain ⟨h1, h2⟩ := List.pairwise_cons.1 h
        exact ⟨lt_asymm (h1 y List.mem_cons_self), h2⟩

/-! ### The whole set -/
def code (l : List S55) : List (Int × Int) := l.map fun t => (t.f0, t.f1)
theorem code_inj (a b : List S55) (h : code a = code b) : a = b := by
  unfold code at h
  induction a generalizing b with
  | nil => cases b with
    | nil => rfl
    | cons y b => simp at h
  | cons x a ih => cases b with
    | nil => simp at h
    | cons y b =>
      simp only [List.map_cons, List.cons.injEq, Prod.mk.injEq] at h
      rw [ih b h.2]
      cases x
      cases y
      simp_all
def lst (n : Nat) : List (Int × Int) := (List.range (n + 1)).flatMap fun a => (List.range (n + 1 - a)).map fun b => ((a : Int), ((a + b : Nat) : Int))
/-- The tiles of the set of 9: in order, all, and none but them. -/
theorem whole : ∃ A : List S55, Ev (fun k => spec_tiSet.f k 9) A ∧ A.length = 55 ∧ A.Pairwise lt ∧ (∀ x, x ∈ A ↔ good x = true) := by
  have h2 : ((spec_tiSet.f 100 9).map code) = some (lst 9) := by decide +kernel
  obtain ⟨A, hA, hc⟩ := Option.map_eq_some_iff.1 h2
  have hl : (lst 9).length = 55 := by decide +kernel
  have hp : (lst 9).Pairwise (fun x y => x.1 < y.1 ∨ (x.1 = y.1 ∧ x.2 < y.2)) := by decide +kernel
  have hg : ∀ p ∈ lst 9, 0 ≤ p.1 ∧ p.1 ≤ p.2 ∧ p.2 ≤ 9 := by decide +kernel
  have hall : ∀ a : Fin 10, ∀ b : Fin 10, a.val ≤ b.val → (((a.val : Nat) : Int), ((b.val : Nat) : Int)) ∈ lst 9 := by decide +kernel
  generalize lst 9 = P at hc hl hp hg hall
  subst hc
  refine ⟨A, Ev.of (fun k => spec_tiSet.mono _ k) hA, ?_, ?_, fun x => ?_⟩
  · unfold code at hl
    rw [List.length_map] at hl
    exact hl
  · unfold code at hp
    rw [List.pairwise_map] at hp
    exact hp
  · constructor
    · intro hx
      rw [good_iff]
      exact hg (x.f0, x.f1) (by unfold code; exact List.mem_map.2 ⟨x, hx, rfl⟩)
    · intro hx
      rw [good_iff] at hx
      have := hall ⟨x.f0.toNat, by omega⟩ ⟨x.f1.toNat, by omega⟩ (by simp; omega)
      simp only at this
      rw [Int.toNat_of_nonneg (by omega), Int.toNat_of_nonneg (by omega)] at this
      unfold code at this
      obtain ⟨y, hy, e⟩ := List.mem_map.1 this
      simp only [Prod.mk.injEq] at e
      have : y = x := t_ext y x e.1 e.2
      rw [← this]
      exact hy

theorem pick_ev (l : List S55) (hl : l.length ≤ 2000000) (b : Bool) : ∀ (rest pre out : List S55), (pre ++ rest).length ≤ 1000 → out.length ≤ pre.length →
    Ev (fun k => spec_tiPick.l0 k l b out (pre ++ rest) ((pre ++ rest).length : Int) (pre.length : Int)) (out ++ rest.filter fun x => decide (x ∈ l) == b) := by
  intro rest
  induction rest with
  | nil =>
    intro pre out h1 h2
    refine Ev.step (f := fun _ => some (out ++ [])) (fun k => ?_) (Ev.now _)
    simp only [spec_tiPick.l0, List.append_nil]
    rw [if_neg (by omega)]
  | cons x xs ih =>
    intro pre out h1 h2
    have hlen : (pre ++ x :: xs).length = pre.length + xs.length + 1 := by simp; omega
    have hget : rd_T55 (pre ++ x :: xs) (pre.length : Int) = x := by
      unfold rd_T55
      exact t_mid pre x xs _
    obtain ⟨r, p1, p2⟩ := place_f x l hl
    have e1 : pre ++ [x] ++ xs = pre ++ x :: xs := by simp
    refine Ev.step (f := fun k => (spec_tiPlace.f k l x.f0 x.f1).bind fun t135 => (if ((decide (t135 ≥ 0)) == b) = true then (spec_tiPick.l0 k l b (out ++ [x]) (pre ++ x :: xs) ((pre ++ x :: xs).length : Int) (((pre ++ [x]).length : Nat) : Int)) else (spec_tiPick.l0 k l b out (pre ++ x :: xs) ((pre ++ x :: xs).length : Int) (((pre ++ [x]).length : Nat) : Int)))) (fun k => ?_) ?_
    · simp only [spec_tiPick.l0]
      rw [if_pos (by omega), if_pos (by omega), if_pos (by omega), hget, t_wrap ((pre.length : Int) + 1) (by omega) (by omega), if_pos (by omega)]
      simp
    · refine Ev.bind (f := fun k t135 => (if ((decide (t135 ≥ 0)) == b) = true then (spec_tiPick.l0 k l b (out ++ [x]) (pre ++ x :: xs) ((pre ++ x :: xs).length : Int) (((pre ++ [x]).length : Nat) : Int)) else (spec_tiPick.l0 k l b out (pre ++ x :: xs) ((pre ++ x :: xs).length : Int) (((pre ++ [x]).length : Nat) : Int)))) p1 ?_
      rw [List.filter_cons]
      cases hd : (decide (x ∈ l) == b)
      · have hi := ih (pre ++ [x]) out (by simpa using h1) (by simp; omega)
        rw [e1] at hi
        refine Ev.congr (fun k => ?_) (by simpa using hi)
        (try dsimp only)
        rw [p2, hd]
        simp
      · have hi := ih (pre ++ [x]) (out ++ [x]) (by simpa using h1) (by simp; omega)
        rw [e1] at hi
        refine Ev.congr (fun k => ?_) (by simpa using hi)
        (try dsimp only)
        rw [p2, hd]
        simp

theorem len_le : ∀ (a b : List S55), a.Nodup → (∀ x, x ∈ a → x ∈ b) → a.length ≤ b.length := by
  intro a
  induction a with
  | nil => intro b _ _; simp
  | cons x xs ih =>
    intro b hn h
    rw [List.nodup_cons] at hn
    have hx := h x List.mem_cons_self
    have := ih (b.erase x) hn.2 (fun y hy => (List.mem_erase_of_ne (fun e => hn.1 (by rw [← e]; exact hy))).2 (h y (List.mem_cons_of_mem _ hy)))
    rw [List.length_erase_of_mem hx] at this
    have hp : 0 < b.length := List.length_pos_of_mem hx
    simp
    omega
theorem len_eq (a b : List S55) (ha : a.Nodup) (hb : b.Nodup) (h : ∀ x, x ∈ a ↔ x ∈ b) : a.length = b.length :=
  Nat.le_antisymm (len_le a b ha (fun x hx => (h x).1 hx)) (len_le b a hb (fun x hx => (h x).2 hx))

/-- A hand in order. -/
theorem sort_f (l : List S55) (h : isH l = true) : ∃ s : List S55, Ev (fun k => spec_tiSort.f k l) s ∧ s.length = l.length ∧ s.Pairwise lt ∧ (∀ x, x ∈ s ↔ x ∈ l) ∧ decide (s = l) = sortedT l := by
  obtain ⟨h1, h2, h3⟩ := isH_true l h
  obtain ⟨A, hA, hl, hp, hm⟩ := whole
  have hk := pick_ev l (by omega) true A [] [] (by simp; omega) (by simp)
  simp only [List.nil_append] at hk
  have hmem : ∀ x, x ∈ A.filter (fun x => decide (x ∈ l) == true) ↔ x ∈ l := by
    intro x
    rw [List.mem_filter, hm]
    constructor
    · rintro ⟨_, h⟩
      simpa using h
    · intro h
      exact ⟨h2 x h, by simp [h]⟩
  have hps := hp.filter (fun x => decide (x ∈ l) == true)
  have hnd : ∀ (s : List S55), s.Pairwise lt → s.Nodup := fun s hs => hs.imp (fun {a b} hab e => by subst e; exact lt_irrefl a hab)
  refine ⟨A.filter (fun x => decide (x ∈ l) == true), ?_, ?_, hps, hmem, ?_⟩
  · refine Ev.congr (fun k => ?_) (Ev.bind (f := fun k t130 => (spec_tiPick.l0 k l true [] t130 (t130.length : Int) 0)) hA hk)
    unfold spec_tiSort.f spec_tiPick.f
    cases spec_tiSet.f k 9 with
    | none => rfl
    | some t =>
      simp only [Option.bind_some]
      cases spec_tiPick.l0 k l true [] t (t.length : Int) 0 with
      | none => rfl
      | some u => rfl
  · exact len_eq _ _ (hnd _ hps) h3 hmem
  · by_cases e : A.filter (fun x => decide (x ∈ l) == true) = l
    · rw [decide_eq_true e]
      rw [e] at hps
      exact ((sortedT_iff l h2 h3).2 hps).symm
    · rw [decide_eq_false e]
      cases hs : sortedT l
      · rfl
      · exact absurd (uniq _ _ hps ((sortedT_iff l h2 h3).1 hs) hmem) e

/-! Tiles of the laws and of the program; lists that are compared with themselves. -/
def conv (x : S74) : S55 := ⟨x.f0, x.f1⟩
theorem m_mid (pre : List S74) (x : S74) (xs : List S74) (d : S74) : (pre ++ x :: xs).getD pre.length d = x := by
  rw [List.getD_eq_getElem?_getD, List.getElem?_append_right (Nat.le_refl _), Nat.sub_self]
  rfl
theorem toTileS_ev : ∀ (rest pre : List S74), (pre ++ rest).length ≤ 100000000 → Ev (fun k => laws_toTileS.l0 k (pre ++ rest) (pre.map conv ++ List.replicate rest.length z55) (pre.length : Int)) ((pre ++ rest).map conv) := by
  intro rest
  induction rest with
  | nil =>
    intro pre hl
    refine Ev.step (f := fun _ => some ((pre ++ []).map conv)) (fun k => ?_) (Ev.now _)
    simp only [laws_toTileS.l0, List.append_nil]
    rw [if_neg (by omega)]
    simp
  | cons x xs ih =>
    intro pre hl
    have hlen : (pre ++ x :: xs).length = pre.length + xs.length + 1 := by simp; omega
    have hlen2 : (pre.map conv ++ List.replicate (x :: xs).length z55).length = pre.length + xs.length + 1 := by simp; omega
    have hget : rd_T74 (pre ++ x :: xs) (pre.length : Int) = x := by
      unfold rd_T74
      exact m_mid pre x xs _
    have hset : (pre.map conv ++ List.replicate (x :: xs).length z55).set ((pre.length : Int)).toNat (⟨x.f0, x.f1⟩ : S55) = (pre ++ [x]).map conv ++ List.replicate xs.length z55 := by
      rw [show ((pre.length : Int)).toNat = (pre.map conv).length from by simp, List.set_append_right _ _ (Nat.le_refl _), Nat.sub_self, List.length_cons, List.replicate_succ, List.set_cons_zero]
      simp [conv]
    have e1 : pre ++ [x] ++ xs = pre ++ x :: xs := by simp
    have hi := ih (pre ++ [x]) (by simpa using hl)
    rw [e1] at hi
    refine Ev.step (fun k => ?_) hi
    simp only [laws_toTileS.l0, laws_toTile.f, Option.bind_some]
    rw [if_pos (by omega), if_pos (by omega), hget, hlen2, if_pos (by omega), hset, t_wrap2 ((pre.length : Int) + 1) (by omega) (by omega)]
    simp
theorem toTileS_f (l : List S74) (hl : l.length ≤ 100000000) : Ev (fun k => laws_toTileS.f k l) (l.map conv) := by
  have h := toTileS_ev l [] hl
  refine Ev.congr (fun k => ?_) h
  unfold laws_toTileS.f
  rw [if_pos (by omega), if_pos (by omega)]
  simp

theorem eqTileS_ev : ∀ (rest pre : List S55), (pre ++ rest).length ≤ 100000000 → Ev (fun k => laws_eqTileS.l0 k (pre ++ rest) (pre ++ rest) (pre.length : Int)) true := by
  intro rest
  induction rest with
  | nil =>
    intro pre hl
    refine Ev.step (f := fun _ => some true) (fun k => ?_) (Ev.now _)
    simp only [laws_eqTileS.l0, List.append_nil]
    rw [if_neg (by omega)]
  | cons x xs ih =>
    intro pre hl
    have hlen : (pre ++ x :: xs).length = pre.length + xs.length + 1 := by simp; omega
    have e1 : pre ++ [x] ++ xs = pre ++ x :: xs := by simp
    have hi := ih (pre ++ [x]) (by simpa using hl)
    rw [e1] at hi
    refine Ev.step (fun k => ?_) hi
    simp only [laws_eqTileS.l0, laws_eqTile.f, if_true, Option.bind_some]
    rw [if_pos (by omega), if_pos (by omega), if_pos (by omega), t_wrap2 ((pre.length : Int) + 1) (by omega) (by omega)]
    simp
theorem eqTileS_f (l : List S55) (hl : l.length ≤ 100000000) : Ev (fun k => laws_eqTileS.f k l l) true := by
  refine Ev.congr (fun k => ?_) (eqTileS_ev l [] hl)
  unfold laws_eqTileS.f
  rw [if_pos rfl]
  rfl
theorem szTileS_f (l : List S74) (n : Int) (hl : l.length ≤ 9223372036854775807) (hn : 0 ≤ n ∧ n ≤ 1048576) : laws_szTileS.f l n = some (if (l.length : Int) ≤ n then n - l.length else -1) := by
  have hw : wrap64 (n - (l.length : Int)) = n - l.length := by
    unfold wrap64
    omega
  unfold laws_szTileS.f
  rw [hw]
  by_cases h : (l.length : Int) ≤ n
  · rw [if_neg (by omega), if_pos h]
  · rw [if_pos (by omega), if_neg h]

/-! Lists of numbers; puzzles of the laws. -/
theorem i_mid (pre : List Int) (x : Int) (xs : List Int) : rd (pre ++ x :: xs) (pre.length : Int) = x := by
  unfold rd
  rw [show ((pre.length : Int)).toNat = pre.length from rfl, List.getD_eq_getElem?_getD, List.getElem?_append_right (Nat.le_refl _), Nat.sub_self]
  rfl
theorem toIntS_ev : ∀ (rest pre : List Int), (pre ++ rest).length ≤ 100000000 → Ev (fun k => laws_toIntS.l0 k (pre ++ rest) (pre ++ List.replicate rest.length 0) (pre.length : Int)) (pre ++ rest) := by
  intro rest
  induction rest with
  | nil =>
    intro pre hl
    refine Ev.step (f := fun _ => some (pre ++ [])) (fun k => ?_) (Ev.now _)
    simp only [laws_toIntS.l0, List.append_nil]
    rw [if_neg (by omega)]
    simp
  | cons x xs ih =>
    intro pre hl
    have hlen : (pre ++ x :: xs).length = pre.length + xs.length + 1 := by simp; omega
    have hlen2 : (pre ++ List.replicate (x :: xs).length (0 : Int)).length = pre.length + xs.length + 1 := by simp; omega
    have hset : (pre ++ List.replicate (x :: xs).length (0 : Int)).set ((pre.length : Int)).toNat x = (pre ++ [x]) ++ List.replicate xs.length 0 := by
      rw [show ((pre.length : Int)).toNat = pre.length from rfl, List.set_append_right _ _ (Nat.le_refl _), Nat.sub_self, List.length_cons, List.replicate_succ, List.set_cons_zero]
      simp
    have e1 : pre ++ [x] ++ xs = pre ++ x :: xs := by simp
    have hi := ih (pre ++ [x]) (by simpa using hl)
    rw [e1] at hi
    refine Ev.step (fun k => ?_) hi
    simp only [laws_toIntS.l0]
    rw [if_pos (by omega), if_pos (by omega), hlen2, if_pos (by omega), i_mid, hset, t_wrap2 ((pre.length : Int) + 1) (by omega) (by omega)]
    simp
theorem toIntS_f (l : List Int) (hl : l.length ≤ 100000000) : Ev (fun k => laws_toIntS.f k l) l := by
  refine Ev.congr (fun k => ?_) (toIntS_ev l [] hl)
  unfold laws_toIntS.f
  rw [if_pos (by omega), if_pos (by omega)]
  simp
theorem eqIntS_ev : ∀ (rest pre : List Int), (pre ++ rest).length ≤ 100000000 → Ev (fun k => laws_eqIntS.l0 k (pre ++ rest) (pre ++ rest) (pre.length : Int)) true := by
  intro rest
  induction rest with
  | nil =>
    intro pre hl
    refine Ev.step (f := fun _ => some true) (fun k => ?_) (Ev.now _)
    simp only [laws_eqIntS.l0, List.append_nil]
    rw [if_neg (by omega)]
  | cons x xs ih =>
    intro pre hl
    have hlen : (pre ++ x :: xs).length = pre.length + xs.length + 1 := by simp; omega
    have e1 : pre ++ [x] ++ xs = pre ++ x :: xs := by simp
    have hi := ih (pre ++ [x]) (by simpa using hl)
    rw [e1] at hi
    refine Ev.step (fun k => ?_) hi
    simp only [laws_eqIntS.l0, if_true]
    rw [if_pos (by omega), if_pos (by omega), if_pos (by omega), t_wrap2 ((pre.length : Int) + 1) (by omega) (by omega)]
    simp
theorem eqIntS_f (l : List Int) (hl : l.length ≤ 100000000) : Ev (fun k => laws_eqIntS.f k l l) true := by
  refine Ev.congr (fun k => ?_) (eqIntS_ev l [] hl)
  unfold laws_eqIntS.f
  rw [if_pos rfl]
  rfl
theorem szIntS_f (l : List Int) (n : Int) (hl : l.length ≤ 9223372036854775807) (hn : 0 ≤ n ∧ n ≤ 1048576) : laws_szIntS.f l n = some (if (l.length : Int) ≤ n then n - l.length else -1) := by
  have hw : wrap64 (n - (l.length : Int)) = n - l.length := by
    unfold wrap64
    omega
  unfold laws_szIntS.f
  rw [hw]
  by_cases h : (l.length : Int) ≤ n
  · rw [if_neg (by omega), if_pos h]
  · rw [if_pos (by omega), if_neg h]
/-- Either a puzzle of the laws is too large to be asked, or it is small. -/
theorem szPuzzle_f (l : List S74) (c : List Int) (hl : l.length ≤ 9223372036854775807) (hc : c.length ≤ 9223372036854775807) :
    laws_szPuzzle.f l c 1048576 = some (-1) ∨ ∃ n, laws_szPuzzle.f l c 1048576 = some n ∧ ¬ n < 0 ∧ l.length ≤ 1048576 ∧ c.length ≤ 1048576 := by
  unfold laws_szPuzzle.f
  rw [szTileS_f l 1048576 hl (by omega)]
  by_cases h : (l.length : Int) ≤ 1048576
  · rw [if_pos h]
    simp only [Option.bind_some]
    rw [if_neg (by omega), szIntS_f c _ hc (by omega)]
    by_cases h2 : (c.length : Int) ≤ 1048576 - l.length
    · rw [if_pos h2]
      simp only [Option.bind_some]
      rw [if_neg (by omega)]
      exact .inr ⟨_, rfl, by omega, by omega, by omega⟩
    · rw [if_neg h2]
      exact .inl rfl
  · rw [if_neg h]
    exact .inl rfl
theorem toPuzzle_f (l : List S74) (c : List Int) (hl : l.length ≤ 1048576) (hc : c.length ≤ 1048576) : Ev (fun k => laws_toPuzzle.f k l c) (l.map conv, c) := by
  unfold laws_toPuzzle.f
  exact Ev.bind (f := fun k t122 => ((laws_toIntS.f k c).bind fun t125 => (some (t122, t125)))) (toTileS_f l (by omega)) (Ev.bind (f := fun _ t125 => (some (l.map conv, t125))) (toIntS_f c (by omega)) ⟨0, fun k _ => rfl⟩)
theorem eqPuzzle_f (l : List S55) (c : List Int) (hl : l.length ≤ 1048576) (hc : c.length ≤ 1048576) : Ev (fun k => laws_eqPuzzle.f k l c l c) true := by
  unfold laws_eqPuzzle.f
  refine Ev.bind (f := fun k t137 => (if t137 = true then ((laws_eqIntS.f k c c).bind fun t138 => (if t138 = true then (some true) else (some false))) else (some false))) (eqTileS_f l (by omega)) ?_
  simp only [if_true]
  exact Ev.bind (f := fun _ t138 => (if t138 = true then (some true) else (some false))) (eqIntS_f c (by omega)) ⟨0, fun k _ => rfl⟩

/-! What a puzzle is, the same on both sides. -/
theorem l1In_f (n lo hi : Int) : spec_l1In.f n lo hi = some (inB lo hi n) := by
  unfold spec_l1In.f inB
  by_cases h1 : lo ≤ n
  · rw [if_pos (show n ≥ lo from h1)]
    simp [h1]
  · rw [if_neg (show ¬ n ≥ lo from h1)]
    simp [h1]
theorem l1All_ev (lo hi : Int) : ∀ (rest pre : List Int), (pre ++ rest).length ≤ 2000000 → Ev (fun k => spec_l1All.l0 k lo hi (pre ++ rest) ((pre ++ rest).length : Int) (pre.length : Int)) (rest.all (inB lo hi)) := by
  intro rest
  induction rest with
  | nil =>
    intro pre hl
    refine Ev.step (f := fun _ => some true) (fun k => ?_) (Ev.now _)
    simp only [spec_l1All.l0, List.append_nil]
    rw [if_neg (by omega)]
  | cons x xs ih =>
    intro pre hl
    have hlen : (pre ++ x :: xs).length = pre.length + xs.length + 1 := by simp; omega
    have e1 : pre ++ [x] ++ xs = pre ++ x :: xs := by simp
    have hq := ih (pre ++ [x]) (by simpa using hl)
    rw [e1] at hq
    rw [List.all_cons]
    cases hx : inB lo hi x
    · refine Ev.step (f := fun _ => some false) (fun k => ?_) (Ev.now _)
      simp only [spec_l1All.l0]
      rw [if_pos (by omega), if_pos (by omega), if_pos (by omega), i_mid, l1In_f, hx]
      rfl
    · rw [Bool.true_and]
      refine Ev.step (fun k => ?_) hq
      simp only [spec_l1All.l0]
      rw [if_pos (by omega), if_pos (by omega), if_pos (by omega), i_mid, l1In_f, hx, t_wrap ((pre.length : Int) + 1) (by omega) (by omega)]
      simp
theorem l1All_f (lo hi : Int) (l : List Int) (hl : l.length ≤ 2000000) : Ev (fun k => spec_l1All.f k l lo hi) (l.all (inB lo hi)) := l1All_ev lo hi l [] hl
theorem any_out (lo hi : Int) (l : List Int) : (!(l.any fun n => !inB lo hi n)) = l.all (inB lo hi) := by
  induction l with
  | nil => rfl
  | cons x xs ih => rw [List.any_cons, List.all_cons, ← ih]; cases inB lo hi x <;> simp
theorem pzl_ev (s l : List S55) (c : List Int) (hs : s.length ≤ l.length) (hl : l.length ≤ 1000) : ∀ (d i : Nat), i + d = s.length → ∃ b : Bool, Ev (fun k => spec_pzGood.l0 k s (s.length : Int) (i : Int) l c) b ∧ (b = true ↔ ∀ j, i ≤ j → j < s.length → s.getD j z55 = l.getD j z55) := by
  intro d
  induction d with
  | zero =>
    intro i hi
    refine ⟨true, Ev.step (f := fun _ => some true) (fun k => ?_) (Ev.now _), by simp; intro j h1 h2; omega⟩
    simp only [spec_pzGood.l0]
    rw [if_neg (by omega)]
  | succ d ih =>
    intro i hi
    obtain ⟨b, h1, h2⟩ := ih (i + 1) (by omega)
    have hb : (!(((rd_T55 s (i : Int)).f0) == ((rd_T55 l (i : Int)).f0)) || (!(((rd_T55 s (i : Int)).f1) == ((rd_T55 l (i : Int)).f1)))) = !decide (s.getD i z55 = l.getD i z55) := by
      rw [← t_beq]
      unfold rd_T55
      rw [show ((i : Int)).toNat = i from rfl, Bool.not_and]
    by_cases e : s.getD i z55 = l.getD i z55
    · refine ⟨b, Ev.step (fun k => ?_) h1, ?_⟩
      · simp only [spec_pzGood.l0]
        rw [if_pos (by omega), if_pos (by omega), if_pos (by omega), if_pos (by omega), hb, if_neg (by simp only [e]; simp), t_wrap ((i : Int) + 1) (by omega) (by omega)]
        rfl
      · rw [h2]
        constructor
        · intro h j hj1 hj2
          by_cases ej : j = i
          · subst ej
            exact e
          · exact h j (by omega) hj2
        · intro h j hj1 hj2
          exact h j (by omega) hj2
    · refine ⟨false, Ev.step (f := fun _ => some false) (fun k => ?_) (Ev.now _), ?_⟩
      · simp only [spec_pzGood.l0]
        rw [if_pos (by omega), if_pos (by omega), if_pos (by omega), if_pos (by omega), hb, if_pos (by simp only [decide_eq_false e]; rfl)]
      · constructor
        · intro h
          cases h
        · intro h
          exact absurd (h i (Nat.le_refl _) (by omega)) e
theorem pzl_all (s l : List S55) (c : List Int) (hs : s.length = l.length) (hl : l.length ≤ 1000) : Ev (fun k => spec_pzGood.l0 k s (s.length : Int) 0 l c) (decide (s = l)) := by
  obtain ⟨b, h1, h2⟩ := pzl_ev s l c (by omega) hl s.length 0 (by omega)
  have : b = decide (s = l) := by
    rw [Bool.eq_iff_iff, h2, decide_eq_true_eq]
    constructor
    · intro h
      apply List.ext_getElem hs
      intro j j1 j2
      have := h j (by omega) j1
      rw [List.getD_eq_getElem?_getD, List.getD_eq_getElem?_getD, List.getElem?_eq_getElem j2, List.getElem?_eq_getElem j1] at this
      exact this
    · intro e j _ _
      rw [e]
  rw [← this]
  exact h1
/-- Is it a puzzle? -/
def pz (l : List S55) (c : List Int) : Bool := inB 1 9 (l.length : Int) && (isH l && (decide ((c.length : Int) = (l.length : Int) + 1) && (c.all (inB (-1) 9) && sortedT l)))
theorem inB_iff (lo hi n : Int) : inB lo hi n = true ↔ lo ≤ n ∧ n ≤ hi := by
  unfold inB
  simp
theorem pz_true (l : List S55) (c : List Int) (h : pz l c = true) : 1 ≤ l.length ∧ l.length ≤ 9 ∧ isH l = true ∧ c.length = l.length + 1 ∧ (∀ x ∈ c, -1 ≤ x ∧ x ≤ 9) ∧ sortedT l = true := by
  unfold pz at h
  simp only [Bool.and_eq_true, decide_eq_true_eq, inB_iff] at h
  obtain ⟨h1, h2, h3, h4, h5⟩ := h
  refine ⟨by omega, by omega, h2, by omega, fun x hx => ?_, h5⟩
  exact (inB_iff _ _ _).1 (List.all_eq_true.1 h4 x hx)
theorem pz_spec (l : List S55) (c : List Int) (hl : l.length ≤ 2000000) (hc : c.length ≤ 2000000) : Ev (fun k => spec_pzGood.f k l c) (pz l c) := by
  unfold spec_pzGood.f
  rw [l1In_f]
  simp only [Option.bind_some]
  cases h1 : inB 1 9 (l.length : Int)
  · refine Ev.step (f := fun _ => some (pz l c)) (fun k => ?_) (Ev.now _)
    simp [spec_pzGood.j0, pz, h1]
  · simp only [if_true]
    have s1 := isH_spec l hl
    have hln := (inB_iff _ _ _).1 h1
    refine Ev.bind (f := fun k t171 => (if t171 = true then (if (c.length : Int) = (wrap64 ((l.length : Int) + 1)) then ((spec_l1All.f k c (-1) 9).bind fun t172 => (spec_pzGood.j0 k (!t172) l c)) else (spec_pzGood.j0 k true l c)) else (spec_pzGood.j0 k true l c))) s1 ?_
    rw [t_wrap ((l.length : Int) + 1) (by omega) (by omega)]
    cases h2 : isH l
    · refine Ev.step (f := fun _ => some (pz l c)) (fun k => ?_) (Ev.now _)
      simp [spec_pzGood.j0, pz, h1, h2]
    · by_cases h3 : (c.length : Int) = (l.length : Int) + 1
      · have hd : decide ((c.length : Int) = (l.length : Int) + 1) = true := decide_eq_true h3
        simp only [if_true, h3]
        refine Ev.bind (f := fun k t172 => (spec_pzGood.j0 k (!t172) l c)) (l1All_f (-1) 9 c hc) ?_
        cases h4 : c.all (inB (-1) 9)
        · refine Ev.step (f := fun _ => some (pz l c)) (fun k => ?_) (Ev.now _)
          simp [spec_pzGood.j0, pz, h1, h2, hd, h4]
        · obtain ⟨s, q1, q2, _, _, q5⟩ := sort_f l h2
          have e : pz l c = decide (s = l) := by
            unfold pz
            rw [h1, h2, hd, h4, q5]
            rfl
          rw [e]
          refine Ev.step (f := fun k => (spec_tiSort.f k l).bind fun t173 => (spec_pzGood.l0 k t173 (t173.length : Int) 0 l c)) (fun k => ?_) (Ev.bind (f := fun k t173 => (spec_pzGood.l0 k t173 (t173.length : Int) 0 l c)) q1 (pzl_all s l c q2 (by omega)))
          simp [spec_pzGood.j0]
      · have hd : decide ((c.length : Int) = (l.length : Int) + 1) = false := decide_eq_false h3
        refine Ev.step (f := fun _ => some (pz l c)) (fun k => ?_) (Ev.now _)
        simp only [if_true]
        rw [if_neg h3]
        simp [spec_pzGood.j0, pz, h1, h2, hd]
theorem pz_impl (l : List S55) (c : List Int) (hl : l.length ≤ 2000000) : Ev (fun k => impl_IsPuzzle.f k l c) (pz l c) := by
  unfold impl_IsPuzzle.f impl_areWithin.f
  refine Ev.bind (f := fun k b1 => if b1 = true then (if inB 1 9 (l.length : Int) = true then (if sortedT l = true then (if (c.length : Int) = (l.length : Int) + 1 then some (!(c.any fun n => !inB (-1) 9 n)) else some false) else some false) else some false) else some false) (isH_impl l hl) ⟨0, fun k _ => ?_⟩
  (try dsimp only)
  rw [any_out]
  unfold pz
  by_cases h3 : (c.length : Int) = (l.length : Int) + 1
  · rw [decide_eq_true h3]
    cases isH l <;> cases inB 1 9 (l.length : Int) <;> cases sortedT l <;> simp [h3]
  · rw [decide_eq_false h3]
    cases isH l <;> cases inB 1 9 (l.length : Int) <;> cases sortedT l <;> simp [h3]

def tileOf (x y : Int) : S55 := ⟨mn x y, mx x y⟩
theorem tiOf_f (x y : Int) : spec_tiOf.f x y = some ((tileOf x y).f0, (tileOf x y).f1) := by
  unfold spec_tiOf.f spec_l1Least.f spec_l1Most.f tileOf mn mx
  by_cases h : x < y
  · rw [if_pos h, if_neg (by omega)]
    simp [h]
    omega
  · by_cases h2 : x > y
    · rw [if_neg h, if_pos h2]
      simp [h]
      omega
    · have : x = y := by omega
      subst this
      simp

theorem ltT_lt (x y : S55) : ltT x y = true ↔ lt x y := ltT_iff x y
theorem msort_lt (l : List S55) (h : l.Nodup) : (msort l).Pairwise lt := by
  have hp : (msort l).Pairwise fun x y => (!ltT y x) = true := by
    refine List.pairwise_mergeSort ?_ ?_ l
    · intro a b c h1 h2
      simp only [Bool.not_eq_true', ltT_no] at *
      omega
    · intro a b
      cases h1 : ltT b a
      · rfl
      · have h2 := (ltT_iff _ _).1 h1
        have : ltT a b = false := (ltT_no _ _).2 (by omega)
        rw [this]
        rfl
  have hn : (msort l).Nodup := (List.mergeSort_perm l _).nodup_iff.2 h
  refine List.Pairwise.imp₂ (fun a b h1 h2 => ?_) hp hn
  have h3 := (ltT_no _ _).1 (by simpa using h1)
  refine lt_total b a h3 (fun e => h2 e.symm)
/-- A hand in order, on both sides. -/
theorem sorted_both (l : List S55) (h : isH l = true) : ∃ s : List S55, Ev (fun k => spec_tiSort.f k l) s ∧ impl_sorted.f l = some s ∧ s.length = l.length := by
  obtain ⟨s, h1, h2, h3, h4, _⟩ := sort_f l h
  obtain ⟨i1, i2, i3⟩ := isH_true l h
  have hm : msort l = s := uniq _ _ (msort_lt l i3) h3 (fun x => by rw [h4]; exact (List.mergeSort_perm l _).mem_iff)
  refine ⟨s, h1, ?_, h2⟩
  unfold impl_sorted.f slices_Clone_impl_Tile_impl_Tile.f
  rw [if_pos (by omega)]
  simp only [Option.bind_some]
  rw [if_pos (List.all_eq_true.2 (fun x hx => by rw [smallT_iff]; have := (good_iff x).1 (i2 x hx); omega)), hm]

/-! Marks. -/
def mt : Int → Nat → List S55
  | _, 0 => []
  | a, n + 1 => ⟨a, a + 1⟩ :: mt (a + 2) n
def mi : Int → Nat → List Int
  | _, 0 => []
  | a, n + 1 => a :: mi (a + 1) n
theorem mt_len : ∀ (n : Nat) (a : Int), (mt a n).length = n
  | 0, _ => rfl
  | n + 1, a => by unfold mt; rw [List.length_cons, mt_len n]
theorem mi_len : ∀ (n : Nat) (a : Int), (mi a n).length = n
  | 0, _ => rfl
  | n + 1, a => by unfold mi; rw [List.length_cons, mi_len n]
theorem set_mid {α : Type} (pre : List α) (x y : α) (xs : List α) : (pre ++ x :: xs).set ((pre.length : Int)).toNat y = pre ++ y :: xs := by
  rw [show ((pre.length : Int)).toNat = pre.length from rfl, List.set_append_right _ _ (Nat.le_refl _), Nat.sub_self, List.set_cons_zero]
theorem markT_ev : ∀ (rest pre : List S55) (a : Int), (pre ++ rest).length ≤ 2000000 → 0 ≤ a → a ≤ 100 + 2 * pre.length → Ev (fun k => laws_markTileS.l0 k (pre ++ rest) a (pre.length : Int)) (a + 2 * (rest.length : Int), pre ++ mt a rest.length) := by
  intro rest
  induction rest with
  | nil =>
    intro pre a hl h0 h1
    refine Ev.step (f := fun _ => some (a, pre ++ [])) (fun k => ?_) ⟨0, fun k _ => by simp [mt]⟩
    simp only [laws_markTileS.l0, List.append_nil]
    rw [if_neg (by omega)]
  | cons x xs ih =>
    intro pre a hl h0 h1
    have hlen : (pre ++ x :: xs).length = pre.length + xs.length + 1 := by simp; omega
    have hi := ih (pre ++ [⟨a, a + 1⟩]) (a + 2) (by simpa using hl) (by omega) (by simp; omega)
    refine Ev.step (fun k => ?_) (show Ev _ (a + 2 * ((x :: xs).length : Int), pre ++ mt a (x :: xs).length) from by
      have e : pre ++ mt a (x :: xs).length = pre ++ [⟨a, a + 1⟩] ++ mt (a + 2) xs.length := by simp [mt]
      have e2 : a + 2 * ((x :: xs).length : Int) = a + 2 + 2 * (xs.length : Int) := by rw [List.length_cons]; omega
      rw [e, e2]
      exact hi)
    simp only [laws_markTileS.l0, Option.bind_some]
    rw [if_pos (by omega), if_pos (by omega), set_mid, set_mid]
    unfold rd_T55
    rw [t_wrap ((pre.length : Int) + 1) (by omega) (by omega), t_wrap (a + 1) (by omega) (by omega), t_wrap (a + 1 + 1) (by omega) (by omega), show ((pre.length : Int)).toNat = pre.length from rfl, t_mid]
    simp only [List.append_assoc, List.singleton_append, List.length_append, List.length_cons, List.length_nil]
    rw [show a + 1 + 1 = a + 2 from by omega]
    rfl
theorem heldT_ev : ∀ (n : Nat) (pre : List S55) (a : Int), pre.length + n ≤ 2000000 → 0 ≤ a → a ≤ 100 + 2 * pre.length → Ev (fun k => laws_heldTileS.l0 k (pre ++ mt a n) a (pre.length : Int)) (a + 2 * (n : Int)) := by
  intro n
  induction n with
  | zero =>
    intro pre a hl h0 h1
    refine Ev.step (f := fun _ => some a) (fun k => ?_) ⟨0, fun k _ => by simp⟩
    simp only [laws_heldTileS.l0, mt, List.append_nil]
    rw [if_neg (by omega)]
  | succ n ih =>
    intro pre a hl h0 h1
    have hlen : (pre ++ mt a (n + 1)).length = pre.length + n + 1 := by rw [List.length_append, mt_len]; omega
    have hget : rd_T55 (pre ++ mt a (n + 1)) (pre.length : Int) = ⟨a, a + 1⟩ := by
      unfold rd_T55 mt
      exact t_mid pre _ _ _
    have hi := ih (pre ++ [⟨a, a + 1⟩]) (a + 2) (by simp; omega) (by omega) (by simp; omega)
    refine Ev.step (fun k => ?_) (show Ev _ (a + 2 * ((n + 1 : Nat) : Int)) from by
      have e2 : a + 2 * ((n + 1 : Nat) : Int) = a + 2 + 2 * (n : Int) := by omega
      rw [e2]
      exact hi)
    simp only [laws_heldTileS.l0]
    rw [if_pos (by omega), if_pos (by omega), hget, t_wrap ((pre.length : Int) + 1) (by omega) (by omega), t_wrap (a + 1) (by omega) (by omega), t_wrap (a + 1 + 1) (by omega) (by omega), show a + 1 + 1 = a + 2 from by omega]
    simp [mt]
theorem markI_ev : ∀ (rest pre : List Int) (a : Int), (pre ++ rest).length ≤ 2000000 → 0 ≤ a → a ≤ 10000000 + pre.length → Ev (fun k => laws_markIntS.l0 k (pre ++ rest) a (pre.length : Int)) (a + (rest.length : Int), pre ++ mi a rest.length) := by
  intro rest
  induction rest with
  | nil =>
    intro pre a hl h0 h1
    refine Ev.step (f := fun _ => some (a, pre ++ [])) (fun k => ?_) ⟨0, fun k _ => by simp [mi]⟩
    simp only [laws_markIntS.l0, List.append_nil]
    rw [if_neg (by omega)]
  | cons x xs ih =>
    intro pre a hl h0 h1
    have hlen : (pre ++ x :: xs).length = pre.length + xs.length + 1 := by simp; omega
    have hi := ih (pre ++ [a]) (a + 1) (by simpa using hl) (by omega) (by simp; omega)
    refine Ev.step (fun k => ?_) (show Ev _ (a + ((x :: xs).length : Int), pre ++ mi a (x :: xs).length) from by
      have e : pre ++ mi a (x :: xs).length = pre ++ [a] ++ mi (a + 1) xs.length := by simp [mi]
      have e2 : a + ((x :: xs).length : Int) = a + 1 + (xs.length : Int) := by rw [List.length_cons]; omega
      rw [e, e2]
      exact hi)
    simp only [laws_markIntS.l0]
    rw [if_pos (by omega), if_pos (by omega), set_mid, t_wrap ((pre.length : Int) + 1) (by omega) (by omega), t_wrap (a + 1) (by omega) (by omega)]
    simp only [List.append_assoc, List.singleton_append, List.length_append, List.length_cons, List.length_nil]
    rfl
theorem heldI_ev : ∀ (n : Nat) (pre : List Int) (a : Int), pre.length + n ≤ 2000000 → 0 ≤ a → a ≤ 10000000 + pre.length → Ev (fun k => laws_heldIntS.l0 k (pre ++ mi a n) a (pre.length : Int)) (a + (n : Int)) := by
  intro n
  induction n with
  | zero =>
    intro pre a hl h0 h1
    refine Ev.step (f := fun _ => some a) (fun k => ?_) ⟨0, fun k _ => by simp⟩
    simp only [laws_heldIntS.l0, mi, List.append_nil]
    rw [if_neg (by omega)]
  | succ n ih =>
    intro pre a hl h0 h1
    have hlen : (pre ++ mi a (n + 1)).length = pre.length + n + 1 := by rw [List.length_append, mi_len]; omega
    have hget : rd (pre ++ mi a (n + 1)) (pre.length : Int) = a := by
      unfold mi
      exact i_mid pre _ _
    have hi := ih (pre ++ [a]) (a + 1) (by simp; omega) (by omega) (by simp; omega)
    refine Ev.step (fun k => ?_) (show Ev _ (a + ((n + 1 : Nat) : Int)) from by
      have e2 : a + ((n + 1 : Nat) : Int) = a + 1 + (n : Int) := by omega
      rw [e2]
      exact hi)
    simp only [laws_heldIntS.l0]
    rw [if_pos (by omega), if_pos (by omega), hget, t_wrap ((pre.length : Int) + 1) (by omega) (by omega), t_wrap (a + 1) (by omega) (by omega)]
    simp [mi]
/-- A puzzle that was marked holds its marks. -/
theorem mark_f (l : List S55) (c : List Int) (hl : l.length ≤ 2000000) (hc : c.length ≤ 2000000) : ∃ (m : Int) (l' : List S55) (c' : List Int), Ev (fun k => laws_markPuzzle.f k l c 1) (m, l', c') ∧ Ev (fun k => laws_heldPuzzle.f k l' c' 1) m ∧ ¬ m < 0 := by
  have a1 := markT_ev l [] 1 (by simpa using hl) (by omega) (by simp)
  have a2 := markI_ev c [] (1 + 2 * (l.length : Int)) (by simpa using hc) (by omega) (by simp; omega)
  have a3 := heldT_ev l.length [] 1 (by simpa using hl) (by omega) (by simp)
  have a4 := heldI_ev c.length [] (1 + 2 * (l.length : Int)) (by simpa using hc) (by omega) (by simp; omega)
  simp only [List.nil_append] at a1 a2 a3 a4
  refine ⟨1 + 2 * (l.length : Int) + c.length, mt 1 l.length, mi (1 + 2 * (l.length : Int)) c.length, ?_, ?_, by omega⟩
  · unfold laws_markPuzzle.f
    exact Ev.bind (f := fun k (b : Int × List S55) => (laws_markIntS.f k c b.1).bind fun d => (some (d.1, b.2, d.2))) a1 (Ev.bind (f := fun _ (d : Int × List Int) => (some (d.1, mt 1 l.length, d.2))) a2 ⟨0, fun k _ => rfl⟩)
  · unfold laws_heldPuzzle.f
    refine Ev.bind (f := fun k t => (if t < 0 then (some (-1)) else ((laws_heldIntS.f k (mi (1 + 2 * (l.length : Int)) c.length) t).bind fun u => (if u < 0 then (some (-1)) else (some u))))) a3 ?_
    refine Ev.congr (fun k => ?_) (Ev.bind (f := fun _ u => (if u < 0 then (some (-1)) else (some u))) a4 ⟨0, fun k _ => ?_⟩)
    · (try dsimp only)
      rw [if_neg (by omega)]
      rfl
    · rw [if_neg (by omega)]

/-! ### Names: whole numbers, no two the same -/
def ndI : List Int → List Int → Bool
  | _, [] => true
  | pre, x :: xs => !decide (x ∈ pre) && ndI (pre ++ [x]) xs
theorem ndI_nodup : ∀ (rest pre : List Int), ndI pre rest = true → (∀ x ∈ rest, x ∉ pre) ∧ rest.Nodup := by
  intro rest
  induction rest with
  | nil => intro pre _; exact ⟨(fun x h => by cases h), List.nodup_nil⟩
  | cons x xs ih =>
    intro pre h
    unfold ndI at h
    simp only [Bool.and_eq_true, Bool.not_eq_true', decide_eq_false_iff_not] at h
    obtain ⟨h1, h2⟩ := ih _ h.2
    refine ⟨fun y hy => ?_, ?_⟩
    · rcases List.mem_cons.1 hy with rfl | hy
      · exact h.1
      · exact fun hp => h1 y hy (List.mem_append_left _ hp)
    · rw [List.nodup_cons]
      exact ⟨fun hx => h1 x hx (by simp), h2⟩
theorem nd_of : ∀ (rest pre : List S55), rest.Nodup → (∀ x ∈ rest, x ∉ pre) → nd pre rest = true := by
  intro rest
  induction rest with
  | nil => intro pre _ _; rfl
  | cons x xs ih =>
    intro pre h1 h2
    rw [List.nodup_cons] at h1
    unfold nd
    rw [ih (pre ++ [x]) h1.2 (fun y hy => by
      rw [List.mem_append]
      rintro (h | h)
      · exact h2 y (List.mem_cons_of_mem _ hy) h
      · rw [List.mem_singleton] at h
        subst h
        exact h1.1 hy)]
    simp [h2 x List.mem_cons_self]
theorem idxI_ev (t : Int) : ∀ (rest pre : List Int), (pre ++ rest).length ≤ 2000000 → ∃ r : Int, Ev (fun k => slices_Index_int_int.l0 k (pre ++ rest) t ((pre ++ rest).length : Int) (pre.length : Int)) r ∧ decide (r ≥ 0) = decide (t ∈ rest) := by
  intro rest
  induction rest with
  | nil =>
    intro pre hl
    refine ⟨-1, Ev.step (f := fun _ => some (-1)) (fun k => ?_) (Ev.now _), by simp⟩
    simp only [slices_Index_int_int.l0, List.append_nil]
    rw [if_neg (by omega)]
  | cons x xs ih =>
    intro pre hl
    have hlen : (pre ++ x :: xs).length = pre.length + xs.length + 1 := by simp; omega
    have hget := i_mid pre x xs
    by_cases e : t = x
    · refine ⟨(pre.length : Int), Ev.step (f := fun _ => some (pre.length : Int)) (fun k => ?_) (Ev.now _), by simp [e]⟩
      simp only [slices_Index_int_int.l0]
      rw [if_pos (by omega), if_pos (by omega), if_pos (by omega), hget, if_pos e]
    · obtain ⟨r, h1, h2⟩ := ih (pre ++ [x]) (by simpa using hl)
      have e1 : pre ++ [x] ++ xs = pre ++ x :: xs := by simp
      rw [e1] at h1
      refine ⟨r, Ev.step (fun k => ?_) h1, by rw [h2]; simp [e]⟩
      simp only [slices_Index_int_int.l0]
      rw [if_pos (by omega), if_pos (by omega), if_pos (by omega), hget, if_neg e, t_wrap ((pre.length : Int) + 1) (by omega) (by omega)]
      simp
theorem containsI_f (t : Int) (l : List Int) (hl : l.length ≤ 2000000) : Ev (fun k => slices_Contains_int_int.f k l t) (decide (t ∈ l)) := by
  obtain ⟨r, h1, h2⟩ := idxI_ev t l [] hl
  rw [← h2]
  exact Ev.bind (f := fun _ t177 => (some (decide (t177 ≥ 0)))) h1 ⟨0, fun k _ => rfl⟩
theorem areDiffI_ev : ∀ (rest pre : List Int), (pre ++ rest).length ≤ 2000000 → Ev (fun k => impl_areDifferent_int.l0 k (pre ++ rest) (pre ++ rest) ((pre ++ rest).length : Int) (pre.length : Int)) (ndI pre rest) := by
  intro rest
  induction rest with
  | nil =>
    intro pre hl
    refine Ev.step (f := fun _ => some true) (fun k => ?_) (Ev.now _)
    simp only [impl_areDifferent_int.l0, List.append_nil]
    rw [if_neg (by omega)]
  | cons x xs ih =>
    intro pre hl
    have hlen : (pre ++ x :: xs).length = pre.length + xs.length + 1 := by simp; omega
    have hget := i_mid pre x xs
    have htake : (pre ++ x :: xs).take ((pre.length : Int)).toNat = pre := by simp
    have h1 := containsI_f x pre (by omega)
    have e1 : pre ++ [x] ++ xs = pre ++ x :: xs := by simp
    have hi := ih (pre ++ [x]) (by simpa using hl)
    rw [e1] at hi
    refine Ev.step (f := fun k => (slices_Contains_int_int.f k pre x).bind fun t184 => (if t184 = true then (some false) else (impl_areDifferent_int.l0 k (pre ++ x :: xs) (pre ++ x :: xs) ((pre ++ x :: xs).length : Int) (((pre ++ [x]).length : Nat) : Int)))) (fun k => ?_) ?_
    · simp only [impl_areDifferent_int.l0]
      rw [if_pos (by omega), if_pos (by omega), if_pos (by omega), if_pos (by omega), hget, htake, t_wrap ((pre.length : Int) + 1) (by omega) (by omega)]
      simp
    · refine Ev.bind (f := fun k t184 => (if t184 = true then (some false) else (impl_areDifferent_int.l0 k (pre ++ x :: xs) (pre ++ x :: xs) ((pre ++ x :: xs).length : Int) (((pre ++ [x]).length : Nat) : Int)))) h1 ?_
      by_cases hm : x ∈ pre
      · refine ⟨0, fun k _ => ?_⟩
        simp [ndI, hm]
      · refine Ev.congr (fun k => ?_) (show Ev _ (ndI pre (x :: xs)) from by
          have : ndI pre (x :: xs) = ndI (pre ++ [x]) xs := by simp [ndI, hm]
          rw [this]
          exact hi)
        simp only [hm, decide_false, Bool.false_eq_true, if_false]
theorem hasI_ev (t : Int) : ∀ (rest pre : List Int), (pre ++ rest).length ≤ 2000000 → Ev (fun k => spec_l1Has.l0 k t (pre ++ rest) ((pre ++ rest).length : Int) (pre.length : Int)) (decide (t ∈ rest)) := by
  intro rest
  induction rest with
  | nil =>
    intro pre hl
    refine Ev.step (f := fun _ => some (decide (t ∈ ([] : List Int)))) (fun k => ?_) (Ev.now _)
    simp only [spec_l1Has.l0, List.append_nil]
    rw [if_neg (by omega)]
    simp
  | cons x xs ih =>
    intro pre hl
    have hlen : (pre ++ x :: xs).length = pre.length + xs.length + 1 := by simp; omega
    have hget := i_mid pre x xs
    by_cases e : x = t
    · refine Ev.step (f := fun _ => some (decide (t ∈ x :: xs))) (fun k => ?_) (Ev.now _)
      simp only [spec_l1Has.l0]
      rw [if_pos (by omega), if_pos (by omega), if_pos (by omega), hget, if_pos e]
      simp [e]
    · have hi := ih (pre ++ [x]) (by simpa using hl)
      have e1 : pre ++ [x] ++ xs = pre ++ x :: xs := by simp
      rw [e1] at hi
      refine Ev.step (fun k => ?_) (show Ev _ (decide (t ∈ x :: xs)) from by
        have : decide (t ∈ x :: xs) = decide (t ∈ xs) := by simp [Ne.symm e]
        rw [this]
        exact hi)
      simp only [spec_l1Has.l0]
      rw [if_pos (by omega), if_pos (by omega), if_pos (by omega), hget, if_neg e, t_wrap ((pre.length : Int) + 1) (by omega) (by omega)]
      simp
theorem hasI_f (t : Int) (l : List Int) (hl : l.length ≤ 2000000) : Ev (fun k => spec_l1Has.f k l t) (decide (t ∈ l)) := hasI_ev t l [] hl
/-- Are they names? -/
def nms (ns : List Int) : Bool := decide ((ns.length : Int) = 10) && (ns.all (inB 0 9) && ndI [] ns)
theorem nms_true (ns : List Int) (h : nms ns = true) : ns.length = 10 ∧ (∀ x ∈ ns, 0 ≤ x ∧ x ≤ 9) ∧ ns.Nodup := by
  unfold nms at h
  simp only [Bool.and_eq_true, decide_eq_true_eq] at h
  exact ⟨by omega, fun x hx => (inB_iff _ _ _).1 (List.all_eq_true.1 h.2.1 x hx), (ndI_nodup ns [] h.2.2).2⟩
theorem nms_impl (ns : List Int) (h : ns.length ≤ 2000000) : Ev (fun k => impl_areNames.f k ns) (nms ns) := by
  by_cases h1 : (ns.length : Int) = 10
  · by_cases h2 : ns.all (inB 0 9) = true
    · have hi := areDiffI_ev ns [] h
      refine Ev.congr (f := fun k => (impl_areDifferent_int.f k ns).bind fun t248 => (some t248)) (fun k => ?_) (Ev.bind (f := fun _ t => some t) hi ⟨0, fun k _ => ?_⟩)
      · unfold impl_areNames.f impl_areWithin.f
        rw [if_pos h1, any_out, h2]
        simp only [Option.bind_some, if_true]
      · simp [nms, h1, h2]
    · refine ⟨0, fun k _ => ?_⟩
      (try dsimp only)
      unfold impl_areNames.f impl_areWithin.f
      rw [if_pos h1, any_out, Bool.eq_false_iff.2 h2]
      simp [nms, Bool.eq_false_iff.2 h2]
  · refine ⟨0, fun k _ => ?_⟩
    (try dsimp only)
    unfold impl_areNames.f
    rw [if_neg h1]
    simp [nms, h1]
theorem names_ev (l : List S55) (c ns : List Int) (R : List S55 × List Int × Bool) (hn : ns.length ≤ 1000) : ∀ (rest pre : List Int), pre ++ rest = ns → (ndI pre rest = true → Ev (fun k => spec_RenamePuzzle.l1 k ns ([] : List S55) l (l.length : Int) 0 l c) R) → (ndI pre rest = false → R = ([], [], false)) →
    Ev (fun k => spec_RenamePuzzle.l0 k ns ns (ns.length : Int) (pre.length : Int) l c) R := by
  intro rest
  induction rest with
  | nil =>
    intro pre e h1 h2
    refine Ev.step (fun k => ?_) (h1 rfl)
    simp only [spec_RenamePuzzle.l0]
    rw [if_neg (by rw [← e]; simp)]
  | cons x xs ih =>
    intro pre e h1 h2
    have hlen : ns.length = pre.length + xs.length + 1 := by rw [← e]; simp; omega
    have hget : rd ns (pre.length : Int) = x := by rw [← e]; exact i_mid pre x xs
    have htake : ns.take ((pre.length : Int)).toNat = pre := by rw [← e]; simp
    refine Ev.step (f := fun k => (spec_l1Has.f k pre x).bind fun t203 => (if t203 = true then (some (([] : List S55), ([] : List Int), false)) else (spec_RenamePuzzle.l0 k ns ns (ns.length : Int) ((pre ++ [x]).length : Int) l c))) (fun k => ?_) (Ev.bind (f := fun k (t : Bool) => _) (hasI_f x pre (by omega)) ?_)
    · simp only [spec_RenamePuzzle.l0]
      rw [if_pos (by omega), if_pos (by omega), if_pos (by omega), if_pos (by omega), htake, hget, t_wrap ((pre.length : Int) + 1) (by omega) (by omega)]
      simp
    · by_cases hm : x ∈ pre
      · have := h2 (by simp [ndI, hm])
        subst this
        simp only [hm, decide_true, if_true]
        exact ⟨0, fun k _ => rfl⟩
      · simp only [hm, decide_false, Bool.false_eq_true, if_false]
        exact ih (pre ++ [x]) (by rw [← e]; simp) (fun h => h1 (by simp [ndI, hm, h])) (fun h => h2 (by simp [ndI, hm, h]))
/-! ### The tiles under other names -/
def ren (ns : List Int) (t : S55) : S55 := tileOf (rd ns t.f0) (rd ns t.f1)
theorem tiles_spec (ns : List Int) (hns : ns.length = 10) (l : List S55) (c : List Int) (R : List S55 × List Int × Bool) (hl : l.length ≤ 1000) (hg : ∀ x ∈ l, good x = true) : ∀ (rest pre out : List S55), pre ++ rest = l → out.length ≤ pre.length →
    Ev (fun k => (spec_tiSort.f k (out ++ rest.map (ren ns))).bind fun t213 => (spec_RenamePuzzle.l2 k ns c (c.length : Int) 0 t213 ([] : List Int))) R →
    Ev (fun k => spec_RenamePuzzle.l1 k ns out l (l.length : Int) (pre.length : Int) l c) R := by
  intro rest
  induction rest with
  | nil =>
    intro pre out e h0 h
    refine Ev.step (fun k => ?_) h
    simp only [spec_RenamePuzzle.l1, List.map_nil, List.append_nil]
    rw [if_neg (by rw [← e]; simp)]
  | cons x xs ih =>
    intro pre out e h0 h
    have hlen : l.length = pre.length + xs.length + 1 := by rw [← e]; simp; omega
    have hget : rd_T55 l (pre.length : Int) = x := by
      rw [← e]
      unfold rd_T55
      exact t_mid pre x xs _
    have hx := (good_iff x).1 (hg x (by rw [← e]; simp))
    refine Ev.step (fun k => ?_) (ih (pre ++ [x]) (out ++ [ren ns x]) (by rw [← e]; simp) (by simp; omega) (by simpa using h))
    simp only [spec_RenamePuzzle.l1]
    rw [if_pos (by omega), if_pos (by omega), if_pos (by omega), hget, if_pos (by omega), if_pos (by omega), if_pos (by omega), if_pos (by omega), tiOf_f, t_wrap ((pre.length : Int) + 1) (by omega) (by omega)]
    simp only [Option.bind_some]
    rw [if_pos (by omega)]
    simp [ren]
theorem tiles_impl (ns : List Int) (hns : ns.length = 10) (l s : List S55) (hl : l.length ≤ 1000) (hg : ∀ x ∈ l, good x = true) : ∀ (rest pre out : List S55), pre ++ rest = l → out.length ≤ pre.length →
    impl_sorted.f (out ++ rest.map (ren ns)) = some s →
    Ev (fun k => impl_renamedHand.l0 k ns out l (l.length : Int) (pre.length : Int)) s := by
  intro rest
  induction rest with
  | nil =>
    intro pre out e h0 h
    refine Ev.step (f := fun _ => some s) (fun k => ?_) (Ev.now _)
    simp only [List.map_nil, List.append_nil] at h
    simp only [impl_renamedHand.l0]
    rw [if_neg (by rw [← e]; simp), h]
    rfl
  | cons x xs ih =>
    intro pre out e h0 h
    have hlen : l.length = pre.length + xs.length + 1 := by rw [← e]; simp; omega
    have hget : rd_T55 l (pre.length : Int) = x := by
      rw [← e]
      unfold rd_T55
      exact t_mid pre x xs _
    have hx := (good_iff x).1 (hg x (by rw [← e]; simp))
    refine Ev.step (fun k => ?_) (ih (pre ++ [x]) (out ++ [ren ns x]) (by rw [← e]; simp) (by simp; omega) (by simpa using h))
    simp only [impl_renamedHand.l0, impl_Tile_renamed.f, impl_tile.f]
    rw [if_pos (by omega), if_pos (by omega), if_pos (by omega), hget, if_pos (by omega), if_pos (by omega), if_pos (by omega), if_pos (by omega), t_wrap ((pre.length : Int) + 1) (by omega) (by omega)]
    simp only [Option.bind_some]
    rw [if_pos (by omega)]
    simp [ren, tileOf]
/-! ### The chain under other names -/
def cm (ns : List Int) (x : Int) : Int := if x ≥ 0 then rd ns x else x
theorem chain_spec (ns : List Int) (hns : ns.length = 10) (s : List S55) (c : List Int) (hc : c.length ≤ 1000) (h9 : ∀ x ∈ c, -1 ≤ x ∧ x ≤ 9) : ∀ (rest pre out : List Int), pre ++ rest = c → out.length ≤ pre.length →
    Ev (fun k => spec_RenamePuzzle.l2 k ns c (c.length : Int) (pre.length : Int) s out) (s, out ++ rest.map (cm ns), true) := by
  intro rest
  induction rest with
  | nil =>
    intro pre out e h0
    refine Ev.step (f := fun _ => some (s, out ++ ([] : List Int).map (cm ns), true)) (fun k => ?_) (Ev.now _)
    simp only [spec_RenamePuzzle.l2, List.map_nil, List.append_nil]
    rw [if_neg (by rw [← e]; simp)]
  | cons x xs ih =>
    intro pre out e h0
    have hlen : c.length = pre.length + xs.length + 1 := by rw [← e]; simp; omega
    have hget : rd c (pre.length : Int) = x := by rw [← e]; exact i_mid pre x xs
    have hx := h9 x (by rw [← e]; simp)
    have hi := ih (pre ++ [x]) (out ++ [cm ns x]) (by rw [← e]; simp) (by simp; omega)
    refine Ev.step (fun k => ?_) (show Ev _ (s, out ++ (x :: xs).map (cm ns), true) from by
      have e2 : out ++ (x :: xs).map (cm ns) = out ++ [cm ns x] ++ xs.map (cm ns) := by simp
      rw [e2]
      exact hi)
    simp only [spec_RenamePuzzle.l2]
    rw [if_pos (by omega), if_pos (by omega), if_pos (by omega), hget, t_wrap ((pre.length : Int) + 1) (by omega) (by omega)]
    by_cases h : x ≥ 0
    · rw [if_pos h, if_pos (by omega), if_pos (by omega), if_pos (by omega)]
      simp [cm, h]
    · rw [if_neg h, if_pos (by omega)]
      simp [cm, h]
theorem chain_impl (ns : List Int) (hns : ns.length = 10) (s : List S55) : ∀ (rest pre : List Int), pre.length + rest.length ≤ 1000 → (∀ x ∈ rest, -1 ≤ x ∧ x ≤ 9) →
    Ev (fun k => impl_RenamePuzzle.l0 k ns (pre ++ rest) ((pre.length + rest.length : Nat) : Int) (pre.length : Int) s (pre ++ rest)) (s, pre ++ rest.map (cm ns), true) := by
  intro rest
  induction rest with
  | nil =>
    intro pre h1 _
    refine Ev.step (f := fun _ => some (s, pre ++ ([] : List Int).map (cm ns), true)) (fun k => ?_) (Ev.now _)
    simp only [impl_RenamePuzzle.l0, List.map_nil, List.append_nil, List.length_nil]
    rw [if_neg (by omega)]
  | cons x xs ih =>
    intro pre h1 h9
    have hl2 : (x :: xs).length = xs.length + 1 := rfl
    have hlen : (pre ++ x :: xs).length = pre.length + xs.length + 1 := by simp; omega
    have hget := i_mid pre x xs
    have hx := h9 x List.mem_cons_self
    have hi := ih (pre ++ [cm ns x]) (by simp; omega) (fun y hy => h9 y (List.mem_cons_of_mem _ hy))
    have e2 : (pre ++ [cm ns x]).length + xs.length = pre.length + (x :: xs).length := by simp; omega
    rw [e2] at hi
    refine Ev.step (fun k => ?_) (show Ev _ (s, pre ++ (x :: xs).map (cm ns), true) from by
      have : pre ++ (x :: xs).map (cm ns) = pre ++ [cm ns x] ++ xs.map (cm ns) := by simp
      rw [this]
      exact hi)
    simp only [impl_RenamePuzzle.l0]
    rw [if_pos (by omega), if_pos (by omega), if_pos (by omega), hget, t_wrap ((pre.length : Int) + 1) (by omega) (by omega)]
    by_cases hm : x = -1
    · rw [if_pos hm]
      simp [cm, hm]
    · rw [if_neg hm, if_pos (by omega), if_pos (by omega), if_pos (by omega), set_mid]
      simp [cm, show x ≥ 0 from by omega]
/-! ### A hand under other names is a hand -/
theorem rd_inj (ns : List Int) (hn : ns.Nodup) (a b : Int) (ha : 0 ≤ a) (ha2 : a < ns.length) (hb : 0 ≤ b) (hb2 : b < ns.length) (e : rd ns a = rd ns b) : a = b := by
  have h1 : a.toNat < ns.length := by omega
  have h2 : b.toNat < ns.length := by omega
  unfold rd at e
  rw [List.getD_eq_getElem?_getD, List.getD_eq_getElem?_getD, List.getElem?_eq_getElem h1, List.getElem?_eq_getElem h2] at e
  have e2 : ns[a.toNat] = ns[b.toNat] := e
  have hp := List.pairwise_iff_getElem.1 hn
  rcases Nat.lt_trichotomy a.toNat b.toNat with h | h | h
  · exact absurd e2 (hp _ _ h1 h2 h)
  · omega
  · exact absurd e2.symm (hp _ _ h2 h1 h)
theorem rd_in (ns : List Int) (h9 : ∀ x ∈ ns, 0 ≤ x ∧ x ≤ 9) (a : Int) (ha : 0 ≤ a) (ha2 : a < ns.length) : 0 ≤ rd ns a ∧ rd ns a ≤ 9 := by
  have h1 : a.toNat < ns.length := by omega
  unfold rd
  rw [List.getD_eq_getElem?_getD, List.getElem?_eq_getElem h1]
  exact h9 _ (List.getElem_mem h1)
theorem ren_hand (ns : List Int) (hns : nms ns = true) (l : List S55) (h : isH l = true) : isH (l.map (ren ns)) = true := by
  obtain ⟨n1, n2, n3⟩ := nms_true ns hns
  obtain ⟨i1, i2, i3⟩ := isH_true l h
  have hg : ∀ x ∈ l, 0 ≤ x.f0 ∧ x.f0 ≤ x.f1 ∧ x.f1 ≤ 9 := fun x hx => (good_iff x).1 (i2 x hx)
  have hall : (l.map (ren ns)).all good = true := by
    rw [List.all_eq_true]
    intro y hy
    obtain ⟨x, hx, rfl⟩ := List.mem_map.1 hy
    have hx2 := hg x hx
    have a1 := rd_in ns n2 x.f0 (by omega) (by omega)
    have a2 := rd_in ns n2 x.f1 (by omega) (by omega)
    rw [good_iff]
    unfold ren tileOf mn mx
    (try dsimp only)
    (repeat' split) <;> omega
  have hnd : (l.map (ren ns)).Nodup := by
    refine List.pairwise_map.2 (List.Pairwise.imp_of_mem (fun {x y} hx hy hne e => hne ?_) i3)
    have hx2 := hg x hx
    have hy2 := hg y hy
    have e0 := congrArg (fun t : S55 => t.f0) e
    have e1 := congrArg (fun t : S55 => t.f1) e
    unfold ren tileOf mn mx at e0 e1
    (try dsimp only at e0 e1)
    have j : ∀ a b : Int, 0 ≤ a → a ≤ 9 → 0 ≤ b → b ≤ 9 → rd ns a = rd ns b → a = b := fun a b h1 h2 h3 h4 => rd_inj ns n3 a b h1 (by omega) h3 (by omega)
    have c : (rd ns x.f0 = rd ns y.f0 ∧ rd ns x.f1 = rd ns y.f1) ∨ (rd ns x.f0 = rd ns y.f1 ∧ rd ns x.f1 = rd ns y.f0) := by
      split at e0 <;> split at e0 <;> (repeat' (split at e1)) <;> omega
    rcases c with ⟨c1, c2⟩ | ⟨c1, c2⟩
    · exact t_ext x y (j _ _ (by omega) (by omega) (by omega) (by omega) c1) (j _ _ (by omega) (by omega) (by omega) (by omega) c2)
    · have d1 := j _ _ (by omega) (by omega) (by omega) (by omega) c1
      have d2 := j _ _ (by omega) (by omega) (by omega) (by omega) c2
      exact t_ext x y (by omega) (by omega)
  unfold isH
  rw [hall, nd_of _ _ hnd (fun x _ h => by cases h)]
  simp [i1]
/-! ### Both sides -/
theorem both (l : List S55) (c ns : List Int) (hl : l.length ≤ 2000000) (hc : c.length ≤ 2000000) (hn : ns.length ≤ 2000000) : ∃ r : List S55 × List Int × Bool, Ev (fun k => spec_RenamePuzzle.f k l c ns) r ∧ Ev (fun k => impl_RenamePuzzle.f k l c ns) r ∧ r.1.length ≤ 1000 ∧ r.2.1.length ≤ 1000 := by
  have h1 := pz_spec l c hl hc
  have h2 := pz_impl l c hl
  have h3 := nms_impl ns hn
  unfold spec_RenamePuzzle.f impl_RenamePuzzle.f
  have no1 : Ev (fun k => spec_RenamePuzzle.j0 k ns true l c) (([] : List S55), ([] : List Int), false) := Ev.step (f := fun _ => some _) (fun k => by simp [spec_RenamePuzzle.j0]) (Ev.now _)
  have no2 : Ev (fun k => impl_RenamePuzzle.j0 k ns true l c) (([] : List S55), ([] : List Int), false) := Ev.step (f := fun _ => some _) (fun k => by simp [impl_RenamePuzzle.j0]) (Ev.now _)
  cases hp : pz l c
  · rw [hp] at h1 h2
    exact ⟨([], [], false), Ev.bind (f := fun k t => _) h1 (by simpa using no1), Ev.bind (f := fun k t => _) h2 (by simpa using no2), by simp, by simp⟩
  · rw [hp] at h1 h2
    obtain ⟨p1, p2, p3, p4, p5, p6⟩ := pz_true l c hp
    cases hq : nms ns
    · rw [hq] at h3
      refine ⟨([], [], false), Ev.bind (f := fun k t => _) h1 ?_, Ev.bind (f := fun k t => _) h2 ?_, by simp, by simp⟩
      · simp only [if_true]
        by_cases e1 : (ns.length : Int) = 10
        · simp only [e1, if_true]
          refine Ev.bind (f := fun k t => _) (l1All_f 0 9 ns hn) ?_
          cases e2 : ns.all (inB 0 9)
          · simpa using no1
          · simp only [Bool.not_true]
            refine Ev.step (fun k => by simp only [spec_RenamePuzzle.j0, Bool.false_eq_true, if_false]; rfl) ?_
            have e3 : ndI [] ns = false := by
              unfold nms at hq
              simpa [e1, e2] using hq
            exact names_ev l c ns ([], [], false) (by omega) ns [] rfl (fun h => by rw [e3] at h; cases h) (fun _ => rfl)
        · simp only [e1, if_false]
          exact no1
      · simp only [if_true]
        refine Ev.bind (f := fun k t => _) h3 ?_
        simpa using no2
    · rw [hq] at h3
      obtain ⟨n1, n2, n3⟩ := nms_true ns hq
      obtain ⟨s, s1, s2, s3⟩ := sorted_both (l.map (ren ns)) (ren_hand ns hq l p3)
      obtain ⟨i1, i2, i3⟩ := isH_true l p3
      refine ⟨(s, c.map (cm ns), true), Ev.bind (f := fun k t => _) h1 ?_, Ev.bind (f := fun k t => _) h2 ?_, by simp [s3]; omega, by simp; omega⟩
      · simp only [if_true]
        have e1 : (ns.length : Int) = 10 := by omega
        simp only [e1, if_true]
        refine Ev.bind (f := fun k t => _) (l1All_f 0 9 ns hn) ?_
        have hq2 := hq
        unfold nms at hq2
        simp only [Bool.and_eq_true] at hq2
        rw [hq2.2.1]
        simp only [Bool.not_true]
        refine Ev.step (fun k => by simp only [spec_RenamePuzzle.j0, Bool.false_eq_true, if_false]; rfl) ?_
        refine names_ev l c ns _ (by omega) ns [] rfl (fun _ => ?_) (fun h => by rw [hq2.2.2] at h; cases h)
        refine tiles_spec ns n1 l c _ (by omega) i2 l [] [] rfl (by simp) ?_
        refine Ev.bind (f := fun k (t : List S55) => _) (by simpa using s1) ?_
        exact chain_spec ns n1 s c (by omega) p5 c [] [] rfl (by simp)
      · simp only [if_true]
        refine Ev.bind (f := fun k t => _) h3 ?_
        simp only [Bool.not_true]
        refine Ev.step (fun k => by simp only [impl_RenamePuzzle.j0, Bool.false_eq_true, if_false]; rfl) ?_
        refine Ev.bind (f := fun k (t : List S55) => _) (show Ev (fun k => impl_renamedHand.f k l ns) s from tiles_impl ns n1 l s (by omega) i2 l [] [] rfl (by simp) (by simpa using s2)) ?_
        have hcl : slices_Clone_int_int.f c = some c := by unfold slices_Clone_int_int.f; rw [if_pos (by omega)]
        simp only [hcl, Option.bind_some]
        simpa using chain_impl ns n1 s c [] (by simp; omega) p5
/-! ### The law -/
theorem end2 (m : Int) (hm : ¬ m < 0) (L : List S55) (C : List Int) (hh : Ev (fun k => laws_heldPuzzle.f k L C 1) m) (b : Bool) : Ev (fun k => laws_FnExactRenamePuzzle.j2 k m (b != b) L C) true := by
  refine Ev.step (f := fun k => (laws_heldPuzzle.f k L C 1).bind fun t => (if t < 0 then (none) else (if t = m then (some true) else (none)))) (fun k => by simp [laws_FnExactRenamePuzzle.j2]) ?_
  exact Ev.bind (f := fun _ t => (if t < 0 then (none) else (if t = m then (some true) else (none)))) hh ⟨0, fun k _ => by simp [hm]⟩
theorem end1 (ns : List Int) (l : List S74) (c : List Int) (r : List S55 × List Int × Bool) (hn : ns.length ≤ 1048576) (hl : l.length ≤ 1048576) (hc : c.length ≤ 1048576) (h2 : Ev (fun k => impl_RenamePuzzle.f k (l.map conv) c ns) r) (q1 : r.1.length ≤ 1000) (q2 : r.2.1.length ≤ 1000) (b : Bool) (hb : b = false) : Ev (fun k => laws_FnExactRenamePuzzle.j1 k ns r.2.2 b l c r.1 r.2.1 r.1 r.2.1) true := by
  obtain ⟨m, L, C, m1, m2, m3⟩ := mark_f r.1 r.2.1 (by omega) (by omega)
  refine Ev.step (fun k => by simp only [laws_FnExactRenamePuzzle.j1, hb, Bool.false_eq_true, if_false]; rfl) ?_
  refine Ev.bind (f := fun k (d : Int × List S55 × List Int) => _) m1 ?_
  refine Ev.bind (f := fun k t => _) m2 ?_
  simp only [if_neg m3, if_true]
  refine Ev.bind (f := fun k (d : List S55 × List Int) => _) (toPuzzle_f l c hl hc) ?_
  refine Ev.bind (f := fun k (d : List Int) => _) (toIntS_f ns (by omega)) ?_
  refine Ev.bind (f := fun k (d : List S55 × List Int × Bool) => _) h2 ?_
  refine Ev.bind (f := fun k t => _) (eqPuzzle_f r.1 r.2.1 (by omega) (by omega)) ?_
  exact end2 m m3 L C m2 r.2.2
theorem mark2_f (l : List S55) (c : List Int) (hl : l.length ≤ 2000000) (hc : c.length ≤ 2000000) : ∃ (m : Int) (l' : List S55) (c' : List Int), Ev (fun k => laws_markPuzzle.f k l c 1) (m, l', c') ∧ ¬ m < 0 ∧ m ≤ 10000000 := by
  have a1 := markT_ev l [] 1 (by simpa using hl) (by omega) (by simp)
  have a2 := markI_ev c [] (1 + 2 * (l.length : Int)) (by simpa using hc) (by omega) (by simp; omega)
  simp only [List.nil_append] at a1 a2
  refine ⟨1 + 2 * (l.length : Int) + c.length, mt 1 l.length, mi (1 + 2 * (l.length : Int)) c.length, ?_, by omega, by omega⟩
  unfold laws_markPuzzle.f
  exact Ev.bind (f := fun k (b : Int × List S55) => (laws_markIntS.f k c b.1).bind fun d => (some (d.1, b.2, d.2))) a1 (Ev.bind (f := fun _ (d : Int × List Int) => (some (d.1, mt 1 l.length, d.2))) a2 ⟨0, fun k _ => rfl⟩)
theorem end0 (ns : List Int) (l : List S74) (c : List Int) (r : List S55 × List Int × Bool) (hn : ns.length ≤ 1048576) (hl : l.length ≤ 1048576) (hc : c.length ≤ 1048576) (h2 : Ev (fun k => impl_RenamePuzzle.f k (l.map conv) c ns) r) (q1 : r.1.length ≤ 1000) (q2 : r.2.1.length ≤ 1000) (b : Bool) : Ev (fun k => laws_FnExactRenamePuzzle.j0 k ns r.2.2 ns r.2.2 (b != b) l c r.1 r.2.1 (l.map conv) c r.1 r.2.1) true := by
  have hlm : (l.map conv).length ≤ 1048576 := by simpa using hl
  obtain ⟨m, L, C, m1, m3, m5⟩ := mark2_f (l.map conv) c (by omega) (by omega)
  have m4 := markI_ev ns [] m (by simp; omega) (by omega) (by simpa using m5)
  refine Ev.step (fun k => by simp only [laws_FnExactRenamePuzzle.j0, bne_self_eq_false, Bool.false_eq_true, if_false]; rfl) ?_
  refine Ev.bind (f := fun k (d : List S55 × List Int) => _) (toPuzzle_f l c hl hc) ?_
  refine Ev.bind (f := fun k t => _) (eqPuzzle_f (l.map conv) c hlm hc) ?_
  simp only [if_true]
  refine Ev.bind (f := fun k (d : List Int) => _) (toIntS_f ns (by omega)) ?_
  refine Ev.bind (f := fun k t => _) (eqIntS_f ns (by omega)) ?_
  simp only [if_true]
  refine Ev.bind (f := fun k (d : Int × List S55 × List Int) => _) m1 ?_
  refine Ev.bind (f := fun k (d : Int × List Int) => _) (show Ev (fun k => laws_markIntS.f k ns m) _ from m4) ?_
  simp only [if_neg (show ¬ m + (ns.length : Int) < 0 from by omega)]
  refine Ev.bind (f := fun k t => _) (eqPuzzle_f r.1 r.2.1 (by omega) (by omega)) ?_
  simp only [if_true]
  exact end1 ns l c r hn hl hc h2 q1 q2 _ (by simp)
theorem FnExactRenamePuzzle (l0_0 : List (S74)) (l0_1 : List Int) (l1 : List Int) (_h0 : (l0_0.length ≤ 9223372036854775807 ∧ ∀ x_ ∈ l0_0, ((Lit.int .i64 x_.f0).wf = true ∧ (Lit.int .i64 x_.f1).wf = true))) (_h1 : (l0_1.length ≤ 9223372036854775807 ∧ ∀ x_ ∈ l0_1, (Lit.int .i64 x_).wf = true)) (_h2 : (l1.length ≤ 9223372036854775807 ∧ ∀ x_ ∈ l1, (Lit.int .i64 x_).wf = true)) : ∃ k, laws_FnExactRenamePuzzle.f k l0_0 l0_1 l1 = some true := by
  refine Ev.rounds (g := fun k => laws_FnExactRenamePuzzle.f k l0_0 l0_1 l1) ?_
  unfold laws_FnExactRenamePuzzle.f
  by_cases hn : (l1.length : Int) > 1048576
  · simp only [if_pos hn]
    exact ⟨0, fun k _ => rfl⟩
  · simp only [if_neg hn]
    rcases szPuzzle_f l0_0 l0_1 _h0.1 _h1.1 with hsz | ⟨n, hsz, hn2, hl, hc⟩
    · rw [hsz]
      exact ⟨0, fun k _ => rfl⟩
    · rw [hsz]
      simp only [Option.bind_some, hn2, if_false]
      have htp := toPuzzle_f l0_0 l0_1 hl hc
      have hti := toIntS_f l1 (by omega)
      have hlm : (l0_0.map conv).length ≤ 1048576 := by simpa using hl
      obtain ⟨r, h1, h2, q1, q2⟩ := both (l0_0.map conv) l0_1 l1 (by omega) (by omega) (by omega)
      refine Ev.bind (f := fun k (d : List S55 × List Int) => _) htp ?_
      refine Ev.bind (f := fun k (d : List Int) => _) hti ?_
      refine Ev.bind (f := fun k (d : List S55 × List Int × Bool) => _) h1 ?_
      refine Ev.bind (f := fun k (d : List S55 × List Int) => _) htp ?_
      refine Ev.bind (f := fun k (d : List Int) => _) hti ?_
      refine Ev.bind (f := fun k (d : List S55 × List Int × Bool) => _) h2 ?_
      refine Ev.bind (f := fun k t => _) (eqPuzzle_f r.1 r.2.1 (by omega) (by omega)) ?_
      simp only [if_true]
      exact end0 l1 l0_0 l0_1 r (by omega) hl hc h2 q1 q2 r.2.2


end Go.Proofs.Ytncogkhhecgcbaa.QPure
