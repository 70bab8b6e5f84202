/- For every input the law FnExactParsePuzzle answers true: the plain statement over lists and numbers. No conditions. -/
import Derived.Lib.SlTrimSet
import Derived.Lib.IndexMore
import Derived.Lib.SplitLaws
import Derived.Test.YtncogkhhecgcbaaDoorQFnExactParsePuzzlex1
import Derived.Test.YtncogkhhecgcbaaDoorQFnExactParsePuzzlex2
import Derived.Test.YtncogkhhecgcbaaDoorQFnExactParsePuzzlex3
import Derived.Test.YtncogkhhecgcbaaDoorQFnExactParsePuzzlex4
import Derived.Test.YtncogkhhecgcbaaDoorQFnExactParsePuzzlex5
import Derived.Test.YtncogkhhecgcbaaDoorQFnExactParsePuzzlex6
import Derived.Test.YtncogkhhecgcbaaDoorQFnExactParsePuzzlex7
import Derived.Test.YtncogkhhecgcbaaDoorQFnExactParsePuzzlex8
import Derived.Test.YtncogkhhecgcbaaDoorQFnExactParsePuzzlex9
import Derived.Test.YtncogkhhecgcbaaDoorQFnExactParsePuzzlex10
import Derived.Test.YtncogkhhecgcbaaDoorQFnExactParsePuzzlex11
import Derived.Test.YtncogkhhecgcbaaDoorQFnExactParsePuzzlex12
namespace Go.Proofs.YtncogkhhecgcbaaDoor.QPure
open Go.RowKit Go.Proofs.YtncogkhhecgcbaaDoor.QFnExactParsePuzzle Go.Proofs.YtncogkhhecgcbaaDoorW.PrintWords Go.Proofs.YtncogkhhecgcbaaDoorW.PrintLast

set_option linter.unusedVariables false
set_option linter.unusedSimpArgs false
/-! Hands and their order, in plain words. -/
theorem t_eta (x : S46) : (⟨x.f0, x.f1⟩ : S46) = x := rfl
theorem t_ext (x y : S46) (h0 : x.f0 = y.f0) (h1 : x.f1 = y.f1) : x = y := by
  cases x
  cases y
  simp_all
instance t_dec : DecidableEq S46 := fun x y => if h : x.f0 = y.f0 ∧ x.f1 = y.f1 then isTrue (t_ext x y h.1 h.2) else isFalse (fun e => h (by subst e; exact ⟨rfl, rfl⟩))
theorem t_beq (x y : S46) : (x.f0 == y.f0 && (x.f1 == y.f1)) = decide (x = y) := by
  by_cases h : x = y
  · subst h
    simp
  · have : ¬ (x.f0 = y.f0 ∧ x.f1 = y.f1) := fun e => h (t_ext x y e.1 e.2)
    rw [decide_eq_false h]
    by_cases h0 : x.f0 = y.f0
    · have h1 : ¬ x.f1 = y.f1 := fun e => this ⟨h0, e⟩
      simp [h1]
    · simp [h0]
theorem t_mid (pre : List S46) (x : S46) (xs : List S46) (d : S46) : (pre ++ x :: xs).getD pre.length d = x := by
  rw [List.getD_eq_getElem?_getD, List.getElem?_append_right (Nat.le_refl _), Nat.sub_self]
  rfl
theorem t_wrap (n : Int) (h : -1000000000 ≤ n) (h' : n ≤ 1000000000) : wrap64 n = n := by
  unfold wrap64
  omega

theorem t_wrap2 (n : Int) (h : -1000000000000 ≤ n) (h' : n ≤ 1000000000000) : wrap64 n = n := by
  unfold wrap64
  omega

def good (x : S46) : Bool := decide (0 ≤ x.f0) && (decide (x.f0 ≤ x.f1) && decide (x.f1 ≤ 9))
theorem good_iff (x : S46) : good x = true ↔ 0 ≤ x.f0 ∧ x.f0 ≤ x.f1 ∧ x.f1 ≤ 9 := by
  unfold good
  simp
theorem tiGood_f (x : S46) : spec_tiGood.f x.f0 x.f1 = some (good x) := by
  unfold spec_tiGood.f spec_l1In.f good
  by_cases h1 : 0 ≤ x.f0
  · have h1' : x.f0 ≥ 0 := h1
    rw [if_pos h1']
    by_cases h2 : x.f0 ≤ x.f1
    · simp [h1, h2]
    · simp [h1, h2]
  · have h1' : ¬ x.f0 ≥ 0 := h1
    rw [if_neg h1']
    simp [h1]

/-- The first place of a tile behind pre. -/
theorem place_ev (t : S46) : ∀ (rest pre : List S46), (pre ++ rest).length ≤ 2000000 → ∃ r : Int, Ev (fun k => spec_tiPlace.l0 k (pre ++ rest) ((pre ++ rest).length : Int) (pre.length : Int) t.f0 t.f1) r ∧ decide (r ≥ 0) = decide (t ∈ rest) := by
  intro rest
  induction rest with
  | nil =>
    intro pre hl
    refine ⟨-1, Ev.step (f := fun _ => some (-1)) (fun k => ?_) (Ev.now _), by simp⟩
    simp only [spec_tiPlace.l0, List.append_nil]
    rw [if_neg (by omega)]
  | cons x xs ih =>
    intro pre hl
    have hlen : (pre ++ x :: xs).length = pre.length + xs.length + 1 := by simp; omega
    have hget : rd_T46 (pre ++ x :: xs) (pre.length : Int) = x := by
      unfold rd_T46
      exact t_mid pre x xs _
    by_cases e : x = t
    · refine ⟨(pre.length : Int), Ev.step (f := fun _ => some (pre.length : Int)) (fun k => ?_) (Ev.now _), by simp [e]⟩
      simp only [spec_tiPlace.l0]
      rw [if_pos (by omega), if_pos (by omega), if_pos (by omega), hget, t_beq, if_pos (by simp [e])]
    · obtain ⟨r, h1, h2⟩ := ih (pre ++ [x]) (by simpa using hl)
      have e1 : pre ++ [x] ++ xs = pre ++ x :: xs := by simp
      rw [e1] at h1
      refine ⟨r, Ev.step (fun k => ?_) h1, by rw [h2]; simp [Ne.symm e]⟩
      simp only [spec_tiPlace.l0]
      rw [if_pos (by omega), if_pos (by omega), if_pos (by omega), hget, t_beq, if_neg (by simp [e]), t_wrap ((pre.length : Int) + 1) (by omega) (by omega)]
      simp
theorem place_f (t : S46) (l : List S46) (hl : l.length ≤ 2000000) : ∃ r : Int, Ev (fun k => spec_tiPlace.f k l t.f0 t.f1) r ∧ decide (r ≥ 0) = decide (t ∈ l) := place_ev t l [] hl

/-- .. and the program's. -/
theorem index_ev (t : S46) : ∀ (rest pre : List S46), (pre ++ rest).length ≤ 2000000 → ∃ r : Int, Ev (fun k => slices_Index_impl_Tile_impl_Tile.l0 k (pre ++ rest) ((pre ++ rest).length : Int) (pre.length : Int) t.f0 t.f1) r ∧ decide (r ≥ 0) = decide (t ∈ rest) := by
  intro rest
  induction rest with
  | nil =>
    intro pre hl
    refine ⟨-1, Ev.step (f := fun _ => some (-1)) (fun k => ?_) (Ev.now _), by simp⟩
    simp only [slices_Index_impl_Tile_impl_Tile.l0, List.append_nil]
    rw [if_neg (by omega)]
  | cons x xs ih =>
    intro pre hl
    have hlen : (pre ++ x :: xs).length = pre.length + xs.length + 1 := by simp; omega
    have hget : rd_T46 (pre ++ x :: xs) (pre.length : Int) = x := by
      unfold rd_T46
      exact t_mid pre x xs _
    by_cases e : t = x
    · refine ⟨(pre.length : Int), Ev.step (f := fun _ => some (pre.length : Int)) (fun k => ?_) (Ev.now _), by simp [e]⟩
      simp only [slices_Index_impl_Tile_impl_Tile.l0]
      rw [if_pos (by omega), if_pos (by omega), if_pos (by omega), hget, t_beq, if_pos (by simp [e])]
    · obtain ⟨r, h1, h2⟩ := ih (pre ++ [x]) (by simpa using hl)
      have e1 : pre ++ [x] ++ xs = pre ++ x :: xs := by simp
      rw [e1] at h1
      refine ⟨r, Ev.step (fun k => ?_) h1, by rw [h2]; simp [e]⟩
      simp only [slices_Index_impl_Tile_impl_Tile.l0]
      rw [if_pos (by omega), if_pos (by omega), if_pos (by omega), hget, t_beq, if_neg (by simp [e]), t_wrap ((pre.length : Int) + 1) (by omega) (by omega)]
      simp
theorem contains_f (t : S46) (l : List S46) (hl : l.length ≤ 2000000) : Ev (fun k => slices_Contains_impl_Tile_impl_Tile.f k l t.f0 t.f1) (decide (t ∈ l)) := by
  obtain ⟨r, h1, h2⟩ := index_ev t l [] hl
  rw [← h2]
  exact Ev.bind (f := fun _ t177 => (some (decide (t177 ≥ 0)))) h1 ⟨0, fun k _ => rfl⟩

/-- No two the same, behind pre. -/
def nd : List S46 → List S46 → Bool
  | _, [] => true
  | pre, x :: xs => !decide (x ∈ pre) && nd (pre ++ [x]) xs
def hb : List S46 → List S46 → Bool
  | _, [] => true
  | pre, x :: xs => good x && (!decide (x ∈ pre) && hb (pre ++ [x]) xs)
theorem hb_nd : ∀ (rest pre : List S46), hb pre rest = (rest.all good && nd pre rest) := by
  intro rest
  induction rest with
  | nil => intro pre; rfl
  | cons x xs ih =>
    intro pre
    unfold hb nd
    rw [ih, List.all_cons]
    cases good x <;> cases decide (x ∈ pre) <;> cases xs.all good <;> simp
theorem nd_nodup : ∀ (rest pre : List S46), nd pre rest = true → (∀ x ∈ rest, x ∉ pre) ∧ rest.Nodup := by
  intro rest
  induction rest with
  | nil => intro pre _; exact ⟨(fun x h => by cases h), List.nodup_nil⟩
  | cons x xs ih =>
    intro pre h
    unfold nd at h
    simp only [Bool.and_eq_true, Bool.not_eq_true', decide_eq_false_iff_not] at h
    obtain ⟨h1, h2⟩ := ih _ h.2
    refine ⟨fun y hy => ?_, ?_⟩
    · rcases List.mem_cons.1 hy with rfl | hy
      · exact h.1
      · exact fun hp => h1 y hy (List.mem_append_left _ hp)
    · rw [List.nodup_cons]
      exact ⟨fun hx => h1 x hx (by simp), h2⟩

theorem tiHand_ev : ∀ (rest pre : List S46), (pre ++ rest).length ≤ 2000000 → Ev (fun k => spec_tiHand.l0 k (pre ++ rest) (pre ++ rest) ((pre ++ rest).length : Int) (pre.length : Int)) (hb pre rest) := by
  intro rest
  induction rest with
  | nil =>
    intro pre hl
    refine Ev.step (f := fun _ => some true) (fun k => ?_) (Ev.now _)
    simp only [spec_tiHand.l0, List.append_nil]
    rw [if_neg (by omega)]
  | cons x xs ih =>
    intro pre hl
    have hlen : (pre ++ x :: xs).length = pre.length + xs.length + 1 := by simp; omega
    have hget : rd_T46 (pre ++ x :: xs) (pre.length : Int) = x := by
      unfold rd_T46
      exact t_mid pre x xs _
    have htake : (pre ++ x :: xs).take ((pre.length : Int)).toNat = pre := by simp
    cases hg : good x
    · refine Ev.step (f := fun _ => some (hb pre (x :: xs))) (fun k => ?_) (Ev.now _)
      simp only [spec_tiHand.l0]
      rw [if_pos (by omega), if_pos (by omega), if_pos (by omega), hget, tiGood_f, hg]
      simp [hb, hg]
    · obtain ⟨r, h1, h2⟩ := place_f x pre (by omega)
      have e1 : pre ++ [x] ++ xs = pre ++ x :: xs := by simp
      have hi := ih (pre ++ [x]) (by simpa using hl)
      rw [e1] at hi
      refine Ev.step (f := fun k => (spec_tiPlace.f k pre x.f0 x.f1).bind fun t123 => (if t123 ≥ 0 then (some false) else (spec_tiHand.l0 k (pre ++ x :: xs) (pre ++ x :: xs) ((pre ++ x :: xs).length : Int) (((pre ++ [x]).length : Nat) : Int)))) (fun k => ?_) ?_
      · simp only [spec_tiHand.l0]
        rw [if_pos (by omega), if_pos (by omega), if_pos (by omega), hget, tiGood_f, hg]
        simp only [Option.bind_some, if_true]
        rw [if_pos (by omega), htake, t_wrap ((pre.length : Int) + 1) (by omega) (by omega)]
        simp
      · refine Ev.bind (f := fun k t123 => (if t123 ≥ 0 then (some false) else (spec_tiHand.l0 k (pre ++ x :: xs) (pre ++ x :: xs) ((pre ++ x :: xs).length : Int) (((pre ++ [x]).length : Nat) : Int)))) h1 ?_
        by_cases hm : x ∈ pre
        · have hr : r ≥ 0 := by
            rw [decide_eq_true hm] at h2
            exact of_decide_eq_true h2
          refine ⟨0, fun k _ => ?_⟩
          (try dsimp only)
          rw [if_pos hr]
          simp [hb, hm]
        · have hr : ¬ r ≥ 0 := by
            rw [decide_eq_false hm] at h2
            exact of_decide_eq_false h2
          refine Ev.congr (fun k => ?_) (show Ev _ (hb pre (x :: xs)) from by
            have : hb pre (x :: xs) = hb (pre ++ [x]) xs := by simp [hb, hg, hm]
            rw [this]
            exact hi)
          (try dsimp only)
          rw [if_neg hr]

theorem areDiff_ev : ∀ (rest pre : List S46), (pre ++ rest).length ≤ 2000000 → Ev (fun k => impl_areDifferent_impl_Tile.l0 k (pre ++ rest) (pre ++ rest) ((pre ++ rest).length : Int) (pre.length : Int)) (nd pre rest) := by
  intro rest
  induction rest with
  | nil =>
    intro pre hl
    refine Ev.step (f := fun _ => some true) (fun k => ?_) (Ev.now _)
    simp only [impl_areDifferent_impl_Tile.l0, List.append_nil]
    rw [if_neg (by omega)]
  | cons x xs ih =>
    intro pre hl
    have hlen : (pre ++ x :: xs).length = pre.length + xs.length + 1 := by simp; omega
    have hget : rd_T46 (pre ++ x :: xs) (pre.length : Int) = x := by
      unfold rd_T46
      exact t_mid pre x xs _
    have htake : (pre ++ x :: xs).take ((pre.length : Int)).toNat = pre := by simp
    have h1 := contains_f x pre (by omega)
    have e1 : pre ++ [x] ++ xs = pre ++ x :: xs := by simp
    have hi := ih (pre ++ [x]) (by simpa using hl)
    rw [e1] at hi
    refine Ev.step (f := fun k => (slices_Contains_impl_Tile_impl_Tile.f k pre x.f0 x.f1).bind fun t184 => (if t184 = true then (some false) else (impl_areDifferent_impl_Tile.l0 k (pre ++ x :: xs) (pre ++ x :: xs) ((pre ++ x :: xs).length : Int) (((pre ++ [x]).length : Nat) : Int)))) (fun k => ?_) ?_
    · simp only [impl_areDifferent_impl_Tile.l0]
      rw [if_pos (by omega), if_pos (by omega), if_pos (by omega), if_pos (by omega), hget, htake, t_wrap ((pre.length : Int) + 1) (by omega) (by omega)]
      simp
    · refine Ev.bind (f := fun k t184 => (if t184 = true then (some false) else (impl_areDifferent_impl_Tile.l0 k (pre ++ x :: xs) (pre ++ x :: xs) ((pre ++ x :: xs).length : Int) (((pre ++ [x]).length : Nat) : Int)))) h1 ?_
      by_cases hm : x ∈ pre
      · refine ⟨0, fun k _ => ?_⟩
        simp [nd, hm]
      · refine Ev.congr (fun k => ?_) (show Ev _ (nd pre (x :: xs)) from by
          have : nd pre (x :: xs) = nd (pre ++ [x]) xs := by simp [nd, hm]
          rw [this]
          exact hi)
        simp only [hm, decide_false, Bool.false_eq_true, if_false]

theorem noTile_good (x : S46) : noTile x = !good x := rfl
theorem any_no (l : List S46) : l.any noTile = !l.all good := by
  induction l with
  | nil => rfl
  | cons x xs ih => rw [List.any_cons, List.all_cons, ih, noTile_good]; cases good x <;> simp

/-- Is it a hand? The same on both sides. -/
def isH (l : List S46) : Bool := decide (l.length ≤ 55) && (l.all good && nd [] l)
theorem isH_spec (l : List S46) (hl : l.length ≤ 2000000) : Ev (fun k => spec_tiHand.f k l) (isH l) := by
  by_cases h : l.length ≤ 55
  · have hi := tiHand_ev l [] hl
    rw [hb_nd] at hi
    refine Ev.congr (fun k => ?_) (show Ev _ (isH l) from by
      have : isH l = (l.all good && nd [] l) := by simp [isH, h]
      rw [this]
      exact hi)
    unfold spec_tiHand.f
    rw [if_neg (by omega)]
    rfl
  · refine ⟨0, fun k _ => ?_⟩
    show spec_tiHand.f k l = _
    unfold spec_tiHand.f
    rw [if_pos (by omega)]
    simp [isH, h]
theorem isH_impl (l : List S46) (hl : l.length ≤ 2000000) : Ev (fun k => impl_IsHand.f k l) (isH l) := by
  by_cases h : l.length ≤ 55
  · cases hg : l.all good
    · refine ⟨0, fun k _ => ?_⟩
      show impl_IsHand.f k l = _
      unfold impl_IsHand.f
      rw [if_pos (by omega), any_no, hg]
      simp [isH, hg]
    · have hi := areDiff_ev l [] hl
      refine Ev.congr (fun k => ?_) (show Ev _ (isH l) from by
        have : isH l = nd [] l := by simp [isH, h, hg]
        rw [this]
        exact hi)
      unfold impl_IsHand.f
      rw [if_pos (by omega), any_no, hg]
      simp only [Bool.not_true, Bool.false_eq_true, if_false]
      rfl
  · refine ⟨0, fun k _ => ?_⟩
    show impl_IsHand.f k l = _
    unfold impl_IsHand.f
    rw [if_neg (by omega)]
    simp [isH, h]
theorem isH_true (l : List S46) (h : isH l = true) : l.length ≤ 55 ∧ (∀ x ∈ l, good x = true) ∧ l.Nodup := by
  unfold isH at h
  simp only [Bool.and_eq_true, decide_eq_true_eq] at h
  exact ⟨h.1, List.all_eq_true.1 h.2.1, (nd_nodup l [] h.2.2).2⟩

/-! ### Order -/
def lt (x y : S46) : Prop := x.f0 < y.f0 ∨ (x.f0 = y.f0 ∧ x.f1 < y.f1)
theorem lt_irrefl (x : S46) : ¬ lt x x := by
  unfold lt
  omega
theorem lt_trans {x y z : S46} (h : lt x y) (k : lt y z) : lt x z := by
  unfold lt at *
  omega
theorem lt_asymm {x y : S46} (h : lt x y) : ¬ lt y x := by
  unfold lt at *
  omega
theorem cmpT_neg (x y : S46) (hx : good x = true) (hy : good y = true) : cmpT x y < 0 ↔ lt x y := by
  rw [good_iff] at hx hy
  unfold cmpT lt
  by_cases h : x.f0 = y.f0
  · rw [if_pos h, t_wrap _ (by omega) (by omega)]
    omega
  · rw [if_neg h, t_wrap _ (by omega) (by omega)]
    omega
theorem lt_total (x y : S46) (h : ¬ lt x y) (k : x ≠ y) : lt y x := by
  have : ¬ (x.f0 = y.f0 ∧ x.f1 = y.f1) := fun e => k (t_ext x y e.1 e.2)
  unfold lt at *
  omega

theorem uniq : ∀ (a b : List S46), a.Pairwise lt → b.Pairwise lt → (∀ x, x ∈ a ↔ x ∈ b) → a = b := by
  intro a
  induction a with
  | nil =>
    intro b _ _ h
    cases b with
    | nil => rfl
    | cons y ys => exact absurd ((h y).2 List.mem_cons_self) (by simp)
  | cons x xs ih =>
    intro b ha hb h
    cases b with
    | nil => exact absurd ((h x).1 List.mem_cons_self) (by simp)
    | cons y ys =>
      rw [List.pairwise_cons] at ha hb
      have e : x = y := by
        rcases List.mem_cons.1 ((h x).1 List.mem_cons_self) with e | e
        · exact e
        · rcases List.mem_cons.1 ((h y).2 List.mem_cons_self) with e2 | e2
          · exact e2.symm
          · exact absurd (ha.1 y e2) (lt_asymm (hb.1 x e))
      subst e
      congr 1
      refine ih ys ha.2 hb.2 (fun z => ?_)
      constructor
      · intro hz
        rcases List.mem_cons.1 ((h z).1 (List.mem_cons_of_mem _ hz)) with e | e
        · subst e
          exact absurd (ha.1 z hz) (lt_irrefl z)
        · exact e
      · intro hz
        rcases List.mem_cons.1 ((h z).2 (List.mem_cons_of_mem _ hz)) with e | e
        · subst e
          exact absurd (hb.1 z hz) (lt_irrefl z)
        · exact e

theorem sortedT_iff : ∀ (l : List S46), (∀ x ∈ l, good x = true) → l.Nodup → (sortedT l = true ↔ l.Pairwise lt) := by
  intro l
  induction l with
  | nil => intro _ _; exact ⟨fun _ => List.Pairwise.nil, fun _ => rfl⟩
  | cons x xs ih =>
    intro hg hn
    rw [List.nodup_cons] at hn
    have hgx := hg x List.mem_cons_self
    have hi := ih (fun y hy => hg y (List.mem_cons_of_mem _ hy)) hn.2
    unfold sortedT
    cases xs with
    | nil => simp [sortedT]
    | cons y ys =>
      have hgy := hg y (by simp)
      simp only [Bool.and_eq_true, Bool.not_eq_true', decide_eq_false_iff_not]
      rw [hi, cmpT_neg y x hgy hgx]
      constructor
      · rintro ⟨h1, h2⟩
        have hxy : lt x y := lt_total y x h1 (fun e => hn.1 (by rw [← e]; exact List.mem_cons_self))
        refine List.pairwise_cons.2 ⟨fun z hz => ?_, h2⟩
        rcases List.mem_cons.1 hz with rfl | hz
        · exact hxy
        · exact lt_trans hxy ((List.pairwise_cons.1 h2).1 z hz)
      · intro h
        obtain ⟨h1, h2⟩ := List.pairwise_cons.1 h
        exact ⟨lt_asymm (h1 y List.mem_cons_self), h2⟩

/-! ### The whole set -/
def code (l : List S46) : List (Int × Int) := l.map fun t => (t.f0, t.f1)
theorem code_inj (a b : List S46) (h : code a = code b) : a = b := by
  unfold code at h
  induction a generalizing b with
  | nil => cases b with
    | nil => rfl
    | cons y b => simp at h
  | cons x a ih => cases b with
    | nil => simp at h
    | cons y b =>
      simp only [List.map_cons, List.cons.injEq, Prod.mk.injEq] at h
      rw [ih b h.2]
      cases x
      cases y
      simp_all
def lst (n : Nat) : List (Int × Int) := (List.range (n + 1)).flatMap fun a => (List.range (n + 1 - a)).map fun b => ((a : Int), ((a + b : Nat) : Int))
/-- The tiles of the set of 9: in order, all, and none but them. -/
theorem whole : ∃ A : List S46, Ev (fun k => spec_tiSet.f k 9) A ∧ A.length = 55 ∧ A.Pairwise lt ∧ (∀ x, x ∈ A ↔ good x = true) := by
  have h2 : ((spec_tiSet.f 100 9).map code) = some (lst 9) := by decide +kernel
  obtain ⟨A, hA, hc⟩ := Option.map_eq_some_iff.1 h2
  have hl : (lst 9).length = 55 := by decide +kernel
  have hp : (lst 9).Pairwise (fun x y => x.1 < y.1 ∨ (x.1 = y.1 ∧ x.2 < y.2)) := by decide +kernel
  have hg : ∀ p ∈ lst 9, 0 ≤ p.1 ∧ p.1 ≤ p.2 ∧ p.2 ≤ 9 := by decide +kernel
  have hall : ∀ a : Fin 10, ∀ b : Fin 10, a.val ≤ b.val → (((a.val : Nat) : Int), ((b.val : Nat) : Int)) ∈ lst 9 := by decide +kernel
  generalize lst 9 = P at hc hl hp hg hall
  subst hc
  refine ⟨A, Ev.of (fun k => spec_tiSet.mono _ k) hA, ?_, ?_, fun x => ?_⟩
  · unfold code at hl
    rw [List.length_map] at hl
    exact hl
  · unfold code at hp
    rw [List.pairwise_map] at hp
    exact hp
  · constructor
    · intro hx
      rw [good_iff]
      exact hg (x.f0, x.f1) (by unfold code; exact List.mem_map.2 ⟨x, hx, rfl⟩)
    · intro hx
      rw [good_iff] at hx
      have := hall ⟨x.f0.toNat, by omega⟩ ⟨x.f1.toNat, by omega⟩ (by simp; omega)
      simp only at this
      rw [Int.toNat_of_nonneg (by omega), Int.toNat_of_nonneg (by omega)] at this
      unfold code at this
      obtain ⟨y, hy, e⟩ := List.mem_map.1 this
      simp only [Prod.mk.injEq] at e
      have : y = x := t_ext y x e.1 e.2
      rw [← this]
      exact hy

theorem pick_ev (l : List S46) (hl : l.length ≤ 2000000) (b : Bool) : ∀ (rest pre out : List S46), (pre ++ rest).length ≤ 1000 → out.length ≤ pre.length →
    Ev (fun k => spec_tiPick.l0 k l b out (pre ++ rest) ((pre ++ rest).length : Int) (pre.length : Int)) (out ++ rest.filter fun x => decide (x ∈ l) == b) := by
  intro rest
  induction rest with
  | nil =>
    intro pre out h1 h2
    refine Ev.step (f := fun _ => some (out ++ [])) (fun k => ?_) (Ev.now _)
    simp only [spec_tiPick.l0, List.append_nil]
    rw [if_neg (by omega)]
  | cons x xs ih =>
    intro pre out h1 h2
    have hlen : (pre ++ x :: xs).length = pre.length + xs.length + 1 := by simp; omega
    have hget : rd_T46 (pre ++ x :: xs) (pre.length : Int) = x := by
      unfold rd_T46
      exact t_mid pre x xs _
    obtain ⟨r, p1, p2⟩ := place_f x l hl
    have e1 : pre ++ [x] ++ xs = pre ++ x :: xs := by simp
    refine Ev.step (f := fun k => (spec_tiPlace.f k l x.f0 x.f1).bind fun t135 => (if ((decide (t135 ≥ 0)) == b) = true then (spec_tiPick.l0 k l b (out ++ [x]) (pre ++ x :: xs) ((pre ++ x :: xs).length : Int) (((pre ++ [x]).length : Nat) : Int)) else (spec_tiPick.l0 k l b out (pre ++ x :: xs) ((pre ++ x :: xs).length : Int) (((pre ++ [x]).length : Nat) : Int)))) (fun k => ?_) ?_
    · simp only [spec_tiPick.l0]
      rw [if_pos (by omega), if_pos (by omega), if_pos (by omega), hget, t_wrap ((pre.length : Int) + 1) (by omega) (by omega), if_pos (by omega)]
      simp
    · refine Ev.bind (f := fun k t135 => (if ((decide (t135 ≥ 0)) == b) = true then (spec_tiPick.l0 k l b (out ++ [x]) (pre ++ x :: xs) ((pre ++ x :: xs).length : Int) (((pre ++ [x]).length : Nat) : Int)) else (spec_tiPick.l0 k l b out (pre ++ x :: xs) ((pre ++ x :: xs).length : Int) (((pre ++ [x]).length : Nat) : Int)))) p1 ?_
      rw [List.filter_cons]
      cases hd : (decide (x ∈ l) == b)
      · have hi := ih (pre ++ [x]) out (by simpa using h1) (by simp; omega)
        rw [e1] at hi
        refine Ev.congr (fun k => ?_) (by simpa using hi)
        (try dsimp only)
        rw [p2, hd]
        simp
      · have hi := ih (pre ++ [x]) (out ++ [x]) (by simpa using h1) (by simp; omega)
        rw [e1] at hi
        refine Ev.congr (fun k => ?_) (by simpa using hi)
        (try dsimp only)
        rw [p2, hd]
        simp

theorem len_le : ∀ (a b : List S46), a.Nodup → (∀ x, x ∈ a → x ∈ b) → a.length ≤ b.length := by
  intro a
  induction a with
  | nil => intro b _ _; simp
  | cons x xs ih =>
    intro b hn h
    rw [List.nodup_cons] at hn
    have hx := h x List.mem_cons_self
    have := ih (b.erase x) hn.2 (fun y hy => (List.mem_erase_of_ne (fun e => hn.1 (by rw [← e]; exact hy))).2 (h y (List.mem_cons_of_mem _ hy)))
    rw [List.length_erase_of_mem hx] at this
    have hp : 0 < b.length := List.length_pos_of_mem hx
    simp
    omega
theorem len_eq (a b : List S46) (ha : a.Nodup) (hb : b.Nodup) (h : ∀ x, x ∈ a ↔ x ∈ b) : a.length = b.length :=
  Nat.le_antisymm (len_le a b ha (fun x hx => (h x).1 hx)) (len_le b a hb (fun x hx => (h x).2 hx))

/-- A hand in order. -/
theorem sort_f (l : List S46) (h : isH l = true) : ∃ s : List S46, Ev (fun k => spec_tiSort.f k l) s ∧ s.length = l.length ∧ s.Pairwise lt ∧ (∀ x, x ∈ s ↔ x ∈ l) ∧ decide (s = l) = sortedT l := by
  obtain ⟨h1, h2, h3⟩ := isH_true l h
  obtain ⟨A, hA, hl, hp, hm⟩ := whole
  have hk := pick_ev l (by omega) true A [] [] (by simp; omega) (by simp)
  simp only [List.nil_append] at hk
  have hmem : ∀ x, x ∈ A.filter (fun x => decide (x ∈ l) == true) ↔ x ∈ l := by
    intro x
    rw [List.mem_filter, hm]
    constructor
    · rintro ⟨_, h⟩
      simpa using h
    · intro h
      exact ⟨h2 x h, by simp [h]⟩
  have hps := hp.filter (fun x => decide (x ∈ l) == true)
  have hnd : ∀ (s : List S46), s.Pairwise lt → s.Nodup := fun s hs => hs.imp (fun {a b} hab e => by subst e; exact lt_irrefl a hab)
  refine ⟨A.filter (fun x => decide (x ∈ l) == true), ?_, ?_, hps, hmem, ?_⟩
  · refine Ev.congr (fun k => ?_) (Ev.bind (f := fun k t130 => (spec_tiPick.l0 k l true [] t130 (t130.length : Int) 0)) hA hk)
    unfold spec_tiSort.f spec_tiPick.f
    cases spec_tiSet.f k 9 with
    | none => rfl
    | some t =>
      simp only [Option.bind_some]
      cases spec_tiPick.l0 k l true [] t (t.length : Int) 0 with
      | none => rfl
      | some u => rfl
  · exact len_eq _ _ (hnd _ hps) h3 hmem
  · by_cases e : A.filter (fun x => decide (x ∈ l) == true) = l
    · rw [decide_eq_true e]
      rw [e] at hps
      exact ((sortedT_iff l h2 h3).2 hps).symm
    · rw [decide_eq_false e]
      cases hs : sortedT l
      · rfl
      · exact absurd (uniq _ _ hps ((sortedT_iff l h2 h3).1 hs) hmem) e

/-! Lists of numbers; puzzles of the laws. -/
theorem i_mid (pre : List Int) (x : Int) (xs : List Int) : rd (pre ++ x :: xs) (pre.length : Int) = x := by
  unfold rd
  rw [show ((pre.length : Int)).toNat = pre.length from rfl, List.getD_eq_getElem?_getD, List.getElem?_append_right (Nat.le_refl _), Nat.sub_self]
  rfl
theorem eqIntS_ev : ∀ (rest pre : List Int), (pre ++ rest).length ≤ 100000000 → Ev (fun k => laws_eqIntS.l0 k (pre ++ rest) (pre ++ rest) (pre.length : Int)) true := by
  intro rest
  induction rest with
  | nil =>
    intro pre hl
    refine Ev.step (f := fun _ => some true) (fun k => ?_) (Ev.now _)
    simp only [laws_eqIntS.l0, List.append_nil]
    rw [if_neg (by omega)]
  | cons x xs ih =>
    intro pre hl
    have hlen : (pre ++ x :: xs).length = pre.length + xs.length + 1 := by simp; omega
    have e1 : pre ++ [x] ++ xs = pre ++ x :: xs := by simp
    have hi := ih (pre ++ [x]) (by simpa using hl)
    rw [e1] at hi
    refine Ev.step (fun k => ?_) hi
    simp only [laws_eqIntS.l0, if_true]
    rw [if_pos (by omega), if_pos (by omega), if_pos (by omega), t_wrap2 ((pre.length : Int) + 1) (by omega) (by omega)]
    simp
theorem eqIntS_f (l : List Int) (hl : l.length ≤ 100000000) : Ev (fun k => laws_eqIntS.f k l l) true := by
  refine Ev.congr (fun k => ?_) (eqIntS_ev l [] hl)
  unfold laws_eqIntS.f
  rw [if_pos rfl]
  rfl
theorem eqTileS_ev : ∀ (rest pre : List S46), (pre ++ rest).length ≤ 100000000 → Ev (fun k => laws_eqTileS.l0 k (pre ++ rest) (pre ++ rest) (pre.length : Int)) true := by
  intro rest
  induction rest with
  | nil =>
    intro pre hl
    refine Ev.step (f := fun _ => some true) (fun k => ?_) (Ev.now _)
    simp only [laws_eqTileS.l0, List.append_nil]
    rw [if_neg (by omega)]
  | cons x xs ih =>
    intro pre hl
    have hlen : (pre ++ x :: xs).length = pre.length + xs.length + 1 := by simp; omega
    have e1 : pre ++ [x] ++ xs = pre ++ x :: xs := by simp
    have hi := ih (pre ++ [x]) (by simpa using hl)
    rw [e1] at hi
    refine Ev.step (fun k => ?_) hi
    simp only [laws_eqTileS.l0, laws_eqTile.f, if_true, Option.bind_some]
    rw [if_pos (by omega), if_pos (by omega), if_pos (by omega), t_wrap2 ((pre.length : Int) + 1) (by omega) (by omega)]
    simp
theorem eqTileS_f (l : List S46) (hl : l.length ≤ 100000000) : Ev (fun k => laws_eqTileS.f k l l) true := by
  refine Ev.congr (fun k => ?_) (eqTileS_ev l [] hl)
  unfold laws_eqTileS.f
  rw [if_pos rfl]
  rfl
theorem eqPuzzle_f (l : List S46) (c : List Int) (hl : l.length ≤ 1048576) (hc : c.length ≤ 1048576) : Ev (fun k => laws_eqPuzzle.f k l c l c) true := by
  unfold laws_eqPuzzle.f
  refine Ev.bind (f := fun k t137 => (if t137 = true then ((laws_eqIntS.f k c c).bind fun t138 => (if t138 = true then (some true) else (some false))) else (some false))) (eqTileS_f l (by omega)) ?_
  simp only [if_true]
  exact Ev.bind (f := fun _ t138 => (if t138 = true then (some true) else (some false))) (eqIntS_f c (by omega)) ⟨0, fun k _ => rfl⟩

/-! What a puzzle is, the same on both sides. -/
theorem l1In_f (n lo hi : Int) : spec_l1In.f n lo hi = some (inB lo hi n) := by
  unfold spec_l1In.f inB
  by_cases h1 : lo ≤ n
  · rw [if_pos (show n ≥ lo from h1)]
    simp [h1]
  · rw [if_neg (show ¬ n ≥ lo from h1)]
    simp [h1]
theorem l1All_ev (lo hi : Int) : ∀ (rest pre : List Int), (pre ++ rest).length ≤ 2000000 → Ev (fun k => spec_l1All.l0 k lo hi (pre ++ rest) ((pre ++ rest).length : Int) (pre.length : Int)) (rest.all (inB lo hi)) := by
  intro rest
  induction rest with
  | nil =>
    intro pre hl
    refine Ev.step (f := fun _ => some true) (fun k => ?_) (Ev.now _)
    simp only [spec_l1All.l0, List.append_nil]
    rw [if_neg (by omega)]
  | cons x xs ih =>
    intro pre hl
    have hlen : (pre ++ x :: xs).length = pre.length + xs.length + 1 := by simp; omega
    have e1 : pre ++ [x] ++ xs = pre ++ x :: xs := by simp
    have hq := ih (pre ++ [x]) (by simpa using hl)
    rw [e1] at hq
    rw [List.all_cons]
    cases hx : inB lo hi x
    · refine Ev.step (f := fun _ => some false) (fun k => ?_) (Ev.now _)
      simp only [spec_l1All.l0]
      rw [if_pos (by omega), if_pos (by omega), if_pos (by omega), i_mid, l1In_f, hx]
      rfl
    · rw [Bool.true_and]
      refine Ev.step (fun k => ?_) hq
      simp only [spec_l1All.l0]
      rw [if_pos (by omega), if_pos (by omega), if_pos (by omega), i_mid, l1In_f, hx, t_wrap ((pre.length : Int) + 1) (by omega) (by omega)]
      simp
theorem l1All_f (lo hi : Int) (l : List Int) (hl : l.length ≤ 2000000) : Ev (fun k => spec_l1All.f k l lo hi) (l.all (inB lo hi)) := l1All_ev lo hi l [] hl
theorem any_out (lo hi : Int) (l : List Int) : (!(l.any fun n => !inB lo hi n)) = l.all (inB lo hi) := by
  induction l with
  | nil => rfl
  | cons x xs ih => rw [List.any_cons, List.all_cons, ← ih]; cases inB lo hi x <;> simp
theorem pzl_ev (s l : List S46) (c : List Int) (hs : s.length ≤ l.length) (hl : l.length ≤ 1000) : ∀ (d i : Nat), i + d = s.length → ∃ b : Bool, Ev (fun k => spec_pzGood.l0 k s (s.length : Int) (i : Int) l c) b ∧ (b = true ↔ ∀ j, i ≤ j → j < s.length → s.getD j z46 = l.getD j z46) := by
  intro d
  induction d with
  | zero =>
    intro i hi
    refine ⟨true, Ev.step (f := fun _ => some true) (fun k => ?_) (Ev.now _), by simp; intro j h1 h2; omega⟩
    simp only [spec_pzGood.l0]
    rw [if_neg (by omega)]
  | succ d ih =>
    intro i hi
    obtain ⟨b, h1, h2⟩ := ih (i + 1) (by omega)
    have hb : (!(((rd_T46 s (i : Int)).f0) == ((rd_T46 l (i : Int)).f0)) || (!(((rd_T46 s (i : Int)).f1) == ((rd_T46 l (i : Int)).f1)))) = !decide (s.getD i z46 = l.getD i z46) := by
      rw [← t_beq]
      unfold rd_T46
      rw [show ((i : Int)).toNat = i from rfl, Bool.not_and]
    by_cases e : s.getD i z46 = l.getD i z46
    · refine ⟨b, Ev.step (fun k => ?_) h1, ?_⟩
      · simp only [spec_pzGood.l0]
        rw [if_pos (by omega), if_pos (by omega), if_pos (by omega), if_pos (by omega), hb, if_neg (by simp only [e]; simp), t_wrap ((i : Int) + 1) (by omega) (by omega)]
        rfl
      · rw [h2]
        constructor
        · intro h j hj1 hj2
          by_cases ej : j = i
          · subst ej
            exact e
          · exact h j (by omega) hj2
        · intro h j hj1 hj2
          exact h j (by omega) hj2
    · refine ⟨false, Ev.step (f := fun _ => some false) (fun k => ?_) (Ev.now _), ?_⟩
      · simp only [spec_pzGood.l0]
        rw [if_pos (by omega), if_pos (by omega), if_pos (by omega), if_pos (by omega), hb, if_pos (by simp only [decide_eq_false e]; rfl)]
      · constructor
        · intro h
          cases h
        · intro h
          exact absurd (h i (Nat.le_refl _) (by omega)) e
theorem pzl_all (s l : List S46) (c : List Int) (hs : s.length = l.length) (hl : l.length ≤ 1000) : Ev (fun k => spec_pzGood.l0 k s (s.length : Int) 0 l c) (decide (s = l)) := by
  obtain ⟨b, h1, h2⟩ := pzl_ev s l c (by omega) hl s.length 0 (by omega)
  have : b = decide (s = l) := by
    rw [Bool.eq_iff_iff, h2, decide_eq_true_eq]
    constructor
    · intro h
      apply List.ext_getElem hs
      intro j j1 j2
      have := h j (by omega) j1
      rw [List.getD_eq_getElem?_getD, List.getD_eq_getElem?_getD, List.getElem?_eq_getElem j2, List.getElem?_eq_getElem j1] at this
      exact this
    · intro e j _ _
      rw [e]
  rw [← this]
  exact h1
/-- Is it a puzzle? -/
def pz (l : List S46) (c : List Int) : Bool := inB 1 9 (l.length : Int) && (isH l && (decide ((c.length : Int) = (l.length : Int) + 1) && (c.all (inB (-1) 9) && sortedT l)))
theorem inB_iff (lo hi n : Int) : inB lo hi n = true ↔ lo ≤ n ∧ n ≤ hi := by
  unfold inB
  simp
theorem pz_true (l : List S46) (c : List Int) (h : pz l c = true) : 1 ≤ l.length ∧ l.length ≤ 9 ∧ isH l = true ∧ c.length = l.length + 1 ∧ (∀ x ∈ c, -1 ≤ x ∧ x ≤ 9) ∧ sortedT l = true := by
  unfold pz at h
  simp only [Bool.and_eq_true, decide_eq_true_eq, inB_iff] at h
  obtain ⟨h1, h2, h3, h4, h5⟩ := h
  refine ⟨by omega, by omega, h2, by omega, fun x hx => ?_, h5⟩
  exact (inB_iff _ _ _).1 (List.all_eq_true.1 h4 x hx)
theorem pz_spec (l : List S46) (c : List Int) (hl : l.length ≤ 2000000) (hc : c.length ≤ 2000000) : Ev (fun k => spec_pzGood.f k l c) (pz l c) := by
  unfold spec_pzGood.f
  rw [l1In_f]
  simp only [Option.bind_some]
  cases h1 : inB 1 9 (l.length : Int)
  · refine Ev.step (f := fun _ => some (pz l c)) (fun k => ?_) (Ev.now _)
    simp [spec_pzGood.j0, pz, h1]
  · simp only [if_true]
    have s1 := isH_spec l hl
    have hln := (inB_iff _ _ _).1 h1
    refine Ev.bind (f := fun k t171 => (if t171 = true then (if (c.length : Int) = (wrap64 ((l.length : Int) + 1)) then ((spec_l1All.f k c (-1) 9).bind fun t172 => (spec_pzGood.j0 k (!t172) l c)) else (spec_pzGood.j0 k true l c)) else (spec_pzGood.j0 k true l c))) s1 ?_
    rw [t_wrap ((l.length : Int) + 1) (by omega) (by omega)]
    cases h2 : isH l
    · refine Ev.step (f := fun _ => some (pz l c)) (fun k => ?_) (Ev.now _)
      simp [spec_pzGood.j0, pz, h1, h2]
    · by_cases h3 : (c.length : Int) = (l.length : Int) + 1
      · have hd : decide ((c.length : Int) = (l.length : Int) + 1) = true := decide_eq_true h3
        simp only [if_true, h3]
        refine Ev.bind (f := fun k t172 => (spec_pzGood.j0 k (!t172) l c)) (l1All_f (-1) 9 c hc) ?_
        cases h4 : c.all (inB (-1) 9)
        · refine Ev.step (f := fun _ => some (pz l c)) (fun k => ?_) (Ev.now _)
          simp [spec_pzGood.j0, pz, h1, h2, hd, h4]
        · obtain ⟨s, q1, q2, _, _, q5⟩ := sort_f l h2
          have e : pz l c = decide (s = l) := by
            unfold pz
            rw [h1, h2, hd, h4, q5]
            rfl
          rw [e]
          refine Ev.step (f := fun k => (spec_tiSort.f k l).bind fun t173 => (spec_pzGood.l0 k t173 (t173.length : Int) 0 l c)) (fun k => ?_) (Ev.bind (f := fun k t173 => (spec_pzGood.l0 k t173 (t173.length : Int) 0 l c)) q1 (pzl_all s l c q2 (by omega)))
          simp [spec_pzGood.j0]
      · have hd : decide ((c.length : Int) = (l.length : Int) + 1) = false := decide_eq_false h3
        refine Ev.step (f := fun _ => some (pz l c)) (fun k => ?_) (Ev.now _)
        simp only [if_true]
        rw [if_neg h3]
        simp [spec_pzGood.j0, pz, h1, h2, hd]
theorem pz_impl (l : List S46) (c : List Int) (hl : l.length ≤ 2000000) : Ev (fun k => impl_IsPuzzle.f k l c) (pz l c) := by
  unfold impl_IsPuzzle.f impl_areWithin.f
  refine Ev.bind (f := fun k b1 => if b1 = true then (if inB 1 9 (l.length : Int) = true then (if sortedT l = true then (if (c.length : Int) = (l.length : Int) + 1 then some (!(c.any fun n => !inB (-1) 9 n)) else some false) else some false) else some false) else some false) (isH_impl l hl) ⟨0, fun k _ => ?_⟩
  (try dsimp only)
  rw [any_out]
  unfold pz
  by_cases h3 : (c.length : Int) = (l.length : Int) + 1
  · rw [decide_eq_true h3]
    cases isH l <;> cases inB 1 9 (l.length : Int) <;> cases sortedT l <;> simp [h3]
  · rw [decide_eq_false h3]
    cases isH l <;> cases inB 1 9 (l.length : Int) <;> cases sortedT l <;> simp [h3]

/-! ### Texts that are read: strings.Trim, Cut at one letter -/
theorem dropWhile_nil {α : Type} (p : α → Bool) : ∀ l : List α, l.dropWhile p = [] ↔ ∀ x ∈ l, p x = true
  | [] => by simp
  | x :: xs => by
    rw [List.dropWhile_cons]
    cases h : p x
    · simp [h]
    · simp [h, dropWhile_nil p xs]
theorem trim_nil (l cs : List UInt8) : Lib.trimS l cs = [] ↔ ∀ x ∈ l, cs.contains x = true := by
  unfold Lib.trimS Lib.trimLeftS Lib.trimRightS
  rw [dropWhile_nil]
  constructor
  · intro h
    by_cases hm : l.reverse.dropWhile (cs.contains ·) = []
    · intro x hx
      exact (dropWhile_nil _ _).1 hm x (List.mem_reverse.2 hx)
    · exfalso
      have h1 := List.head_dropWhile_not (fun x => cs.contains x) hm
      have h2 := h ((l.reverse.dropWhile (cs.contains ·)).head hm) (List.mem_reverse.2 (List.head_mem hm))
      rw [h2] at h1
      cases h1
  · intro h x hx
    have hx2 := List.mem_reverse.1 hx
    exact h x (List.mem_reverse.1 (List.dropWhile_sublist _ |>.subset hx2))
/-- What strings.Cut does at a separator of one letter. -/
def cut1 (c : UInt8) : List UInt8 → List UInt8 × List UInt8 × Bool
  | [] => ([], [], false)
  | b :: l => if b = c then ([], l, true) else (b :: (cut1 c l).1, (cut1 c l).2.1, (cut1 c l).2.2)
theorem index_one (c : UInt8) : ∀ l : List UInt8, (Lib.index l [c] = -1 ∧ cut1 c l = (l, [], false)) ∨ (0 ≤ Lib.index l [c] ∧ cut1 c l = (l.take (Lib.index l [c]).toNat, l.drop ((Lib.index l [c]).toNat + 1), true))
  | [] => .inl ⟨rfl, rfl⟩
  | b :: l => by
    by_cases h : b = c
    · refine .inr ?_
      have e : Lib.index (b :: l) [c] = 0 := by simp [Lib.index, h]
      rw [e]
      simp [cut1, h]
    · have hp : ([c] : List UInt8).isPrefixOf (b :: l) = false := by
        simp [List.isPrefixOf, Ne.symm h]
      rcases index_one c l with ⟨h1, h2⟩ | ⟨h1, h2⟩
      · refine .inl ⟨by simp only [Lib.index, hp, h1]; rfl, ?_⟩
        simp [cut1, h, h2]
      · refine .inr ?_
        have e : Lib.index (b :: l) [c] = Lib.index l [c] + 1 := by
          have hn : (Lib.index l [c] == -1) = false := beq_eq_false_iff_ne.2 (by omega)
          simp only [Lib.index, hp, hn]
          rfl
        rw [e]
        refine ⟨by omega, ?_⟩
        have e2 : (Lib.index l [c] + 1).toNat = (Lib.index l [c]).toNat + 1 := by omega
        rw [e2]
        simp only [cut1, h, if_false, h2, List.take_succ_cons, List.drop_succ_cons]
theorem cut_one (c : UInt8) (l : List UInt8) : Lib.cut l [c] = cut1 c l := by
  unfold Lib.cut
  rcases index_one c l with ⟨h1, h2⟩ | ⟨h1, h2⟩
  · rw [h1, h2]
    rfl
  · rw [if_pos h1, h2]
    rfl
/-- What strings.Split does at a separator of one letter. -/
def sp1 (c : UInt8) : List UInt8 → List (List UInt8)
  | [] => [[]]
  | b :: l => if b = c then [] :: sp1 c l else (match sp1 c l with | [] => [[b]] | x :: xs => (b :: x) :: xs)
theorem sp1_cut (c : UInt8) : ∀ l : List UInt8, sp1 c l = if (cut1 c l).2.2 = true then (cut1 c l).1 :: sp1 c (cut1 c l).2.1 else [(cut1 c l).1]
  | [] => rfl
  | b :: l => by
    by_cases h : b = c
    · simp [sp1, cut1, h]
    · have ih := sp1_cut c l
      simp only [sp1, cut1, h, if_false]
      rw [ih]
      cases h2 : (cut1 c l).2.2 <;> simp
theorem split_sp (c : UInt8) (sep : ByteArray) (hsep : sep.data.toList = [c]) : ∀ (k : Nat) (s : ByteArray), Lib.countB s sep = k → (Lib.splitB sep 0 k s).map (·.data.toList) = sp1 c s.data.toList := by
  have h1 : 1 ≤ sep.size := by
    have := Lib.size_eq sep
    rw [hsep] at this
    simp at this
    omega
  have hsz : sep.size = 1 := by
    have := Lib.size_eq sep
    rw [hsep] at this
    simpa using this
  intro k
  induction k with
  | zero =>
    intro s hk
    rw [Lib.splitB_zero, sp1_cut]
    rcases index_one c s.data.toList with ⟨_, h3⟩ | ⟨h2, h3⟩
    · rw [h3]
      rfl
    · exfalso
      have hi : Lib.indexB s sep = ((Lib.indexB s sep).toNat : Nat) := by
        show Lib.index s.data.toList sep.data.toList = ((Lib.index s.data.toList sep.data.toList).toNat : Nat)
        rw [hsep]
        omega
      have := Lib.countB_hit s sep _ h1 hi
      omega
  | succ k ih =>
    intro s hk
    rw [sp1_cut]
    rcases index_one c s.data.toList with ⟨h2, h3⟩ | ⟨h2, h3⟩
    · exfalso
      have hm : Lib.indexB s sep = -1 := by
        show Lib.index s.data.toList sep.data.toList = -1
        rw [hsep]
        exact h2
      have := Lib.countB_miss s sep hm
      omega
    · have hi : Lib.indexB s sep = ((Lib.index s.data.toList [c]).toNat : Nat) := by
        show Lib.index s.data.toList sep.data.toList = _
        rw [hsep]
        omega
      have hc := Lib.countB_hit s sep _ h1 hi
      rw [Lib.splitB_hit sep 0 k s _ hi, List.map_cons, ih _ (by omega), h3]
      simp only [if_true, hsz]
      congr 1
      · rw [Lib.extract_from_zero]
        rfl
      · rw [Lib.extract_to_end]
/-! ### The model's own split -/
theorem bt_is (s : ByteArray) (i : Nat) (c : UInt8) (r : List UInt8) (h : s.data.toList.drop i = c :: r) : bt s (i : Int) = (c.toNat : Int) := by
  have h2 : s.data.toList[i]? = some c := by
    have := congrArg (fun l => l[0]?) h
    simpa [List.getElem?_drop] using this
  have hl : i < s.size := by
    rw [Lib.size_eq]
    exact (List.getElem?_eq_some_iff.1 h2).1
  have h3 : s[i]'hl = c := by
    have h4 := (List.getElem?_eq_some_iff.1 h2).2
    rw [← h4]
    rfl
  unfold bt
  simp only [Int.toNat_natCast]
  rw [dif_pos hl, h3]
/-- The pieces from place j on, when no separator stands from j to i. -/
def pcs (c : UInt8) (s : List UInt8) (j i : Nat) : List (List UInt8) := match sp1 c (s.drop i) with
  | [] => []
  | x :: xs => ((s.drop j).take (i - j) ++ x) :: xs
theorem sp1_ne (c : UInt8) : ∀ l, sp1 c l ≠ []
  | [] => by simp [sp1]
  | b :: l => by
    unfold sp1
    split
    · simp
    · split <;> simp
theorem l1Split_ev (s : ByteArray) (hs : s.size ≤ 1000000) : ∀ (d i j : Nat) (o : List ByteArray), i + d = s.size → j ≤ i → o.length ≤ i →
    ∃ R : List ByteArray, Ev (fun k => spec_l1Split.l0 k s 44 o (j : Int) (i : Int)) R ∧ R.map (·.data.toList) = o.map (·.data.toList) ++ pcs 44 s.data.toList j i := by
  intro d
  induction d with
  | zero =>
    intro i j o h1 h2 h3
    have hi : i = s.size := by omega
    subst hi
    refine ⟨o ++ [s.extract j s.size], Ev.step (f := fun _ => some (o ++ [s.extract j s.size])) (fun k => ?_) (Ev.now _), ?_⟩
    · simp only [spec_l1Split.l0]
      rw [if_neg (by omega), if_pos (by omega), if_pos (by omega), if_pos (by omega)]
      rfl
    · have hd : s.data.toList.drop s.size = [] := List.drop_eq_nil_of_le (by rw [← Lib.size_eq]; exact Nat.le_refl _)
      simp only [List.map_append, List.map_cons, List.map_nil, pcs, hd, sp1, List.append_nil]
      rw [Lib.extract_to_end]
      congr 2
      exact (List.take_of_length_le (by rw [List.length_drop, ← Lib.size_eq]; exact Nat.le_refl _)).symm
  | succ d ih =>
    intro i j o h1 h2 h3
    have hlt : i < s.data.toList.length := by rw [← Lib.size_eq]; omega
    have hdrop := List.drop_eq_getElem_cons hlt
    have hb := bt_is s i _ _ hdrop
    have htk : (s.data.toList.drop j).take (i + 1 - j) = (s.data.toList.drop j).take (i - j) ++ [s.data.toList[i]] := by
      have e : i + 1 - j = (i - j) + 1 := by omega
      rw [e, List.take_add_one, List.getElem?_drop]
      have e2 : j + (i - j) = i := by omega
      rw [e2, List.getElem?_eq_getElem hlt]
      rfl
    by_cases hc : s.data.toList[i] = 44
    · obtain ⟨R, r1, r2⟩ := ih (i + 1) (i + 1) (o ++ [s.extract j i]) (by omega) (Nat.le_refl _) (by simp; omega)
      refine ⟨R, Ev.step (fun k => ?_) r1, ?_⟩
      · simp only [spec_l1Split.l0]
        rw [if_pos (by omega), if_pos (by omega), hb, hc, if_pos (by rfl), if_pos (by omega), if_pos (by omega), if_pos (by omega), if_pos (by omega), t_wrap ((i : Int) + 1) (by omega) (by omega)]
        rfl
      · rw [r2]
        simp only [pcs, hdrop, hc, sp1, if_true, List.map_append, List.map_cons, List.map_nil, List.append_nil, List.append_assoc]
        congr 1
        obtain ⟨x, xs, hx⟩ := List.exists_cons_of_ne_nil (sp1_ne 44 (s.data.toList.drop (i + 1)))
        rw [hx]
        simp only [Nat.sub_self, List.take_zero, List.nil_append, List.singleton_append]
        congr 1
        rw [Lib.extract_data]
    · obtain ⟨R, r1, r2⟩ := ih (i + 1) j o (by omega) (by omega) (by omega)
      refine ⟨R, Ev.step (fun k => ?_) r1, ?_⟩
      · simp only [spec_l1Split.l0]
        rw [if_pos (by omega), if_pos (by omega), hb, if_neg (by
          intro e
          apply hc
          have : s.data.toList[i].toNat = 44 := by omega
          exact UInt8.toNat_inj.1 this), t_wrap ((i : Int) + 1) (by omega) (by omega)]
        rfl
      · rw [r2]
        congr 1
        simp only [pcs, hdrop, hc, sp1, if_false]
        obtain ⟨x, xs, hx⟩ := List.exists_cons_of_ne_nil (sp1_ne 44 (s.data.toList.drop (i + 1)))
        rw [hx, htk]
        simp
/-- How long the pieces are together. -/
theorem sp1_sum (c : UInt8) : ∀ l : List UInt8, ((sp1 c l).map (fun x => x.length + 1)).sum = l.length + 1
  | [] => rfl
  | b :: l => by
    have ih := sp1_sum c l
    by_cases h : b = c
    · simp only [sp1, h, if_true, List.map_cons, List.sum_cons, ih, List.length_nil, List.length_cons]
      omega
    · obtain ⟨x, xs, hx⟩ := List.exists_cons_of_ne_nil (sp1_ne c l)
      rw [hx] at ih
      simp only [List.map_cons, List.sum_cons] at ih
      simp only [sp1, h, if_false, hx, List.map_cons, List.sum_cons, List.length_cons]
      omega
theorem sum_two : ∀ L : List (List UInt8), (∀ x ∈ L, x.length = 2) → (L.map (fun x => x.length + 1)).sum = 3 * L.length
  | [], _ => rfl
  | x :: xs, h => by
    have ih := sum_two xs (fun y hy => h y (List.mem_cons_of_mem _ hy))
    have hx := h x List.mem_cons_self
    simp only [List.map_cons, List.sum_cons, List.length_cons, ih, hx]
    omega

/-! ### Hands that are read -/
theorem rdOf_mid (pre : List ByteArray) (x : ByteArray) (xs : List ByteArray) : rdOf ByteArray.empty (pre ++ x :: xs) (pre.length : Int) = x := by
  unfold rdOf
  simp
theorem hand_bad : ∀ (rest pre : List ByteArray) (o : List S46), pre.length + rest.length ≤ 2000000 → o.length ≤ pre.length → (∃ x ∈ o, good x = false) →
    Ev (fun k => impl_ParseHand.l0 k o (pre ++ rest) ((pre.length + rest.length : Nat) : Int) (pre.length : Int)) (([] : List S46), false) := by
  intro rest
  induction rest with
  | nil =>
    intro pre o h1 h2 ⟨x, hx, hg⟩
    have hn : isH o = false := by
      have : o.all good = false := by
        rw [List.all_eq_false]
        exact ⟨x, hx, by simp [hg]⟩
      simp [isH, this]
    have hi := isH_impl o (by omega)
    rw [hn] at hi
    refine Ev.step (f := fun k => (impl_IsHand.f k o).bind fun t219 => (if t219 = true then (some (o, true)) else (some (([] : List S46), false)))) (fun k => ?_) (Ev.bind (f := fun _ (t : Bool) => (if t = true then (some (o, true)) else (some (([] : List S46), false)))) hi ⟨0, fun k _ => rfl⟩)
    simp only [impl_ParseHand.l0, List.length_nil, List.append_nil]
    rw [if_neg (by omega)]
  | cons b bs ih =>
    intro pre o h1 h2 hb
    have hl2 : (b :: bs).length = bs.length + 1 := rfl
    have hlen : (pre ++ b :: bs).length = pre.length + bs.length + 1 := by simp; omega
    by_cases hz : (b.size : Int) = 2
    · have hi := ih (pre ++ [b]) (o ++ [(⟨wrap64 ((wrap64 (bt b 0)) - 48), wrap64 ((wrap64 (bt b 1)) - 48)⟩ : S46)]) (by simp; omega) (by simp; omega) (by
        obtain ⟨x, hx, hg⟩ := hb
        exact ⟨x, List.mem_append_left _ hx, hg⟩)
      have e2 : (pre ++ [b]).length + bs.length = pre.length + (b :: bs).length := by simp; omega
      rw [e2] at hi
      refine Ev.step (fun k => ?_) hi
      simp only [impl_ParseHand.l0]
      rw [rdOf_mid, if_pos (by omega), if_pos (by omega), if_pos (by omega), if_pos hz, if_pos (by omega), if_pos (by omega), if_pos (by omega), t_wrap ((pre.length : Int) + 1) (by omega) (by omega)]
      simp
    · refine Ev.step (f := fun _ => some (([] : List S46), false)) (fun k => ?_) (Ev.now _)
      simp only [impl_ParseHand.l0]
      rw [rdOf_mid, if_pos (by omega), if_pos (by omega), if_pos (by omega), if_neg hz]
theorem hand_both : ∀ (rest pre : List ByteArray) (o : List S46), pre.length + rest.length ≤ 2000000 → o.length ≤ pre.length →
    ∃ r : List S46 × Bool, Ev (fun k => spec_tiParse.l0 k o (pre ++ rest) ((pre.length + rest.length : Nat) : Int) (pre.length : Int)) r ∧
      Ev (fun k => impl_ParseHand.l0 k o (pre ++ rest) ((pre.length + rest.length : Nat) : Int) (pre.length : Int)) r ∧ (r.2 = false → r.1 = []) ∧ (r.2 = true → isH r.1 = true ∧ ∃ l, r.1 = o ++ l ∧ l.length = rest.length ∧ ∀ i, ∀ h : i < rest.length, ∃ t : S46, l[i]? = some t ∧ (rest[i]).size = 2 ∧ bt rest[i] 0 = t.f0 + 48 ∧ bt rest[i] 1 = t.f1 + 48) := by
  intro rest
  induction rest with
  | nil =>
    intro pre o h1 h2
    have hs := isH_spec o (by omega)
    have hi := isH_impl o (by omega)
    refine ⟨if isH o = true then (o, true) else ([], false), ?_, ?_, ?_, ?_⟩
    · refine Ev.step (f := fun k => (spec_tiHand.f k o).bind fun t127 => (if t127 = true then (some (o, true)) else (some (([] : List S46), false)))) (fun k => ?_) (Ev.bind (f := fun _ (t : Bool) => (if t = true then (some (o, true)) else (some (([] : List S46), false)))) hs ⟨0, fun k _ => ?_⟩)
      · simp only [spec_tiParse.l0, List.length_nil, List.append_nil]
        rw [if_neg (by omega)]
      · cases isH o <;> rfl
    · refine Ev.step (f := fun k => (impl_IsHand.f k o).bind fun t127 => (if t127 = true then (some (o, true)) else (some (([] : List S46), false)))) (fun k => ?_) (Ev.bind (f := fun _ (t : Bool) => (if t = true then (some (o, true)) else (some (([] : List S46), false)))) hi ⟨0, fun k _ => ?_⟩)
      · simp only [impl_ParseHand.l0, List.length_nil, List.append_nil]
        rw [if_neg (by omega)]
      · cases isH o <;> rfl
    · cases h : isH o <;> simp
    · cases h : isH o
      · simp
      · simp [h]
  | cons b bs ih =>
    intro pre o h1 h2
    have hl2 : (b :: bs).length = bs.length + 1 := rfl
    have hlen : (pre ++ b :: bs).length = pre.length + bs.length + 1 := by simp; omega
    have r0 := bt_range b 0
    have r1 := bt_range b 1
    by_cases hz : (b.size : Int) = 2
    · have e2 : (pre ++ [b]).length + bs.length = pre.length + (b :: bs).length := by simp; omega
      have w0 : wrap64 ((wrap64 (bt b 0)) - 48) = bt b 0 - 48 := by rw [t_wrap (bt b 0) (by omega) (by omega), t_wrap _ (by omega) (by omega)]
      have w1 : wrap64 ((wrap64 (bt b 1)) - 48) = bt b 1 - 48 := by rw [t_wrap (bt b 1) (by omega) (by omega), t_wrap _ (by omega) (by omega)]
      have himp : ∀ R, Ev (fun k => impl_ParseHand.l0 k (o ++ [(⟨bt b 0 - 48, bt b 1 - 48⟩ : S46)]) (pre ++ b :: bs) ((pre.length + (b :: bs).length : Nat) : Int) ((pre.length + 1 : Nat) : Int)) R → Ev (fun k => impl_ParseHand.l0 k o (pre ++ b :: bs) ((pre.length + (b :: bs).length : Nat) : Int) (pre.length : Int)) R := by
        intro R hR
        refine Ev.step (fun k => ?_) hR
        simp only [impl_ParseHand.l0]
        rw [rdOf_mid, if_pos (by omega), if_pos (by omega), if_pos (by omega), if_pos hz, if_pos (by omega), if_pos (by omega), if_pos (by omega), t_wrap ((pre.length : Int) + 1) (by omega) (by omega), w0, w1]
        rfl
      have e3 : pre ++ [b] ++ bs = pre ++ b :: bs := by simp
      by_cases hd : (48 ≤ bt b 0 ∧ bt b 0 ≤ 57) ∧ (48 ≤ bt b 1 ∧ bt b 1 ≤ 57)
      · obtain ⟨r, i1, i2, i3, i4⟩ := ih (pre ++ [b]) (o ++ [(⟨bt b 0 - 48, bt b 1 - 48⟩ : S46)]) (by simp; omega) (by simp; omega)
        rw [e2, e3] at i1 i2
        have e4 : (((pre ++ [b]).length : Nat) : Int) = ((pre.length + 1 : Nat) : Int) := by simp
        rw [e4] at i1 i2
        refine ⟨r, Ev.step (fun k => ?_) i1, himp r i2, i3, fun h => ?_⟩
        · simp only [spec_tiParse.l0]
          rw [rdOf_mid, if_pos (by omega), if_pos (by omega), if_pos (by omega), if_pos hz, if_pos (by omega), if_neg (by omega), if_neg (by omega), if_pos (by omega), if_neg (by omega), if_neg (by omega), if_pos (by omega), t_wrap ((pre.length : Int) + 1) (by omega) (by omega), show (bt b 0 - 48) % 256 = bt b 0 - 48 from by omega, show (bt b 1 - 48) % 256 = bt b 1 - 48 from by omega]
          rfl
        · obtain ⟨j1, l, j2, j3, j4⟩ := i4 h
          refine ⟨j1, (⟨bt b 0 - 48, bt b 1 - 48⟩ : S46) :: l, by rw [j2]; simp, by simp [j3], fun i hi => ?_⟩
          cases i with
          | zero => exact ⟨_, rfl, by simp; omega, by simp, by simp⟩
          | succ i =>
            obtain ⟨t, t1, t2, t3, t4⟩ := j4 i (by simpa using hi)
            exact ⟨t, by simpa using t1, by simpa using t2, by simpa using t3, by simpa using t4⟩
      · refine ⟨([], false), ?_, himp _ ?_, fun _ => rfl, fun h => by cases h⟩
        · refine Ev.step (f := fun _ => some (([] : List S46), false)) (fun k => ?_) (Ev.now _)
          simp only [spec_tiParse.l0]
          rw [rdOf_mid, if_pos (by omega), if_pos (by omega), if_pos (by omega), if_pos hz, if_pos (by omega)]
          by_cases c1 : bt b 0 < 48
          · rw [if_pos c1]
          · rw [if_neg c1]
            by_cases c2 : bt b 0 > 57
            · rw [if_pos c2]
            · rw [if_neg c2, if_pos (by omega)]
              by_cases c3 : bt b 1 < 48
              · rw [if_pos c3]
              · rw [if_neg c3, if_pos (by omega)]
        · have hbad := hand_bad bs (pre ++ [b]) (o ++ [(⟨bt b 0 - 48, bt b 1 - 48⟩ : S46)]) (by simp; omega) (by simp; omega) ⟨⟨bt b 0 - 48, bt b 1 - 48⟩, by simp, by
            rw [Bool.eq_false_iff]
            intro hg
            have := (good_iff _).1 hg
            simp only at this
            omega⟩
          rw [e2, e3] at hbad
          have e4 : (((pre ++ [b]).length : Nat) : Int) = ((pre.length + 1 : Nat) : Int) := by simp
          rw [e4] at hbad
          exact hbad
    · refine ⟨([], false), ?_, ?_, fun _ => rfl, fun h => by cases h⟩
      · refine Ev.step (f := fun _ => some (([] : List S46), false)) (fun k => ?_) (Ev.now _)
        simp only [spec_tiParse.l0]
        rw [rdOf_mid, if_pos (by omega), if_pos (by omega), if_pos (by omega), if_neg hz]
      · refine Ev.step (f := fun _ => some (([] : List S46), false)) (fun k => ?_) (Ev.now _)
        simp only [impl_ParseHand.l0]
        rw [rdOf_mid, if_pos (by omega), if_pos (by omega), if_pos (by omega), if_neg hz]

theorem data_inj (a b : ByteArray) (h : a.data.toList = b.data.toList) : a = b := by
  cases a; cases b
  simpa using h
theorem datas_inj : ∀ (A B : List ByteArray), A.map (fun x => x.data.toList) = B.map (fun x => x.data.toList) → A = B
  | [], [], _ => rfl
  | [], _ :: _, h => by simp at h
  | _ :: _, [], h => by simp at h
  | a :: A, b :: B, h => by
    simp only [List.map_cons, List.cons.injEq] at h
    rw [data_inj a b h.1, datas_inj A B h.2]
/-- A tile's two letters. -/
def dg (t : S46) : List UInt8 := [UInt8.ofNat (t.f0 + 48).toNat, UInt8.ofNat (t.f1 + 48).toNat]
theorem two_bytes (b : ByteArray) (t : S46) (hs : b.size = 2) (h0 : bt b 0 = t.f0 + 48) (h1 : bt b 1 = t.f1 + 48) : b.data.toList = dg t := by
  have hl : b.data.toList.length = 2 := by rw [← Lib.size_eq]; exact hs
  match hb : b.data.toList, hl with
  | [x, y], _ =>
    have e0 := bt_is b 0 x [y] (by rw [hb]; rfl)
    have e1 := bt_is b 1 y [] (by rw [hb]; rfl)
    unfold dg
    have f0 : (t.f0 + 48).toNat = x.toNat := by
      have : bt b ((0 : Nat) : Int) = t.f0 + 48 := h0
      omega
    have f1 : (t.f1 + 48).toNat = y.toNat := by
      have : bt b ((1 : Nat) : Int) = t.f1 + 48 := h1
      omega
    rw [f0, f1]
    simp
theorem head_both (a : ByteArray) (ha : a.size ≤ 1048576) : ∃ r : List S46 × Bool, Ev (fun k => spec_tiParse.f k a) r ∧ Ev (fun k => impl_ParseHand.f k a) r ∧ (r.2 = false → r.1 = []) ∧
    (r.2 = true → isH r.1 = true ∧ ((a.toList = [45] ∧ r.1 = []) ∨ sp1 44 a.data.toList = r.1.map dg)) := by
  by_cases h45 : a.toList = ([45] : List UInt8)
  · refine ⟨([], true), ⟨0, fun k _ => ?_⟩, ⟨0, fun k _ => ?_⟩, (fun h => by cases h), fun _ => ⟨rfl, .inl ⟨h45, rfl⟩⟩⟩
    · simp [spec_tiParse.f, h45]
    · simp [impl_ParseHand.f, h45]
  · obtain ⟨P, hP⟩ : ∃ P, P = Lib.splitB (⟨#[44]⟩ : ByteArray) 0 (Lib.countB a ⟨#[44]⟩) a := ⟨_, rfl⟩
    have hsplit : strings_Split.f a (⟨#[44]⟩ : ByteArray) = some P := by
      unfold strings_Split.f
      rw [if_pos ⟨by omega, by decide⟩, hP]
    have hdata : P.map (fun x => x.data.toList) = sp1 44 a.data.toList := by
      rw [hP]
      exact split_sp 44 ⟨#[44]⟩ rfl _ a rfl
    have hsum := sp1_sum 44 a.data.toList
    have hPl : P.length ≤ a.size + 1 := by
      have hc : ∀ L : List (List UInt8), L.length ≤ (L.map (fun x => x.length + 1)).sum := by
        intro L
        induction L with
        | nil => simp
        | cons x xs ih => simp only [List.length_cons, List.map_cons, List.sum_cons]; omega
      have h1 := hc (sp1 44 a.data.toList)
      rw [hsum, ← hdata, List.length_map, ← Lib.size_eq] at h1
      exact h1
    obtain ⟨r, i1, i2, i3, i4⟩ := hand_both P [] [] (by simp; omega) (by simp)
    simp only [List.nil_append, List.length_nil, Nat.zero_add] at i1 i2
    have shape : r.2 = true → isH r.1 = true ∧ sp1 44 a.data.toList = r.1.map dg := by
      intro h
      obtain ⟨j1, l, j2, j3, j4⟩ := i4 h
      refine ⟨j1, ?_⟩
      rw [List.nil_append] at j2
      rw [← hdata, j2]
      refine List.ext_getElem (by simp [j3]) (fun i h1 h2 => ?_)
      have hi : i < P.length := by simpa using h1
      obtain ⟨t, t1, t2, t3, t4⟩ := j4 i hi
      have hil : i < l.length := by rw [j3]; exact hi
      have ht : l[i] = t := by
        rw [List.getElem?_eq_getElem hil] at t1
        exact Option.some.inj t1
      simp only [List.getElem_map, ht]
      exact two_bytes _ t t2 t3 t4
    have himp : Ev (fun k => impl_ParseHand.f k a) r := by
      refine Ev.congr (fun k => ?_) i2
      simp only [impl_ParseHand.f, Option.bind_some, h45, if_false, hsplit]
      rfl
    by_cases hbig : (a.size : Int) > 165
    · have hf : r.2 = false := by
        cases hr : r.2 with
        | false => rfl
        | true =>
          exfalso
          obtain ⟨s1, s2⟩ := shape hr
          have h55 := (isH_true _ s1).1
          have h2 := sum_two (r.1.map dg) (fun x hx => by
            obtain ⟨t, _, rfl⟩ := List.mem_map.1 hx
            rfl)
          rw [← s2, hsum, s2, List.length_map, ← Lib.size_eq] at h2
          omega
      have e : r = ([], false) := Prod.ext (i3 hf) hf
      refine ⟨r, ⟨0, fun k _ => ?_⟩, himp, i3, fun h => by rw [hf] at h; cases h⟩
      rw [e]
      simp [spec_tiParse.f, h45, hbig]
    · obtain ⟨R, q1, q2⟩ := l1Split_ev a (by omega) a.size 0 0 [] (by omega) (Nat.le_refl _) (by simp)
      have hR : R = P := by
        refine datas_inj _ _ ?_
        rw [hdata]
        have e : pcs 44 a.data.toList 0 0 = sp1 44 a.data.toList := by
          obtain ⟨x, xs, hx⟩ := List.exists_cons_of_ne_nil (sp1_ne 44 a.data.toList)
          simp [pcs, hx]
        rw [← e]
        simpa using q2
      subst hR
      refine ⟨r, ?_, himp, i3, fun h => ⟨(shape h).1, .inr (shape h).2⟩⟩
      refine Ev.congr (f := fun k => (spec_l1Split.f k a 44).bind fun t120 => (spec_tiParse.l0 k ([] : List S46) t120 (t120.length : Int) 0)) (fun k => ?_) (Ev.bind (f := fun k (t : List ByteArray) => _) (show Ev (fun k => spec_l1Split.f k a 44) R from q1) (by simpa using i1))
      simp only [spec_tiParse.f, h45, if_false, hbig]

/-! ### Texts and their pieces, as lists -/
theorem cut1_none (c : UInt8) : ∀ l : List UInt8, c ∉ l → cut1 c l = (l, [], false)
  | [], _ => rfl
  | b :: l, h => by
    have hb : b ≠ c := fun e => h (by rw [e]; exact List.mem_cons_self)
    have ih := cut1_none c l (fun m => h (List.mem_cons_of_mem _ m))
    simp [cut1, hb, ih]
theorem cut1_some (c : UInt8) (b : List UInt8) : ∀ a : List UInt8, c ∉ a → cut1 c (a ++ c :: b) = (a, b, true)
  | [], _ => by simp [cut1]
  | x :: a, h => by
    have hb : x ≠ c := fun e => h (by rw [e]; exact List.mem_cons_self)
    have ih := cut1_some c b a (fun m => h (List.mem_cons_of_mem _ m))
    simp [cut1, hb, ih]
theorem cut1_cases (c : UInt8) : ∀ l : List UInt8, c ∉ l ∨ ∃ a b, c ∉ a ∧ l = a ++ c :: b
  | [] => .inl (by simp)
  | x :: l => by
    by_cases h : x = c
    · exact .inr ⟨[], l, by simp, by simp [h]⟩
    · rcases cut1_cases c l with h1 | ⟨a, b, h1, h2⟩
      · exact .inl (by simp [Ne.symm h, h1])
      · exact .inr ⟨x :: a, b, by simp [Ne.symm h, h1], by simp [h2]⟩
/-- Pieces behind the first, with their separators. -/
def jt (c : UInt8) : List (List UInt8) → List UInt8
  | [] => []
  | x :: xs => c :: (x ++ jt c xs)
theorem sp1_join (c : UInt8) : ∀ l : List UInt8, ∃ x xs, sp1 c l = x :: xs ∧ l = x ++ jt c xs
  | [] => ⟨[], [], rfl, rfl⟩
  | b :: l => by
    obtain ⟨x, xs, h1, h2⟩ := sp1_join c l
    by_cases h : b = c
    · refine ⟨[], x :: xs, ?_, ?_⟩
      · simp only [sp1, h, if_true, h1]
      · rw [h, h2]
        rfl
    · refine ⟨b :: x, xs, ?_, ?_⟩
      · simp only [sp1, h, if_false, h1]
      · rw [List.cons_append, ← h2]

/-! ### The text that the reference asks for -/
theorem ba_ext (a b : ByteArray) (h : a.data.toList = b.data.toList) : a = b := by
  cases a
  cases b
  simp only [ByteArray.mk.injEq]
  exact Array.toList_inj.1 h
theorem ba_app (a b : ByteArray) : (a ++ b).data.toList = a.data.toList ++ b.data.toList := by
  rw [ByteArray.data_append, Array.toList_append]
theorem ba_size (a : ByteArray) : a.size = a.data.toList.length := rfl
theorem s_num (n : Int) : (strOfNums [(wrap64 (48 + n)) % 256]).size = 1 := by
  rw [strOfNums_size]
  rfl
theorem s_44 : (⟨#[44]⟩ : ByteArray).size = 1 := rfl
theorem s_46 : (⟨#[46]⟩ : ByteArray).size = 1 := rfl
theorem s_58 : (⟨#[58]⟩ : ByteArray).size = 1 := rfl
theorem s_0 : (⟨#[]⟩ : ByteArray).size = 0 := rfl
/-- A number's digit. -/
def d1 (n : Int) : UInt8 := UInt8.ofNat ((wrap64 (48 + n)) % 256).toNat
def tl (x : S46) : List UInt8 := [d1 x.f0, d1 x.f1]
theorem num_f (n : Int) (h : n < 10) : Ev (fun k => spec_l1Num.f k n) (strOfNums [(wrap64 (48 + n)) % 256]) := by
  refine Ev.step (f := fun _ => some (strOfNums [(wrap64 (48 + n)) % 256])) (fun k => ?_) (Ev.now _)
  simp only [spec_l1Num.f]
  rw [if_pos h]
theorem num_list (n : Int) : (strOfNums [(wrap64 (48 + n)) % 256]).data.toList = [d1 n] := rfl
theorem tt_ev : ∀ (rest pre : List S46) (o : ByteArray), (∀ x ∈ rest, x.f0 < 10 ∧ x.f1 < 10) → 0 < pre.length → (pre ++ rest).length ≤ 1000 → o.size + 3 * rest.length ≤ 10000 →
    ∃ y : ByteArray, Ev (fun k => spec_tiText.l0 k o (pre ++ rest) ((pre ++ rest).length : Int) (pre.length : Int)) y ∧ y.data.toList = o.data.toList ++ jt 44 (rest.map tl) := by
  intro rest
  induction rest with
  | nil =>
    intro pre o _ h0 h1 h2
    refine ⟨o, Ev.step (f := fun _ => some o) (fun k => ?_) (Ev.now _), by simp [jt]⟩
    simp only [spec_tiText.l0, List.append_nil]
    rw [if_neg (by omega)]
  | cons x xs ih =>
    intro pre o hd h0 h1 h2
    have hlen : (pre ++ x :: xs).length = pre.length + xs.length + 1 := by simp; omega
    have hl2 : (x :: xs).length = xs.length + 1 := rfl
    have hget : rd_T46 (pre ++ x :: xs) (pre.length : Int) = x := by
      unfold rd_T46
      exact t_mid pre x xs _
    have e1 : pre ++ [x] ++ xs = pre ++ x :: xs := by simp
    obtain ⟨hx0, hx1⟩ := hd x List.mem_cons_self
    have hol : ((o ++ (⟨#[44]⟩ : ByteArray)) ++ (strOfNums [(wrap64 (48 + x.f0)) % 256] ++ strOfNums [(wrap64 (48 + x.f1)) % 256])).data.toList = o.data.toList ++ [44] ++ ([d1 x.f0] ++ [d1 x.f1]) := by
      rw [ba_app, ba_app, ba_app, num_list, num_list]
    obtain ⟨y, y1, y2⟩ := ih (pre ++ [x]) ((o ++ (⟨#[44]⟩ : ByteArray)) ++ (strOfNums [(wrap64 (48 + x.f0)) % 256] ++ strOfNums [(wrap64 (48 + x.f1)) % 256])) (fun z hz => hd z (List.mem_cons_of_mem _ hz)) (by simp) (by simpa using h1) (by simp only [ByteArray.size_append, s_num, s_44, s_46, s_58, s_0]; omega)
    rw [e1] at y1
    refine ⟨y, Ev.step (f := fun k => (spec_l1Num.f k x.f0).bind fun a => (spec_l1Num.f k x.f1).bind fun b => (if a.size + b.size ≤ 9223372036854775807 then (if (o ++ (⟨#[44]⟩ : ByteArray)).size + (a ++ b).size ≤ 9223372036854775807 then (spec_tiText.l0 k ((o ++ (⟨#[44]⟩ : ByteArray)) ++ (a ++ b)) (pre ++ x :: xs) ((pre ++ x :: xs).length : Int) (((pre ++ [x]).length : Nat) : Int)) else none) else none)) (fun k => ?_) ?_, ?_⟩
    · simp only [spec_tiText.l0]
      rw [if_pos (by omega), if_pos (by omega), if_pos (by omega), if_pos (by omega), if_pos (by omega), hget, t_wrap ((pre.length : Int) + 1) (by omega) (by omega)]
      simp
    · refine Ev.bind (f := fun k a => _) (num_f _ hx0) ?_
      refine Ev.bind (f := fun k b => _) (num_f _ hx1) ?_
      simp only [if_pos (show (strOfNums [(wrap64 (48 + x.f0)) % 256]).size + (strOfNums [(wrap64 (48 + x.f1)) % 256]).size ≤ 9223372036854775807 from by simp only [ByteArray.size_append, s_num, s_44, s_46, s_58, s_0]; omega),
        if_pos (show (o ++ (⟨#[44]⟩ : ByteArray)).size + (strOfNums [(wrap64 (48 + x.f0)) % 256] ++ strOfNums [(wrap64 (48 + x.f1)) % 256]).size ≤ 9223372036854775807 from by simp only [ByteArray.size_append, s_num, s_44, s_46, s_58, s_0]; omega)]
      exact y1
    · rw [y2, hol]
      simp [jt, tl]
/-- The reference's text of a hand. -/
theorem tt_f (l : List S46) (hl : l.length ≤ 55) (hd : ∀ x ∈ l, x.f0 < 10 ∧ x.f1 < 10) : ∃ y : ByteArray, Ev (fun k => spec_tiText.f k l) y ∧ y.data.toList = (match l with | [] => [45] | x :: xs => tl x ++ jt 44 (xs.map tl)) := by
  unfold spec_tiText.f
  cases l with
  | nil => exact ⟨⟨#[45]⟩, ⟨0, fun k _ => rfl⟩, rfl⟩
  | cons x xs =>
    have hl2 : (x :: xs).length = xs.length + 1 := rfl
    obtain ⟨hx0, hx1⟩ := hd x List.mem_cons_self
    have hol : ((⟨#[]⟩ : ByteArray) ++ (strOfNums [(wrap64 (48 + x.f0)) % 256] ++ strOfNums [(wrap64 (48 + x.f1)) % 256])).data.toList = [d1 x.f0] ++ [d1 x.f1] := by
      rw [ba_app, ba_app, num_list, num_list]
      rfl
    obtain ⟨y, y1, y2⟩ := tt_ev xs [x] ((⟨#[]⟩ : ByteArray) ++ (strOfNums [(wrap64 (48 + x.f0)) % 256] ++ strOfNums [(wrap64 (48 + x.f1)) % 256])) (fun z hz => hd z (List.mem_cons_of_mem _ hz)) (by simp) (by simp; omega) (by simp only [ByteArray.size_append, s_num, s_44, s_46, s_58, s_0]; omega)
    refine ⟨y, ?_, ?_⟩
    · simp only [if_neg (show ¬ ((x :: xs).length : Int) = 0 from by omega)]
      refine Ev.step (f := fun k => (spec_l1Num.f k x.f0).bind fun a => (spec_l1Num.f k x.f1).bind fun b => (if a.size + b.size ≤ 9223372036854775807 then (if (⟨#[]⟩ : ByteArray).size + (a ++ b).size ≤ 9223372036854775807 then (spec_tiText.l0 k ((⟨#[]⟩ : ByteArray) ++ (a ++ b)) (x :: xs) ((x :: xs).length : Int) 1) else none) else none)) (fun k => ?_) ?_
      · have hget : rd_T46 (x :: xs) 0 = x := rfl
        simp only [spec_tiText.l0]
        rw [if_pos (by omega), if_pos (by omega), if_pos (by omega), if_neg (by omega), hget, t_wrap (0 + 1) (by omega) (by omega)]
        rfl
      · refine Ev.bind (f := fun k a => _) (num_f _ hx0) ?_
        refine Ev.bind (f := fun k b => _) (num_f _ hx1) ?_
        simp only [if_pos (show (strOfNums [(wrap64 (48 + x.f0)) % 256]).size + (strOfNums [(wrap64 (48 + x.f1)) % 256]).size ≤ 9223372036854775807 from by simp only [ByteArray.size_append, s_num, s_44, s_46, s_58, s_0]; omega),
          if_pos (show (⟨#[]⟩ : ByteArray).size + (strOfNums [(wrap64 (48 + x.f0)) % 256] ++ strOfNums [(wrap64 (48 + x.f1)) % 256]).size ≤ 9223372036854775807 from by simp only [ByteArray.size_append, s_num, s_44, s_46, s_58, s_0]; omega)]
        exact y1
    · rw [y2, hol]
      rfl
/-! ### The chain's text -/
def cd (n : Int) : UInt8 := if n < 0 then 46 else d1 n
theorem ct_spec : ∀ (rest pre : List Int) (o : ByteArray), (∀ x ∈ rest, x < 10) → (pre ++ rest).length ≤ 1000 → o.size + rest.length ≤ 10000 →
    ∃ y : ByteArray, Ev (fun k => spec_pzText.l0 k o (pre ++ rest) ((pre ++ rest).length : Int) (pre.length : Int)) y ∧ y.data.toList = o.data.toList ++ rest.map cd := by
  intro rest
  induction rest with
  | nil =>
    intro pre o _ h1 h2
    refine ⟨o, Ev.step (f := fun _ => some o) (fun k => ?_) (Ev.now _), by simp⟩
    simp only [spec_pzText.l0, List.append_nil]
    rw [if_neg (by omega)]
  | cons x xs ih =>
    intro pre o hd h1 h2
    have hlen : (pre ++ x :: xs).length = pre.length + xs.length + 1 := by simp; omega
    have hl2 : (x :: xs).length = xs.length + 1 := rfl
    have e1 : pre ++ [x] ++ xs = pre ++ x :: xs := by simp
    by_cases hx : x < 0
    · have hol : (o ++ (⟨#[46]⟩ : ByteArray)).data.toList = o.data.toList ++ [46] := ba_app _ _
      obtain ⟨y, y1, y2⟩ := ih (pre ++ [x]) (o ++ (⟨#[46]⟩ : ByteArray)) (fun z hz => hd z (List.mem_cons_of_mem _ hz)) (by simpa using h1) (by simp only [ByteArray.size_append, s_num, s_44, s_46, s_58, s_0]; omega)
      rw [e1] at y1
      refine ⟨y, Ev.step (fun k => ?_) y1, by rw [y2, hol]; simp [cd, hx]⟩
      simp only [spec_pzText.l0]
      rw [if_pos (by omega), if_pos (by omega), if_pos (by omega), i_mid, if_pos hx, if_pos (by omega), t_wrap ((pre.length : Int) + 1) (by omega) (by omega)]
      simp
    · have hol : (o ++ strOfNums [(wrap64 (48 + x)) % 256]).data.toList = o.data.toList ++ [d1 x] := by rw [ba_app, num_list]
      obtain ⟨y, y1, y2⟩ := ih (pre ++ [x]) (o ++ strOfNums [(wrap64 (48 + x)) % 256]) (fun z hz => hd z (List.mem_cons_of_mem _ hz)) (by simpa using h1) (by simp only [ByteArray.size_append, s_num, s_44, s_46, s_58, s_0]; omega)
      rw [e1] at y1
      refine ⟨y, Ev.step (f := fun k => (spec_l1Num.f k x).bind fun t => (if o.size + t.size ≤ 9223372036854775807 then (spec_pzText.l0 k (o ++ t) (pre ++ x :: xs) ((pre ++ x :: xs).length : Int) (((pre ++ [x]).length : Nat) : Int)) else none)) (fun k => ?_) ?_, by rw [y2, hol]; simp [cd, hx]⟩
      · simp only [spec_pzText.l0]
        rw [if_pos (by omega), if_pos (by omega), if_pos (by omega), i_mid, if_neg hx, t_wrap ((pre.length : Int) + 1) (by omega) (by omega)]
        simp
      · refine Ev.bind (f := fun k b => _) (num_f _ (hd x List.mem_cons_self)) ?_
        simp only [if_pos (show o.size + (strOfNums [(wrap64 (48 + x)) % 256]).size ≤ 9223372036854775807 from by simp only [ByteArray.size_append, s_num, s_44, s_46, s_58, s_0]; omega)]
        exact y1

/-! ### The whole text that is read -/
theorem tl_loop (a : ByteArray) : ∀ (d i : Nat) (r : List UInt8), i + d = a.size → ByteArray.toList.loop a i r = r.reverse ++ a.data.toList.drop i := by
  intro d
  induction d with
  | zero =>
    intro i r h
    rw [ByteArray.toList.loop, if_neg (by omega)]
    rw [List.drop_eq_nil_of_le (by show a.data.toList.length ≤ i; rw [Array.length_toList]; show a.size ≤ i; omega)]
    simp
  | succ d ih =>
    intro i r h
    rw [ByteArray.toList.loop, if_pos (by omega), ih (i + 1) _ (by omega)]
    have hl : i < a.data.toList.length := by rw [Array.length_toList]; show i < a.size; omega
    rw [List.drop_eq_getElem_cons hl]
    have : a.get! i = a.data.toList[i] := by
      show a.data[i]! = _
      have h2 : i < a.data.size := by show i < a.size; omega
      rw [getElem!_pos a.data i h2]
      rfl
    rw [this]
    simp
theorem tl_data (a : ByteArray) : a.toList = a.data.toList := by
  have := tl_loop a a.size 0 [] (by omega)
  simpa [ByteArray.toList] using this
/-- The number of a letter. -/
def cr (b : UInt8) : Int := if (b.toNat : Int) = 46 then -1 else ((b.toNat : Int) - 48) % 256
def okc (b : UInt8) : Bool := decide (b.toNat = 46) || (decide (48 ≤ b.toNat) && decide (b.toNat ≤ 57))
theorem ofN (b : UInt8) : UInt8.ofNat b.toNat = b := by simp
theorem okc_set (b : UInt8) : ([48, 49, 50, 51, 52, 53, 54, 55, 56, 57, 46] : List UInt8).contains b = okc b := by
  have h : ∀ n : Fin 256, ([48, 49, 50, 51, 52, 53, 54, 55, 56, 57, 46] : List UInt8).contains (UInt8.ofNat n.val) = okc (UInt8.ofNat n.val) := by decide +kernel
  have := h ⟨b.toNat, UInt8.toNat_lt b⟩
  simpa only [ofN] using this
theorem cd_cr (b : UInt8) (h : okc b = true) : cd (cr b) = b := by
  have h2 : ∀ n : Fin 256, okc (UInt8.ofNat n.val) = true → cd (cr (UInt8.ofNat n.val)) = UInt8.ofNat n.val := by decide +kernel
  have := h2 ⟨b.toNat, UInt8.toNat_lt b⟩ (by simpa only [ofN] using h)
  simpa only [ofN] using this
abbrev No : List S46 × List Int × Bool := ([], [], false)
theorem ploop_impl (l : List S46) (hl : l.length ≤ 2000000) : ∀ (rest : List UInt8) (pre : List Int) (C : List Int), pre.length + rest.length ≤ 2000000 → C.length ≤ pre.length →
    Ev (fun k => impl_ParsePuzzle.l0 k (pre ++ rest.map fun b => (b.toNat : Int)) ((pre.length + rest.length : Nat) : Int) (pre.length : Int) l C) (if pz l (C ++ rest.map cr) = true then (l, C ++ rest.map cr, true) else No) := by
  intro rest
  induction rest with
  | nil =>
    intro pre C h1 h2
    refine Ev.step (f := fun k => (impl_IsPuzzle.f k l C).bind fun t242 => (if t242 = true then (some (l, C, true)) else (some (([] : List S46), ([] : List Int), false)))) (fun k => ?_) (Ev.bind (f := fun _ t242 => (if t242 = true then (some (l, C, true)) else (some (([] : List S46), ([] : List Int), false)))) (pz_impl l C hl) ⟨0, fun k _ => ?_⟩)
    · simp only [impl_ParsePuzzle.l0, List.length_nil, List.map_nil, List.append_nil]
      rw [if_neg (by omega)]
    · simp only [List.map_nil, List.append_nil]
      cases pz l C <;> rfl
  | cons x xs ih =>
    intro pre C h1 h2
    have hl2 : (x :: xs).length = xs.length + 1 := rfl
    have hr : rd (pre ++ (x :: xs).map fun b => (b.toNat : Int)) (pre.length : Int) = (x.toNat : Int) := by
      rw [List.map_cons]
      exact i_mid pre _ _
    have hi := ih (pre ++ [(x.toNat : Int)]) (C ++ [cr x]) (by simp; omega) (by simp; omega)
    have e1 : pre ++ [(x.toNat : Int)] ++ xs.map (fun b => (b.toNat : Int)) = pre ++ (x :: xs).map fun b => (b.toNat : Int) := by simp
    have e2 : (pre ++ [(x.toNat : Int)]).length + xs.length = pre.length + (x :: xs).length := by simp; omega
    have e3 : C ++ [cr x] ++ xs.map cr = C ++ (x :: xs).map cr := by simp
    have e4 : (((pre ++ [(x.toNat : Int)]).length : Nat) : Int) = (pre.length : Int) + 1 := by simp
    rw [e1, e2, e3, e4] at hi
    refine Ev.step (fun k => ?_) hi
    have hln : (pre ++ (x :: xs).map fun b => (b.toNat : Int)).length = pre.length + (x :: xs).length := by simp
    simp only [impl_ParsePuzzle.l0]
    have hC : C.length < 17592186044416 := by omega
    rw [if_pos (by omega), if_pos (by omega), hln, if_pos (by omega), hr, t_wrap ((pre.length : Int) + 1) (by omega) (by omega)]
    unfold cr
    by_cases c0 : (x.toNat : Int) = 46
    · rw [if_pos c0, if_pos c0, if_pos hC]
    · rw [if_neg c0, if_neg c0, if_pos hC]
/-- What the reference asks at the end. -/
def fin (k : Nat) (s : ByteArray) (l : List S46) (c : List Int) : Option (List S46 × List Int × Bool) := (spec_pzGood.f k l c).bind fun t184 => (if t184 = true then ((spec_pzText.f k l c).bind fun t185 => (if t185.toList = s.toList then (some (l, c, true)) else (some (([] : List S46), ([] : List Int), false)))) else (some (([] : List S46), ([] : List Int), false)))
theorem ploop_spec (s : ByteArray) (hs : s.size ≤ 2000000) (l : List S46) (r : List S46 × List Int × Bool) : ∀ (rest : List UInt8) (i : Nat) (C : List Int), s.data.toList.drop i = rest → i + rest.length = s.size → C.length ≤ i →
    (rest.all okc = true → Ev (fun k => fin k s l (C ++ rest.map cr)) r) → (rest.all okc = false → r = No) → Ev (fun k => spec_pzParse.l1 k s (i : Int) l C) r := by
  intro rest
  induction rest with
  | nil =>
    intro i C h1 h2 h3 h4 h5
    have := h4 rfl
    rw [List.map_nil, List.append_nil] at this
    refine Ev.step (f := fun k => fin k s l C) (fun k => ?_) this
    simp only [spec_pzParse.l1]
    rw [if_neg (by simp at h2; omega)]
    rfl
  | cons x xs ih =>
    intro i C h1 h2 h3 h4 h5
    have hl2 : (x :: xs).length = xs.length + 1 := rfl
    have hb := bt_is s i x xs h1
    have hd : s.data.toList.drop (i + 1) = xs := by
      have := congrArg (List.drop 1) h1
      simpa [List.drop_drop] using this
    cases hx : okc x
    · have hr := h5 (by simp [hx])
      have hx' : ¬ (x.toNat = 46) ∧ ¬ (48 ≤ x.toNat ∧ x.toNat ≤ 57) := by
        unfold okc at hx
        simp only [Bool.or_eq_false_iff, Bool.and_eq_false_imp, decide_eq_false_iff_not, decide_eq_true_eq] at hx
        exact ⟨hx.1, fun h => hx.2 h.1 h.2⟩
      rw [hr]
      refine Ev.step (f := fun _ => some No) (fun k => ?_) (Ev.now _)
      simp only [spec_pzParse.l1]
      rw [if_pos (by omega), if_pos (by omega), hb, if_neg (by omega)]
      by_cases c1 : (x.toNat : Int) ≥ 48
      · rw [if_pos c1, if_neg (by omega)]
      · rw [if_neg c1]
    · have hi := ih (i + 1) (C ++ [cr x]) hd (by omega) (by simp; omega) (fun h => by
        have := h4 (by simp [hx] at h ⊢; exact h)
        simpa using this) (fun h => h5 (by simp only [List.all_cons, hx, h]; rfl))
      refine Ev.step (fun k => ?_) hi
      have hx' : x.toNat = 46 ∨ (48 ≤ x.toNat ∧ x.toNat ≤ 57) := by
        unfold okc at hx
        simpa using hx
      simp only [spec_pzParse.l1]
      rw [if_pos (by omega), if_pos (by omega), hb, t_wrap ((i : Int) + 1) (by omega) (by omega)]
      by_cases c0 : (x.toNat : Int) = 46
      · rw [if_pos c0, if_pos (by omega)]
        unfold cr
        rw [if_pos c0]
        rfl
      · rw [if_neg c0, if_pos (by omega), if_pos (by omega), if_pos (by omega)]
        unfold cr
        rw [if_neg c0]
        rfl
/-- The search for the sign between the parts. -/
theorem psearch_end (s : ByteArray) (i : Int) : Ev (fun k => spec_pzParse.j1 k s (-1) i false) No := by
  refine Ev.step (f := fun k => spec_pzParse.j2 k s (-1) true) (fun k => ?_) (Ev.step (f := fun _ => some No) (fun k => ?_) (Ev.now _))
  · simp only [spec_pzParse.j1]
    rw [if_neg (by simp), if_pos (by omega)]
  · simp only [spec_pzParse.j2]
    rw [if_pos trivial]
theorem psearch_none (s : ByteArray) (hs : s.size ≤ 2000000) (h58 : ∀ j c, j ≤ 36 → s.data.toList[j]? = some c → c ≠ 58) : ∀ (d i : Nat), i + d = s.size → Ev (fun k => spec_pzParse.l0 k s (-1) (i : Int)) No := by
  intro d
  induction d with
  | zero =>
    intro i h
    refine Ev.step (f := fun k => spec_pzParse.j1 k s (-1) (i : Int) false) (fun k => ?_) (psearch_end s _)
    simp only [spec_pzParse.l0]
    rw [if_neg (by omega)]
  | succ d ih =>
    intro i h
    by_cases h36 : i ≤ 36
    · have hl : i < s.data.toList.length := by rw [← Lib.size_eq]; omega
      have hb := bt_is s i _ _ (List.drop_eq_getElem_cons hl)
      have hne := h58 i _ h36 (List.getElem?_eq_getElem hl)
      have hi := ih (i + 1) (by omega)
      refine Ev.step (f := fun k => spec_pzParse.j1 k s (-1) (i : Int) true) (fun k => ?_) (Ev.step (fun k => ?_) hi)
      · simp only [spec_pzParse.l0]
        rw [if_pos (by omega), if_pos (by omega)]
        rfl
      · simp only [spec_pzParse.j1]
        rw [if_pos trivial, if_pos (by omega), if_pos (by omega), hb, if_neg (by
          intro e
          apply hne
          have e2 : s.data.toList[i].toNat = 58 := by omega
          exact UInt8.toNat_inj.1 e2), t_wrap ((i : Int) + 1) (by omega) (by omega)]
        rfl
    · refine Ev.step (f := fun k => spec_pzParse.j1 k s (-1) (i : Int) false) (fun k => ?_) (psearch_end s _)
      simp only [spec_pzParse.l0]
      rw [if_pos (by omega), if_neg (by omega)]
theorem psearch_some (s : ByteArray) (hs : s.size ≤ 2000000) (n : Nat) (hn : n ≤ 36) (hl : n < s.size) (h58 : s.data.toList[n]? = some 58) (hne : ∀ j c, j < n → s.data.toList[j]? = some c → c ≠ 58) (R : List S46 × List Int × Bool)
    (hR : Ev (fun k => spec_pzParse.j2 k s (n : Int) (decide ((s.size : Int) - n - 1 > 10))) R) : ∀ (d i : Nat), i + d = n → Ev (fun k => spec_pzParse.l0 k s (-1) (i : Int)) R := by
  intro d
  induction d with
  | zero =>
    intro i h
    have e : i = n := by omega
    subst e
    have hl2 : i < s.data.toList.length := by rw [← Lib.size_eq]; omega
    have hb := bt_is s i _ _ (List.drop_eq_getElem_cons hl2)
    rw [List.getElem?_eq_getElem hl2] at h58
    have hb2 : bt s (i : Int) = 58 := by
      rw [hb, Option.some.inj h58]
      rfl
    refine Ev.step (f := fun k => spec_pzParse.j1 k s (-1) (i : Int) true) (fun k => ?_) (Ev.step (f := fun k => spec_pzParse.l0 k s (i : Int) ((i : Int) + 1)) (fun k => ?_) (Ev.step (f := fun k => spec_pzParse.j1 k s (i : Int) ((i : Int) + 1) false) (fun k => ?_) (Ev.step (fun k => ?_) hR)))
    · simp only [spec_pzParse.l0]
      rw [if_pos (by omega), if_pos (by omega)]
      rfl
    · simp only [spec_pzParse.j1]
      rw [if_pos trivial, if_pos (by omega), if_pos (by omega), if_pos hb2, t_wrap ((i : Int) + 1) (by omega) (by omega)]
    · simp only [spec_pzParse.l0]
      rw [show decide ((i : Int) < 0) = false from decide_eq_false (by omega)]
      split
      · split <;> rfl
      · rfl
    · simp only [spec_pzParse.j1]
      rw [if_neg (by simp), if_neg (by omega), t_wrap ((s.size : Int) - i) (by omega) (by omega), t_wrap ((s.size : Int) - i - 1) (by omega) (by omega)]
  | succ d ih =>
    intro i h
    have hl2 : i < s.data.toList.length := by rw [← Lib.size_eq]; omega
    have hb := bt_is s i _ _ (List.drop_eq_getElem_cons hl2)
    have hne2 := hne i _ (by omega) (List.getElem?_eq_getElem hl2)
    have hi := ih (i + 1) (by omega)
    refine Ev.step (f := fun k => spec_pzParse.j1 k s (-1) (i : Int) true) (fun k => ?_) (Ev.step (fun k => ?_) hi)
    · simp only [spec_pzParse.l0]
      rw [if_pos (by omega), if_pos (by omega)]
      rfl
    · simp only [spec_pzParse.j1]
      rw [if_pos trivial, if_pos (by omega), if_pos (by omega), hb, if_neg (by
        intro e
        apply hne2
        have e2 : s.data.toList[i].toNat = 58 := by omega
        exact UInt8.toNat_inj.1 e2), t_wrap ((i : Int) + 1) (by omega) (by omega)]
      rfl

theorem arr_list (l : List UInt8) : (⟨l.toArray⟩ : ByteArray).data.toList = l := by simp
theorem arr_size (l : List UInt8) : (⟨l.toArray⟩ : ByteArray).size = l.length := by
  rw [Lib.size_eq]
theorem dg_tl (x : S46) (h : good x = true) : dg x = tl x := by
  have := (good_iff x).1 h
  unfold dg tl d1
  rw [t_wrap (48 + x.f0) (by omega) (by omega), t_wrap (48 + x.f1) (by omega) (by omega)]
  rw [show (48 + x.f0) % 256 = x.f0 + 48 from by omega, show (48 + x.f1) % 256 = x.f1 + 48 from by omega]
theorem jt_len (l : List S46) : (jt 44 (l.map tl)).length = 3 * l.length := by
  induction l with
  | nil => rfl
  | cons x xs ih =>
    rw [List.map_cons, jt]
    simp only [List.length_cons, List.length_append, ih, tl, List.length_nil]
    omega
/-- The text of what was read is what was read. -/
theorem text_f (a b : List UInt8) (l : List S46) (hsp : sp1 44 a = l.map dg) (hb : b.all okc = true) (hp : pz l (b.map cr) = true) : ∃ y : ByteArray, Ev (fun k => spec_pzText.f k l (b.map cr)) y ∧ y.data.toList = a ++ 58 :: b := by
  obtain ⟨p1, p2, p3, p4, p5, _⟩ := pz_true l _ hp
  obtain ⟨_, q2, _⟩ := isH_true l p3
  have hd : ∀ x ∈ l, x.f0 < 10 ∧ x.f1 < 10 := by
    intro x hx
    have := (good_iff x).1 (q2 x hx)
    omega
  obtain ⟨t, t1, t2⟩ := tt_f l (by omega) hd
  have ht : t.data.toList = a := by
    rw [t2]
    cases l with
    | nil => simp at p1
    | cons x xs =>
      obtain ⟨u, us, s1, s2⟩ := sp1_join 44 a
      rw [hsp, List.map_cons] at s1
      simp only [List.cons.injEq] at s1
      obtain ⟨rfl, rfl⟩ := s1
      show tl x ++ jt 44 (xs.map tl) = a
      rw [s2, dg_tl x (q2 x List.mem_cons_self)]
      congr 2
      refine List.map_congr_left (fun z hz => (dg_tl z (q2 z (List.mem_cons_of_mem _ hz))).symm)
  have htl : t.size ≤ 1000 := by
    rw [ba_size, t2]
    cases l with
    | nil => simp at p1
    | cons x xs =>
      simp only [List.length_append, jt_len]
      simp [tl] at p2 ⊢
      omega
  have hol : (t ++ (⟨#[58]⟩ : ByteArray)).data.toList = t.data.toList ++ [58] := ba_app _ _
  obtain ⟨u, u1, u2⟩ := ct_spec (b.map cr) [] (t ++ (⟨#[58]⟩ : ByteArray)) (fun x hx => by have := p5 x hx; omega) (by simp only [List.nil_append]; omega) (by simp only [ByteArray.size_append, s_num, s_44, s_46, s_58, s_0]; omega)
  refine ⟨u, ?_, ?_⟩
  · unfold spec_pzText.f
    refine Ev.bind (f := fun k (t193 : ByteArray) => _) t1 ?_
    simp only [if_pos (show t.size + 1 ≤ 9223372036854775807 from by omega)]
    exact u1
  · rw [u2, hol, ht]
    have : (b.map cr).map cd = b := by
      rw [List.map_map]
      have e : ∀ x ∈ b, (cd ∘ cr) x = id x := fun x hx => cd_cr x (List.all_eq_true.1 hb x hx)
      rw [List.map_congr_left e, List.map_id]
    rw [this]
    simp
theorem parse_both (s : ByteArray) (hs : s.size ≤ 1048576) : ∃ r : List S46 × List Int × Bool, Ev (fun k => spec_ParsePuzzle.f k s) r ∧ Ev (fun k => impl_ParsePuzzle.f k s) r ∧ r.1.length ≤ 1000 ∧ r.2.1.length ≤ 1000 := by
  have hS : s.data.toList.length = s.size := (Lib.size_eq s).symm
  have hspec : ∀ R, Ev (fun k => spec_pzParse.l0 k s (-1) 0) R → Ev (fun k => spec_ParsePuzzle.f k s) R := by
    intro R h
    unfold spec_ParsePuzzle.f spec_pzParse.f
    exact Ev.bind (f := fun _ (b : List S46 × List Int × Bool) => (some (b.1, b.2.1, b.2.2))) h ⟨0, fun k _ => rfl⟩
  have hcut : strings_Cut.f s (⟨#[58]⟩ : ByteArray) = some (⟨(cut1 58 s.data.toList).1.toArray⟩, ⟨(cut1 58 s.data.toList).2.1.toArray⟩, (cut1 58 s.data.toList).2.2) := by
    unfold strings_Cut.f
    rw [if_pos (by omega), show (⟨#[58]⟩ : ByteArray).data.toList = [58] from rfl, cut_one]
  rcases cut1_cases 58 s.data.toList with hno | ⟨a, b, ha, hab⟩
  · refine ⟨No, ?_, ?_, by simp, by simp⟩
    · refine hspec _ (psearch_none s (by omega) (fun j c _ hc e => hno ?_) s.size 0 (by omega))
      subst e
      exact List.mem_of_getElem? hc
    · rw [cut1_none 58 _ hno] at hcut
      obtain ⟨r, _, i2, _, _⟩ := head_both (⟨s.data.toList.toArray⟩ : ByteArray) (by rw [arr_size]; omega)
      unfold impl_ParsePuzzle.f
      rw [hcut]
      simp only [Option.bind_some]
      refine Ev.bind (f := fun k (t : List S46 × Bool) => _) i2 ?_
      refine Ev.step (f := fun _ => some No) (fun k => ?_) (Ev.now _)
      simp [impl_ParsePuzzle.j0]
  · rw [hab, cut1_some 58 b a ha] at hcut
    have hlen : a.length + b.length + 1 = s.size := by
      rw [← hS, hab]
      simp
      omega
    obtain ⟨r, i1, i2, i3, i4⟩ := head_both (⟨a.toArray⟩ : ByteArray) (by rw [arr_size]; omega)
    rw [tl_data, arr_list] at i4
    have hr1 : r.2 = true → r.1.length ≤ 55 := fun h => (isH_true _ (i4 h).1).1
    have hshape : r.2 = true → pz r.1 (b.map cr) = true → sp1 44 a = r.1.map dg ∧ a.length ≤ 36 ∧ b.length ≤ 10 := by
      intro h hp
      obtain ⟨p1, p2, _, p4, _, _⟩ := pz_true _ _ hp
      rcases (i4 h).2 with ⟨_, e⟩ | e
      · rw [e] at p1
        simp at p1
      · refine ⟨e, ?_, ?_⟩
        · have h2 := sum_two (r.1.map dg) (fun x hx => by
            obtain ⟨t, _, rfl⟩ := List.mem_map.1 hx
            rfl)
          rw [← e, sp1_sum, e, List.length_map] at h2
          omega
        · rw [List.length_map] at p4
          omega
    obtain ⟨I, hI⟩ : ∃ I, I = (if r.2 = true then (if b.all okc = true then (if pz r.1 (b.map cr) = true then (r.1, b.map cr, true) else No) else No) else No) := ⟨_, rfl⟩
    have himp : Ev (fun k => impl_ParsePuzzle.f k s) I := by
      unfold impl_ParsePuzzle.f
      rw [hcut]
      simp only [Option.bind_some, if_true]
      refine Ev.bind (f := fun k (t : List S46 × Bool) => _) i2 ?_
      cases h2 : r.2
      · rw [hI, h2]
        refine Ev.step (f := fun _ => some No) (fun k => ?_) (Ev.now _)
        simp [impl_ParsePuzzle.j0]
      · have htrim : ∃ t, strings_Trim.f (⟨b.toArray⟩ : ByteArray) (⟨#[48, 49, 50, 51, 52, 53, 54, 55, 56, 57, 46]⟩ : ByteArray) = some t ∧ (t.toList != ([] : List UInt8)) = !b.all okc := by
          unfold strings_Trim.f
          rw [if_pos (by
            refine ⟨⟨by decide, by decide, by rw [arr_size]; omega⟩, by decide +kernel⟩)]
          refine ⟨_, rfl, ?_⟩
          by_cases h0 : (⟨b.toArray⟩ : ByteArray).size = 0
          · rw [if_pos h0, tl_data, arr_list]
            rw [arr_size] at h0
            have : b = [] := List.eq_nil_of_length_eq_zero h0
            subst this
            rfl
          · rw [if_neg h0, tl_data, arr_list, arr_list]
            have ht := trim_nil b (⟨#[48, 49, 50, 51, 52, 53, 54, 55, 56, 57, 46]⟩ : ByteArray).data.toList
            rw [Bool.eq_iff_iff]
            simp only [bne_iff_ne, ne_eq, ht, Bool.not_eq_true', ← Bool.not_eq_true, List.all_eq_true]
            have e : ∀ x : UInt8, (⟨#[48, 49, 50, 51, 52, 53, 54, 55, 56, 57, 46]⟩ : ByteArray).data.toList.contains x = okc x := okc_set
            simp only [e]
        obtain ⟨t, t1, t2⟩ := htrim
        rw [t1]
        simp only [Option.bind_some, if_true, t2]
        rw [hI, h2]
        cases hb : b.all okc
        · refine Ev.step (f := fun _ => some No) (fun k => ?_) (Ev.now _)
          simp [impl_ParsePuzzle.j0]
        · have hl := ploop_impl r.1 (by have := hr1 h2; omega) b [] [] (by simp; omega) (by simp)
          simp only [List.nil_append, List.length_nil, Nat.zero_add] at hl
          refine Ev.step (fun k => ?_) (by simpa using hl)
          simp only [impl_ParsePuzzle.j0]
          have hc : conv_bytes.f (⟨b.toArray⟩ : ByteArray) = some (b.map fun b => (b.toNat : Int)) := by
            unfold conv_bytes.f bytesOf
            rw [if_pos (by rw [arr_size]; omega), arr_list]
          rw [if_neg (by simp), hc]
          simp
    have hIlen : I.1.length ≤ 1000 ∧ I.2.1.length ≤ 1000 := by
      rw [hI]
      split
      · split
        · split
          · rename_i h2 _ hp
            have := hr1 h2
            have := (hshape h2 hp).2.2
            refine ⟨by dsimp only; omega, by dsimp only; rw [List.length_map]; omega⟩
          · simp
        · simp
      · simp
    refine ⟨I, hspec _ ?_, himp, hIlen.1, hIlen.2⟩
    by_cases h36 : a.length ≤ 36
    · have hat : s.data.toList[a.length]? = some 58 := by rw [hab]; simp
      refine psearch_some s (by omega) a.length h36 (by omega) hat (fun j c hj hc e => ha ?_) I ?_ a.length 0 (by omega)
      · subst e
        rw [hab, List.getElem?_append_left hj] at hc
        exact List.mem_of_getElem? hc
      · by_cases h10 : b.length ≤ 10
        · rw [show decide ((s.size : Int) - (a.length : Int) - 1 > 10) = false from decide_eq_false (by omega)]
          have hex : s.extract 0 ((a.length : Int)).toNat = (⟨a.toArray⟩ : ByteArray) := by
            refine data_inj _ _ ?_
            rw [Lib.extract_from_zero, arr_list, hab]
            simp
          refine Ev.step (f := fun k => (spec_tiParse.f k (⟨a.toArray⟩ : ByteArray)).bind fun bt173 => (if bt173.2 = true then (spec_pzParse.l1 k s ((a.length : Int) + 1) bt173.1 ([] : List Int)) else (some (([] : List S46), ([] : List Int), false)))) (fun k => ?_) (Ev.bind (f := fun k (t : List S46 × Bool) => _) i1 ?_)
          · simp only [spec_pzParse.j2]
            rw [if_neg (by simp), if_pos (by omega), if_pos (by omega), hex, t_wrap ((a.length : Int) + 1) (by omega) (by omega)]
          · cases h2 : r.2
            · rw [hI, h2]
              exact ⟨0, fun k _ => rfl⟩
            · simp only [if_true]
              have hdrop : s.data.toList.drop (a.length + 1) = b := by
                rw [hab]
                simp
              refine ploop_spec s (by omega) r.1 I b (a.length + 1) [] hdrop (by omega) (by simp) (fun hb => ?_) (fun hb => by rw [hI, h2, hb]; rfl)
              rw [List.nil_append]
              unfold fin
              refine Ev.bind (f := fun k t => _) (pz_spec r.1 (b.map cr) (by have := hr1 h2; omega) (by rw [List.length_map]; omega)) ?_
              cases hp : pz r.1 (b.map cr)
              · rw [hI, h2, hb, hp]
                exact ⟨0, fun k _ => rfl⟩
              · simp only [if_true]
                obtain ⟨y, y1, y2⟩ := text_f a b r.1 (hshape h2 hp).1 hb hp
                refine Ev.bind (f := fun k (t : ByteArray) => _) y1 ⟨0, fun k _ => ?_⟩
                (try dsimp only)
                rw [tl_data, tl_data, y2, hab, if_pos rfl, hI, h2, hb, hp]
                rfl
        · rw [show decide ((s.size : Int) - (a.length : Int) - 1 > 10) = true from decide_eq_true (by omega)]
          have hn : I = No := by
            rw [hI]
            split
            · split
              · split
                · rename_i h2 _ hp
                  exact absurd (hshape h2 hp).2.2 h10
                · rfl
              · rfl
            · rfl
          rw [hn]
          refine Ev.step (f := fun _ => some No) (fun k => ?_) (Ev.now _)
          simp only [spec_pzParse.j2]
          rw [if_pos trivial]
    · have hn : I = No := by
        rw [hI]
        split
        · split
          · split
            · rename_i h2 _ hp
              exact absurd (hshape h2 hp).2.1 h36
            · rfl
          · rfl
        · rfl
      rw [hn]
      refine psearch_none s (by omega) (fun j c hj hc e => ha ?_) s.size 0 (by omega)
      subst e
      rw [hab, List.getElem?_append_left (by omega)] at hc
      exact List.mem_of_getElem? hc

/-! Marks. -/
def mt : Int → Nat → List S46
  | _, 0 => []
  | a, n + 1 => ⟨a, a + 1⟩ :: mt (a + 2) n
def mi : Int → Nat → List Int
  | _, 0 => []
  | a, n + 1 => a :: mi (a + 1) n
theorem mt_len : ∀ (n : Nat) (a : Int), (mt a n).length = n
  | 0, _ => rfl
  | n + 1, a => by unfold mt; rw [List.length_cons, mt_len n]
theorem mi_len : ∀ (n : Nat) (a : Int), (mi a n).length = n
  | 0, _ => rfl
  | n + 1, a => by unfold mi; rw [List.length_cons, mi_len n]
theorem set_mid {α : Type} (pre : List α) (x y : α) (xs : List α) : (pre ++ x :: xs).set ((pre.length : Int)).toNat y = pre ++ y :: xs := by
  rw [show ((pre.length : Int)).toNat = pre.length from rfl, List.set_append_right _ _ (Nat.le_refl _), Nat.sub_self, List.set_cons_zero]
theorem markT_ev : ∀ (rest pre : List S46) (a : Int), (pre ++ rest).length ≤ 2000000 → 0 ≤ a → a ≤ 100 + 2 * pre.length → Ev (fun k => laws_markTileS.l0 k (pre ++ rest) a (pre.length : Int)) (a + 2 * (rest.length : Int), pre ++ mt a rest.length) := by
  intro rest
  induction rest with
  | nil =>
    intro pre a hl h0 h1
    refine Ev.step (f := fun _ => some (a, pre ++ [])) (fun k => ?_) ⟨0, fun k _ => by simp [mt]⟩
    simp only [laws_markTileS.l0, List.append_nil]
    rw [if_neg (by omega)]
  | cons x xs ih =>
    intro pre a hl h0 h1
    have hlen : (pre ++ x :: xs).length = pre.length + xs.length + 1 := by simp; omega
    have hi := ih (pre ++ [⟨a, a + 1⟩]) (a + 2) (by simpa using hl) (by omega) (by simp; omega)
    refine Ev.step (fun k => ?_) (show Ev _ (a + 2 * ((x :: xs).length : Int), pre ++ mt a (x :: xs).length) from by
      have e : pre ++ mt a (x :: xs).length = pre ++ [⟨a, a + 1⟩] ++ mt (a + 2) xs.length := by simp [mt]
      have e2 : a + 2 * ((x :: xs).length : Int) = a + 2 + 2 * (xs.length : Int) := by rw [List.length_cons]; omega
      rw [e, e2]
      exact hi)
    simp only [laws_markTileS.l0, Option.bind_some]
    rw [if_pos (by omega), if_pos (by omega), set_mid, set_mid]
    unfold rd_T46
    rw [t_wrap ((pre.length : Int) + 1) (by omega) (by omega), t_wrap (a + 1) (by omega) (by omega), t_wrap (a + 1 + 1) (by omega) (by omega), show ((pre.length : Int)).toNat = pre.length from rfl, t_mid]
    simp only [List.append_assoc, List.singleton_append, List.length_append, List.length_cons, List.length_nil]
    rw [show a + 1 + 1 = a + 2 from by omega]
    rfl
theorem heldT_ev : ∀ (n : Nat) (pre : List S46) (a : Int), pre.length + n ≤ 2000000 → 0 ≤ a → a ≤ 100 + 2 * pre.length → Ev (fun k => laws_heldTileS.l0 k (pre ++ mt a n) a (pre.length : Int)) (a + 2 * (n : Int)) := by
  intro n
  induction n with
  | zero =>
    intro pre a hl h0 h1
    refine Ev.step (f := fun _ => some a) (fun k => ?_) ⟨0, fun k _ => by simp⟩
    simp only [laws_heldTileS.l0, mt, List.append_nil]
    rw [if_neg (by omega)]
  | succ n ih =>
    intro pre a hl h0 h1
    have hlen : (pre ++ mt a (n + 1)).length = pre.length + n + 1 := by rw [List.length_append, mt_len]; omega
    have hget : rd_T46 (pre ++ mt a (n + 1)) (pre.length : Int) = ⟨a, a + 1⟩ := by
      unfold rd_T46 mt
      exact t_mid pre _ _ _
    have hi := ih (pre ++ [⟨a, a + 1⟩]) (a + 2) (by simp; omega) (by omega) (by simp; omega)
    refine Ev.step (fun k => ?_) (show Ev _ (a + 2 * ((n + 1 : Nat) : Int)) from by
      have e2 : a + 2 * ((n + 1 : Nat) : Int) = a + 2 + 2 * (n : Int) := by omega
      rw [e2]
      exact hi)
    simp only [laws_heldTileS.l0]
    rw [if_pos (by omega), if_pos (by omega), hget, t_wrap ((pre.length : Int) + 1) (by omega) (by omega), t_wrap (a + 1) (by omega) (by omega), t_wrap (a + 1 + 1) (by omega) (by omega), show a + 1 + 1 = a + 2 from by omega]
    simp [mt]
theorem markI_ev : ∀ (rest pre : List Int) (a : Int), (pre ++ rest).length ≤ 2000000 → 0 ≤ a → a ≤ 10000000 + pre.length → Ev (fun k => laws_markIntS.l0 k (pre ++ rest) a (pre.length : Int)) (a + (rest.length : Int), pre ++ mi a rest.length) := by
  intro rest
  induction rest with
  | nil =>
    intro pre a hl h0 h1
    refine Ev.step (f := fun _ => some (a, pre ++ [])) (fun k => ?_) ⟨0, fun k _ => by simp [mi]⟩
    simp only [laws_markIntS.l0, List.append_nil]
    rw [if_neg (by omega)]
  | cons x xs ih =>
    intro pre a hl h0 h1
    have hlen : (pre ++ x :: xs).length = pre.length + xs.length + 1 := by simp; omega
    have hi := ih (pre ++ [a]) (a + 1) (by simpa using hl) (by omega) (by simp; omega)
    refine Ev.step (fun k => ?_) (show Ev _ (a + ((x :: xs).length : Int), pre ++ mi a (x :: xs).length) from by
      have e : pre ++ mi a (x :: xs).length = pre ++ [a] ++ mi (a + 1) xs.length := by simp [mi]
      have e2 : a + ((x :: xs).length : Int) = a + 1 + (xs.length : Int) := by rw [List.length_cons]; omega
      rw [e, e2]
      exact hi)
    simp only [laws_markIntS.l0]
    rw [if_pos (by omega), if_pos (by omega), set_mid, t_wrap ((pre.length : Int) + 1) (by omega) (by omega), t_wrap (a + 1) (by omega) (by omega)]
    simp only [List.append_assoc, List.singleton_append, List.length_append, List.length_cons, List.length_nil]
    rfl
theorem heldI_ev : ∀ (n : Nat) (pre : List Int) (a : Int), pre.length + n ≤ 2000000 → 0 ≤ a → a ≤ 10000000 + pre.length → Ev (fun k => laws_heldIntS.l0 k (pre ++ mi a n) a (pre.length : Int)) (a + (n : Int)) := by
  intro n
  induction n with
  | zero =>
    intro pre a hl h0 h1
    refine Ev.step (f := fun _ => some a) (fun k => ?_) ⟨0, fun k _ => by simp⟩
    simp only [laws_heldIntS.l0, mi, List.append_nil]
    rw [if_neg (by omega)]
  | succ n ih =>
    intro pre a hl h0 h1
    have hlen : (pre ++ mi a (n + 1)).length = pre.length + n + 1 := by rw [List.length_append, mi_len]; omega
    have hget : rd (pre ++ mi a (n + 1)) (pre.length : Int) = a := by
      unfold mi
      exact i_mid pre _ _
    have hi := ih (pre ++ [a]) (a + 1) (by simp; omega) (by omega) (by simp; omega)
    refine Ev.step (fun k => ?_) (show Ev _ (a + ((n + 1 : Nat) : Int)) from by
      have e2 : a + ((n + 1 : Nat) : Int) = a + 1 + (n : Int) := by omega
      rw [e2]
      exact hi)
    simp only [laws_heldIntS.l0]
    rw [if_pos (by omega), if_pos (by omega), hget, t_wrap ((pre.length : Int) + 1) (by omega) (by omega), t_wrap (a + 1) (by omega) (by omega)]
    simp [mi]
/-- A puzzle that was marked holds its marks. -/
theorem mark_f (l : List S46) (c : List Int) (hl : l.length ≤ 2000000) (hc : c.length ≤ 2000000) : ∃ (m : Int) (l' : List S46) (c' : List Int), Ev (fun k => laws_markPuzzle.f k l c 1) (m, l', c') ∧ Ev (fun k => laws_heldPuzzle.f k l' c' 1) m ∧ ¬ m < 0 := by
  have a1 := markT_ev l [] 1 (by simpa using hl) (by omega) (by simp)
  have a2 := markI_ev c [] (1 + 2 * (l.length : Int)) (by simpa using hc) (by omega) (by simp; omega)
  have a3 := heldT_ev l.length [] 1 (by simpa using hl) (by omega) (by simp)
  have a4 := heldI_ev c.length [] (1 + 2 * (l.length : Int)) (by simpa using hc) (by omega) (by simp; omega)
  simp only [List.nil_append] at a1 a2 a3 a4
  refine ⟨1 + 2 * (l.length : Int) + c.length, mt 1 l.length, mi (1 + 2 * (l.length : Int)) c.length, ?_, ?_, by omega⟩
  · unfold laws_markPuzzle.f
    exact Ev.bind (f := fun k (b : Int × List S46) => (laws_markIntS.f k c b.1).bind fun d => (some (d.1, b.2, d.2))) a1 (Ev.bind (f := fun _ (d : Int × List Int) => (some (d.1, mt 1 l.length, d.2))) a2 ⟨0, fun k _ => rfl⟩)
  · unfold laws_heldPuzzle.f
    refine Ev.bind (f := fun k t => (if t < 0 then (some (-1)) else ((laws_heldIntS.f k (mi (1 + 2 * (l.length : Int)) c.length) t).bind fun u => (if u < 0 then (some (-1)) else (some u))))) a3 ?_
    refine Ev.congr (fun k => ?_) (Ev.bind (f := fun _ u => (if u < 0 then (some (-1)) else (some u))) a4 ⟨0, fun k _ => ?_⟩)
    · (try dsimp only)
      rw [if_neg (by omega)]
      rfl
    · rw [if_neg (by omega)]

/-! The law. -/
theorem FnExactParsePuzzle (a0 : ByteArray) (_h0 : a0.size ≤ 140737488351232) : ∃ k, laws_FnExactParsePuzzle.f k a0 = some true := by
  refine Ev.rounds (g := fun k => laws_FnExactParsePuzzle.f k a0) ?_
  unfold laws_FnExactParsePuzzle.f
  by_cases hbig : (a0.size : Int) > 1048576
  · simp only [if_pos hbig]
    exact ⟨0, fun k _ => rfl⟩
  · simp only [if_neg hbig]
    obtain ⟨r, h1, h2, q1, q2⟩ := parse_both a0 (by omega)
    obtain ⟨m, L, C, m1, m2, m3⟩ := mark_f r.1 r.2.1 (by omega) (by omega)
    have hend : ∀ b : Bool, b = false → Ev (fun k => laws_FnExactParsePuzzle.j1 k m b L C) true := by
      intro b hb
      refine Ev.step (f := fun k => (laws_heldPuzzle.f k L C 1).bind fun t => (if t < 0 then (none) else (if t = m then (some true) else (none)))) (fun k => by simp [laws_FnExactParsePuzzle.j1, hb]) ?_
      exact Ev.bind (f := fun _ t => (if t < 0 then (none) else (if t = m then (some true) else (none)))) m2 ⟨0, fun k _ => by simp [m3]⟩
    refine Ev.bind (f := fun k (d : List S46 × List Int × Bool) => _) h1 ?_
    refine Ev.bind (f := fun k (d : List S46 × List Int × Bool) => _) h2 ?_
    refine Ev.bind (f := fun k t => _) (eqPuzzle_f r.1 r.2.1 (by omega) (by omega)) ?_
    simp only [if_true, bne_self_eq_false]
    refine Ev.step (fun k => by simp only [laws_FnExactParsePuzzle.j0, Bool.false_eq_true, if_false]; rfl) ?_
    refine Ev.bind (f := fun k (d : Int × List S46 × List Int) => _) m1 ?_
    refine Ev.bind (f := fun k t => _) m2 ?_
    simp only [if_neg m3, if_true]
    refine Ev.bind (f := fun k (d : List S46 × List Int × Bool) => _) h2 ?_
    refine Ev.bind (f := fun k t => _) (eqPuzzle_f r.1 r.2.1 (by omega) (by omega)) ?_
    simp only [if_true, bne_self_eq_false]
    exact hend _ rfl


end Go.Proofs.YtncogkhhecgcbaaDoor.QPure
