/- For every input the law FnExactTurnPuzzle answers true: the plain statement over lists and numbers. No conditions. -/
import Derived.Test.YtgcnlhebfnaaoaaQFnExactTurnPuzzlex1
import Derived.Test.YtgcnlhebfnaaoaaQFnExactTurnPuzzlex2
import Derived.Test.YtgcnlhebfnaaoaaQFnExactTurnPuzzlex3
import Derived.Test.YtgcnlhebfnaaoaaQFnExactTurnPuzzlex4
import Derived.Test.YtgcnlhebfnaaoaaQFnExactTurnPuzzlex5
import Derived.Test.YtgcnlhebfnaaoaaQFnExactTurnPuzzlex6
import Derived.Test.YtgcnlhebfnaaoaaQFnExactTurnPuzzlex7
import Derived.Test.YtgcnlhebfnaaoaaQFnExactTurnPuzzlex8
import Derived.Test.YtgcnlhebfnaaoaaQFnExactTurnPuzzlex9
import Derived.Test.YtgcnlhebfnaaoaaQFnExactTurnPuzzlex10
namespace Go.Proofs.Ytgcnlhebfnaaoaa.QPure
open Go.RowKit Go.Proofs.Ytgcnlhebfnaaoaa.QFnExactTurnPuzzle Go.Proofs.YtgcnlhebfnaaoaaW.PrintWords Go.Proofs.YtgcnlhebfnaaoaaW.PrintLast

set_option linter.unusedVariables false
set_option linter.unusedSimpArgs false
/-! Hands and their order, in plain words. -/
theorem t_eta (x : S25) : (⟨x.f0, x.f1⟩ : S25) = x := rfl
theorem t_ext (x y : S25) (h0 : x.f0 = y.f0) (h1 : x.f1 = y.f1) : x = y := by
  cases x
  cases y
  simp_all
instance t_dec : DecidableEq S25 := fun x y => if h : x.f0 = y.f0 ∧ x.f1 = y.f1 then isTrue (t_ext x y h.1 h.2) else isFalse (fun e => h (by subst e; exact ⟨rfl, rfl⟩))
theorem t_beq (x y : S25) : (x.f0 == y.f0 && (x.f1 == y.f1)) = decide (x = y) := by
  by_cases h : x = y
  · subst h
    simp
  · have : ¬ (x.f0 = y.f0 ∧ x.f1 = y.f1) := fun e => h (t_ext x y e.1 e.2)
    rw [decide_eq_false h]
    by_cases h0 : x.f0 = y.f0
    · have h1 : ¬ x.f1 = y.f1 := fun e => this ⟨h0, e⟩
      simp [h1]
    · simp [h0]
theorem t_mid (pre : List S25) (x : S25) (xs : List S25) (d : S25) : (pre ++ x :: xs).getD pre.length d = x := by
  rw [List.getD_eq_getElem?_getD, List.getElem?_append_right (Nat.le_refl _), Nat.sub_self]
  rfl
theorem t_wrap (n : Int) (h : -1000000000 ≤ n) (h' : n ≤ 1000000000) : wrap64 n = n := by
  unfold wrap64
  omega

theorem t_wrap2 (n : Int) (h : -1000000000000 ≤ n) (h' : n ≤ 1000000000000) : wrap64 n = n := by
  unfold wrap64
  omega

def good (x : S25) : Bool := decide (0 ≤ x.f0) && (decide (x.f0 ≤ x.f1) && decide (x.f1 ≤ 9))
theorem good_iff (x : S25) : good x = true ↔ 0 ≤ x.f0 ∧ x.f0 ≤ x.f1 ∧ x.f1 ≤ 9 := by
  unfold good
  simp
theorem tiGood_f (x : S25) : spec_tiGood.f x.f0 x.f1 = some (good x) := by
  unfold spec_tiGood.f spec_l1In.f good
  by_cases h1 : 0 ≤ x.f0
  · have h1' : x.f0 ≥ 0 := h1
    rw [if_pos h1']
    by_cases h2 : x.f0 ≤ x.f1
    · simp [h1, h2]
    · simp [h1, h2]
  · have h1' : ¬ x.f0 ≥ 0 := h1
    rw [if_neg h1']
    simp [h1]

/-- The first place of a tile behind pre. -/
theorem place_ev (t : S25) : ∀ (rest pre : List S25), (pre ++ rest).length ≤ 2000000 → ∃ r : Int, Ev (fun k => spec_tiPlace.l0 k (pre ++ rest) ((pre ++ rest).length : Int) (pre.length : Int) t.f0 t.f1) r ∧ decide (r ≥ 0) = decide (t ∈ rest) := by
  intro rest
  induction rest with
  | nil =>
    intro pre hl
    refine ⟨-1, Ev.step (f := fun _ => some (-1)) (fun k => ?_) (Ev.now _), by simp⟩
    simp only [spec_tiPlace.l0, List.append_nil]
    rw [if_neg (by omega)]
  | cons x xs ih =>
    intro pre hl
    have hlen : (pre ++ x :: xs).length = pre.length + xs.length + 1 := by simp; omega
    have hget : rd_T25 (pre ++ x :: xs) (pre.length : Int) = x := by
      unfold rd_T25
      exact t_mid pre x xs _
    by_cases e : x = t
    · refine ⟨(pre.length : Int), Ev.step (f := fun _ => some (pre.length : Int)) (fun k => ?_) (Ev.now _), by simp [e]⟩
      simp only [spec_tiPlace.l0]
      rw [if_pos (by omega), if_pos (by omega), if_pos (by omega), hget, t_beq, if_pos (by simp [e])]
    · obtain ⟨r, h1, h2⟩ := ih (pre ++ [x]) (by simpa using hl)
      have e1 : pre ++ [x] ++ xs = pre ++ x :: xs := by simp
      rw [e1] at h1
      refine ⟨r, Ev.step (fun k => ?_) h1, by rw [h2]; simp [Ne.symm e]⟩
      simp only [spec_tiPlace.l0]
      rw [if_pos (by omega), if_pos (by omega), if_pos (by omega), hget, t_beq, if_neg (by simp [e]), t_wrap ((pre.length : Int) + 1) (by omega) (by omega)]
      simp
theorem place_f (t : S25) (l : List S25) (hl : l.length ≤ 2000000) : ∃ r : Int, Ev (fun k => spec_tiPlace.f k l t.f0 t.f1) r ∧ decide (r ≥ 0) = decide (t ∈ l) := place_ev t l [] hl

/-- .. and the program's. -/
theorem index_ev (t : S25) : ∀ (rest pre : List S25), (pre ++ rest).length ≤ 2000000 → ∃ r : Int, Ev (fun k => slices_Index_impl_Tile_impl_Tile.l0 k (pre ++ rest) ((pre ++ rest).length : Int) (pre.length : Int) t.f0 t.f1) r ∧ decide (r ≥ 0) = decide (t ∈ rest) := by
  intro rest
  induction rest with
  | nil =>
    intro pre hl
    refine ⟨-1, Ev.step (f := fun _ => some (-1)) (fun k => ?_) (Ev.now _), by simp⟩
    simp only [slices_Index_impl_Tile_impl_Tile.l0, List.append_nil]
    rw [if_neg (by omega)]
  | cons x xs ih =>
    intro pre hl
    have hlen : (pre ++ x :: xs).length = pre.length + xs.length + 1 := by simp; omega
    have hget : rd_T25 (pre ++ x :: xs) (pre.length : Int) = x := by
      unfold rd_T25
      exact t_mid pre x xs _
    by_cases e : t = x
    · refine ⟨(pre.length : Int), Ev.step (f := fun _ => some (pre.length : Int)) (fun k => ?_) (Ev.now _), by simp [e]⟩
      simp only [slices_Index_impl_Tile_impl_Tile.l0]
      rw [if_pos (by omega), if_pos (by omega), if_pos (by omega), hget, t_beq, if_pos (by simp [e])]
    · obtain ⟨r, h1, h2⟩ := ih (pre ++ [x]) (by simpa using hl)
      have e1 : pre ++ [x] ++ xs = pre ++ x :: xs := by simp
      rw [e1] at h1
      refine ⟨r, Ev.step (fun k => ?_) h1, by rw [h2]; simp [e]⟩
      simp only [slices_Index_impl_Tile_impl_Tile.l0]
      rw [if_pos (by omega), if_pos (by omega), if_pos (by omega), hget, t_beq, if_neg (by simp [e]), t_wrap ((pre.length : Int) + 1) (by omega) (by omega)]
      simp
theorem contains_f (t : S25) (l : List S25) (hl : l.length ≤ 2000000) : Ev (fun k => slices_Contains_impl_Tile_impl_Tile.f k l t.f0 t.f1) (decide (t ∈ l)) := by
  obtain ⟨r, h1, h2⟩ := index_ev t l [] hl
  rw [← h2]
  exact Ev.bind (f := fun _ t177 => (some (decide (t177 ≥ 0)))) h1 ⟨0, fun k _ => rfl⟩

/-- No two the same, behind pre. -/
def nd : List S25 → List S25 → Bool
  | _, [] => true
  | pre, x :: xs => !decide (x ∈ pre) && nd (pre ++ [x]) xs
def hb : List S25 → List S25 → Bool
  | _, [] => true
  | pre, x :: xs => good x && (!decide (x ∈ pre) && hb (pre ++ [x]) xs)
theorem hb_nd : ∀ (rest pre : List S25), hb pre rest = (rest.all good && nd pre rest) := by
  intro rest
  induction rest with
  | nil => intro pre; rfl
  | cons x xs ih =>
    intro pre
    unfold hb nd
    rw [ih, List.all_cons]
    cases good x <;> cases decide (x ∈ pre) <;> cases xs.all good <;> simp
theorem nd_nodup : ∀ (rest pre : List S25), nd pre rest = true → (∀ x ∈ rest, x ∉ pre) ∧ rest.Nodup := by
  intro rest
  induction rest with
  | nil => intro pre _; exact ⟨(fun x h => by cases h), List.nodup_nil⟩
  | cons x xs ih =>
    intro pre h
    unfold nd at h
    simp only [Bool.and_eq_true, Bool.not_eq_true', decide_eq_false_iff_not] at h
    obtain ⟨h1, h2⟩ := ih _ h.2
    refine ⟨fun y hy => ?_, ?_⟩
    · rcases List.mem_cons.1 hy with rfl | hy
      · exact h.1
      · exact fun hp => h1 y hy (List.mem_append_left _ hp)
    · rw [List.nodup_cons]
      exact ⟨fun hx => h1 x hx (by simp), h2⟩

theorem tiHand_ev : ∀ (rest pre : List S25), (pre ++ rest).length ≤ 2000000 → Ev (fun k => spec_tiHand.l0 k (pre ++ rest) (pre ++ rest) ((pre ++ rest).length : Int) (pre.length : Int)) (hb pre rest) := by
  intro rest
  induction rest with
  | nil =>
    intro pre hl
    refine Ev.step (f := fun _ => some true) (fun k => ?_) (Ev.now _)
    simp only [spec_tiHand.l0, List.append_nil]
    rw [if_neg (by omega)]
  | cons x xs ih =>
    intro pre hl
    have hlen : (pre ++ x :: xs).length = pre.length + xs.length + 1 := by simp; omega
    have hget : rd_T25 (pre ++ x :: xs) (pre.length : Int) = x := by
      unfold rd_T25
      exact t_mid pre x xs _
    have htake : (pre ++ x :: xs).take ((pre.length : Int)).toNat = pre := by simp
    cases hg : good x
    · refine Ev.step (f := fun _ => some (hb pre (x :: xs))) (fun k => ?_) (Ev.now _)
      simp only [spec_tiHand.l0]
      rw [if_pos (by omega), if_pos (by omega), if_pos (by omega), hget, tiGood_f, hg]
      simp [hb, hg]
    · obtain ⟨r, h1, h2⟩ := place_f x pre (by omega)
      have e1 : pre ++ [x] ++ xs = pre ++ x :: xs := by simp
      have hi := ih (pre ++ [x]) (by simpa using hl)
      rw [e1] at hi
      refine Ev.step (f := fun k => (spec_tiPlace.f k pre x.f0 x.f1).bind fun t123 => (if t123 ≥ 0 then (some false) else (spec_tiHand.l0 k (pre ++ x :: xs) (pre ++ x :: xs) ((pre ++ x :: xs).length : Int) (((pre ++ [x]).length : Nat) : Int)))) (fun k => ?_) ?_
      · simp only [spec_tiHand.l0]
        rw [if_pos (by omega), if_pos (by omega), if_pos (by omega), hget, tiGood_f, hg]
        simp only [Option.bind_some, if_true]
        rw [if_pos (by omega), htake, t_wrap ((pre.length : Int) + 1) (by omega) (by omega)]
        simp
      · refine Ev.bind (f := fun k t123 => (if t123 ≥ 0 then (some false) else (spec_tiHand.l0 k (pre ++ x :: xs) (pre ++ x :: xs) ((pre ++ x :: xs).length : Int) (((pre ++ [x]).length : Nat) : Int)))) h1 ?_
        by_cases hm : x ∈ pre
        · have hr : r ≥ 0 := by
            rw [decide_eq_true hm] at h2
            exact of_decide_eq_true h2
          refine ⟨0, fun k _ => ?_⟩
          (try dsimp only)
          rw [if_pos hr]
          simp [hb, hm]
        · have hr : ¬ r ≥ 0 := by
            rw [decide_eq_false hm] at h2
            exact of_decide_eq_false h2
          refine Ev.congr (fun k => ?_) (show Ev _ (hb pre (x :: xs)) from by
            have : hb pre (x :: xs) = hb (pre ++ [x]) xs := by simp [hb, hg, hm]
            rw [this]
            exact hi)
          (try dsimp only)
          rw [if_neg hr]

theorem areDiff_ev : ∀ (rest pre : List S25), (pre ++ rest).length ≤ 2000000 → Ev (fun k => impl_areDifferent_impl_Tile.l0 k (pre ++ rest) (pre ++ rest) ((pre ++ rest).length : Int) (pre.length : Int)) (nd pre rest) := by
  intro rest
  induction rest with
  | nil =>
    intro pre hl
    refine Ev.step (f := fun _ => some true) (fun k => ?_) (Ev.now _)
    simp only [impl_areDifferent_impl_Tile.l0, List.append_nil]
    rw [if_neg (by omega)]
  | cons x xs ih =>
    intro pre hl
    have hlen : (pre ++ x :: xs).length = pre.length + xs.length + 1 := by simp; omega
    have hget : rd_T25 (pre ++ x :: xs) (pre.length : Int) = x := by
      unfold rd_T25
      exact t_mid pre x xs _
    have htake : (pre ++ x :: xs).take ((pre.length : Int)).toNat = pre := by simp
    have h1 := contains_f x pre (by omega)
    have e1 : pre ++ [x] ++ xs = pre ++ x :: xs := by simp
    have hi := ih (pre ++ [x]) (by simpa using hl)
    rw [e1] at hi
    refine Ev.step (f := fun k => (slices_Contains_impl_Tile_impl_Tile.f k pre x.f0 x.f1).bind fun t184 => (if t184 = true then (some false) else (impl_areDifferent_impl_Tile.l0 k (pre ++ x :: xs) (pre ++ x :: xs) ((pre ++ x :: xs).length : Int) (((pre ++ [x]).length : Nat) : Int)))) (fun k => ?_) ?_
    · simp only [impl_areDifferent_impl_Tile.l0]
      rw [if_pos (by omega), if_pos (by omega), if_pos (by omega), if_pos (by omega), hget, htake, t_wrap ((pre.length : Int) + 1) (by omega) (by omega)]
      simp
    · refine Ev.bind (f := fun k t184 => (if t184 = true then (some false) else (impl_areDifferent_impl_Tile.l0 k (pre ++ x :: xs) (pre ++ x :: xs) ((pre ++ x :: xs).length : Int) (((pre ++ [x]).length : Nat) : Int)))) h1 ?_
      by_cases hm : x ∈ pre
      · refine ⟨0, fun k _ => ?_⟩
        simp [nd, hm]
      · refine Ev.congr (fun k => ?_) (show Ev _ (nd pre (x :: xs)) from by
          have : nd pre (x :: xs) = nd (pre ++ [x]) xs := by simp [nd, hm]
          rw [this]
          exact hi)
        simp only [hm, decide_false, Bool.false_eq_true, if_false]

theorem noTile_good (x : S25) : noTile x = !good x := rfl
theorem any_no (l : List S25) : l.any noTile = !l.all good := by
  induction l with
  | nil => rfl
  | cons x xs ih => rw [List.any_cons, List.all_cons, ih, noTile_good]; cases good x <;> simp

/-- Is it a hand? The same on both sides. -/
def isH (l : List S25) : Bool := decide (l.length ≤ 55) && (l.all good && nd [] l)
theorem isH_spec (l : List S25) (hl : l.length ≤ 2000000) : Ev (fun k => spec_tiHand.f k l) (isH l) := by
  by_cases h : l.length ≤ 55
  · have hi := tiHand_ev l [] hl
    rw [hb_nd] at hi
    refine Ev.congr (fun k => ?_) (show Ev _ (isH l) from by
      have : isH l = (l.all good && nd [] l) := by simp [isH, h]
      rw [this]
      exact hi)
    unfold spec_tiHand.f
    rw [if_neg (by omega)]
    rfl
  · refine ⟨0, fun k _ => ?_⟩
    show spec_tiHand.f k l = _
    unfold spec_tiHand.f
    rw [if_pos (by omega)]
    simp [isH, h]
theorem isH_impl (l : List S25) (hl : l.length ≤ 2000000) : Ev (fun k => impl_IsHand.f k l) (isH l) := by
  by_cases h : l.length ≤ 55
  · cases hg : l.all good
    · refine ⟨0, fun k _ => ?_⟩
      show impl_IsHand.f k l = _
      unfold impl_IsHand.f
      rw [if_pos (by omega), any_no, hg]
      simp [isH, hg]
    · have hi := areDiff_ev l [] hl
      refine Ev.congr (fun k => ?_) (show Ev _ (isH l) from by
        have : isH l = nd [] l := by simp [isH, h, hg]
        rw [this]
        exact hi)
      unfold impl_IsHand.f
      rw [if_pos (by omega), any_no, hg]
      simp only [Bool.not_true, Bool.false_eq_true, if_false]
      rfl
  · refine ⟨0, fun k _ => ?_⟩
    show impl_IsHand.f k l = _
    unfold impl_IsHand.f
    rw [if_neg (by omega)]
    simp [isH, h]
theorem isH_true (l : List S25) (h : isH l = true) : l.length ≤ 55 ∧ (∀ x ∈ l, good x = true) ∧ l.Nodup := by
  unfold isH at h
  simp only [Bool.and_eq_true, decide_eq_true_eq] at h
  exact ⟨h.1, List.all_eq_true.1 h.2.1, (nd_nodup l [] h.2.2).2⟩

/-! ### Order -/
def lt (x y : S25) : Prop := x.f0 < y.f0 ∨ (x.f0 = y.f0 ∧ x.f1 < y.f1)
theorem lt_irrefl (x : S25) : ¬ lt x x := by
  unfold lt
  omega
theorem lt_trans {x y z : S25} (h : lt x y) (k : lt y z) : lt x z := by
  unfold lt at *
  omega
theorem lt_asymm {x y : S25} (h : lt x y) : ¬ lt y x := by
  unfold lt at *
  omega
theorem cmpT_neg (x y : S25) (hx : good x = true) (hy : good y = true) : cmpT x y < 0 ↔ lt x y := by
  rw [good_iff] at hx hy
  unfold cmpT lt
  by_cases h : x.f0 = y.f0
  · rw [if_pos h, t_wrap _ (by omega) (by omega)]
    omega
  · rw [if_neg h, t_wrap _ (by omega) (by omega)]
    omega
theorem lt_total (x y : S25) (h : ¬ lt x y) (k : x ≠ y) : lt y x := by
  have : ¬ (x.f0 = y.f0 ∧ x.f1 = y.f1) := fun e => k (t_ext x y e.1 e.2)
  unfold lt at *
  omega

theorem uniq : ∀ (a b : List S25), a.Pairwise lt → b.Pairwise lt → (∀ x, x ∈ a ↔ x ∈ b) → a = b := by
  intro a
  induction a with
  | nil =>
    intro b _ _ h
    cases b with
    | nil => rfl
    | cons y ys => exact absurd ((h y).2 List.mem_cons_self) (by simp)
  | cons x xs ih =>
    intro b ha hb h
    cases b with
    | nil => exact absurd ((h x).1 List.mem_cons_self) (by simp)
    | cons y ys =>
      rw [List.pairwise_cons] at ha hb
      have e : x = y := by
        rcases List.mem_cons.1 ((h x).1 List.mem_cons_self) with e | e
        · exact e
        · rcases List.mem_cons.1 ((h y).2 List.mem_cons_self) with e2 | e2
          · exact e2.symm
          · exact absurd (ha.1 y e2) (lt_asymm (hb.1 x e))
      subst e
      congr 1
      refine ih ys ha.2 hb.2 (fun z => ?_)
      constructor
      · intro hz
        rcases List.mem_cons.1 ((h z).1 (List.mem_cons_of_mem _ hz)) with e | e
        · subst e
          exact absurd (ha.1 z hz) (lt_irrefl z)
        · exact e
      · intro hz
        rcases List.mem_cons.1 ((h z).2 (List.mem_cons_of_mem _ hz)) with e | e
        · subst e
          exact absurd (hb.1 z hz) (lt_irrefl z)
        · exact e

theorem sortedT_iff : ∀ (l : List S25), (∀ x ∈ l, good x = true) → l.Nodup → (sortedT l = true ↔ l.Pairwise lt) := by
  intro l
  induction l with
  | nil => intro _ _; exact ⟨fun _ => List.Pairwise.nil, fun _ => rfl⟩
  | cons x xs ih =>
    intro hg hn
    rw [List.nodup_cons] at hn
    have hgx := hg x List.mem_cons_self
    have hi := ih (fun y hy => hg y (List.mem_cons_of_mem _ hy)) hn.2
    unfold sortedT
    cases xs with
    | nil => simp [sortedT]
    | cons y ys =>
      have hgy := hg y (by simp)
      simp only [Bool.and_eq_true, Bool.not_eq_true', decide_eq_false_iff_not]
      rw [hi, cmpT_neg y x hgy hgx]
      constructor
      · rintro ⟨h1, h2⟩
        have hxy : lt x y := lt_total y x h1 (fun e => hn.1 (by rw [← e]; exact List.mem_cons_self))
        refine List.pairwise_cons.2 ⟨fun z hz => ?_, h2⟩
        rcases List.mem_cons.1 hz with rfl | hz
        · exact hxy
        · exact lt_trans hxy ((List.pairwise_cons.1 h2).1 z hz)
      · intro h
        obtain ⟨h1, h2⟩ := List.pairwise_cons.1 h
        exact ⟨lt_asymm (h1 y List.mem_cons_self), h2⟩

/-! ### The whole set -/
def code (l : List S25) : List (Int × Int) := l.map fun t => (t.f0, t.f1)
theorem code_inj (a b : List S25) (h : code a = code b) : a = b := by
  unfold code at h
  induction a generalizing b with
  | nil => cases b with
    | nil => rfl
    | cons y b => simp at h
  | cons x a ih => cases b with
    | nil => simp at h
    | cons y b =>
      simp only [List.map_cons, List.cons.injEq, Prod.mk.injEq] at h
      rw [ih b h.2]
      cases x
      cases y
      simp_all
def lst (n : Nat) : List (Int × Int) := (List.range (n + 1)).flatMap fun a => (List.range (n + 1 - a)).map fun b => ((a : Int), ((a + b : Nat) : Int))
/-- The tiles of the set of 9: in order, all, and none but them. -/
theorem whole : ∃ A : List S25, Ev (fun k => spec_tiSet.f k 9) A ∧ A.length = 55 ∧ A.Pairwise lt ∧ (∀ x, x ∈ A ↔ good x = true) := by
  have h2 : ((spec_tiSet.f 100 9).map code) = some (lst 9) := by decide +kernel
  obtain ⟨A, hA, hc⟩ := Option.map_eq_some_iff.1 h2
  have hl : (lst 9).length = 55 := by decide +kernel
  have hp : (lst 9).Pairwise (fun x y => x.1 < y.1 ∨ (x.1 = y.1 ∧ x.2 < y.2)) := by decide +kernel
  have hg : ∀ p ∈ lst 9, 0 ≤ p.1 ∧ p.1 ≤ p.2 ∧ p.2 ≤ 9 := by decide +kernel
  have hall : ∀ a : Fin 10, ∀ b : Fin 10, a.val ≤ b.val → (((a.val : Nat) : Int), ((b.val : Nat) : Int)) ∈ lst 9 := by decide +kernel
  generalize lst 9 = P at hc hl hp hg hall
  subst hc
  refine ⟨A, Ev.of (fun k => spec_tiSet.mono _ k) hA, ?_, ?_, fun x => ?_⟩
  · unfold code at hl
    rw [List.length_map] at hl
    exact hl
  · unfold code at hp
    rw [List.pairwise_map] at hp
    exact hp
  · constructor
    · intro hx
      rw [good_iff]
      exact hg (x.f0, x.f1) (by unfold code; exact List.mem_map.2 ⟨x, hx, rfl⟩)
    · intro hx
      rw [good_iff] at hx
      have := hall ⟨x.f0.toNat, by omega⟩ ⟨x.f1.toNat, by omega⟩ (by simp; omega)
      simp only at this
      rw [Int.toNat_of_nonneg (by omega), Int.toNat_of_nonneg (by omega)] at this
      unfold code at this
      obtain ⟨y, hy, e⟩ := List.mem_map.1 this
      simp only [Prod.mk.injEq] at e
      have : y = x := t_ext y x e.1 e.2
      rw [← this]
      exact hy

theorem pick_ev (l : List S25) (hl : l.length ≤ 2000000) (b : Bool) : ∀ (rest pre out : List S25), (pre ++ rest).length ≤ 1000 → out.length ≤ pre.length →
    Ev (fun k => spec_tiPick.l0 k l b out (pre ++ rest) ((pre ++ rest).length : Int) (pre.length : Int)) (out ++ rest.filter fun x => decide (x ∈ l) == b) := by
  intro rest
  induction rest with
  | nil =>
    intro pre out h1 h2
    refine Ev.step (f := fun _ => some (out ++ [])) (fun k => ?_) (Ev.now _)
    simp only [spec_tiPick.l0, List.append_nil]
    rw [if_neg (by omega)]
  | cons x xs ih =>
    intro pre out h1 h2
    have hlen : (pre ++ x :: xs).length = pre.length + xs.length + 1 := by simp; omega
    have hget : rd_T25 (pre ++ x :: xs) (pre.length : Int) = x := by
      unfold rd_T25
      exact t_mid pre x xs _
    obtain ⟨r, p1, p2⟩ := place_f x l hl
    have e1 : pre ++ [x] ++ xs = pre ++ x :: xs := by simp
    refine Ev.step (f := fun k => (spec_tiPlace.f k l x.f0 x.f1).bind fun t135 => (if ((decide (t135 ≥ 0)) == b) = true then (spec_tiPick.l0 k l b (out ++ [x]) (pre ++ x :: xs) ((pre ++ x :: xs).length : Int) (((pre ++ [x]).length : Nat) : Int)) else (spec_tiPick.l0 k l b out (pre ++ x :: xs) ((pre ++ x :: xs).length : Int) (((pre ++ [x]).length : Nat) : Int)))) (fun k => ?_) ?_
    · simp only [spec_tiPick.l0]
      rw [if_pos (by omega), if_pos (by omega), if_pos (by omega), hget, t_wrap ((pre.length : Int) + 1) (by omega) (by omega), if_pos (by omega)]
      simp
    · refine Ev.bind (f := fun k t135 => (if ((decide (t135 ≥ 0)) == b) = true then (spec_tiPick.l0 k l b (out ++ [x]) (pre ++ x :: xs) ((pre ++ x :: xs).length : Int) (((pre ++ [x]).length : Nat) : Int)) else (spec_tiPick.l0 k l b out (pre ++ x :: xs) ((pre ++ x :: xs).length : Int) (((pre ++ [x]).length : Nat) : Int)))) p1 ?_
      rw [List.filter_cons]
      cases hd : (decide (x ∈ l) == b)
      · have hi := ih (pre ++ [x]) out (by simpa using h1) (by simp; omega)
        rw [e1] at hi
        refine Ev.congr (fun k => ?_) (by simpa using hi)
        (try dsimp only)
        rw [p2, hd]
        simp
      · have hi := ih (pre ++ [x]) (out ++ [x]) (by simpa using h1) (by simp; omega)
        rw [e1] at hi
        refine Ev.congr (fun k => ?_) (by simpa using hi)
        (try dsimp only)
        rw [p2, hd]
        simp

theorem len_le : ∀ (a b : List S25), a.Nodup → (∀ x, x ∈ a → x ∈ b) → a.length ≤ b.length := by
  intro a
  induction a with
  | nil => intro b _ _; simp
  | cons x xs ih =>
    intro b hn h
    rw [List.nodup_cons] at hn
    have hx := h x List.mem_cons_self
    have := ih (b.erase x) hn.2 (fun y hy => (List.mem_erase_of_ne (fun e => hn.1 (by rw [← e]; exact hy))).2 (h y (List.mem_cons_of_mem _ hy)))
    rw [List.length_erase_of_mem hx] at this
    have hp : 0 < b.length := List.length_pos_of_mem hx
    simp
    omega
theorem len_eq (a b : List S25) (ha : a.Nodup) (hb : b.Nodup) (h : ∀ x, x ∈ a ↔ x ∈ b) : a.length = b.length :=
  Nat.le_antisymm (len_le a b ha (fun x hx => (h x).1 hx)) (len_le b a hb (fun x hx => (h x).2 hx))

/-- A hand in order. -/
theorem sort_f (l : List S25) (h : isH l = true) : ∃ s : List S25, Ev (fun k => spec_tiSort.f k l) s ∧ s.length = l.length ∧ s.Pairwise lt ∧ (∀ x, x ∈ s ↔ x ∈ l) ∧ decide (s = l) = sortedT l := by
  obtain ⟨h1, h2, h3⟩ := isH_true l h
  obtain ⟨A, hA, hl, hp, hm⟩ := whole
  have hk := pick_ev l (by omega) true A [] [] (by simp; omega) (by simp)
  simp only [List.nil_append] at hk
  have hmem : ∀ x, x ∈ A.filter (fun x => decide (x ∈ l) == true) ↔ x ∈ l := by
    intro x
    rw [List.mem_filter, hm]
    constructor
    · rintro ⟨_, h⟩
      simpa using h
    · intro h
      exact ⟨h2 x h, by simp [h]⟩
  have hps := hp.filter (fun x => decide (x ∈ l) == true)
  have hnd : ∀ (s : List S25), s.Pairwise lt → s.Nodup := fun s hs => hs.imp (fun {a b} hab e => by subst e; exact lt_irrefl a hab)
  refine ⟨A.filter (fun x => decide (x ∈ l) == true), ?_, ?_, hps, hmem, ?_⟩
  · refine Ev.congr (fun k => ?_) (Ev.bind (f := fun k t130 => (spec_tiPick.l0 k l true [] t130 (t130.length : Int) 0)) hA hk)
    unfold spec_tiSort.f spec_tiPick.f
    cases spec_tiSet.f k 9 with
    | none => rfl
    | some t =>
      simp only [Option.bind_some]
      cases spec_tiPick.l0 k l true [] t (t.length : Int) 0 with
      | none => rfl
      | some u => rfl
  · exact len_eq _ _ (hnd _ hps) h3 hmem
  · by_cases e : A.filter (fun x => decide (x ∈ l) == true) = l
    · rw [decide_eq_true e]
      rw [e] at hps
      exact ((sortedT_iff l h2 h3).2 hps).symm
    · rw [decide_eq_false e]
      cases hs : sortedT l
      · rfl
      · exact absurd (uniq _ _ hps ((sortedT_iff l h2 h3).1 hs) hmem) e

/-! Tiles of the laws and of the program; lists that are compared with themselves. -/
def conv (x : S131) : S25 := ⟨x.f0, x.f1⟩
theorem m_mid (pre : List S131) (x : S131) (xs : List S131) (d : S131) : (pre ++ x :: xs).getD pre.length d = x := by
  rw [List.getD_eq_getElem?_getD, List.getElem?_append_right (Nat.le_refl _), Nat.sub_self]
  rfl
theorem toTileS_ev : ∀ (rest pre : List S131), (pre ++ rest).length ≤ 100000000 → Ev (fun k => laws_toTileS.l0 k (pre ++ rest) (pre.map conv ++ List.replicate rest.length z25) (pre.length : Int)) ((pre ++ rest).map conv) := by
  intro rest
  induction rest with
  | nil =>
    intro pre hl
    refine Ev.step (f := fun _ => some ((pre ++ []).map conv)) (fun k => ?_) (Ev.now _)
    simp only [laws_toTileS.l0, List.append_nil]
    rw [if_neg (by omega)]
    simp
  | cons x xs ih =>
    intro pre hl
    have hlen : (pre ++ x :: xs).length = pre.length + xs.length + 1 := by simp; omega
    have hlen2 : (pre.map conv ++ List.replicate (x :: xs).length z25).length = pre.length + xs.length + 1 := by simp; omega
    have hget : rd_T131 (pre ++ x :: xs) (pre.length : Int) = x := by
      unfold rd_T131
      exact m_mid pre x xs _
    have hset : (pre.map conv ++ List.replicate (x :: xs).length z25).set ((pre.length : Int)).toNat (⟨x.f0, x.f1⟩ : S25) = (pre ++ [x]).map conv ++ List.replicate xs.length z25 := by
      rw [show ((pre.length : Int)).toNat = (pre.map conv).length from by simp, List.set_append_right _ _ (Nat.le_refl _), Nat.sub_self, List.length_cons, List.replicate_succ, List.set_cons_zero]
      simp [conv]
    have e1 : pre ++ [x] ++ xs = pre ++ x :: xs := by simp
    have hi := ih (pre ++ [x]) (by simpa using hl)
    rw [e1] at hi
    refine Ev.step (fun k => ?_) hi
    simp only [laws_toTileS.l0, laws_toTile.f, Option.bind_some]
    rw [if_pos (by omega), if_pos (by omega), hget, hlen2, if_pos (by omega), hset, t_wrap2 ((pre.length : Int) + 1) (by omega) (by omega)]
    simp
theorem toTileS_f (l : List S131) (hl : l.length ≤ 100000000) : Ev (fun k => laws_toTileS.f k l) (l.map conv) := by
  have h := toTileS_ev l [] hl
  refine Ev.congr (fun k => ?_) h
  unfold laws_toTileS.f
  rw [if_pos (by omega), if_pos (by omega)]
  simp

theorem eqTileS_ev : ∀ (rest pre : List S25), (pre ++ rest).length ≤ 100000000 → Ev (fun k => laws_eqTileS.l0 k (pre ++ rest) (pre ++ rest) (pre.length : Int)) true := by
  intro rest
  induction rest with
  | nil =>
    intro pre hl
    refine Ev.step (f := fun _ => some true) (fun k => ?_) (Ev.now _)
    simp only [laws_eqTileS.l0, List.append_nil]
    rw [if_neg (by omega)]
  | cons x xs ih =>
    intro pre hl
    have hlen : (pre ++ x :: xs).length = pre.length + xs.length + 1 := by simp; omega
    have e1 : pre ++ [x] ++ xs = pre ++ x :: xs := by simp
    have hi := ih (pre ++ [x]) (by simpa using hl)
    rw [e1] at hi
    refine Ev.step (fun k => ?_) hi
    simp only [laws_eqTileS.l0, laws_eqTile.f, if_true, Option.bind_some]
    rw [if_pos (by omega), if_pos (by omega), if_pos (by omega), t_wrap2 ((pre.length : Int) + 1) (by omega) (by omega)]
    simp
theorem eqTileS_f (l : List S25) (hl : l.length ≤ 100000000) : Ev (fun k => laws_eqTileS.f k l l) true := by
  refine Ev.congr (fun k => ?_) (eqTileS_ev l [] hl)
  unfold laws_eqTileS.f
  rw [if_pos rfl]
  rfl
theorem szTileS_f (l : List S131) (n : Int) (hl : l.length ≤ 9223372036854775807) (hn : 0 ≤ n ∧ n ≤ 1048576) : laws_szTileS.f l n = some (if (l.length : Int) ≤ n then n - l.length else -1) := by
  have hw : wrap64 (n - (l.length : Int)) = n - l.length := by
    unfold wrap64
    omega
  unfold laws_szTileS.f
  rw [hw]
  by_cases h : (l.length : Int) ≤ n
  · rw [if_neg (by omega), if_pos h]
  · rw [if_pos (by omega), if_neg h]

/-! Lists of numbers; puzzles of the laws. -/
theorem i_mid (pre : List Int) (x : Int) (xs : List Int) : rd (pre ++ x :: xs) (pre.length : Int) = x := by
  unfold rd
  rw [show ((pre.length : Int)).toNat = pre.length from rfl, List.getD_eq_getElem?_getD, List.getElem?_append_right (Nat.le_refl _), Nat.sub_self]
  rfl
theorem toIntS_ev : ∀ (rest pre : List Int), (pre ++ rest).length ≤ 100000000 → Ev (fun k => laws_toIntS.l0 k (pre ++ rest) (pre ++ List.replicate rest.length 0) (pre.length : Int)) (pre ++ rest) := by
  intro rest
  induction rest with
  | nil =>
    intro pre hl
    refine Ev.step (f := fun _ => some (pre ++ [])) (fun k => ?_) (Ev.now _)
    simp only [laws_toIntS.l0, List.append_nil]
    rw [if_neg (by omega)]
    simp
  | cons x xs ih =>
    intro pre hl
    have hlen : (pre ++ x :: xs).length = pre.length + xs.length + 1 := by simp; omega
    have hlen2 : (pre ++ List.replicate (x :: xs).length (0 : Int)).length = pre.length + xs.length + 1 := by simp; omega
    have hset : (pre ++ List.replicate (x :: xs).length (0 : Int)).set ((pre.length : Int)).toNat x = (pre ++ [x]) ++ List.replicate xs.length 0 := by
      rw [show ((pre.length : Int)).toNat = pre.length from rfl, List.set_append_right _ _ (Nat.le_refl _), Nat.sub_self, List.length_cons, List.replicate_succ, List.set_cons_zero]
      simp
    have e1 : pre ++ [x] ++ xs = pre ++ x :: xs := by simp
    have hi := ih (pre ++ [x]) (by simpa using hl)
    rw [e1] at hi
    refine Ev.step (fun k => ?_) hi
    simp only [laws_toIntS.l0]
    rw [if_pos (by omega), if_pos (by omega), hlen2, if_pos (by omega), i_mid, hset, t_wrap2 ((pre.length : Int) + 1) (by omega) (by omega)]
    simp
theorem toIntS_f (l : List Int) (hl : l.length ≤ 100000000) : Ev (fun k => laws_toIntS.f k l) l := by
  refine Ev.congr (fun k => ?_) (toIntS_ev l [] hl)
  unfold laws_toIntS.f
  rw [if_pos (by omega), if_pos (by omega)]
  simp
theorem eqIntS_ev : ∀ (rest pre : List Int), (pre ++ rest).length ≤ 100000000 → Ev (fun k => laws_eqIntS.l0 k (pre ++ rest) (pre ++ rest) (pre.length : Int)) true := by
  intro rest
  induction rest with
  | nil =>
    intro pre hl
    refine Ev.step (f := fun _ => some true) (fun k => ?_) (Ev.now _)
    simp only [laws_eqIntS.l0, List.append_nil]
    rw [if_neg (by omega)]
  | cons x xs ih =>
    intro pre hl
    have hlen : (pre ++ x :: xs).length = pre.length + xs.length + 1 := by simp; omega
    have e1 : pre ++ [x] ++ xs = pre ++ x :: xs := by simp
    have hi := ih (pre ++ [x]) (by simpa using hl)
    rw [e1] at hi
    refine Ev.step (fun k => ?_) hi
    simp only [laws_eqIntS.l0, if_true]
    rw [if_pos (by omega), if_pos (by omega), if_pos (by omega), t_wrap2 ((pre.length : Int) + 1) (by omega) (by omega)]
    simp
theorem eqIntS_f (l : List Int) (hl : l.length ≤ 100000000) : Ev (fun k => laws_eqIntS.f k l l) true := by
  refine Ev.congr (fun k => ?_) (eqIntS_ev l [] hl)
  unfold laws_eqIntS.f
  rw [if_pos rfl]
  rfl
theorem szIntS_f (l : List Int) (n : Int) (hl : l.length ≤ 9223372036854775807) (hn : 0 ≤ n ∧ n ≤ 1048576) : laws_szIntS.f l n = some (if (l.length : Int) ≤ n then n - l.length else -1) := by
  have hw : wrap64 (n - (l.length : Int)) = n - l.length := by
    unfold wrap64
    omega
  unfold laws_szIntS.f
  rw [hw]
  by_cases h : (l.length : Int) ≤ n
  · rw [if_neg (by omega), if_pos h]
  · rw [if_pos (by omega), if_neg h]
/-- Either a puzzle of the laws is too large to be asked, or it is small. -/
theorem szPuzzle_f (l : List S131) (c : List Int) (hl : l.length ≤ 9223372036854775807) (hc : c.length ≤ 9223372036854775807) :
    laws_szPuzzle.f l c 1048576 = some (-1) ∨ ∃ n, laws_szPuzzle.f l c 1048576 = some n ∧ ¬ n < 0 ∧ l.length ≤ 1048576 ∧ c.length ≤ 1048576 := by
  unfold laws_szPuzzle.f
  rw [szTileS_f l 1048576 hl (by omega)]
  by_cases h : (l.length : Int) ≤ 1048576
  · rw [if_pos h]
    simp only [Option.bind_some]
    rw [if_neg (by omega), szIntS_f c _ hc (by omega)]
    by_cases h2 : (c.length : Int) ≤ 1048576 - l.length
    · rw [if_pos h2]
      simp only [Option.bind_some]
      rw [if_neg (by omega)]
      exact .inr ⟨_, rfl, by omega, by omega, by omega⟩
    · rw [if_neg h2]
      exact .inl rfl
  · rw [if_neg h]
    exact .inl rfl
theorem toPuzzle_f (l : List S131) (c : List Int) (hl : l.length ≤ 1048576) (hc : c.length ≤ 1048576) : Ev (fun k => laws_toPuzzle.f k l c) (l.map conv, c) := by
  unfold laws_toPuzzle.f
  exact Ev.bind (f := fun k t122 => ((laws_toIntS.f k c).bind fun t125 => (some (t122, t125)))) (toTileS_f l (by omega)) (Ev.bind (f := fun _ t125 => (some (l.map conv, t125))) (toIntS_f c (by omega)) ⟨0, fun k _ => rfl⟩)
theorem eqPuzzle_f (l : List S25) (c : List Int) (hl : l.length ≤ 1048576) (hc : c.length ≤ 1048576) : Ev (fun k => laws_eqPuzzle.f k l c l c) true := by
  unfold laws_eqPuzzle.f
  refine Ev.bind (f := fun k t137 => (if t137 = true then ((laws_eqIntS.f k c c).bind fun t138 => (if t138 = true then (some true) else (some false))) else (some false))) (eqTileS_f l (by omega)) ?_
  simp only [if_true]
  exact Ev.bind (f := fun _ t138 => (if t138 = true then (some true) else (some false))) (eqIntS_f c (by omega)) ⟨0, fun k _ => rfl⟩

/-! What a puzzle is, the same on both sides. -/
theorem l1In_f (n lo hi : Int) : spec_l1In.f n lo hi = some (inB lo hi n) := by
  unfold spec_l1In.f inB
  by_cases h1 : lo ≤ n
  · rw [if_pos (show n ≥ lo from h1)]
    simp [h1]
  · rw [if_neg (show ¬ n ≥ lo from h1)]
    simp [h1]
theorem l1All_ev (lo hi : Int) : ∀ (rest pre : List Int), (pre ++ rest).length ≤ 2000000 → Ev (fun k => spec_l1All.l0 k lo hi (pre ++ rest) ((pre ++ rest).length : Int) (pre.length : Int)) (rest.all (inB lo hi)) := by
  intro rest
  induction rest with
  | nil =>
    intro pre hl
    refine Ev.step (f := fun _ => some true) (fun k => ?_) (Ev.now _)
    simp only [spec_l1All.l0, List.append_nil]
    rw [if_neg (by omega)]
  | cons x xs ih =>
    intro pre hl
    have hlen : (pre ++ x :: xs).length = pre.length + xs.length + 1 := by simp; omega
    have e1 : pre ++ [x] ++ xs = pre ++ x :: xs := by simp
    have hq := ih (pre ++ [x]) (by simpa using hl)
    rw [e1] at hq
    rw [List.all_cons]
    cases hx : inB lo hi x
    · refine Ev.step (f := fun _ => some false) (fun k => ?_) (Ev.now _)
      simp only [spec_l1All.l0]
      rw [if_pos (by omega), if_pos (by omega), if_pos (by omega), i_mid, l1In_f, hx]
      rfl
    · rw [Bool.true_and]
      refine Ev.step (fun k => ?_) hq
      simp only [spec_l1All.l0]
      rw [if_pos (by omega), if_pos (by omega), if_pos (by omega), i_mid, l1In_f, hx, t_wrap ((pre.length : Int) + 1) (by omega) (by omega)]
      simp
theorem l1All_f (lo hi : Int) (l : List Int) (hl : l.length ≤ 2000000) : Ev (fun k => spec_l1All.f k l lo hi) (l.all (inB lo hi)) := l1All_ev lo hi l [] hl
theorem any_out (lo hi : Int) (l : List Int) : (!(l.any fun n => !inB lo hi n)) = l.all (inB lo hi) := by
  induction l with
  | nil => rfl
  | cons x xs ih => rw [List.any_cons, List.all_cons, ← ih]; cases inB lo hi x <;> simp
theorem pzl_ev (s l : List S25) (c : List Int) (hs : s.length ≤ l.length) (hl : l.length ≤ 1000) : ∀ (d i : Nat), i + d = s.length → ∃ b : Bool, Ev (fun k => spec_pzGood.l0 k s (s.length : Int) (i : Int) l c) b ∧ (b = true ↔ ∀ j, i ≤ j → j < s.length → s.getD j z25 = l.getD j z25) := by
  intro d
  induction d with
  | zero =>
    intro i hi
    refine ⟨true, Ev.step (f := fun _ => some true) (fun k => ?_) (Ev.now _), by simp; intro j h1 h2; omega⟩
    simp only [spec_pzGood.l0]
    rw [if_neg (by omega)]
  | succ d ih =>
    intro i hi
    obtain ⟨b, h1, h2⟩ := ih (i + 1) (by omega)
    have hb : (!(((rd_T25 s (i : Int)).f0) == ((rd_T25 l (i : Int)).f0)) || (!(((rd_T25 s (i : Int)).f1) == ((rd_T25 l (i : Int)).f1)))) = !decide (s.getD i z25 = l.getD i z25) := by
      rw [← t_beq]
      unfold rd_T25
      rw [show ((i : Int)).toNat = i from rfl, Bool.not_and]
    by_cases e : s.getD i z25 = l.getD i z25
    · refine ⟨b, Ev.step (fun k => ?_) h1, ?_⟩
      · simp only [spec_pzGood.l0]
        rw [if_pos (by omega), if_pos (by omega), if_pos (by omega), if_pos (by omega), hb, if_neg (by simp only [e]; simp), t_wrap ((i : Int) + 1) (by omega) (by omega)]
        rfl
      · rw [h2]
        constructor
        · intro h j hj1 hj2
          by_cases ej : j = i
          · subst ej
            exact e
          · exact h j (by omega) hj2
        · intro h j hj1 hj2
          exact h j (by omega) hj2
    · refine ⟨false, Ev.step (f := fun _ => some false) (fun k => ?_) (Ev.now _), ?_⟩
      · simp only [spec_pzGood.l0]
        rw [if_pos (by omega), if_pos (by omega), if_pos (by omega), if_pos (by omega), hb, if_pos (by simp only [decide_eq_false e]; rfl)]
      · constructor
        · intro h
          cases h
        · intro h
          exact absurd (h i (Nat.le_refl _) (by omega)) e
theorem pzl_all (s l : List S25) (c : List Int) (hs : s.length = l.length) (hl : l.length ≤ 1000) : Ev (fun k => spec_pzGood.l0 k s (s.length : Int) 0 l c) (decide (s = l)) := by
  obtain ⟨b, h1, h2⟩ := pzl_ev s l c (by omega) hl s.length 0 (by omega)
  have : b = decide (s = l) := by
    rw [Bool.eq_iff_iff, h2, decide_eq_true_eq]
    constructor
    · intro h
      apply List.ext_getElem hs
      intro j j1 j2
      have := h j (by omega) j1
      rw [List.getD_eq_getElem?_getD, List.getD_eq_getElem?_getD, List.getElem?_eq_getElem j2, List.getElem?_eq_getElem j1] at this
      exact this
    · intro e j _ _
      rw [e]
  rw [← this]
  exact h1
/-- Is it a puzzle? -/
def pz (l : List S25) (c : List Int) : Bool := inB 1 9 (l.length : Int) && (isH l && (decide ((c.length : Int) = (l.length : Int) + 1) && (c.all (inB (-1) 9) && sortedT l)))
theorem inB_iff (lo hi n : Int) : inB lo hi n = true ↔ lo ≤ n ∧ n ≤ hi := by
  unfold inB
  simp
theorem pz_true (l : List S25) (c : List Int) (h : pz l c = true) : 1 ≤ l.length ∧ l.length ≤ 9 ∧ isH l = true ∧ c.length = l.length + 1 ∧ (∀ x ∈ c, -1 ≤ x ∧ x ≤ 9) ∧ sortedT l = true := by
  unfold pz at h
  simp only [Bool.and_eq_true, decide_eq_true_eq, inB_iff] at h
  obtain ⟨h1, h2, h3, h4, h5⟩ := h
  refine ⟨by omega, by omega, h2, by omega, fun x hx => ?_, h5⟩
  exact (inB_iff _ _ _).1 (List.all_eq_true.1 h4 x hx)
theorem pz_spec (l : List S25) (c : List Int) (hl : l.length ≤ 2000000) (hc : c.length ≤ 2000000) : Ev (fun k => spec_pzGood.f k l c) (pz l c) := by
  unfold spec_pzGood.f
  rw [l1In_f]
  simp only [Option.bind_some]
  cases h1 : inB 1 9 (l.length : Int)
  · refine Ev.step (f := fun _ => some (pz l c)) (fun k => ?_) (Ev.now _)
    simp [spec_pzGood.j0, pz, h1]
  · simp only [if_true]
    have s1 := isH_spec l hl
    have hln := (inB_iff _ _ _).1 h1
    refine Ev.bind (f := fun k t171 => (if t171 = true then (if (c.length : Int) = (wrap64 ((l.length : Int) + 1)) then ((spec_l1All.f k c (-1) 9).bind fun t172 => (spec_pzGood.j0 k (!t172) l c)) else (spec_pzGood.j0 k true l c)) else (spec_pzGood.j0 k true l c))) s1 ?_
    rw [t_wrap ((l.length : Int) + 1) (by omega) (by omega)]
    cases h2 : isH l
    · refine Ev.step (f := fun _ => some (pz l c)) (fun k => ?_) (Ev.now _)
      simp [spec_pzGood.j0, pz, h1, h2]
    · by_cases h3 : (c.length : Int) = (l.length : Int) + 1
      · have hd : decide ((c.length : Int) = (l.length : Int) + 1) = true := decide_eq_true h3
        simp only [if_true, h3]
        refine Ev.bind (f := fun k t172 => (spec_pzGood.j0 k (!t172) l c)) (l1All_f (-1) 9 c hc) ?_
        cases h4 : c.all (inB (-1) 9)
        · refine Ev.step (f := fun _ => some (pz l c)) (fun k => ?_) (Ev.now _)
          simp [spec_pzGood.j0, pz, h1, h2, hd, h4]
        · obtain ⟨s, q1, q2, _, _, q5⟩ := sort_f l h2
          have e : pz l c = decide (s = l) := by
            unfold pz
            rw [h1, h2, hd, h4, q5]
            rfl
          rw [e]
          refine Ev.step (f := fun k => (spec_tiSort.f k l).bind fun t173 => (spec_pzGood.l0 k t173 (t173.length : Int) 0 l c)) (fun k => ?_) (Ev.bind (f := fun k t173 => (spec_pzGood.l0 k t173 (t173.length : Int) 0 l c)) q1 (pzl_all s l c q2 (by omega)))
          simp [spec_pzGood.j0]
      · have hd : decide ((c.length : Int) = (l.length : Int) + 1) = false := decide_eq_false h3
        refine Ev.step (f := fun _ => some (pz l c)) (fun k => ?_) (Ev.now _)
        simp only [if_true]
        rw [if_neg h3]
        simp [spec_pzGood.j0, pz, h1, h2, hd]
theorem pz_impl (l : List S25) (c : List Int) (hl : l.length ≤ 2000000) : Ev (fun k => impl_IsPuzzle.f k l c) (pz l c) := by
  unfold impl_IsPuzzle.f impl_areWithin.f
  refine Ev.bind (f := fun k b1 => if b1 = true then (if inB 1 9 (l.length : Int) = true then (if sortedT l = true then (if (c.length : Int) = (l.length : Int) + 1 then some (!(c.any fun n => !inB (-1) 9 n)) else some false) else some false) else some false) else some false) (isH_impl l hl) ⟨0, fun k _ => ?_⟩
  (try dsimp only)
  rw [any_out]
  unfold pz
  by_cases h3 : (c.length : Int) = (l.length : Int) + 1
  · rw [decide_eq_true h3]
    cases isH l <;> cases inB 1 9 (l.length : Int) <;> cases sortedT l <;> simp [h3]
  · rw [decide_eq_false h3]
    cases isH l <;> cases inB 1 9 (l.length : Int) <;> cases sortedT l <;> simp [h3]

/-! Marks. -/
def mt : Int → Nat → List S25
  | _, 0 => []
  | a, n + 1 => ⟨a, a + 1⟩ :: mt (a + 2) n
def mi : Int → Nat → List Int
  | _, 0 => []
  | a, n + 1 => a :: mi (a + 1) n
theorem mt_len : ∀ (n : Nat) (a : Int), (mt a n).length = n
  | 0, _ => rfl
  | n + 1, a => by unfold mt; rw [List.length_cons, mt_len n]
theorem mi_len : ∀ (n : Nat) (a : Int), (mi a n).length = n
  | 0, _ => rfl
  | n + 1, a => by unfold mi; rw [List.length_cons, mi_len n]
theorem set_mid {α : Type} (pre : List α) (x y : α) (xs : List α) : (pre ++ x :: xs).set ((pre.length : Int)).toNat y = pre ++ y :: xs := by
  rw [show ((pre.length : Int)).toNat = pre.length from rfl, List.set_append_right _ _ (Nat.le_refl _), Nat.sub_self, List.set_cons_zero]
theorem markT_ev : ∀ (rest pre : List S25) (a : Int), (pre ++ rest).length ≤ 2000000 → 0 ≤ a → a ≤ 100 + 2 * pre.length → Ev (fun k => laws_markTileS.l0 k (pre ++ rest) a (pre.length : Int)) (a + 2 * (rest.length : Int), pre ++ mt a rest.length) := by
  intro rest
  induction rest with
  | nil =>
    intro pre a hl h0 h1
    refine Ev.step (f := fun _ => some (a, pre ++ [])) (fun k => ?_) ⟨0, fun k _ => by simp [mt]⟩
    simp only [laws_markTileS.l0, List.append_nil]
    rw [if_neg (by omega)]
  | cons x xs ih =>
    intro pre a hl h0 h1
    have hlen : (pre ++ x :: xs).length = pre.length + xs.length + 1 := by simp; omega
    have hi := ih (pre ++ [⟨a, a + 1⟩]) (a + 2) (by simpa using hl) (by omega) (by simp; omega)
    refine Ev.step (fun k => ?_) (show Ev _ (a + 2 * ((x :: xs).length : Int), pre ++ mt a (x :: xs).length) from by
      have e : pre ++ mt a (x :: xs).length = pre ++ [⟨a, a + 1⟩] ++ mt (a + 2) xs.length := by simp [mt]
      have e2 : a + 2 * ((x :: xs).length : Int) = a + 2 + 2 * (xs.length : Int) := by rw [List.length_cons]; omega
      rw [e, e2]
      exact hi)
    simp only [laws_markTileS.l0, Option.bind_some]
    rw [if_pos (by omega), if_pos (by omega), set_mid, set_mid]
    unfold rd_T25
    rw [t_wrap ((pre.length : Int) + 1) (by omega) (by omega), t_wrap (a + 1) (by omega) (by omega), t_wrap (a + 1 + 1) (by omega) (by omega), show ((pre.length : Int)).toNat = pre.length from rfl, t_mid]
    simp only [List.append_assoc, List.singleton_append, List.length_append, List.length_cons, List.length_nil]
    rw [show a + 1 + 1 = a + 2 from by omega]
    rfl
theorem heldT_ev : ∀ (n : Nat) (pre : List S25) (a : Int), pre.length + n ≤ 2000000 → 0 ≤ a → a ≤ 100 + 2 * pre.length → Ev (fun k => laws_heldTileS.l0 k (pre ++ mt a n) a (pre.length : Int)) (a + 2 * (n : Int)) := by
  intro n
  induction n with
  | zero =>
    intro pre a hl h0 h1
    refine Ev.step (f := fun _ => some a) (fun k => ?_) ⟨0, fun k _ => by simp⟩
    simp only [laws_heldTileS.l0, mt, List.append_nil]
    rw [if_neg (by omega)]
  | succ n ih =>
    intro pre a hl h0 h1
    have hlen : (pre ++ mt a (n + 1)).length = pre.length + n + 1 := by rw [List.length_append, mt_len]; omega
    have hget : rd_T25 (pre ++ mt a (n + 1)) (pre.length : Int) = ⟨a, a + 1⟩ := by
      unfold rd_T25 mt
      exact t_mid pre _ _ _
    have hi := ih (pre ++ [⟨a, a + 1⟩]) (a + 2) (by simp; omega) (by omega) (by simp; omega)
    refine Ev.step (fun k => ?_) (show Ev _ (a + 2 * ((n + 1 : Nat) : Int)) from by
      have e2 : a + 2 * ((n + 1 : Nat) : Int) = a + 2 + 2 * (n : Int) := by omega
      rw [e2]
      exact hi)
    simp only [laws_heldTileS.l0]
    rw [if_pos (by omega), if_pos (by omega), hget, t_wrap ((pre.length : Int) + 1) (by omega) (by omega), t_wrap (a + 1) (by omega) (by omega), t_wrap (a + 1 + 1) (by omega) (by omega), show a + 1 + 1 = a + 2 from by omega]
    simp [mt]
theorem markI_ev : ∀ (rest pre : List Int) (a : Int), (pre ++ rest).length ≤ 2000000 → 0 ≤ a → a ≤ 10000000 + pre.length → Ev (fun k => laws_markIntS.l0 k (pre ++ rest) a (pre.length : Int)) (a + (rest.length : Int), pre ++ mi a rest.length) := by
  intro rest
  induction rest with
  | nil =>
    intro pre a hl h0 h1
    refine Ev.step (f := fun _ => some (a, pre ++ [])) (fun k => ?_) ⟨0, fun k _ => by simp [mi]⟩
    simp only [laws_markIntS.l0, List.append_nil]
    rw [if_neg (by omega)]
  | cons x xs ih =>
    intro pre a hl h0 h1
    have hlen : (pre ++ x :: xs).length = pre.length + xs.length + 1 := by simp; omega
    have hi := ih (pre ++ [a]) (a + 1) (by simpa using hl) (by omega) (by simp; omega)
    refine Ev.step (fun k => ?_) (show Ev _ (a + ((x :: xs).length : Int), pre ++ mi a (x :: xs).length) from by
      have e : pre ++ mi a (x :: xs).length = pre ++ [a] ++ mi (a + 1) xs.length := by simp [mi]
      have e2 : a + ((x :: xs).length : Int) = a + 1 + (xs.length : Int) := by rw [List.length_cons]; omega
      rw [e, e2]
      exact hi)
    simp only [laws_markIntS.l0]
    rw [if_pos (by omega), if_pos (by omega), set_mid, t_wrap ((pre.length : Int) + 1) (by omega) (by omega), t_wrap (a + 1) (by omega) (by omega)]
    simp only [List.append_assoc, List.singleton_append, List.length_append, List.length_cons, List.length_nil]
    rfl
theorem heldI_ev : ∀ (n : Nat) (pre : List Int) (a : Int), pre.length + n ≤ 2000000 → 0 ≤ a → a ≤ 10000000 + pre.length → Ev (fun k => laws_heldIntS.l0 k (pre ++ mi a n) a (pre.length : Int)) (a + (n : Int)) := by
  intro n
  induction n with
  | zero =>
    intro pre a hl h0 h1
    refine Ev.step (f := fun _ => some a) (fun k => ?_) ⟨0, fun k _ => by simp⟩
    simp only [laws_heldIntS.l0, mi, List.append_nil]
    rw [if_neg (by omega)]
  | succ n ih =>
    intro pre a hl h0 h1
    have hlen : (pre ++ mi a (n + 1)).length = pre.length + n + 1 := by rw [List.length_append, mi_len]; omega
    have hget : rd (pre ++ mi a (n + 1)) (pre.length : Int) = a := by
      unfold mi
      exact i_mid pre _ _
    have hi := ih (pre ++ [a]) (a + 1) (by simp; omega) (by omega) (by simp; omega)
    refine Ev.step (fun k => ?_) (show Ev _ (a + ((n + 1 : Nat) : Int)) from by
      have e2 : a + ((n + 1 : Nat) : Int) = a + 1 + (n : Int) := by omega
      rw [e2]
      exact hi)
    simp only [laws_heldIntS.l0]
    rw [if_pos (by omega), if_pos (by omega), hget, t_wrap ((pre.length : Int) + 1) (by omega) (by omega), t_wrap (a + 1) (by omega) (by omega)]
    simp [mi]
/-- A puzzle that was marked holds its marks. -/
theorem mark_f (l : List S25) (c : List Int) (hl : l.length ≤ 2000000) (hc : c.length ≤ 2000000) : ∃ (m : Int) (l' : List S25) (c' : List Int), Ev (fun k => laws_markPuzzle.f k l c 1) (m, l', c') ∧ Ev (fun k => laws_heldPuzzle.f k l' c' 1) m ∧ ¬ m < 0 := by
  have a1 := markT_ev l [] 1 (by simpa using hl) (by omega) (by simp)
  have a2 := markI_ev c [] (1 + 2 * (l.length : Int)) (by simpa using hc) (by omega) (by simp; omega)
  have a3 := heldT_ev l.length [] 1 (by simpa using hl) (by omega) (by simp)
  have a4 := heldI_ev c.length [] (1 + 2 * (l.length : Int)) (by simpa using hc) (by omega) (by simp; omega)
  simp only [List.nil_append] at a1 a2 a3 a4
  refine ⟨1 + 2 * (l.length : Int) + c.length, mt 1 l.length, mi (1 + 2 * (l.length : Int)) c.length, ?_, ?_, by omega⟩
  · unfold laws_markPuzzle.f
    exact Ev.bind (f := fun k (b : Int × List S25) => (laws_markIntS.f k c b.1).bind fun d => (some (d.1, b.2, d.2))) a1 (Ev.bind (f := fun _ (d : Int × List Int) => (some (d.1, mt 1 l.length, d.2))) a2 ⟨0, fun k _ => rfl⟩)
  · unfold laws_heldPuzzle.f
    refine Ev.bind (f := fun k t => (if t < 0 then (some (-1)) else ((laws_heldIntS.f k (mi (1 + 2 * (l.length : Int)) c.length) t).bind fun u => (if u < 0 then (some (-1)) else (some u))))) a3 ?_
    refine Ev.congr (fun k => ?_) (Ev.bind (f := fun _ u => (if u < 0 then (some (-1)) else (some u))) a4 ⟨0, fun k _ => ?_⟩)
    · (try dsimp only)
      rw [if_neg (by omega)]
      rfl
    · rw [if_neg (by omega)]

/-! A chain turned. -/
theorem turn_spec (l : List Int) (hl : l.length ≤ 1000) : ∀ (n : Nat) (o : List Int), n ≤ l.length → o.length + n ≤ 2000 → Ev (fun k => spec_haTurn.l0 k l o ((n : Int) - 1)) (o ++ (l.take n).reverse) := by
  intro n
  induction n with
  | zero =>
    intro o _ _
    refine Ev.step (f := fun _ => some o) (fun k => ?_) ⟨0, fun k _ => by simp⟩
    simp only [spec_haTurn.l0]
    rw [if_neg (by omega)]
  | succ n ih =>
    intro o h1 h2
    have hg : rd l (n : Int) = l[n] := by
      unfold rd
      rw [show ((n : Int)).toNat = n from rfl, List.getD_eq_getElem?_getD, List.getElem?_eq_getElem (by omega)]
      rfl
    have hi := ih (o ++ [l[n]]) (by omega) (by simp; omega)
    refine Ev.step (fun k => ?_) (show Ev _ (o ++ (l.take (n + 1)).reverse) from by
      rw [List.take_succ_eq_append_getElem (by omega), List.reverse_append]
      simpa using hi)
    simp only [spec_haTurn.l0]
    rw [show ((n + 1 : Nat) : Int) - 1 = (n : Int) from by omega, if_pos (by omega), if_pos (by omega), if_pos (by omega), if_pos (by omega), hg, t_wrap _ (by omega) (by omega)]
theorem turn_impl : ∀ (n : Nat) (pre mid post : List Int), mid.length ≤ n → pre.length + mid.length + post.length ≤ 1000 → Ev (fun k => slices_Reverse_int_int.l0 k (pre ++ (mid ++ post)) (pre.length : Int) ((pre.length : Int) + mid.length - 1)) (pre ++ (mid.reverse ++ post)) := by
  intro n
  induction n with
  | zero =>
    intro pre mid post h1 h2
    obtain rfl : mid = [] := List.length_eq_zero_iff.1 (by omega)
    refine Ev.step (f := fun _ => some (pre ++ ([].reverse ++ post))) (fun k => ?_) (Ev.now _)
    simp only [slices_Reverse_int_int.l0, List.length_nil]
    rw [if_neg (by omega)]
    rfl
  | succ n ih =>
    intro pre mid post h1 h2
    cases mid with
    | nil =>
      refine Ev.step (f := fun _ => some (pre ++ ([].reverse ++ post))) (fun k => ?_) (Ev.now _)
      simp only [slices_Reverse_int_int.l0, List.length_nil]
      rw [if_neg (by omega)]
      rfl
    | cons x m =>
      rcases List.eq_nil_or_concat m with rfl | ⟨m, y, rfl⟩
      · refine Ev.step (f := fun _ => some (pre ++ ([x].reverse ++ post))) (fun k => ?_) (Ev.now _)
        simp only [slices_Reverse_int_int.l0, List.length_cons, List.length_nil]
        rw [if_neg (by omega)]
        rfl
      · simp only [List.concat_eq_append] at *
        have hm : (x :: (m ++ [y])).length = m.length + 2 := by simp
        rw [hm] at h1 h2
        have e0 : pre ++ (x :: (m ++ [y]) ++ post) = pre ++ x :: (m ++ y :: post) := by simp
        have e1 : pre ++ x :: (m ++ y :: post) = (pre ++ x :: m) ++ y :: post := by simp
        have e3 : pre ++ y :: (m ++ y :: post) = (pre ++ y :: m) ++ y :: post := by simp
        have e2 : ((pre.length : Int) + ((m.length + 2 : Nat) : Int) - 1) = ((pre ++ x :: m).length : Int) := by simp; omega
        have e4 : ((pre ++ x :: m).length : Int) = ((pre ++ y :: m).length : Int) := by simp
        have hi := ih (pre ++ [y]) m (x :: post) (by omega) (by simp; omega)
        have hlen : (pre ++ x :: (m ++ y :: post)).length = pre.length + m.length + post.length + 2 := by simp; omega
        have hr1 : rd (pre ++ x :: (m ++ y :: post)) ((pre ++ x :: m).length : Int) = y := by rw [e1]; exact i_mid _ _ _
        have hr2 : rd (pre ++ x :: (m ++ y :: post)) (pre.length : Int) = x := i_mid _ _ _
        rw [hm, e0, e2]
        refine Ev.step (fun k => ?_) (show Ev _ (pre ++ ((x :: (m ++ [y])).reverse ++ post)) from by
          have e : pre ++ ((x :: (m ++ [y])).reverse ++ post) = pre ++ [y] ++ (m.reverse ++ x :: post) := by simp
          rw [e]
          exact hi)
        simp only [slices_Reverse_int_int.l0]
        have hp : ((pre ++ x :: m).length : Int) = pre.length + m.length + 1 := by simp; omega
        rw [if_pos (by omega), if_pos (by omega), if_pos (by omega), if_pos (by omega), if_pos (by omega), hr1, hr2, set_mid, e3, e4, set_mid, t_wrap ((pre.length : Int) + 1) (by omega) (by omega), ← e4, hp, t_wrap _ (by omega) (by omega)]
        have e5 : pre ++ y :: m ++ x :: post = pre ++ [y] ++ (m ++ x :: post) := by simp
        rw [e5]
        have e6 : (pre.length : Int) + 1 = ((pre ++ [y]).length : Int) := by simp
        rw [e6, show (pre.length : Int) + m.length + 1 - 1 = ((pre ++ [y]).length : Int) + m.length - 1 from by simp; omega]
theorem both (l : List S25) (c : List Int) (hl : l.length ≤ 2000000) (hc : c.length ≤ 2000000) : ∃ r : List S25 × List Int × Bool, Ev (fun k => spec_TurnPuzzle.f k l c) r ∧ Ev (fun k => impl_TurnPuzzle.f k l c) r ∧ r.1.length ≤ 1000 ∧ r.2.1.length ≤ 1000 := by
  have h1 := pz_spec l c hl hc
  have h2 := pz_impl l c hl
  unfold spec_TurnPuzzle.f impl_TurnPuzzle.f
  cases hp : pz l c
  · rw [hp] at h1 h2
    exact ⟨([], [], false), Ev.bind (f := fun k t => _) h1 ⟨0, fun k _ => by simp⟩, Ev.bind (f := fun k t => _) h2 ⟨0, fun k _ => by simp⟩, by simp, by simp⟩
  · rw [hp] at h1 h2
    obtain ⟨p1, p2, _, p4, _, _⟩ := pz_true l c hp
    have t1 := turn_spec c (by omega) c.length [] (Nat.le_refl _) (by simp; omega)
    have t2 := turn_impl c.length [] c [] (Nat.le_refl _) (by simp; omega)
    rw [List.take_length, List.nil_append] at t1
    simp only [List.nil_append, List.append_nil, List.length_nil, Int.natCast_zero, Int.zero_add] at t2
    have w : wrap64 ((c.length : Int) - 1) = (c.length : Int) - 1 := t_wrap _ (by omega) (by omega)
    refine ⟨(l, c.reverse, true), Ev.bind (f := fun k t => _) h1 ?_, Ev.bind (f := fun k t => _) h2 ?_, by simp; omega, by simp; omega⟩
    · simp only [if_true, Option.bind_some, List.length_nil, if_pos (show 0 + l.length < 8796093022208 from by omega)]
      unfold spec_haTurn.f
      rw [w]
      exact Ev.bind (f := fun k t => _) t1 ⟨0, fun k _ => rfl⟩
    · simp only [if_true]
      unfold impl_turned.f slices_Clone_impl_Tile_impl_Tile.f slices_Clone_int_int.f slices_Reverse_int_int.f
      simp only [if_pos (show l.length < 8796093022208 from by omega), if_pos (show c.length < 17592186044416 from by omega), Option.bind_some]
      rw [w]
      exact Ev.bind (f := fun k t => _) (Ev.bind (f := fun k t => _) t2 ⟨0, fun k _ => rfl⟩) ⟨0, fun k _ => rfl⟩

/-! Two that answer the same puzzle: the law. -/
theorem end2 (m : Int) (hm : ¬ m < 0) (L : List S25) (C : List Int) (hh : Ev (fun k => laws_heldPuzzle.f k L C 1) m) (b : Bool) : Ev (fun k => laws_FnExactTurnPuzzle.j2 k m (b != b) L C) true := by
  refine Ev.step (f := fun k => (laws_heldPuzzle.f k L C 1).bind fun t => (if t < 0 then (none) else (if t = m then (some true) else (none)))) (fun k => by simp [laws_FnExactTurnPuzzle.j2]) ?_
  exact Ev.bind (f := fun _ t => (if t < 0 then (none) else (if t = m then (some true) else (none)))) hh ⟨0, fun k _ => by simp [hm]⟩
theorem end1 (l : List S131) (c : List Int) (r : List S25 × List Int × Bool) (hl : l.length ≤ 1048576) (hc : c.length ≤ 1048576) (h2 : Ev (fun k => impl_TurnPuzzle.f k (l.map conv) c ) r) (q1 : r.1.length ≤ 1000) (q2 : r.2.1.length ≤ 1000) (b : Bool) (hb : b = false) : Ev (fun k => laws_FnExactTurnPuzzle.j1 k  r.2.2 b l c r.1 r.2.1 r.1 r.2.1) true := by
  obtain ⟨m, L, C, m1, m2, m3⟩ := mark_f r.1 r.2.1 (by omega) (by omega)
  refine Ev.step (fun k => by simp only [laws_FnExactTurnPuzzle.j1, hb, Bool.false_eq_true, if_false]; rfl) ?_
  refine Ev.bind (f := fun k (d : Int × List S25 × List Int) => _) m1 ?_
  refine Ev.bind (f := fun k t => _) m2 ?_
  simp only [if_neg m3, if_true]
  refine Ev.bind (f := fun k (d : List S25 × List Int) => _) (toPuzzle_f l c hl hc) ?_
  refine Ev.bind (f := fun k (d : List S25 × List Int × Bool) => _) h2 ?_
  refine Ev.bind (f := fun k t => _) (eqPuzzle_f r.1 r.2.1 (by omega) (by omega)) ?_
  exact end2 m m3 L C m2 r.2.2
theorem end0 (l : List S131) (c : List Int) (r : List S25 × List Int × Bool) (hl : l.length ≤ 1048576) (hc : c.length ≤ 1048576) (h2 : Ev (fun k => impl_TurnPuzzle.f k (l.map conv) c ) r) (q1 : r.1.length ≤ 1000) (q2 : r.2.1.length ≤ 1000) (b : Bool) : Ev (fun k => laws_FnExactTurnPuzzle.j0 k  r.2.2 r.2.2 (b != b) l c r.1 r.2.1 (l.map conv) c r.1 r.2.1) true := by
  have hlm : (l.map conv).length ≤ 1048576 := by simpa using hl
  obtain ⟨m, L, C, m1, m2, m3⟩ := mark_f (l.map conv) c (by omega) (by omega)
  refine Ev.step (fun k => by simp only [laws_FnExactTurnPuzzle.j0, bne_self_eq_false, Bool.false_eq_true, if_false]; rfl) ?_
  refine Ev.bind (f := fun k (d : List S25 × List Int) => _) (toPuzzle_f l c hl hc) ?_
  refine Ev.bind (f := fun k t => _) (eqPuzzle_f (l.map conv) c hlm hc) ?_
  simp only [if_true]
  refine Ev.bind (f := fun k (d : Int × List S25 × List Int) => _) m1 ?_
  simp only [if_neg m3]
  refine Ev.bind (f := fun k t => _) (eqPuzzle_f r.1 r.2.1 (by omega) (by omega)) ?_
  simp only [if_true]
  exact end1  l c r hl hc h2 q1 q2 _ (by simp)
theorem FnExactTurnPuzzle (l0_0 : List (S131)) (l0_1 : List Int) (_h0 : (l0_0.length ≤ 9223372036854775807 ∧ ∀ x_ ∈ l0_0, ((Lit.int .i64 x_.f0).wf = true ∧ (Lit.int .i64 x_.f1).wf = true))) (_h1 : (l0_1.length ≤ 9223372036854775807 ∧ ∀ x_ ∈ l0_1, (Lit.int .i64 x_).wf = true)) : ∃ k, laws_FnExactTurnPuzzle.f k l0_0 l0_1  = some true := by
  refine Ev.rounds (g := fun k => laws_FnExactTurnPuzzle.f k l0_0 l0_1 ) ?_
  unfold laws_FnExactTurnPuzzle.f
  rcases szPuzzle_f l0_0 l0_1 _h0.1 _h1.1 with hsz | ⟨n, hsz, hn, hl, hc⟩
  · rw [hsz]
    exact ⟨0, fun k _ => rfl⟩
  · rw [hsz]
    simp only [Option.bind_some, hn, if_false]
    have htp := toPuzzle_f l0_0 l0_1 hl hc
    have hlm : (l0_0.map conv).length ≤ 1048576 := by simpa using hl
    obtain ⟨r, h1, h2, q1, q2⟩ := both  (l0_0.map conv) l0_1 (by omega) (by omega)
    refine Ev.bind (f := fun k (d : List S25 × List Int) => _) htp ?_
    refine Ev.bind (f := fun k (d : List S25 × List Int × Bool) => _) h1 ?_
    refine Ev.bind (f := fun k (d : List S25 × List Int) => _) htp ?_
    refine Ev.bind (f := fun k (d : List S25 × List Int × Bool) => _) h2 ?_
    refine Ev.bind (f := fun k t => _) (eqPuzzle_f r.1 r.2.1 (by omega) (by omega)) ?_
    simp only [if_true]
    exact end0  l0_0 l0_1 r hl hc h2 q1 q2 r.2.2


end Go.Proofs.Ytgcnlhebfnaaoaa.QPure
