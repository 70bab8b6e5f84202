/- For every input the law FnExactPuzzleText answers true: the plain statement over lists and numbers. No conditions. -/
import Derived.Test.YtgcnlhebfnaaoaaQFnExactPuzzleTextx1
import Derived.Test.YtgcnlhebfnaaoaaQFnExactPuzzleTextx2
import Derived.Test.YtgcnlhebfnaaoaaQFnExactPuzzleTextx3
import Derived.Test.YtgcnlhebfnaaoaaQFnExactPuzzleTextx4
import Derived.Test.YtgcnlhebfnaaoaaQFnExactPuzzleTextx5
import Derived.Test.YtgcnlhebfnaaoaaQFnExactPuzzleTextx6
import Derived.Test.YtgcnlhebfnaaoaaQFnExactPuzzleTextx7
import Derived.Test.YtgcnlhebfnaaoaaQFnExactPuzzleTextx8
namespace Go.Proofs.Ytgcnlhebfnaaoaa.QPure
open Go.RowKit Go.Proofs.Ytgcnlhebfnaaoaa.QFnExactPuzzleText Go.Proofs.YtgcnlhebfnaaoaaW.PrintWords Go.Proofs.YtgcnlhebfnaaoaaW.PrintLast

set_option linter.unusedVariables false
set_option linter.unusedSimpArgs false
/-! Hands and their order, in plain words. -/
theorem t_eta (x : S25) : (⟨x.f0, x.f1⟩ : S25) = x := rfl
theorem t_ext (x y : S25) (h0 : x.f0 = y.f0) (h1 : x.f1 = y.f1) : x = y := by
  cases x
  cases y
  simp_all
instance t_dec : DecidableEq S25 := fun x y => if h : x.f0 = y.f0 ∧ x.f1 = y.f1 then isTrue (t_ext x y h.1 h.2) else isFalse (fun e => h (by subst e; exact ⟨rfl, rfl⟩))
theorem t_beq (x y : S25) : (x.f0 == y.f0 && (x.f1 == y.f1)) = decide (x = y) := by
  by_cases h : x = y
  · subst h
    simp
  · have : ¬ (x.f0 = y.f0 ∧ x.f1 = y.f1) := fun e => h (t_ext x y e.1 e.2)
    rw [decide_eq_false h]
    by_cases h0 : x.f0 = y.f0
    · have h1 : ¬ x.f1 = y.f1 := fun e => this ⟨h0, e⟩
      simp [h1]
    · simp [h0]
theorem t_mid (pre : List S25) (x : S25) (xs : List S25) (d : S25) : (pre ++ x :: xs).getD pre.length d = x := by
  rw [List.getD_eq_getElem?_getD, List.getElem?_append_right (Nat.le_refl _), Nat.sub_self]
  rfl
theorem t_wrap (n : Int) (h : -1000000000 ≤ n) (h' : n ≤ 1000000000) : wrap64 n = n := by
  unfold wrap64
  omega

theorem t_wrap2 (n : Int) (h : -1000000000000 ≤ n) (h' : n ≤ 1000000000000) : wrap64 n = n := by
  unfold wrap64
  omega

def good (x : S25) : Bool := decide (0 ≤ x.f0) && (decide (x.f0 ≤ x.f1) && decide (x.f1 ≤ 9))
theorem good_iff (x : S25) : good x = true ↔ 0 ≤ x.f0 ∧ x.f0 ≤ x.f1 ∧ x.f1 ≤ 9 := by
  unfold good
  simp
theorem tiGood_f (x : S25) : spec_tiGood.f x.f0 x.f1 = some (good x) := by
  unfold spec_tiGood.f spec_l1In.f good
  by_cases h1 : 0 ≤ x.f0
  · have h1' : x.f0 ≥ 0 := h1
    rw [if_pos h1']
    by_cases h2 : x.f0 ≤ x.f1
    · simp [h1, h2]
    · simp [h1, h2]
  · have h1' : ¬ x.f0 ≥ 0 := h1
    rw [if_neg h1']
    simp [h1]

/-- The first place of a tile behind pre. -/
theorem place_ev (t : S25) : ∀ (rest pre : List S25), (pre ++ rest).length ≤ 2000000 → ∃ r : Int, Ev (fun k => spec_tiPlace.l0 k (pre ++ rest) ((pre ++ rest).length : Int) (pre.length : Int) t.f0 t.f1) r ∧ decide (r ≥ 0) = decide (t ∈ rest) := by
  intro rest
  induction rest with
  | nil =>
    intro pre hl
    refine ⟨-1, Ev.step (f := fun _ => some (-1)) (fun k => ?_) (Ev.now _), by simp⟩
    simp only [spec_tiPlace.l0, List.append_nil]
    rw [if_neg (by omega)]
  | cons x xs ih =>
    intro pre hl
    have hlen : (pre ++ x :: xs).length = pre.length + xs.length + 1 := by simp; omega
    have hget : rd_T25 (pre ++ x :: xs) (pre.length : Int) = x := by
      unfold rd_T25
      exact t_mid pre x xs _
    by_cases e : x = t
    · refine ⟨(pre.length : Int), Ev.step (f := fun _ => some (pre.length : Int)) (fun k => ?_) (Ev.now _), by simp [e]⟩
      simp only [spec_tiPlace.l0]
      rw [if_pos (by omega), if_pos (by omega), if_pos (by omega), hget, t_beq, if_pos (by simp [e])]
    · obtain ⟨r, h1, h2⟩ := ih (pre ++ [x]) (by simpa using hl)
      have e1 : pre ++ [x] ++ xs = pre ++ x :: xs := by simp
      rw [e1] at h1
      refine ⟨r, Ev.step (fun k => ?_) h1, by rw [h2]; simp [Ne.symm e]⟩
      simp only [spec_tiPlace.l0]
      rw [if_pos (by omega), if_pos (by omega), if_pos (by omega), hget, t_beq, if_neg (by simp [e]), t_wrap ((pre.length : Int) + 1) (by omega) (by omega)]
      simp
theorem place_f (t : S25) (l : List S25) (hl : l.length ≤ 2000000) : ∃ r : Int, Ev (fun k => spec_tiPlace.f k l t.f0 t.f1) r ∧ decide (r ≥ 0) = decide (t ∈ l) := place_ev t l [] hl

/-- .. and the program's. -/
theorem index_ev (t : S25) : ∀ (rest pre : List S25), (pre ++ rest).length ≤ 2000000 → ∃ r : Int, Ev (fun k => slices_Index_impl_Tile_impl_Tile.l0 k (pre ++ rest) ((pre ++ rest).length : Int) (pre.length : Int) t.f0 t.f1) r ∧ decide (r ≥ 0) = decide (t ∈ rest) := by
  intro rest
  induction rest with
  | nil =>
    intro pre hl
    refine ⟨-1, Ev.step (f := fun _ => some (-1)) (fun k => ?_) (Ev.now _), by simp⟩
    simp only [slices_Index_impl_Tile_impl_Tile.l0, List.append_nil]
    rw [if_neg (by omega)]
  | cons x xs ih =>
    intro pre hl
    have hlen : (pre ++ x :: xs).length = pre.length + xs.length + 1 := by simp; omega
    have hget : rd_T25 (pre ++ x :: xs) (pre.length : Int) = x := by
      unfold rd_T25
      exact t_mid pre x xs _
    by_cases e : t = x
    · refine ⟨(pre.length : Int), Ev.step (f := fun _ => some (pre.length : Int)) (fun k => ?_) (Ev.now _), by simp [e]⟩
      simp only [slices_Index_impl_Tile_impl_Tile.l0]
      rw [if_pos (by omega), if_pos (by omega), if_pos (by omega), hget, t_beq, if_pos (by simp [e])]
    · obtain ⟨r, h1, h2⟩ := ih (pre ++ [x]) (by simpa using hl)
      have e1 : pre ++ [x] ++ xs = pre ++ x :: xs := by simp
      rw [e1] at h1
      refine ⟨r, Ev.step (fun k => ?_) h1, by rw [h2]; simp [e]⟩
      simp only [slices_Index_impl_Tile_impl_Tile.l0]
      rw [if_pos (by omega), if_pos (by omega), if_pos (by omega), hget, t_beq, if_neg (by simp [e]), t_wrap ((pre.length : Int) + 1) (by omega) (by omega)]
      simp
theorem contains_f (t : S25) (l : List S25) (hl : l.length ≤ 2000000) : Ev (fun k => slices_Contains_impl_Tile_impl_Tile.f k l t.f0 t.f1) (decide (t ∈ l)) := by
  obtain ⟨r, h1, h2⟩ := index_ev t l [] hl
  rw [← h2]
  exact Ev.bind (f := fun _ t177 => (some (decide (t177 ≥ 0)))) h1 ⟨0, fun k _ => rfl⟩

/-- No two the same, behind pre. -/
def nd : List S25 → List S25 → Bool
  | _, [] => true
  | pre, x :: xs => !decide (x ∈ pre) && nd (pre ++ [x]) xs
def hb : List S25 → List S25 → Bool
  | _, [] => true
  | pre, x :: xs => good x && (!decide (x ∈ pre) && hb (pre ++ [x]) xs)
theorem hb_nd : ∀ (rest pre : List S25), hb pre rest = (rest.all good && nd pre rest) := by
  intro rest
  induction rest with
  | nil => intro pre; rfl
  | cons x xs ih =>
    intro pre
    unfold hb nd
    rw [ih, List.all_cons]
    cases good x <;> cases decide (x ∈ pre) <;> cases xs.all good <;> simp
theorem nd_nodup : ∀ (rest pre : List S25), nd pre rest = true → (∀ x ∈ rest, x ∉ pre) ∧ rest.Nodup := by
  intro rest
  induction rest with
  | nil => intro pre _; exact ⟨(fun x h => by cases h), List.nodup_nil⟩
  | cons x xs ih =>
    intro pre h
    unfold nd at h
    simp only [Bool.and_eq_true, Bool.not_eq_true', decide_eq_false_iff_not] at h
    obtain ⟨h1, h2⟩ := ih _ h.2
    refine ⟨fun y hy => ?_, ?_⟩
    · rcases List.mem_cons.1 hy with rfl | hy
      · exact h.1
      · exact fun hp => h1 y hy (List.mem_append_left _ hp)
    · rw [List.nodup_cons]
      exact ⟨fun hx => h1 x hx (by simp), h2⟩

theorem tiHand_ev : ∀ (rest pre : List S25), (pre ++ rest).length ≤ 2000000 → Ev (fun k => spec_tiHand.l0 k (pre ++ rest) (pre ++ rest) ((pre ++ rest).length : Int) (pre.length : Int)) (hb pre rest) := by
  intro rest
  induction rest with
  | nil =>
    intro pre hl
    refine Ev.step (f := fun _ => some true) (fun k => ?_) (Ev.now _)
    simp only [spec_tiHand.l0, List.append_nil]
    rw [if_neg (by omega)]
  | cons x xs ih =>
    intro pre hl
    have hlen : (pre ++ x :: xs).length = pre.length + xs.length + 1 := by simp; omega
    have hget : rd_T25 (pre ++ x :: xs) (pre.length : Int) = x := by
      unfold rd_T25
      exact t_mid pre x xs _
    have htake : (pre ++ x :: xs).take ((pre.length : Int)).toNat = pre := by simp
    cases hg : good x
    · refine Ev.step (f := fun _ => some (hb pre (x :: xs))) (fun k => ?_) (Ev.now _)
      simp only [spec_tiHand.l0]
      rw [if_pos (by omega), if_pos (by omega), if_pos (by omega), hget, tiGood_f, hg]
      simp [hb, hg]
    · obtain ⟨r, h1, h2⟩ := place_f x pre (by omega)
      have e1 : pre ++ [x] ++ xs = pre ++ x :: xs := by simp
      have hi := ih (pre ++ [x]) (by simpa using hl)
      rw [e1] at hi
      refine Ev.step (f := fun k => (spec_tiPlace.f k pre x.f0 x.f1).bind fun t123 => (if t123 ≥ 0 then (some false) else (spec_tiHand.l0 k (pre ++ x :: xs) (pre ++ x :: xs) ((pre ++ x :: xs).length : Int) (((pre ++ [x]).length : Nat) : Int)))) (fun k => ?_) ?_
      · simp only [spec_tiHand.l0]
        rw [if_pos (by omega), if_pos (by omega), if_pos (by omega), hget, tiGood_f, hg]
        simp only [Option.bind_some, if_true]
        rw [if_pos (by omega), htake, t_wrap ((pre.length : Int) + 1) (by omega) (by omega)]
        simp
      · refine Ev.bind (f := fun k t123 => (if t123 ≥ 0 then (some false) else (spec_tiHand.l0 k (pre ++ x :: xs) (pre ++ x :: xs) ((pre ++ x :: xs).length : Int) (((pre ++ [x]).length : Nat) : Int)))) h1 ?_
        by_cases hm : x ∈ pre
        · have hr : r ≥ 0 := by
            rw [decide_eq_true hm] at h2
            exact of_decide_eq_true h2
          refine ⟨0, fun k _ => ?_⟩
          (try dsimp only)
          rw [if_pos hr]
          simp [hb, hm]
        · have hr : ¬ r ≥ 0 := by
            rw [decide_eq_false hm] at h2
            exact of_decide_eq_false h2
          refine Ev.congr (fun k => ?_) (show Ev _ (hb pre (x :: xs)) from by
            have : hb pre (x :: xs) = hb (pre ++ [x]) xs := by simp [hb, hg, hm]
            rw [this]
            exact hi)
          (try dsimp only)
          rw [if_neg hr]

theorem areDiff_ev : ∀ (rest pre : List S25), (pre ++ rest).length ≤ 2000000 → Ev (fun k => impl_areDifferent_impl_Tile.l0 k (pre ++ rest) (pre ++ rest) ((pre ++ rest).length : Int) (pre.length : Int)) (nd pre rest) := by
  intro rest
  induction rest with
  | nil =>
    intro pre hl
    refine Ev.step (f := fun _ => some true) (fun k => ?_) (Ev.now _)
    simp only [impl_areDifferent_impl_Tile.l0, List.append_nil]
    rw [if_neg (by omega)]
  | cons x xs ih =>
    intro pre hl
    have hlen : (pre ++ x :: xs).length = pre.length + xs.length + 1 := by simp; omega
    have hget : rd_T25 (pre ++ x :: xs) (pre.length : Int) = x := by
      unfold rd_T25
      exact t_mid pre x xs _
    have htake : (pre ++ x :: xs).take ((pre.length : Int)).toNat = pre := by simp
    have h1 := contains_f x pre (by omega)
    have e1 : pre ++ [x] ++ xs = pre ++ x :: xs := by simp
    have hi := ih (pre ++ [x]) (by simpa using hl)
    rw [e1] at hi
    refine Ev.step (f := fun k => (slices_Contains_impl_Tile_impl_Tile.f k pre x.f0 x.f1).bind fun t184 => (if t184 = true then (some false) else (impl_areDifferent_impl_Tile.l0 k (pre ++ x :: xs) (pre ++ x :: xs) ((pre ++ x :: xs).length : Int) (((pre ++ [x]).length : Nat) : Int)))) (fun k => ?_) ?_
    · simp only [impl_areDifferent_impl_Tile.l0]
      rw [if_pos (by omega), if_pos (by omega), if_pos (by omega), if_pos (by omega), hget, htake, t_wrap ((pre.length : Int) + 1) (by omega) (by omega)]
      simp
    · refine Ev.bind (f := fun k t184 => (if t184 = true then (some false) else (impl_areDifferent_impl_Tile.l0 k (pre ++ x :: xs) (pre ++ x :: xs) ((pre ++ x :: xs).length : Int) (((pre ++ [x]).length : Nat) : Int)))) h1 ?_
      by_cases hm : x ∈ pre
      · refine ⟨0, fun k _ => ?_⟩
        simp [nd, hm]
      · refine Ev.congr (fun k => ?_) (show Ev _ (nd pre (x :: xs)) from by
          have : nd pre (x :: xs) = nd (pre ++ [x]) xs := by simp [nd, hm]
          rw [this]
          exact hi)
        simp only [hm, decide_false, Bool.false_eq_true, if_false]

theorem noTile_good (x : S25) : noTile x = !good x := rfl
theorem any_no (l : List S25) : l.any noTile = !l.all good := by
  induction l with
  | nil => rfl
  | cons x xs ih => rw [List.any_cons, List.all_cons, ih, noTile_good]; cases good x <;> simp

/-- Is it a hand? The same on both sides. -/
def isH (l : List S25) : Bool := decide (l.length ≤ 55) && (l.all good && nd [] l)
theorem isH_spec (l : List S25) (hl : l.length ≤ 2000000) : Ev (fun k => spec_tiHand.f k l) (isH l) := by
  by_cases h : l.length ≤ 55
  · have hi := tiHand_ev l [] hl
    rw [hb_nd] at hi
    refine Ev.congr (fun k => ?_) (show Ev _ (isH l) from by
      have : isH l = (l.all good && nd [] l) := by simp [isH, h]
      rw [this]
      exact hi)
    unfold spec_tiHand.f
    rw [if_neg (by omega)]
    rfl
  · refine ⟨0, fun k _ => ?_⟩
    show spec_tiHand.f k l = _
    unfold spec_tiHand.f
    rw [if_pos (by omega)]
    simp [isH, h]
theorem isH_impl (l : List S25) (hl : l.length ≤ 2000000) : Ev (fun k => impl_IsHand.f k l) (isH l) := by
  by_cases h : l.length ≤ 55
  · cases hg : l.all good
    · refine ⟨0, fun k _ => ?_⟩
      show impl_IsHand.f k l = _
      unfold impl_IsHand.f
      rw [if_pos (by omega), any_no, hg]
      simp [isH, hg]
    · have hi := areDiff_ev l [] hl
      refine Ev.congr (fun k => ?_) (show Ev _ (isH l) from by
        have : isH l = nd [] l := by simp [isH, h, hg]
        rw [this]
        exact hi)
      unfold impl_IsHand.f
      rw [if_pos (by omega), any_no, hg]
      simp only [Bool.not_true, Bool.false_eq_true, if_false]
      rfl
  · refine ⟨0, fun k _ => ?_⟩
    show impl_IsHand.f k l = _
    unfold impl_IsHand.f
    rw [if_neg (by omega)]
    simp [isH, h]
theorem isH_true (l : List S25) (h : isH l = true) : l.length ≤ 55 ∧ (∀ x ∈ l, good x = true) ∧ l.Nodup := by
  unfold isH at h
  simp only [Bool.and_eq_true, decide_eq_true_eq] at h
  exact ⟨h.1, List.all_eq_true.1 h.2.1, (nd_nodup l [] h.2.2).2⟩

/-! ### Order -/
def lt (x y : S25) : Prop := x.f0 < y.f0 ∨ (x.f0 = y.f0 ∧ x.f1 < y.f1)
theorem lt_irrefl (x : S25) : ¬ lt x x := by
  unfold lt
  omega
theorem lt_trans {x y z : S25} (h : lt x y) (k : lt y z) : lt x z := by
  unfold lt at *
  omega
theorem lt_asymm {x y : S25} (h : lt x y) : ¬ lt y x := by
  unfold lt at *
  omega
theorem cmpT_neg (x y : S25) (hx : good x = true) (hy : good y = true) : cmpT x y < 0 ↔ lt x y := by
  rw [good_iff] at hx hy
  unfold cmpT lt
  by_cases h : x.f0 = y.f0
  · rw [if_pos h, t_wrap _ (by omega) (by omega)]
    omega
  · rw [if_neg h, t_wrap _ (by omega) (by omega)]
    omega
theorem lt_total (x y : S25) (h : ¬ lt x y) (k : x ≠ y) : lt y x := by
  have : ¬ (x.f0 = y.f0 ∧ x.f1 = y.f1) := fun e => k (t_ext x y e.1 e.2)
  unfold lt at *
  omega

theorem uniq : ∀ (a b : List S25), a.Pairwise lt → b.Pairwise lt → (∀ x, x ∈ a ↔ x ∈ b) → a = b := by
  intro a
  induction a with
  | nil =>
    intro b _ _ h
    cases b with
    | nil => rfl
    | cons y ys => exact absurd ((h y).2 List.mem_cons_self) (by simp)
  | cons x xs ih =>
    intro b ha hb h
    cases b with
    | nil => exact absurd ((h x).1 List.mem_cons_self) (by simp)
    | cons y ys =>
      rw [List.pairwise_cons] at ha hb
      have e : x = y := by
        rcases List.mem_cons.1 ((h x).1 List.mem_cons_self) with e | e
        · exact e
        · rcases List.mem_cons.1 ((h y).2 List.mem_cons_self) with e2 | e2
          · exact e2.symm
          · exact absurd (ha.1 y e2) (lt_asymm (hb.1 x e))
      subst e
      congr 1
      refine ih ys ha.2 hb.2 (fun z => ?_)
      constructor
      · intro hz
        rcases List.mem_cons.1 ((h z).1 (List.mem_cons_of_mem _ hz)) with e | e
        · subst e
          exact absurd (ha.1 z hz) (lt_irrefl z)
        · exact e
      · intro hz
        rcases List.mem_cons.1 ((h z).2 (List.mem_cons_of_mem _ hz)) with e | e
        · subst e
          exact absurd (hb.1 z hz) (lt_irrefl z)
        · exact e

theorem sortedT_iff : ∀ (l : List S25), (∀ x ∈ l, good x = true) → l.Nodup → (sortedT l = true ↔ l.Pairwise lt) := by
  intro l
  induction l with
  | nil => intro _ _; exact ⟨fun _ => List.Pairwise.nil, fun _ => rfl⟩
  | cons x xs ih =>
    intro hg hn
    rw [List.nodup_cons] at hn
    have hgx := hg x List.mem_cons_self
    have hi := ih (fun y hy => hg y (List.mem_cons_of_mem _ hy)) hn.2
    unfold sortedT
    cases xs with
    | nil => simp [sortedT]
    | cons y ys =>
      have hgy := hg y (by simp)
      simp only [Bool.and_eq_true, Bool.not_eq_true', decide_eq_false_iff_not]
      rw [hi, cmpT_neg y x hgy hgx]
      constructor
      · rintro ⟨h1, h2⟩
        have hxy : lt x y := lt_total y x h1 (fun e => hn.1 (by rw [← e]; exact List.mem_cons_self))
        refine List.pairwise_cons.2 ⟨fun z hz => ?_, h2⟩
        rcases List.mem_cons.1 hz with rfl | hz
        · exact hxy
        · exact lt_trans hxy ((List.pairwise_cons.1 h2).1 z hz)
      · intro h
        obtain ⟨h1, h2⟩ := List.pairwise_cons.1 h
        exact ⟨lt_asymm (h1 y List.mem_cons_self), h2⟩

/-! ### The whole set -/
def code (l : List S25) : List (Int × Int) := l.map fun t => (t.f0, t.f1)
theorem code_inj (a b : List S25) (h : code a = code b) : a = b := by
  unfold code at h
  induction a generalizing b with
  | nil => cases b with
    | nil => rfl
    | cons y b => simp at h
  | cons x a ih => cases b with
    | nil => simp at h
    | cons y b =>
      simp only [List.map_cons, List.cons.injEq, Prod.mk.injEq] at h
      rw [ih b h.2]
      cases x
      cases y
      simp_all
def lst (n : Nat) : List (Int × Int) := (List.range (n + 1)).flatMap fun a => (List.range (n + 1 - a)).map fun b => ((a : Int), ((a + b : Nat) : Int))
/-- The tiles of the set of 9: in order, all, and none but them. -/
theorem whole : ∃ A : List S25, Ev (fun k => spec_tiSet.f k 9) A ∧ A.length = 55 ∧ A.Pairwise lt ∧ (∀ x, x ∈ A ↔ good x = true) := by
  have h2 : ((spec_tiSet.f 100 9).map code) = some (lst 9) := by decide +kernel
  obtain ⟨A, hA, hc⟩ := Option.map_eq_some_iff.1 h2
  have hl : (lst 9).length = 55 := by decide +kernel
  have hp : (lst 9).Pairwise (fun x y => x.1 < y.1 ∨ (x.1 = y.1 ∧ x.2 < y.2)) := by decide +kernel
  have hg : ∀ p ∈ lst 9, 0 ≤ p.1 ∧ p.1 ≤ p.2 ∧ p.2 ≤ 9 := by decide +kernel
  have hall : ∀ a : Fin 10, ∀ b : Fin 10, a.val ≤ b.val → (((a.val : Nat) : Int), ((b.val : Nat) : Int)) ∈ lst 9 := by decide +kernel
  generalize lst 9 = P at hc hl hp hg hall
  subst hc
  refine ⟨A, Ev.of (fun k => spec_tiSet.mono _ k) hA, ?_, ?_, fun x => ?_⟩
  · unfold code at hl
    rw [List.length_map] at hl
    exact hl
  · unfold code at hp
    rw [List.pairwise_map] at hp
    exact hp
  · constructor
    · intro hx
      rw [good_iff]
      exact hg (x.f0, x.f1) (by unfold code; exact List.mem_map.2 ⟨x, hx, rfl⟩)
    · intro hx
      rw [good_iff] at hx
      have := hall ⟨x.f0.toNat, by omega⟩ ⟨x.f1.toNat, by omega⟩ (by simp; omega)
      simp only at this
      rw [Int.toNat_of_nonneg (by omega), Int.toNat_of_nonneg (by omega)] at this
      unfold code at this
      obtain ⟨y, hy, e⟩ := List.mem_map.1 this
      simp only [Prod.mk.injEq] at e
      have : y = x := t_ext y x e.1 e.2
      rw [← this]
      exact hy

theorem pick_ev (l : List S25) (hl : l.length ≤ 2000000) (b : Bool) : ∀ (rest pre out : List S25), (pre ++ rest).length ≤ 1000 → out.length ≤ pre.length →
    Ev (fun k => spec_tiPick.l0 k l b out (pre ++ rest) ((pre ++ rest).length : Int) (pre.length : Int)) (out ++ rest.filter fun x => decide (x ∈ l) == b) := by
  intro rest
  induction rest with
  | nil =>
    intro pre out h1 h2
    refine Ev.step (f := fun _ => some (out ++ [])) (fun k => ?_) (Ev.now _)
    simp only [spec_tiPick.l0, List.append_nil]
    rw [if_neg (by omega)]
  | cons x xs ih =>
    intro pre out h1 h2
    have hlen : (pre ++ x :: xs).length = pre.length + xs.length + 1 := by simp; omega
    have hget : rd_T25 (pre ++ x :: xs) (pre.length : Int) = x := by
      unfold rd_T25
      exact t_mid pre x xs _
    obtain ⟨r, p1, p2⟩ := place_f x l hl
    have e1 : pre ++ [x] ++ xs = pre ++ x :: xs := by simp
    refine Ev.step (f := fun k => (spec_tiPlace.f k l x.f0 x.f1).bind fun t135 => (if ((decide (t135 ≥ 0)) == b) = true then (spec_tiPick.l0 k l b (out ++ [x]) (pre ++ x :: xs) ((pre ++ x :: xs).length : Int) (((pre ++ [x]).length : Nat) : Int)) else (spec_tiPick.l0 k l b out (pre ++ x :: xs) ((pre ++ x :: xs).length : Int) (((pre ++ [x]).length : Nat) : Int)))) (fun k => ?_) ?_
    · simp only [spec_tiPick.l0]
      rw [if_pos (by omega), if_pos (by omega), if_pos (by omega), hget, t_wrap ((pre.length : Int) + 1) (by omega) (by omega), if_pos (by omega)]
      simp
    · refine Ev.bind (f := fun k t135 => (if ((decide (t135 ≥ 0)) == b) = true then (spec_tiPick.l0 k l b (out ++ [x]) (pre ++ x :: xs) ((pre ++ x :: xs).length : Int) (((pre ++ [x]).length : Nat) : Int)) else (spec_tiPick.l0 k l b out (pre ++ x :: xs) ((pre ++ x :: xs).length : Int) (((pre ++ [x]).length : Nat) : Int)))) p1 ?_
      rw [List.filter_cons]
      cases hd : (decide (x ∈ l) == b)
      · have hi := ih (pre ++ [x]) out (by simpa using h1) (by simp; omega)
        rw [e1] at hi
        refine Ev.congr (fun k => ?_) (by simpa using hi)
        (try dsimp only)
        rw [p2, hd]
        simp
      · have hi := ih (pre ++ [x]) (out ++ [x]) (by simpa using h1) (by simp; omega)
        rw [e1] at hi
        refine Ev.congr (fun k => ?_) (by simpa using hi)
        (try dsimp only)
        rw [p2, hd]
        simp

theorem len_le : ∀ (a b : List S25), a.Nodup → (∀ x, x ∈ a → x ∈ b) → a.length ≤ b.length := by
  intro a
  induction a with
  | nil => intro b _ _; simp
  | cons x xs ih =>
    intro b hn h
    rw [List.nodup_cons] at hn
    have hx := h x List.mem_cons_self
    have := ih (b.erase x) hn.2 (fun y hy => (List.mem_erase_of_ne (fun e => hn.1 (by rw [← e]; exact hy))).2 (h y (List.mem_cons_of_mem _ hy)))
    rw [List.length_erase_of_mem hx] at this
    have hp : 0 < b.length := List.length_pos_of_mem hx
    simp
    omega
theorem len_eq (a b : List S25) (ha : a.Nodup) (hb : b.Nodup) (h : ∀ x, x ∈ a ↔ x ∈ b) : a.length = b.length :=
  Nat.le_antisymm (len_le a b ha (fun x hx => (h x).1 hx)) (len_le b a hb (fun x hx => (h x).2 hx))

/-- A hand in order. -/
theorem sort_f (l : List S25) (h : isH l = true) : ∃ s : List S25, Ev (fun k => spec_tiSort.f k l) s ∧ s.length = l.length ∧ s.Pairwise lt ∧ (∀ x, x ∈ s ↔ x ∈ l) ∧ decide (s = l) = sortedT l := by
  obtain ⟨h1, h2, h3⟩ := isH_true l h
  obtain ⟨A, hA, hl, hp, hm⟩ := whole
  have hk := pick_ev l (by omega) true A [] [] (by simp; omega) (by simp)
  simp only [List.nil_append] at hk
  have hmem : ∀ x, x ∈ A.filter (fun x => decide (x ∈ l) == true) ↔ x ∈ l := by
    intro x
    rw [List.mem_filter, hm]
    constructor
    · rintro ⟨_, h⟩
      simpa using h
    · intro h
      exact ⟨h2 x h, by simp [h]⟩
  have hps := hp.filter (fun x => decide (x ∈ l) == true)
  have hnd : ∀ (s : List S25), s.Pairwise lt → s.Nodup := fun s hs => hs.imp (fun {a b} hab e => by subst e; exact lt_irrefl a hab)
  refine ⟨A.filter (fun x => decide (x ∈ l) == true), ?_, ?_, hps, hmem, ?_⟩
  · refine Ev.congr (fun k => ?_) (Ev.bind (f := fun k t130 => (spec_tiPick.l0 k l true [] t130 (t130.length : Int) 0)) hA hk)
    unfold spec_tiSort.f spec_tiPick.f
    cases spec_tiSet.f k 9 with
    | none => rfl
    | some t =>
      simp only [Option.bind_some]
      cases spec_tiPick.l0 k l true [] t (t.length : Int) 0 with
      | none => rfl
      | some u => rfl
  · exact len_eq _ _ (hnd _ hps) h3 hmem
  · by_cases e : A.filter (fun x => decide (x ∈ l) == true) = l
    · rw [decide_eq_true e]
      rw [e] at hps
      exact ((sortedT_iff l h2 h3).2 hps).symm
    · rw [decide_eq_false e]
      cases hs : sortedT l
      · rfl
      · exact absurd (uniq _ _ hps ((sortedT_iff l h2 h3).1 hs) hmem) e

/-! Tiles of the laws and of the program; lists that are compared with themselves. -/
def conv (x : S131) : S25 := ⟨x.f0, x.f1⟩
theorem m_mid (pre : List S131) (x : S131) (xs : List S131) (d : S131) : (pre ++ x :: xs).getD pre.length d = x := by
  rw [List.getD_eq_getElem?_getD, List.getElem?_append_right (Nat.le_refl _), Nat.sub_self]
  rfl
theorem toTileS_ev : ∀ (rest pre : List S131), (pre ++ rest).length ≤ 100000000 → Ev (fun k => laws_toTileS.l0 k (pre ++ rest) (pre.map conv ++ List.replicate rest.length z25) (pre.length : Int)) ((pre ++ rest).map conv) := by
  intro rest
  induction rest with
  | nil =>
    intro pre hl
    refine Ev.step (f := fun _ => some ((pre ++ []).map conv)) (fun k => ?_) (Ev.now _)
    simp only [laws_toTileS.l0, List.append_nil]
    rw [if_neg (by omega)]
    simp
  | cons x xs ih =>
    intro pre hl
    have hlen : (pre ++ x :: xs).length = pre.length + xs.length + 1 := by simp; omega
    have hlen2 : (pre.map conv ++ List.replicate (x :: xs).length z25).length = pre.length + xs.length + 1 := by simp; omega
    have hget : rd_T131 (pre ++ x :: xs) (pre.length : Int) = x := by
      unfold rd_T131
      exact m_mid pre x xs _
    have hset : (pre.map conv ++ List.replicate (x :: xs).length z25).set ((pre.length : Int)).toNat (⟨x.f0, x.f1⟩ : S25) = (pre ++ [x]).map conv ++ List.replicate xs.length z25 := by
      rw [show ((pre.length : Int)).toNat = (pre.map conv).length from by simp, List.set_append_right _ _ (Nat.le_refl _), Nat.sub_self, List.length_cons, List.replicate_succ, List.set_cons_zero]
      simp [conv]
    have e1 : pre ++ [x] ++ xs = pre ++ x :: xs := by simp
    have hi := ih (pre ++ [x]) (by simpa using hl)
    rw [e1] at hi
    refine Ev.step (fun k => ?_) hi
    simp only [laws_toTileS.l0, laws_toTile.f, Option.bind_some]
    rw [if_pos (by omega), if_pos (by omega), hget, hlen2, if_pos (by omega), hset, t_wrap2 ((pre.length : Int) + 1) (by omega) (by omega)]
    simp
theorem toTileS_f (l : List S131) (hl : l.length ≤ 100000000) : Ev (fun k => laws_toTileS.f k l) (l.map conv) := by
  have h := toTileS_ev l [] hl
  refine Ev.congr (fun k => ?_) h
  unfold laws_toTileS.f
  rw [if_pos (by omega), if_pos (by omega)]
  simp

theorem eqTileS_ev : ∀ (rest pre : List S25), (pre ++ rest).length ≤ 100000000 → Ev (fun k => laws_eqTileS.l0 k (pre ++ rest) (pre ++ rest) (pre.length : Int)) true := by
  intro rest
  induction rest with
  | nil =>
    intro pre hl
    refine Ev.step (f := fun _ => some true) (fun k => ?_) (Ev.now _)
    simp only [laws_eqTileS.l0, List.append_nil]
    rw [if_neg (by omega)]
  | cons x xs ih =>
    intro pre hl
    have hlen : (pre ++ x :: xs).length = pre.length + xs.length + 1 := by simp; omega
    have e1 : pre ++ [x] ++ xs = pre ++ x :: xs := by simp
    have hi := ih (pre ++ [x]) (by simpa using hl)
    rw [e1] at hi
    refine Ev.step (fun k => ?_) hi
    simp only [laws_eqTileS.l0, laws_eqTile.f, if_true, Option.bind_some]
    rw [if_pos (by omega), if_pos (by omega), if_pos (by omega), t_wrap2 ((pre.length : Int) + 1) (by omega) (by omega)]
    simp
theorem eqTileS_f (l : List S25) (hl : l.length ≤ 100000000) : Ev (fun k => laws_eqTileS.f k l l) true := by
  refine Ev.congr (fun k => ?_) (eqTileS_ev l [] hl)
  unfold laws_eqTileS.f
  rw [if_pos rfl]
  rfl
theorem szTileS_f (l : List S131) (n : Int) (hl : l.length ≤ 9223372036854775807) (hn : 0 ≤ n ∧ n ≤ 1048576) : laws_szTileS.f l n = some (if (l.length : Int) ≤ n then n - l.length else -1) := by
  have hw : wrap64 (n - (l.length : Int)) = n - l.length := by
    unfold wrap64
    omega
  unfold laws_szTileS.f
  rw [hw]
  by_cases h : (l.length : Int) ≤ n
  · rw [if_neg (by omega), if_pos h]
  · rw [if_pos (by omega), if_neg h]

/-! Lists of numbers; puzzles of the laws. -/
theorem i_mid (pre : List Int) (x : Int) (xs : List Int) : rd (pre ++ x :: xs) (pre.length : Int) = x := by
  unfold rd
  rw [show ((pre.length : Int)).toNat = pre.length from rfl, List.getD_eq_getElem?_getD, List.getElem?_append_right (Nat.le_refl _), Nat.sub_self]
  rfl
theorem toIntS_ev : ∀ (rest pre : List Int), (pre ++ rest).length ≤ 100000000 → Ev (fun k => laws_toIntS.l0 k (pre ++ rest) (pre ++ List.replicate rest.length 0) (pre.length : Int)) (pre ++ rest) := by
  intro rest
  induction rest with
  | nil =>
    intro pre hl
    refine Ev.step (f := fun _ => some (pre ++ [])) (fun k => ?_) (Ev.now _)
    simp only [laws_toIntS.l0, List.append_nil]
    rw [if_neg (by omega)]
    simp
  | cons x xs ih =>
    intro pre hl
    have hlen : (pre ++ x :: xs).length = pre.length + xs.length + 1 := by simp; omega
    have hlen2 : (pre ++ List.replicate (x :: xs).length (0 : Int)).length = pre.length + xs.length + 1 := by simp; omega
    have hset : (pre ++ List.replicate (x :: xs).length (0 : Int)).set ((pre.length : Int)).toNat x = (pre ++ [x]) ++ List.replicate xs.length 0 := by
      rw [show ((pre.length : Int)).toNat = pre.length from rfl, List.set_append_right _ _ (Nat.le_refl _), Nat.sub_self, List.length_cons, List.replicate_succ, List.set_cons_zero]
      simp
    have e1 : pre ++ [x] ++ xs = pre ++ x :: xs := by simp
    have hi := ih (pre ++ [x]) (by simpa using hl)
    rw [e1] at hi
    refine Ev.step (fun k => ?_) hi
    simp only [laws_toIntS.l0]
    rw [if_pos (by omega), if_pos (by omega), hlen2, if_pos (by omega), i_mid, hset, t_wrap2 ((pre.length : Int) + 1) (by omega) (by omega)]
    simp
theorem toIntS_f (l : List Int) (hl : l.length ≤ 100000000) : Ev (fun k => laws_toIntS.f k l) l := by
  refine Ev.congr (fun k => ?_) (toIntS_ev l [] hl)
  unfold laws_toIntS.f
  rw [if_pos (by omega), if_pos (by omega)]
  simp
theorem eqIntS_ev : ∀ (rest pre : List Int), (pre ++ rest).length ≤ 100000000 → Ev (fun k => laws_eqIntS.l0 k (pre ++ rest) (pre ++ rest) (pre.length : Int)) true := by
  intro rest
  induction rest with
  | nil =>
    intro pre hl
    refine Ev.step (f := fun _ => some true) (fun k => ?_) (Ev.now _)
    simp only [laws_eqIntS.l0, List.append_nil]
    rw [if_neg (by omega)]
  | cons x xs ih =>
    intro pre hl
    have hlen : (pre ++ x :: xs).length = pre.length + xs.length + 1 := by simp; omega
    have e1 : pre ++ [x] ++ xs = pre ++ x :: xs := by simp
    have hi := ih (pre ++ [x]) (by simpa using hl)
    rw [e1] at hi
    refine Ev.step (fun k => ?_) hi
    simp only [laws_eqIntS.l0, if_true]
    rw [if_pos (by omega), if_pos (by omega), if_pos (by omega), t_wrap2 ((pre.length : Int) + 1) (by omega) (by omega)]
    simp
theorem eqIntS_f (l : List Int) (hl : l.length ≤ 100000000) : Ev (fun k => laws_eqIntS.f k l l) true := by
  refine Ev.congr (fun k => ?_) (eqIntS_ev l [] hl)
  unfold laws_eqIntS.f
  rw [if_pos rfl]
  rfl
theorem szIntS_f (l : List Int) (n : Int) (hl : l.length ≤ 9223372036854775807) (hn : 0 ≤ n ∧ n ≤ 1048576) : laws_szIntS.f l n = some (if (l.length : Int) ≤ n then n - l.length else -1) := by
  have hw : wrap64 (n - (l.length : Int)) = n - l.length := by
    unfold wrap64
    omega
  unfold laws_szIntS.f
  rw [hw]
  by_cases h : (l.length : Int) ≤ n
  · rw [if_neg (by omega), if_pos h]
  · rw [if_pos (by omega), if_neg h]
/-- Either a puzzle of the laws is too large to be asked, or it is small. -/
theorem szPuzzle_f (l : List S131) (c : List Int) (hl : l.length ≤ 9223372036854775807) (hc : c.length ≤ 9223372036854775807) :
    laws_szPuzzle.f l c 1048576 = some (-1) ∨ ∃ n, laws_szPuzzle.f l c 1048576 = some n ∧ ¬ n < 0 ∧ l.length ≤ 1048576 ∧ c.length ≤ 1048576 := by
  unfold laws_szPuzzle.f
  rw [szTileS_f l 1048576 hl (by omega)]
  by_cases h : (l.length : Int) ≤ 1048576
  · rw [if_pos h]
    simp only [Option.bind_some]
    rw [if_neg (by omega), szIntS_f c _ hc (by omega)]
    by_cases h2 : (c.length : Int) ≤ 1048576 - l.length
    · rw [if_pos h2]
      simp only [Option.bind_some]
      rw [if_neg (by omega)]
      exact .inr ⟨_, rfl, by omega, by omega, by omega⟩
    · rw [if_neg h2]
      exact .inl rfl
  · rw [if_neg h]
    exact .inl rfl
theorem toPuzzle_f (l : List S131) (c : List Int) (hl : l.length ≤ 1048576) (hc : c.length ≤ 1048576) : Ev (fun k => laws_toPuzzle.f k l c) (l.map conv, c) := by
  unfold laws_toPuzzle.f
  exact Ev.bind (f := fun k t122 => ((laws_toIntS.f k c).bind fun t125 => (some (t122, t125)))) (toTileS_f l (by omega)) (Ev.bind (f := fun _ t125 => (some (l.map conv, t125))) (toIntS_f c (by omega)) ⟨0, fun k _ => rfl⟩)
theorem eqPuzzle_f (l : List S25) (c : List Int) (hl : l.length ≤ 1048576) (hc : c.length ≤ 1048576) : Ev (fun k => laws_eqPuzzle.f k l c l c) true := by
  unfold laws_eqPuzzle.f
  refine Ev.bind (f := fun k t137 => (if t137 = true then ((laws_eqIntS.f k c c).bind fun t138 => (if t138 = true then (some true) else (some false))) else (some false))) (eqTileS_f l (by omega)) ?_
  simp only [if_true]
  exact Ev.bind (f := fun _ t138 => (if t138 = true then (some true) else (some false))) (eqIntS_f c (by omega)) ⟨0, fun k _ => rfl⟩

/-! What a puzzle is, the same on both sides. -/
theorem l1In_f (n lo hi : Int) : spec_l1In.f n lo hi = some (inB lo hi n) := by
  unfold spec_l1In.f inB
  by_cases h1 : lo ≤ n
  · rw [if_pos (show n ≥ lo from h1)]
    simp [h1]
  · rw [if_neg (show ¬ n ≥ lo from h1)]
    simp [h1]
theorem l1All_ev (lo hi : Int) : ∀ (rest pre : List Int), (pre ++ rest).length ≤ 2000000 → Ev (fun k => spec_l1All.l0 k lo hi (pre ++ rest) ((pre ++ rest).length : Int) (pre.length : Int)) (rest.all (inB lo hi)) := by
  intro rest
  induction rest with
  | nil =>
    intro pre hl
    refine Ev.step (f := fun _ => some true) (fun k => ?_) (Ev.now _)
    simp only [spec_l1All.l0, List.append_nil]
    rw [if_neg (by omega)]
  | cons x xs ih =>
    intro pre hl
    have hlen : (pre ++ x :: xs).length = pre.length + xs.length + 1 := by simp; omega
    have e1 : pre ++ [x] ++ xs = pre ++ x :: xs := by simp
    have hq := ih (pre ++ [x]) (by simpa using hl)
    rw [e1] at hq
    rw [List.all_cons]
    cases hx : inB lo hi x
    · refine Ev.step (f := fun _ => some false) (fun k => ?_) (Ev.now _)
      simp only [spec_l1All.l0]
      rw [if_pos (by omega), if_pos (by omega), if_pos (by omega), i_mid, l1In_f, hx]
      rfl
    · rw [Bool.true_and]
      refine Ev.step (fun k => ?_) hq
      simp only [spec_l1All.l0]
      rw [if_pos (by omega), if_pos (by omega), if_pos (by omega), i_mid, l1In_f, hx, t_wrap ((pre.length : Int) + 1) (by omega) (by omega)]
      simp
theorem l1All_f (lo hi : Int) (l : List Int) (hl : l.length ≤ 2000000) : Ev (fun k => spec_l1All.f k l lo hi) (l.all (inB lo hi)) := l1All_ev lo hi l [] hl
theorem any_out (lo hi : Int) (l : List Int) : (!(l.any fun n => !inB lo hi n)) = l.all (inB lo hi) := by
  induction l with
  | nil => rfl
  | cons x xs ih => rw [List.any_cons, List.all_cons, ← ih]; cases inB lo hi x <;> simp
theorem pzl_ev (s l : List S25) (c : List Int) (hs : s.length ≤ l.length) (hl : l.length ≤ 1000) : ∀ (d i : Nat), i + d = s.length → ∃ b : Bool, Ev (fun k => spec_pzGood.l0 k s (s.length : Int) (i : Int) l c) b ∧ (b = true ↔ ∀ j, i ≤ j → j < s.length → s.getD j z25 = l.getD j z25) := by
  intro d
  induction d with
  | zero =>
    intro i hi
    refine ⟨true, Ev.step (f := fun _ => some true) (fun k => ?_) (Ev.now _), by simp; intro j h1 h2; omega⟩
    simp only [spec_pzGood.l0]
    rw [if_neg (by omega)]
  | succ d ih =>
    intro i hi
    obtain ⟨b, h1, h2⟩ := ih (i + 1) (by omega)
    have hb : (!(((rd_T25 s (i : Int)).f0) == ((rd_T25 l (i : Int)).f0)) || (!(((rd_T25 s (i : Int)).f1) == ((rd_T25 l (i : Int)).f1)))) = !decide (s.getD i z25 = l.getD i z25) := by
      rw [← t_beq]
      unfold rd_T25
      rw [show ((i : Int)).toNat = i from rfl, Bool.not_and]
    by_cases e : s.getD i z25 = l.getD i z25
    · refine ⟨b, Ev.step (fun k => ?_) h1, ?_⟩
      · simp only [spec_pzGood.l0]
        rw [if_pos (by omega), if_pos (by omega), if_pos (by omega), if_pos (by omega), hb, if_neg (by simp only [e]; simp), t_wrap ((i : Int) + 1) (by omega) (by omega)]
        rfl
      · rw [h2]
        constructor
        · intro h j hj1 hj2
          by_cases ej : j = i
          · subst ej
            exact e
          · exact h j (by omega) hj2
        · intro h j hj1 hj2
          exact h j (by omega) hj2
    · refine ⟨false, Ev.step (f := fun _ => some false) (fun k => ?_) (Ev.now _), ?_⟩
      · simp only [spec_pzGood.l0]
        rw [if_pos (by omega), if_pos (by omega), if_pos (by omega), if_pos (by omega), hb, if_pos (by simp only [decide_eq_false e]; rfl)]
      · constructor
        · intro h
          cases h
        · intro h
          exact absurd (h i (Nat.le_refl _) (by omega)) e
theorem pzl_all (s l : List S25) (c : List Int) (hs : s.length = l.length) (hl : l.length ≤ 1000) : Ev (fun k => spec_pzGood.l0 k s (s.length : Int) 0 l c) (decide (s = l)) := by
  obtain ⟨b, h1, h2⟩ := pzl_ev s l c (by omega) hl s.length 0 (by omega)
  have : b = decide (s = l) := by
    rw [Bool.eq_iff_iff, h2, decide_eq_true_eq]
    constructor
    · intro h
      apply List.ext_getElem hs
      intro j j1 j2
      have := h j (by omega) j1
      rw [List.getD_eq_getElem?_getD, List.getD_eq_getElem?_getD, List.getElem?_eq_getElem j2, List.getElem?_eq_getElem j1] at this
      exact this
    · intro e j _ _
      rw [e]
  rw [← this]
  exact h1
/-- Is it a puzzle? -/
def pz (l : List S25) (c : List Int) : Bool := inB 1 9 (l.length : Int) && (isH l && (decide ((c.length : Int) = (l.length : Int) + 1) && (c.all (inB (-1) 9) && sortedT l)))
theorem inB_iff (lo hi n : Int) : inB lo hi n = true ↔ lo ≤ n ∧ n ≤ hi := by
  unfold inB
  simp
theorem pz_true (l : List S25) (c : List Int) (h : pz l c = true) : 1 ≤ l.length ∧ l.length ≤ 9 ∧ isH l = true ∧ c.length = l.length + 1 ∧ (∀ x ∈ c, -1 ≤ x ∧ x ≤ 9) ∧ sortedT l = true := by
  unfold pz at h
  simp only [Bool.and_eq_true, decide_eq_true_eq, inB_iff] at h
  obtain ⟨h1, h2, h3, h4, h5⟩ := h
  refine ⟨by omega, by omega, h2, by omega, fun x hx => ?_, h5⟩
  exact (inB_iff _ _ _).1 (List.all_eq_true.1 h4 x hx)
theorem pz_spec (l : List S25) (c : List Int) (hl : l.length ≤ 2000000) (hc : c.length ≤ 2000000) : Ev (fun k => spec_pzGood.f k l c) (pz l c) := by
  unfold spec_pzGood.f
  rw [l1In_f]
  simp only [Option.bind_some]
  cases h1 : inB 1 9 (l.length : Int)
  · refine Ev.step (f := fun _ => some (pz l c)) (fun k => ?_) (Ev.now _)
    simp [spec_pzGood.j0, pz, h1]
  · simp only [if_true]
    have s1 := isH_spec l hl
    have hln := (inB_iff _ _ _).1 h1
    refine Ev.bind (f := fun k t171 => (if t171 = true then (if (c.length : Int) = (wrap64 ((l.length : Int) + 1)) then ((spec_l1All.f k c (-1) 9).bind fun t172 => (spec_pzGood.j0 k (!t172) l c)) else (spec_pzGood.j0 k true l c)) else (spec_pzGood.j0 k true l c))) s1 ?_
    rw [t_wrap ((l.length : Int) + 1) (by omega) (by omega)]
    cases h2 : isH l
    · refine Ev.step (f := fun _ => some (pz l c)) (fun k => ?_) (Ev.now _)
      simp [spec_pzGood.j0, pz, h1, h2]
    · by_cases h3 : (c.length : Int) = (l.length : Int) + 1
      · have hd : decide ((c.length : Int) = (l.length : Int) + 1) = true := decide_eq_true h3
        simp only [if_true, h3]
        refine Ev.bind (f := fun k t172 => (spec_pzGood.j0 k (!t172) l c)) (l1All_f (-1) 9 c hc) ?_
        cases h4 : c.all (inB (-1) 9)
        · refine Ev.step (f := fun _ => some (pz l c)) (fun k => ?_) (Ev.now _)
          simp [spec_pzGood.j0, pz, h1, h2, hd, h4]
        · obtain ⟨s, q1, q2, _, _, q5⟩ := sort_f l h2
          have e : pz l c = decide (s = l) := by
            unfold pz
            rw [h1, h2, hd, h4, q5]
            rfl
          rw [e]
          refine Ev.step (f := fun k => (spec_tiSort.f k l).bind fun t173 => (spec_pzGood.l0 k t173 (t173.length : Int) 0 l c)) (fun k => ?_) (Ev.bind (f := fun k t173 => (spec_pzGood.l0 k t173 (t173.length : Int) 0 l c)) q1 (pzl_all s l c q2 (by omega)))
          simp [spec_pzGood.j0]
      · have hd : decide ((c.length : Int) = (l.length : Int) + 1) = false := decide_eq_false h3
        refine Ev.step (f := fun _ => some (pz l c)) (fun k => ?_) (Ev.now _)
        simp only [if_true]
        rw [if_neg h3]
        simp [spec_pzGood.j0, pz, h1, h2, hd]
theorem pz_impl (l : List S25) (c : List Int) (hl : l.length ≤ 2000000) : Ev (fun k => impl_IsPuzzle.f k l c) (pz l c) := by
  unfold impl_IsPuzzle.f impl_areWithin.f
  refine Ev.bind (f := fun k b1 => if b1 = true then (if inB 1 9 (l.length : Int) = true then (if sortedT l = true then (if (c.length : Int) = (l.length : Int) + 1 then some (!(c.any fun n => !inB (-1) 9 n)) else some false) else some false) else some false) else some false) (isH_impl l hl) ⟨0, fun k _ => ?_⟩
  (try dsimp only)
  rw [any_out]
  unfold pz
  by_cases h3 : (c.length : Int) = (l.length : Int) + 1
  · rw [decide_eq_true h3]
    cases isH l <;> cases inB 1 9 (l.length : Int) <;> cases sortedT l <;> simp [h3]
  · rw [decide_eq_false h3]
    cases isH l <;> cases inB 1 9 (l.length : Int) <;> cases sortedT l <;> simp [h3]

/-! Texts, as lists of bytes. -/
theorem ba_ext (a b : ByteArray) (h : a.data.toList = b.data.toList) : a = b := by
  cases a
  cases b
  simp only [ByteArray.mk.injEq]
  exact Array.toList_inj.1 h
theorem ba_app (a b : ByteArray) : (a ++ b).data.toList = a.data.toList ++ b.data.toList := by
  rw [ByteArray.data_append, Array.toList_append]
theorem ba_size (a : ByteArray) : a.size = a.data.toList.length := rfl
theorem s_num (n : Int) : (strOfNums [(wrap64 (48 + n)) % 256]).size = 1 := by
  rw [strOfNums_size]
  rfl
theorem s_44 : (⟨#[44]⟩ : ByteArray).size = 1 := rfl
theorem s_46 : (⟨#[46]⟩ : ByteArray).size = 1 := rfl
theorem s_58 : (⟨#[58]⟩ : ByteArray).size = 1 := rfl
theorem s_0 : (⟨#[]⟩ : ByteArray).size = 0 := rfl
/-- A number's digit. -/
def dg (n : Int) : UInt8 := UInt8.ofNat ((wrap64 (48 + n)) % 256).toNat
def tl (x : S25) : List UInt8 := [dg x.f0, dg x.f1]
theorem num_f (n : Int) (h : n < 10) : Ev (fun k => spec_l1Num.f k n) (strOfNums [(wrap64 (48 + n)) % 256]) := by
  refine Ev.step (f := fun _ => some (strOfNums [(wrap64 (48 + n)) % 256])) (fun k => ?_) (Ev.now _)
  simp only [spec_l1Num.f]
  rw [if_pos h]
theorem num_list (n : Int) : (strOfNums [(wrap64 (48 + n)) % 256]).data.toList = [dg n] := rfl
theorem joinTail_len (l : List S25) : (Lib.joinTail [44] (l.map tl)).length = 3 * l.length := by
  induction l with
  | nil => rfl
  | cons x xs ih =>
    have : Lib.joinTail [44] ((x :: xs).map tl) = [44] ++ tl x ++ Lib.joinTail [44] (xs.map tl) := by simp [Lib.joinTail]
    rw [this]
    simp only [List.length_append, List.length_cons, ih, tl, List.length_nil]
    omega
theorem joinTail_cons (x : S25) (xs : List S25) : Lib.joinTail [44] ((x :: xs).map tl) = 44 :: dg x.f0 :: dg x.f1 :: Lib.joinTail [44] (xs.map tl) := by
  simp [Lib.joinTail, tl]
theorem tt_ev : ∀ (rest pre : List S25) (o : ByteArray), (∀ x ∈ rest, x.f0 < 10 ∧ x.f1 < 10) → 0 < pre.length → (pre ++ rest).length ≤ 1000 → o.size + 3 * rest.length ≤ 10000 →
    ∃ y : ByteArray, Ev (fun k => spec_tiText.l0 k o (pre ++ rest) ((pre ++ rest).length : Int) (pre.length : Int)) y ∧ y.data.toList = o.data.toList ++ Lib.joinTail [44] (rest.map tl) := by
  intro rest
  induction rest with
  | nil =>
    intro pre o _ h0 h1 h2
    refine ⟨o, Ev.step (f := fun _ => some o) (fun k => ?_) (Ev.now _), by simp [Lib.joinTail]⟩
    simp only [spec_tiText.l0, List.append_nil]
    rw [if_neg (by omega)]
  | cons x xs ih =>
    intro pre o hd h0 h1 h2
    have hlen : (pre ++ x :: xs).length = pre.length + xs.length + 1 := by simp; omega
    have hl2 : (x :: xs).length = xs.length + 1 := rfl
    have hget : rd_T25 (pre ++ x :: xs) (pre.length : Int) = x := by
      unfold rd_T25
      exact t_mid pre x xs _
    have e1 : pre ++ [x] ++ xs = pre ++ x :: xs := by simp
    obtain ⟨hx0, hx1⟩ := hd x List.mem_cons_self
    have hol : ((o ++ (⟨#[44]⟩ : ByteArray)) ++ (strOfNums [(wrap64 (48 + x.f0)) % 256] ++ strOfNums [(wrap64 (48 + x.f1)) % 256])).data.toList = o.data.toList ++ [44] ++ ([dg x.f0] ++ [dg x.f1]) := by
      rw [ba_app, ba_app, ba_app, num_list, num_list]
    obtain ⟨y, y1, y2⟩ := ih (pre ++ [x]) ((o ++ (⟨#[44]⟩ : ByteArray)) ++ (strOfNums [(wrap64 (48 + x.f0)) % 256] ++ strOfNums [(wrap64 (48 + x.f1)) % 256])) (fun z hz => hd z (List.mem_cons_of_mem _ hz)) (by simp) (by simpa using h1) (by simp only [ByteArray.size_append, s_num, s_44, s_46, s_58, s_0]; omega)
    rw [e1] at y1
    refine ⟨y, Ev.step (f := fun k => (spec_l1Num.f k x.f0).bind fun a => (spec_l1Num.f k x.f1).bind fun b => (if a.size + b.size ≤ 9223372036854775807 then (if (o ++ (⟨#[44]⟩ : ByteArray)).size + (a ++ b).size ≤ 9223372036854775807 then (spec_tiText.l0 k ((o ++ (⟨#[44]⟩ : ByteArray)) ++ (a ++ b)) (pre ++ x :: xs) ((pre ++ x :: xs).length : Int) (((pre ++ [x]).length : Nat) : Int)) else none) else none)) (fun k => ?_) ?_, ?_⟩
    · simp only [spec_tiText.l0]
      rw [if_pos (by omega), if_pos (by omega), if_pos (by omega), if_pos (by omega), if_pos (by omega), hget, t_wrap ((pre.length : Int) + 1) (by omega) (by omega)]
      simp
    · refine Ev.bind (f := fun k a => _) (num_f _ hx0) ?_
      refine Ev.bind (f := fun k b => _) (num_f _ hx1) ?_
      simp only [if_pos (show (strOfNums [(wrap64 (48 + x.f0)) % 256]).size + (strOfNums [(wrap64 (48 + x.f1)) % 256]).size ≤ 9223372036854775807 from by simp only [ByteArray.size_append, s_num, s_44, s_46, s_58, s_0]; omega),
        if_pos (show (o ++ (⟨#[44]⟩ : ByteArray)).size + (strOfNums [(wrap64 (48 + x.f0)) % 256] ++ strOfNums [(wrap64 (48 + x.f1)) % 256]).size ≤ 9223372036854775807 from by simp only [ByteArray.size_append, s_num, s_44, s_46, s_58, s_0]; omega)]
      exact y1
    · rw [y2, hol, joinTail_cons]
      simp
/-- The reference's text of a hand. -/
theorem tt_f (l : List S25) (hl : l.length ≤ 55) (hd : ∀ x ∈ l, x.f0 < 10 ∧ x.f1 < 10) : ∃ y : ByteArray, Ev (fun k => spec_tiText.f k l) y ∧ y.data.toList = (if l = [] then [45] else Lib.join (l.map tl) [44]) := by
  unfold spec_tiText.f
  cases l with
  | nil => exact ⟨⟨#[45]⟩, ⟨0, fun k _ => rfl⟩, rfl⟩
  | cons x xs =>
    have hl2 : (x :: xs).length = xs.length + 1 := rfl
    obtain ⟨hx0, hx1⟩ := hd x List.mem_cons_self
    have hol : ((⟨#[]⟩ : ByteArray) ++ (strOfNums [(wrap64 (48 + x.f0)) % 256] ++ strOfNums [(wrap64 (48 + x.f1)) % 256])).data.toList = [dg x.f0] ++ [dg x.f1] := by
      rw [ba_app, ba_app, num_list, num_list]
      rfl
    obtain ⟨y, y1, y2⟩ := tt_ev xs [x] ((⟨#[]⟩ : ByteArray) ++ (strOfNums [(wrap64 (48 + x.f0)) % 256] ++ strOfNums [(wrap64 (48 + x.f1)) % 256])) (fun z hz => hd z (List.mem_cons_of_mem _ hz)) (by simp) (by simp; omega) (by simp only [ByteArray.size_append, s_num, s_44, s_46, s_58, s_0]; omega)
    refine ⟨y, ?_, ?_⟩
    · simp only [if_neg (show ¬ ((x :: xs).length : Int) = 0 from by omega)]
      refine Ev.step (f := fun k => (spec_l1Num.f k x.f0).bind fun a => (spec_l1Num.f k x.f1).bind fun b => (if a.size + b.size ≤ 9223372036854775807 then (if (⟨#[]⟩ : ByteArray).size + (a ++ b).size ≤ 9223372036854775807 then (spec_tiText.l0 k ((⟨#[]⟩ : ByteArray) ++ (a ++ b)) (x :: xs) ((x :: xs).length : Int) 1) else none) else none)) (fun k => ?_) ?_
      · have hget : rd_T25 (x :: xs) 0 = x := rfl
        simp only [spec_tiText.l0]
        rw [if_pos (by omega), if_pos (by omega), if_pos (by omega), if_neg (by omega), hget, t_wrap (0 + 1) (by omega) (by omega)]
        rfl
      · refine Ev.bind (f := fun k a => _) (num_f _ hx0) ?_
        refine Ev.bind (f := fun k b => _) (num_f _ hx1) ?_
        simp only [if_pos (show (strOfNums [(wrap64 (48 + x.f0)) % 256]).size + (strOfNums [(wrap64 (48 + x.f1)) % 256]).size ≤ 9223372036854775807 from by simp only [ByteArray.size_append, s_num, s_44, s_46, s_58, s_0]; omega),
          if_pos (show (⟨#[]⟩ : ByteArray).size + (strOfNums [(wrap64 (48 + x.f0)) % 256] ++ strOfNums [(wrap64 (48 + x.f1)) % 256]).size ≤ 9223372036854775807 from by simp only [ByteArray.size_append, s_num, s_44, s_46, s_58, s_0]; omega)]
        exact y1
    · rw [y2, hol, if_neg (by simp), List.map_cons, Lib.join_cons]
      rfl
theorem ht_ev : ∀ (rest pre : List S25) (P : List ByteArray), P.map (·.data.toList) = pre.map tl → (pre ++ rest).length ≤ 55 → 0 < (pre ++ rest).length →
    Ev (fun k => impl_handText.l0 k P (pre ++ rest) ((pre ++ rest).length : Int) (pre.length : Int)) ⟨(Lib.join ((pre ++ rest).map tl) [44]).toArray⟩ := by
  intro rest
  induction rest with
  | nil =>
    intro pre P hP h1 h2
    have hPl : P.length = pre.length := by
      have := congrArg List.length hP
      simpa using this
    simp only [List.append_nil] at h1 h2 ⊢
    refine Ev.step (f := fun _ => some ⟨(Lib.join (pre.map tl) [44]).toArray⟩) (fun k => ?_) (Ev.now _)
    simp only [impl_handText.l0]
    rw [if_neg (by omega)]
    unfold strings_Join.f
    have hj : Lib.join (P.map (·.data.toList)) (⟨#[44]⟩ : ByteArray).data.toList = Lib.join (pre.map tl) [44] := by rw [hP]
    have hlen : (Lib.join (pre.map tl) [44]).length ≤ 1000 := by
      cases pre with
      | nil => simp at h2
      | cons x xs =>
        rw [List.map_cons, Lib.join_cons, List.length_append, joinTail_len]
        simp [tl] at h1 ⊢
        omega
    rw [hj, if_pos ⟨by omega, by omega⟩]
    rfl
  | cons x xs ih =>
    intro pre P hP h1 h2
    have hlen : (pre ++ x :: xs).length = pre.length + xs.length + 1 := by simp; omega
    have hPl : P.length = pre.length := by
      have := congrArg List.length hP
      simpa using this
    have hget : rd_T25 (pre ++ x :: xs) (pre.length : Int) = x := by
      unfold rd_T25
      exact t_mid pre x xs _
    have e1 : pre ++ [x] ++ xs = pre ++ x :: xs := by simp
    have hi := ih (pre ++ [x]) (P ++ [strOfNums [(wrap64 (48 + x.f0)) % 256, (wrap64 (48 + x.f1)) % 256]]) (by rw [List.map_append, List.map_append, hP]; rfl) (by simpa using h1) (by simp; omega)
    rw [e1] at hi
    refine Ev.step (fun k => ?_) hi
    simp only [impl_handText.l0, impl_Tile_digits.f, Option.bind_some]
    rw [if_pos (by omega), if_pos (by omega), if_pos (by omega), if_pos (by omega), hget, t_wrap ((pre.length : Int) + 1) (by omega) (by omega)]
    simp
theorem ht_f (l : List S25) (hl : l.length ≤ 55) : ∃ y : ByteArray, Ev (fun k => impl_handText.f k l) y ∧ y.data.toList = (if l = [] then [45] else Lib.join (l.map tl) [44]) := by
  unfold impl_handText.f
  cases l with
  | nil => exact ⟨⟨#[45]⟩, ⟨0, fun k _ => rfl⟩, rfl⟩
  | cons x xs =>
    have hl2 : (x :: xs).length = xs.length + 1 := rfl
    refine ⟨⟨(Lib.join ((x :: xs).map tl) [44]).toArray⟩, ?_, by simp⟩
    simp only [if_neg (show ¬ ((x :: xs).length : Int) = 0 from by omega)]
    exact ht_ev (x :: xs) [] [] rfl (by simpa using hl) (by simp)
/-! ### The chain's text -/
def cd (n : Int) : UInt8 := if n < 0 then 46 else dg n
theorem ct_spec : ∀ (rest pre : List Int) (o : ByteArray), (∀ x ∈ rest, x < 10) → (pre ++ rest).length ≤ 1000 → o.size + rest.length ≤ 10000 →
    ∃ y : ByteArray, Ev (fun k => spec_pzText.l0 k o (pre ++ rest) ((pre ++ rest).length : Int) (pre.length : Int)) y ∧ y.data.toList = o.data.toList ++ rest.map cd := by
  intro rest
  induction rest with
  | nil =>
    intro pre o _ h1 h2
    refine ⟨o, Ev.step (f := fun _ => some o) (fun k => ?_) (Ev.now _), by simp⟩
    simp only [spec_pzText.l0, List.append_nil]
    rw [if_neg (by omega)]
  | cons x xs ih =>
    intro pre o hd h1 h2
    have hlen : (pre ++ x :: xs).length = pre.length + xs.length + 1 := by simp; omega
    have hl2 : (x :: xs).length = xs.length + 1 := rfl
    have e1 : pre ++ [x] ++ xs = pre ++ x :: xs := by simp
    by_cases hx : x < 0
    · have hol : (o ++ (⟨#[46]⟩ : ByteArray)).data.toList = o.data.toList ++ [46] := ba_app _ _
      obtain ⟨y, y1, y2⟩ := ih (pre ++ [x]) (o ++ (⟨#[46]⟩ : ByteArray)) (fun z hz => hd z (List.mem_cons_of_mem _ hz)) (by simpa using h1) (by simp only [ByteArray.size_append, s_num, s_44, s_46, s_58, s_0]; omega)
      rw [e1] at y1
      refine ⟨y, Ev.step (fun k => ?_) y1, by rw [y2, hol]; simp [cd, hx]⟩
      simp only [spec_pzText.l0]
      rw [if_pos (by omega), if_pos (by omega), if_pos (by omega), i_mid, if_pos hx, if_pos (by omega), t_wrap ((pre.length : Int) + 1) (by omega) (by omega)]
      simp
    · have hol : (o ++ strOfNums [(wrap64 (48 + x)) % 256]).data.toList = o.data.toList ++ [dg x] := by rw [ba_app, num_list]
      obtain ⟨y, y1, y2⟩ := ih (pre ++ [x]) (o ++ strOfNums [(wrap64 (48 + x)) % 256]) (fun z hz => hd z (List.mem_cons_of_mem _ hz)) (by simpa using h1) (by simp only [ByteArray.size_append, s_num, s_44, s_46, s_58, s_0]; omega)
      rw [e1] at y1
      refine ⟨y, Ev.step (f := fun k => (spec_l1Num.f k x).bind fun t => (if o.size + t.size ≤ 9223372036854775807 then (spec_pzText.l0 k (o ++ t) (pre ++ x :: xs) ((pre ++ x :: xs).length : Int) (((pre ++ [x]).length : Nat) : Int)) else none)) (fun k => ?_) ?_, by rw [y2, hol]; simp [cd, hx]⟩
      · simp only [spec_pzText.l0]
        rw [if_pos (by omega), if_pos (by omega), if_pos (by omega), i_mid, if_neg hx, t_wrap ((pre.length : Int) + 1) (by omega) (by omega)]
        simp
      · refine Ev.bind (f := fun k b => _) (num_f _ (hd x List.mem_cons_self)) ?_
        simp only [if_pos (show o.size + (strOfNums [(wrap64 (48 + x)) % 256]).size ≤ 9223372036854775807 from by simp only [ByteArray.size_append, s_num, s_44, s_46, s_58, s_0]; omega)]
        exact y1
theorem ct_impl : ∀ (rest pre : List Int) (P : List Int), P.map (fun n => UInt8.ofNat n.toNat) = pre.map cd → (pre ++ rest).length ≤ 1000 →
    ∃ y : ByteArray, Ev (fun k => impl_chainText.l0 k P (pre ++ rest) ((pre ++ rest).length : Int) (pre.length : Int)) y ∧ y.data.toList = (pre ++ rest).map cd := by
  intro rest
  induction rest with
  | nil =>
    intro pre P hP h1
    refine ⟨strOfNums P, Ev.step (f := fun _ => some (strOfNums P)) (fun k => ?_) (Ev.now _), ?_⟩
    · simp only [impl_chainText.l0, List.append_nil]
      rw [if_neg (by omega)]
    · rw [List.append_nil, ← hP]
      rfl
  | cons x xs ih =>
    intro pre P hP h1
    have hlen : (pre ++ x :: xs).length = pre.length + xs.length + 1 := by simp; omega
    have hPl : P.length = pre.length := by
      have := congrArg List.length hP
      simpa using this
    have e1 : pre ++ [x] ++ xs = pre ++ x :: xs := by simp
    by_cases hx : x < 0
    · obtain ⟨y, y1, y2⟩ := ih (pre ++ [x]) (P ++ [46]) (by rw [List.map_append, List.map_append, hP]; simp [cd, hx]) (by simpa using h1)
      rw [e1] at y1 y2
      refine ⟨y, Ev.step (fun k => ?_) y1, y2⟩
      simp only [impl_chainText.l0]
      rw [if_pos (by omega), if_pos (by omega), if_pos (by omega), i_mid, if_pos hx, if_pos (by omega), t_wrap ((pre.length : Int) + 1) (by omega) (by omega)]
      simp
    · obtain ⟨y, y1, y2⟩ := ih (pre ++ [x]) (P ++ [(wrap64 (48 + x)) % 256]) (by rw [List.map_append, List.map_append, hP]; simp [cd, hx, dg]) (by simpa using h1)
      rw [e1] at y1 y2
      refine ⟨y, Ev.step (fun k => ?_) y1, y2⟩
      simp only [impl_chainText.l0]
      rw [if_pos (by omega), if_pos (by omega), if_pos (by omega), i_mid, if_neg hx, if_pos (by omega), t_wrap ((pre.length : Int) + 1) (by omega) (by omega)]
      simp
theorem text_both (l : List S25) (c : List Int) (hl : l.length ≤ 2000000) (hc : c.length ≤ 2000000) : ∃ r : ByteArray × Bool, Ev (fun k => spec_PuzzleText.f k l c) r ∧ Ev (fun k => impl_PuzzleText.f k l c) r := by
  have h1 := pz_spec l c hl hc
  have h2 := pz_impl l c hl
  unfold spec_PuzzleText.f impl_PuzzleText.f
  cases hp : pz l c
  · rw [hp] at h1 h2
    exact ⟨(⟨#[]⟩, false), Ev.bind (f := fun k t => _) h1 ⟨0, fun k _ => by simp⟩, Ev.bind (f := fun k t => _) h2 ⟨0, fun k _ => by simp⟩⟩
  · rw [hp] at h1 h2
    obtain ⟨p1, p2, p3, p4, p5, _⟩ := pz_true l c hp
    obtain ⟨_, q2, _⟩ := isH_true l p3
    have hd : ∀ x ∈ l, x.f0 < 10 ∧ x.f1 < 10 := by
      intro x hx
      have := (good_iff x).1 (q2 x hx)
      omega
    obtain ⟨a, a1, a2⟩ := tt_f l (by omega) hd
    obtain ⟨b, b1, b2⟩ := ht_f l (by omega)
    have hab : b = a := ba_ext _ _ (by rw [a2, b2])
    subst hab
    have hbl : b.size ≤ 1000 := by
      rw [ba_size, a2]
      split
      · simp
      · rename_i hne
        cases l with
        | nil => exact absurd rfl hne
        | cons x xs =>
          rw [List.map_cons, Lib.join_cons, List.length_append, joinTail_len]
          simp [tl] at p2 ⊢
          omega
    have hol : (b ++ (⟨#[58]⟩ : ByteArray)).data.toList = b.data.toList ++ [58] := ba_app _ _
    obtain ⟨u, u1, u2⟩ := ct_spec c [] (b ++ (⟨#[58]⟩ : ByteArray)) (fun x hx => by have := p5 x hx; omega) (by simp; omega) (by simp only [ByteArray.size_append, s_num, s_44, s_46, s_58, s_0]; omega)
    obtain ⟨v, v1, v2⟩ := ct_impl c [] [] rfl (by simp; omega)
    have hv : (b ++ (⟨#[58]⟩ : ByteArray)) ++ v = u := ba_ext _ _ (by rw [ba_app, u2, v2]; rfl)
    have hvl : v.size ≤ 1000 := by
      rw [ba_size, v2, List.length_map]
      simp
      omega
    refine ⟨(u, true), Ev.bind (f := fun k t => _) h1 ?_, Ev.bind (f := fun k t => _) h2 ?_⟩
    · simp only [if_true]
      unfold spec_pzText.f
      refine Ev.bind (f := fun k t => _) (show Ev (fun k => (spec_tiText.f k l).bind fun t193 => (if t193.size + 1 ≤ 9223372036854775807 then (spec_pzText.l0 k (t193 ++ (⟨#[58]⟩ : ByteArray)) c (c.length : Int) 0) else (none))) u from ?_) ⟨0, fun k _ => rfl⟩
      refine Ev.bind (f := fun k (t193 : ByteArray) => _) a1 ?_
      simp only [if_pos (show b.size + 1 ≤ 9223372036854775807 from by omega)]
      exact u1
    · simp only [if_true]
      refine Ev.bind (f := fun k (t : ByteArray) => _) b1 ?_
      simp only [if_pos (show b.size + 1 ≤ 9223372036854775807 from by omega)]
      refine Ev.bind (f := fun k (t : ByteArray) => _) (show Ev (fun k => impl_chainText.f k c) v from v1) ?_
      simp only [if_pos (show (b ++ (⟨#[58]⟩ : ByteArray)).size + v.size ≤ 9223372036854775807 from by simp only [ByteArray.size_append, s_num, s_44, s_46, s_58, s_0]; omega)]
      exact ⟨0, fun k _ => by rw [← hv]⟩
theorem FnExactPuzzleText (l0_0 : List (S131)) (l0_1 : List Int) (_h0 : (l0_0.length ≤ 9223372036854775807 ∧ ∀ x_ ∈ l0_0, ((Lit.int .i64 x_.f0).wf = true ∧ (Lit.int .i64 x_.f1).wf = true))) (_h1 : (l0_1.length ≤ 9223372036854775807 ∧ ∀ x_ ∈ l0_1, (Lit.int .i64 x_).wf = true)) : ∃ k, laws_FnExactPuzzleText.f k l0_0 l0_1 = some true := by
  refine Ev.rounds (g := fun k => laws_FnExactPuzzleText.f k l0_0 l0_1) ?_
  unfold laws_FnExactPuzzleText.f
  rcases szPuzzle_f l0_0 l0_1 _h0.1 _h1.1 with hsz | ⟨n, hsz, hn, hl, hc⟩
  · rw [hsz]
    exact ⟨0, fun k _ => rfl⟩
  · rw [hsz]
    simp only [Option.bind_some, hn, if_false]
    have htp := toPuzzle_f l0_0 l0_1 hl hc
    have hlm : (l0_0.map conv).length ≤ 1048576 := by simpa using hl
    obtain ⟨r, h1, h2⟩ := text_both (l0_0.map conv) l0_1 (by omega) (by omega)
    refine Ev.bind (f := fun k (d : List S25 × List Int) => _) htp ?_
    refine Ev.bind (f := fun k (d : ByteArray × Bool) => _) h1 ?_
    refine Ev.bind (f := fun k (d : List S25 × List Int) => _) htp ?_
    refine Ev.bind (f := fun k (d : ByteArray × Bool) => _) h2 ?_
    simp only [if_true, bne_self_eq_false]
    refine Ev.step (f := fun k => (laws_toPuzzle.f k l0_0 l0_1).bind fun d => ((laws_eqPuzzle.f k (l0_0.map conv) l0_1 d.1 d.2).bind fun t => (if t = true then (some true) else (none)))) (fun k => ?_) ?_
    · simp [laws_FnExactPuzzleText.j0]
    · refine Ev.bind (f := fun k (d : List S25 × List Int) => _) htp ?_
      refine Ev.bind (f := fun k t => _) (eqPuzzle_f (l0_0.map conv) l0_1 hlm hc) ⟨0, fun k _ => ?_⟩
      simp


end Go.Proofs.Ytgcnlhebfnaaoaa.QPure
