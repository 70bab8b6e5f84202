/- For every input the law FnExactSolutions answers true: the plain statement over lists and numbers. No conditions. -/
import Derived.Test.YtgcnlhebfnaaoaaQFnExactSolutionsx1
import Derived.Test.YtgcnlhebfnaaoaaQFnExactSolutionsx2
import Derived.Test.YtgcnlhebfnaaoaaQFnExactSolutionsx3
import Derived.Test.YtgcnlhebfnaaoaaQFnExactSolutionsx4
import Derived.Test.YtgcnlhebfnaaoaaQFnExactSolutionsx5
import Derived.Test.YtgcnlhebfnaaoaaQFnExactSolutionsx6
import Derived.Test.YtgcnlhebfnaaoaaQFnExactSolutionsx7
import Derived.Test.YtgcnlhebfnaaoaaQFnExactSolutionsx8
import Derived.Test.YtgcnlhebfnaaoaaQFnExactSolutionsx9
import Derived.Test.YtgcnlhebfnaaoaaQFnExactSolutionsx10
import Derived.Test.YtgcnlhebfnaaoaaQFnExactSolutionsx11
import Derived.Test.YtgcnlhebfnaaoaaQFnExactSolutionsx12
namespace Go.Proofs.Ytgcnlhebfnaaoaa.QPure
open Go.RowKit Go.Proofs.Ytgcnlhebfnaaoaa.QFnExactSolutions Go.Proofs.YtgcnlhebfnaaoaaW.PrintWords Go.Proofs.YtgcnlhebfnaaoaaW.PrintLast

set_option linter.unusedVariables false
set_option linter.unusedSimpArgs false
/-! Hands and their order, in plain words. -/
theorem t_eta (x : S25) : (⟨x.f0, x.f1⟩ : S25) = x := rfl
theorem t_ext (x y : S25) (h0 : x.f0 = y.f0) (h1 : x.f1 = y.f1) : x = y := by
  cases x
  cases y
  simp_all
instance t_dec : DecidableEq S25 := fun x y => if h : x.f0 = y.f0 ∧ x.f1 = y.f1 then isTrue (t_ext x y h.1 h.2) else isFalse (fun e => h (by subst e; exact ⟨rfl, rfl⟩))
theorem t_beq (x y : S25) : (x.f0 == y.f0 && (x.f1 == y.f1)) = decide (x = y) := by
  by_cases h : x = y
  · subst h
    simp
  · have : ¬ (x.f0 = y.f0 ∧ x.f1 = y.f1) := fun e => h (t_ext x y e.1 e.2)
    rw [decide_eq_false h]
    by_cases h0 : x.f0 = y.f0
    · have h1 : ¬ x.f1 = y.f1 := fun e => this ⟨h0, e⟩
      simp [h1]
    · simp [h0]
theorem t_mid (pre : List S25) (x : S25) (xs : List S25) (d : S25) : (pre ++ x :: xs).getD pre.length d = x := by
  rw [List.getD_eq_getElem?_getD, List.getElem?_append_right (Nat.le_refl _), Nat.sub_self]
  rfl
theorem t_wrap (n : Int) (h : -1000000000 ≤ n) (h' : n ≤ 1000000000) : wrap64 n = n := by
  unfold wrap64
  omega

theorem t_wrap2 (n : Int) (h : -1000000000000 ≤ n) (h' : n ≤ 1000000000000) : wrap64 n = n := by
  unfold wrap64
  omega

def good (x : S25) : Bool := decide (0 ≤ x.f0) && (decide (x.f0 ≤ x.f1) && decide (x.f1 ≤ 9))
theorem good_iff (x : S25) : good x = true ↔ 0 ≤ x.f0 ∧ x.f0 ≤ x.f1 ∧ x.f1 ≤ 9 := by
  unfold good
  simp
theorem tiGood_f (x : S25) : spec_tiGood.f x.f0 x.f1 = some (good x) := by
  unfold spec_tiGood.f spec_l1In.f good
  by_cases h1 : 0 ≤ x.f0
  · have h1' : x.f0 ≥ 0 := h1
    rw [if_pos h1']
    by_cases h2 : x.f0 ≤ x.f1
    · simp [h1, h2]
    · simp [h1, h2]
  · have h1' : ¬ x.f0 ≥ 0 := h1
    rw [if_neg h1']
    simp [h1]

/-- The first place of a tile behind pre. -/
theorem place_ev (t : S25) : ∀ (rest pre : List S25), (pre ++ rest).length ≤ 2000000 → ∃ r : Int, Ev (fun k => spec_tiPlace.l0 k (pre ++ rest) ((pre ++ rest).length : Int) (pre.length : Int) t.f0 t.f1) r ∧ decide (r ≥ 0) = decide (t ∈ rest) := by
  intro rest
  induction rest with
  | nil =>
    intro pre hl
    refine ⟨-1, Ev.step (f := fun _ => some (-1)) (fun k => ?_) (Ev.now _), by simp⟩
    simp only [spec_tiPlace.l0, List.append_nil]
    rw [if_neg (by omega)]
  | cons x xs ih =>
    intro pre hl
    have hlen : (pre ++ x :: xs).length = pre.length + xs.length + 1 := by simp; omega
    have hget : rd_T25 (pre ++ x :: xs) (pre.length : Int) = x := by
      unfold rd_T25
      exact t_mid pre x xs _
    by_cases e : x = t
    · refine ⟨(pre.length : Int), Ev.step (f := fun _ => some (pre.length : Int)) (fun k => ?_) (Ev.now _), by simp [e]⟩
      simp only [spec_tiPlace.l0]
      rw [if_pos (by omega), if_pos (by omega), if_pos (by omega), hget, t_beq, if_pos (by simp [e])]
    · obtain ⟨r, h1, h2⟩ := ih (pre ++ [x]) (by simpa using hl)
      have e1 : pre ++ [x] ++ xs = pre ++ x :: xs := by simp
      rw [e1] at h1
      refine ⟨r, Ev.step (fun k => ?_) h1, by rw [h2]; simp [Ne.symm e]⟩
      simp only [spec_tiPlace.l0]
      rw [if_pos (by omega), if_pos (by omega), if_pos (by omega), hget, t_beq, if_neg (by simp [e]), t_wrap ((pre.length : Int) + 1) (by omega) (by omega)]
      simp
theorem place_f (t : S25) (l : List S25) (hl : l.length ≤ 2000000) : ∃ r : Int, Ev (fun k => spec_tiPlace.f k l t.f0 t.f1) r ∧ decide (r ≥ 0) = decide (t ∈ l) := place_ev t l [] hl

/-- .. and the program's. -/
theorem index_ev (t : S25) : ∀ (rest pre : List S25), (pre ++ rest).length ≤ 2000000 → ∃ r : Int, Ev (fun k => slices_Index_impl_Tile_impl_Tile.l0 k (pre ++ rest) ((pre ++ rest).length : Int) (pre.length : Int) t.f0 t.f1) r ∧ decide (r ≥ 0) = decide (t ∈ rest) := by
  intro rest
  induction rest with
  | nil =>
    intro pre hl
    refine ⟨-1, Ev.step (f := fun _ => some (-1)) (fun k => ?_) (Ev.now _), by simp⟩
    simp only [slices_Index_impl_Tile_impl_Tile.l0, List.append_nil]
    rw [if_neg (by omega)]
  | cons x xs ih =>
    intro pre hl
    have hlen : (pre ++ x :: xs).length = pre.length + xs.length + 1 := by simp; omega
    have hget : rd_T25 (pre ++ x :: xs) (pre.length : Int) = x := by
      unfold rd_T25
      exact t_mid pre x xs _
    by_cases e : t = x
    · refine ⟨(pre.length : Int), Ev.step (f := fun _ => some (pre.length : Int)) (fun k => ?_) (Ev.now _), by simp [e]⟩
      simp only [slices_Index_impl_Tile_impl_Tile.l0]
      rw [if_pos (by omega), if_pos (by omega), if_pos (by omega), hget, t_beq, if_pos (by simp [e])]
    · obtain ⟨r, h1, h2⟩ := ih (pre ++ [x]) (by simpa using hl)
      have e1 : pre ++ [x] ++ xs = pre ++ x :: xs := by simp
      rw [e1] at h1
      refine ⟨r, Ev.step (fun k => ?_) h1, by rw [h2]; simp [e]⟩
      simp only [slices_Index_impl_Tile_impl_Tile.l0]
      rw [if_pos (by omega), if_pos (by omega), if_pos (by omega), hget, t_beq, if_neg (by simp [e]), t_wrap ((pre.length : Int) + 1) (by omega) (by omega)]
      simp
theorem contains_f (t : S25) (l : List S25) (hl : l.length ≤ 2000000) : Ev (fun k => slices_Contains_impl_Tile_impl_Tile.f k l t.f0 t.f1) (decide (t ∈ l)) := by
  obtain ⟨r, h1, h2⟩ := index_ev t l [] hl
  rw [← h2]
  exact Ev.bind (f := fun _ t177 => (some (decide (t177 ≥ 0)))) h1 ⟨0, fun k _ => rfl⟩

/-- No two the same, behind pre. -/
def nd : List S25 → List S25 → Bool
  | _, [] => true
  | pre, x :: xs => !decide (x ∈ pre) && nd (pre ++ [x]) xs
def hb : List S25 → List S25 → Bool
  | _, [] => true
  | pre, x :: xs => good x && (!decide (x ∈ pre) && hb (pre ++ [x]) xs)
theorem hb_nd : ∀ (rest pre : List S25), hb pre rest = (rest.all good && nd pre rest) := by
  intro rest
  induction rest with
  | nil => intro pre; rfl
  | cons x xs ih =>
    intro pre
    unfold hb nd
    rw [ih, List.all_cons]
    cases good x <;> cases decide (x ∈ pre) <;> cases xs.all good <;> simp
theorem nd_nodup : ∀ (rest pre : List S25), nd pre rest = true → (∀ x ∈ rest, x ∉ pre) ∧ rest.Nodup := by
  intro rest
  induction rest with
  | nil => intro pre _; exact ⟨(fun x h => by cases h), List.nodup_nil⟩
  | cons x xs ih =>
    intro pre h
    unfold nd at h
    simp only [Bool.and_eq_true, Bool.not_eq_true', decide_eq_false_iff_not] at h
    obtain ⟨h1, h2⟩ := ih _ h.2
    refine ⟨fun y hy => ?_, ?_⟩
    · rcases List.mem_cons.1 hy with rfl | hy
      · exact h.1
      · exact fun hp => h1 y hy (List.mem_append_left _ hp)
    · rw [List.nodup_cons]
      exact ⟨fun hx => h1 x hx (by simp), h2⟩

theorem tiHand_ev : ∀ (rest pre : List S25), (pre ++ rest).length ≤ 2000000 → Ev (fun k => spec_tiHand.l0 k (pre ++ rest) (pre ++ rest) ((pre ++ rest).length : Int) (pre.length : Int)) (hb pre rest) := by
  intro rest
  induction rest with
  | nil =>
    intro pre hl
    refine Ev.step (f := fun _ => some true) (fun k => ?_) (Ev.now _)
    simp only [spec_tiHand.l0, List.append_nil]
    rw [if_neg (by omega)]
  | cons x xs ih =>
    intro pre hl
    have hlen : (pre ++ x :: xs).length = pre.length + xs.length + 1 := by simp; omega
    have hget : rd_T25 (pre ++ x :: xs) (pre.length : Int) = x := by
      unfold rd_T25
      exact t_mid pre x xs _
    have htake : (pre ++ x :: xs).take ((pre.length : Int)).toNat = pre := by simp
    cases hg : good x
    · refine Ev.step (f := fun _ => some (hb pre (x :: xs))) (fun k => ?_) (Ev.now _)
      simp only [spec_tiHand.l0]
      rw [if_pos (by omega), if_pos (by omega), if_pos (by omega), hget, tiGood_f, hg]
      simp [hb, hg]
    · obtain ⟨r, h1, h2⟩ := place_f x pre (by omega)
      have e1 : pre ++ [x] ++ xs = pre ++ x :: xs := by simp
      have hi := ih (pre ++ [x]) (by simpa using hl)
      rw [e1] at hi
      refine Ev.step (f := fun k => (spec_tiPlace.f k pre x.f0 x.f1).bind fun t123 => (if t123 ≥ 0 then (some false) else (spec_tiHand.l0 k (pre ++ x :: xs) (pre ++ x :: xs) ((pre ++ x :: xs).length : Int) (((pre ++ [x]).length : Nat) : Int)))) (fun k => ?_) ?_
      · simp only [spec_tiHand.l0]
        rw [if_pos (by omega), if_pos (by omega), if_pos (by omega), hget, tiGood_f, hg]
        simp only [Option.bind_some, if_true]
        rw [if_pos (by omega), htake, t_wrap ((pre.length : Int) + 1) (by omega) (by omega)]
        simp
      · refine Ev.bind (f := fun k t123 => (if t123 ≥ 0 then (some false) else (spec_tiHand.l0 k (pre ++ x :: xs) (pre ++ x :: xs) ((pre ++ x :: xs).length : Int) (((pre ++ [x]).length : Nat) : Int)))) h1 ?_
        by_cases hm : x ∈ pre
        · have hr : r ≥ 0 := by
            rw [decide_eq_true hm] at h2
            exact of_decide_eq_true h2
          refine ⟨0, fun k _ => ?_⟩
          (try dsimp only)
          rw [if_pos hr]
          simp [hb, hm]
        · have hr : ¬ r ≥ 0 := by
            rw [decide_eq_false hm] at h2
            exact of_decide_eq_false h2
          refine Ev.congr (fun k => ?_) (show Ev _ (hb pre (x :: xs)) from by
            have : hb pre (x :: xs) = hb (pre ++ [x]) xs := by simp [hb, hg, hm]
            rw [this]
            exact hi)
          (try dsimp only)
          rw [if_neg hr]

theorem areDiff_ev : ∀ (rest pre : List S25), (pre ++ rest).length ≤ 2000000 → Ev (fun k => impl_areDifferent_impl_Tile.l0 k (pre ++ rest) (pre ++ rest) ((pre ++ rest).length : Int) (pre.length : Int)) (nd pre rest) := by
  intro rest
  induction rest with
  | nil =>
    intro pre hl
    refine Ev.step (f := fun _ => some true) (fun k => ?_) (Ev.now _)
    simp only [impl_areDifferent_impl_Tile.l0, List.append_nil]
    rw [if_neg (by omega)]
  | cons x xs ih =>
    intro pre hl
    have hlen : (pre ++ x :: xs).length = pre.length + xs.length + 1 := by simp; omega
    have hget : rd_T25 (pre ++ x :: xs) (pre.length : Int) = x := by
      unfold rd_T25
      exact t_mid pre x xs _
    have htake : (pre ++ x :: xs).take ((pre.length : Int)).toNat = pre := by simp
    have h1 := contains_f x pre (by omega)
    have e1 : pre ++ [x] ++ xs = pre ++ x :: xs := by simp
    have hi := ih (pre ++ [x]) (by simpa using hl)
    rw [e1] at hi
    refine Ev.step (f := fun k => (slices_Contains_impl_Tile_impl_Tile.f k pre x.f0 x.f1).bind fun t184 => (if t184 = true then (some false) else (impl_areDifferent_impl_Tile.l0 k (pre ++ x :: xs) (pre ++ x :: xs) ((pre ++ x :: xs).length : Int) (((pre ++ [x]).length : Nat) : Int)))) (fun k => ?_) ?_
    · simp only [impl_areDifferent_impl_Tile.l0]
      rw [if_pos (by omega), if_pos (by omega), if_pos (by omega), if_pos (by omega), hget, htake, t_wrap ((pre.length : Int) + 1) (by omega) (by omega)]
      simp
    · refine Ev.bind (f := fun k t184 => (if t184 = true then (some false) else (impl_areDifferent_impl_Tile.l0 k (pre ++ x :: xs) (pre ++ x :: xs) ((pre ++ x :: xs).length : Int) (((pre ++ [x]).length : Nat) : Int)))) h1 ?_
      by_cases hm : x ∈ pre
      · refine ⟨0, fun k _ => ?_⟩
        simp [nd, hm]
      · refine Ev.congr (fun k => ?_) (show Ev _ (nd pre (x :: xs)) from by
          have : nd pre (x :: xs) = nd (pre ++ [x]) xs := by simp [nd, hm]
          rw [this]
          exact hi)
        simp only [hm, decide_false, Bool.false_eq_true, if_false]

theorem noTile_good (x : S25) : noTile x = !good x := rfl
theorem any_no (l : List S25) : l.any noTile = !l.all good := by
  induction l with
  | nil => rfl
  | cons x xs ih => rw [List.any_cons, List.all_cons, ih, noTile_good]; cases good x <;> simp

/-- Is it a hand? The same on both sides. -/
def isH (l : List S25) : Bool := decide (l.length ≤ 55) && (l.all good && nd [] l)
theorem isH_spec (l : List S25) (hl : l.length ≤ 2000000) : Ev (fun k => spec_tiHand.f k l) (isH l) := by
  by_cases h : l.length ≤ 55
  · have hi := tiHand_ev l [] hl
    rw [hb_nd] at hi
    refine Ev.congr (fun k => ?_) (show Ev _ (isH l) from by
      have : isH l = (l.all good && nd [] l) := by simp [isH, h]
      rw [this]
      exact hi)
    unfold spec_tiHand.f
    rw [if_neg (by omega)]
    rfl
  · refine ⟨0, fun k _ => ?_⟩
    show spec_tiHand.f k l = _
    unfold spec_tiHand.f
    rw [if_pos (by omega)]
    simp [isH, h]
theorem isH_impl (l : List S25) (hl : l.length ≤ 2000000) : Ev (fun k => impl_IsHand.f k l) (isH l) := by
  by_cases h : l.length ≤ 55
  · cases hg : l.all good
    · refine ⟨0, fun k _ => ?_⟩
      show impl_IsHand.f k l = _
      unfold impl_IsHand.f
      rw [if_pos (by omega), any_no, hg]
      simp [isH, hg]
    · have hi := areDiff_ev l [] hl
      refine Ev.congr (fun k => ?_) (show Ev _ (isH l) from by
        have : isH l = nd [] l := by simp [isH, h, hg]
        rw [this]
        exact hi)
      unfold impl_IsHand.f
      rw [if_pos (by omega), any_no, hg]
      simp only [Bool.not_true, Bool.false_eq_true, if_false]
      rfl
  · refine ⟨0, fun k _ => ?_⟩
    show impl_IsHand.f k l = _
    unfold impl_IsHand.f
    rw [if_neg (by omega)]
    simp [isH, h]
theorem isH_true (l : List S25) (h : isH l = true) : l.length ≤ 55 ∧ (∀ x ∈ l, good x = true) ∧ l.Nodup := by
  unfold isH at h
  simp only [Bool.and_eq_true, decide_eq_true_eq] at h
  exact ⟨h.1, List.all_eq_true.1 h.2.1, (nd_nodup l [] h.2.2).2⟩

/-! ### Order -/
def lt (x y : S25) : Prop := x.f0 < y.f0 ∨ (x.f0 = y.f0 ∧ x.f1 < y.f1)
theorem lt_irrefl (x : S25) : ¬ lt x x := by
  unfold lt
  omega
theorem lt_trans {x y z : S25} (h : lt x y) (k : lt y z) : lt x z := by
  unfold lt at *
  omega
theorem lt_asymm {x y : S25} (h : lt x y) : ¬ lt y x := by
  unfold lt at *
  omega
theorem cmpT_neg (x y : S25) (hx : good x = true) (hy : good y = true) : cmpT x y < 0 ↔ lt x y := by
  rw [good_iff] at hx hy
  unfold cmpT lt
  by_cases h : x.f0 = y.f0
  · rw [if_pos h, t_wrap _ (by omega) (by omega)]
    omega
  · rw [if_neg h, t_wrap _ (by omega) (by omega)]
    omega
theorem lt_total (x y : S25) (h : ¬ lt x y) (k : x ≠ y) : lt y x := by
  have : ¬ (x.f0 = y.f0 ∧ x.f1 = y.f1) := fun e => k (t_ext x y e.1 e.2)
  unfold lt at *
  omega

theorem uniq : ∀ (a b : List S25), a.Pairwise lt → b.Pairwise lt → (∀ x, x ∈ a ↔ x ∈ b) → a = b := by
  intro a
  induction a with
  | nil =>
    intro b _ _ h
    cases b with
    | nil => rfl
    | cons y ys => exact absurd ((h y).2 List.mem_cons_self) (by simp)
  | cons x xs ih =>
    intro b ha hb h
    cases b with
    | nil => exact absurd ((h x).1 List.mem_cons_self) (by simp)
    | cons y ys =>
      rw [List.pairwise_cons] at ha hb
      have e : x = y := by
        rcases List.mem_cons.1 ((h x).1 List.mem_cons_self) with e | e
        · exact e
        · rcases List.mem_cons.1 ((h y).2 List.mem_cons_self) with e2 | e2
          · exact e2.symm
          · exact absurd (ha.1 y e2) (lt_asymm (hb.1 x e))
      subst e
      congr 1
      refine ih ys ha.2 hb.2 (fun z => ?_)
      constructor
      · intro hz
        rcases List.mem_cons.1 ((h z).1 (List.mem_cons_of_mem _ hz)) with e | e
        · subst e
          exact absurd (ha.1 z hz) (lt_irrefl z)
        · exact e
      · intro hz
        rcases List.mem_cons.1 ((h z).2 (List.mem_cons_of_mem _ hz)) with e | e
        · subst e
          exact absurd (hb.1 z hz) (lt_irrefl z)
        · exact e

theorem sortedT_iff : ∀ (l : List S25), (∀ x ∈ l, good x = true) → l.Nodup → (sortedT l = true ↔ l.Pairwise lt) := by
  intro l
  induction l with
  | nil => intro _ _; exact ⟨fun _ => List.Pairwise.nil, fun _ => rfl⟩
  | cons x xs ih =>
    intro hg hn
    rw [List.nodup_cons] at hn
    have hgx := hg x List.mem_cons_self
    have hi := ih (fun y hy => hg y (List.mem_cons_of_mem _ hy)) hn.2
    unfold sortedT
    cases xs with
    | nil => simp [sortedT]
    | cons y ys =>
      have hgy := hg y (by simp)
      simp only [Bool.and_eq_true, Bool.not_eq_true', decide_eq_false_iff_not]
      rw [hi, cmpT_neg y x hgy hgx]
      constructor
      · rintro ⟨h1, h2⟩
        have hxy : lt x y := lt_total y x h1 (fun e => hn.1 (by rw [← e]; exact List.mem_cons_self))
        refine List.pairwise_cons.2 ⟨fun z hz => ?_, h2⟩
        rcases List.mem_cons.1 hz with rfl | hz
        · exact hxy
        · exact lt_trans hxy ((List.pairwise_cons.1 h2).1 z hz)
      · intro h
        obtain ⟨h1, h2⟩ := List.pairwise_cons.1 h
        exact ⟨lt_asymm (h1 y List.mem_cons_self), h2⟩

/-! ### The whole set -/
def code (l : List S25) : List (Int × Int) := l.map fun t => (t.f0, t.f1)
theorem code_inj (a b : List S25) (h : code a = code b) : a = b := by
  unfold code at h
  induction a generalizing b with
  | nil => cases b with
    | nil => rfl
    | cons y b => simp at h
  | cons x a ih => cases b with
    | nil => simp at h
    | cons y b =>
      simp only [List.map_cons, List.cons.injEq, Prod.mk.injEq] at h
      rw [ih b h.2]
      cases x
      cases y
      simp_all
def lst (n : Nat) : List (Int × Int) := (List.range (n + 1)).flatMap fun a => (List.range (n + 1 - a)).map fun b => ((a : Int), ((a + b : Nat) : Int))
/-- The tiles of the set of 9: in order, all, and none but them. -/
theorem whole : ∃ A : List S25, Ev (fun k => spec_tiSet.f k 9) A ∧ A.length = 55 ∧ A.Pairwise lt ∧ (∀ x, x ∈ A ↔ good x = true) := by
  have h2 : ((spec_tiSet.f 100 9).map code) = some (lst 9) := by decide +kernel
  obtain ⟨A, hA, hc⟩ := Option.map_eq_some_iff.1 h2
  have hl : (lst 9).length = 55 := by decide +kernel
  have hp : (lst 9).Pairwise (fun x y => x.1 < y.1 ∨ (x.1 = y.1 ∧ x.2 < y.2)) := by decide +kernel
  have hg : ∀ p ∈ lst 9, 0 ≤ p.1 ∧ p.1 ≤ p.2 ∧ p.2 ≤ 9 := by decide +kernel
  have hall : ∀ a : Fin 10, ∀ b : Fin 10, a.val ≤ b.val → (((a.val : Nat) : Int), ((b.val : Nat) : Int)) ∈ lst 9 := by decide +kernel
  generalize lst 9 = P at hc hl hp hg hall
  subst hc
  refine ⟨A, Ev.of (fun k => spec_tiSet.mono _ k) hA, ?_, ?_, fun x => ?_⟩
  · unfold code at hl
    rw [List.length_map] at hl
    exact hl
  · unfold code at hp
    rw [List.pairwise_map] at hp
    exact hp
  · constructor
    · intro hx
      rw [good_iff]
      exact hg (x.f0, x.f1) (by unfold code; exact List.mem_map.2 ⟨x, hx, rfl⟩)
    · intro hx
      rw [good_iff] at hx
      have := hall ⟨x.f0.toNat, by omega⟩ ⟨x.f1.toNat, by omega⟩ (by simp; omega)
      simp only at this
      rw [Int.toNat_of_nonneg (by omega), Int.toNat_of_nonneg (by omega)] at this
      unfold code at this
      obtain ⟨y, hy, e⟩ := List.mem_map.1 this
      simp only [Prod.mk.injEq] at e
      have : y = x := t_ext y x e.1 e.2
      rw [← this]
      exact hy

theorem pick_ev (l : List S25) (hl : l.length ≤ 2000000) (b : Bool) : ∀ (rest pre out : List S25), (pre ++ rest).length ≤ 1000 → out.length ≤ pre.length →
    Ev (fun k => spec_tiPick.l0 k l b out (pre ++ rest) ((pre ++ rest).length : Int) (pre.length : Int)) (out ++ rest.filter fun x => decide (x ∈ l) == b) := by
  intro rest
  induction rest with
  | nil =>
    intro pre out h1 h2
    refine Ev.step (f := fun _ => some (out ++ [])) (fun k => ?_) (Ev.now _)
    simp only [spec_tiPick.l0, List.append_nil]
    rw [if_neg (by omega)]
  | cons x xs ih =>
    intro pre out h1 h2
    have hlen : (pre ++ x :: xs).length = pre.length + xs.length + 1 := by simp; omega
    have hget : rd_T25 (pre ++ x :: xs) (pre.length : Int) = x := by
      unfold rd_T25
      exact t_mid pre x xs _
    obtain ⟨r, p1, p2⟩ := place_f x l hl
    have e1 : pre ++ [x] ++ xs = pre ++ x :: xs := by simp
    refine Ev.step (f := fun k => (spec_tiPlace.f k l x.f0 x.f1).bind fun t135 => (if ((decide (t135 ≥ 0)) == b) = true then (spec_tiPick.l0 k l b (out ++ [x]) (pre ++ x :: xs) ((pre ++ x :: xs).length : Int) (((pre ++ [x]).length : Nat) : Int)) else (spec_tiPick.l0 k l b out (pre ++ x :: xs) ((pre ++ x :: xs).length : Int) (((pre ++ [x]).length : Nat) : Int)))) (fun k => ?_) ?_
    · simp only [spec_tiPick.l0]
      rw [if_pos (by omega), if_pos (by omega), if_pos (by omega), hget, t_wrap ((pre.length : Int) + 1) (by omega) (by omega), if_pos (by omega)]
      simp
    · refine Ev.bind (f := fun k t135 => (if ((decide (t135 ≥ 0)) == b) = true then (spec_tiPick.l0 k l b (out ++ [x]) (pre ++ x :: xs) ((pre ++ x :: xs).length : Int) (((pre ++ [x]).length : Nat) : Int)) else (spec_tiPick.l0 k l b out (pre ++ x :: xs) ((pre ++ x :: xs).length : Int) (((pre ++ [x]).length : Nat) : Int)))) p1 ?_
      rw [List.filter_cons]
      cases hd : (decide (x ∈ l) == b)
      · have hi := ih (pre ++ [x]) out (by simpa using h1) (by simp; omega)
        rw [e1] at hi
        refine Ev.congr (fun k => ?_) (by simpa using hi)
        (try dsimp only)
        rw [p2, hd]
        simp
      · have hi := ih (pre ++ [x]) (out ++ [x]) (by simpa using h1) (by simp; omega)
        rw [e1] at hi
        refine Ev.congr (fun k => ?_) (by simpa using hi)
        (try dsimp only)
        rw [p2, hd]
        simp

theorem len_le : ∀ (a b : List S25), a.Nodup → (∀ x, x ∈ a → x ∈ b) → a.length ≤ b.length := by
  intro a
  induction a with
  | nil => intro b _ _; simp
  | cons x xs ih =>
    intro b hn h
    rw [List.nodup_cons] at hn
    have hx := h x List.mem_cons_self
    have := ih (b.erase x) hn.2 (fun y hy => (List.mem_erase_of_ne (fun e => hn.1 (by rw [← e]; exact hy))).2 (h y (List.mem_cons_of_mem _ hy)))
    rw [List.length_erase_of_mem hx] at this
    have hp : 0 < b.length := List.length_pos_of_mem hx
    simp
    omega
theorem len_eq (a b : List S25) (ha : a.Nodup) (hb : b.Nodup) (h : ∀ x, x ∈ a ↔ x ∈ b) : a.length = b.length :=
  Nat.le_antisymm (len_le a b ha (fun x hx => (h x).1 hx)) (len_le b a hb (fun x hx => (h x).2 hx))

/-- A hand in order. -/
theorem sort_f (l : List S25) (h : isH l = true) : ∃ s : List S25, Ev (fun k => spec_tiSort.f k l) s ∧ s.length = l.length ∧ s.Pairwise lt ∧ (∀ x, x ∈ s ↔ x ∈ l) ∧ decide (s = l) = sortedT l := by
  obtain ⟨h1, h2, h3⟩ := isH_true l h
  obtain ⟨A, hA, hl, hp, hm⟩ := whole
  have hk := pick_ev l (by omega) true A [] [] (by simp; omega) (by simp)
  simp only [List.nil_append] at hk
  have hmem : ∀ x, x ∈ A.filter (fun x => decide (x ∈ l) == true) ↔ x ∈ l := by
    intro x
    rw [List.mem_filter, hm]
    constructor
    · rintro ⟨_, h⟩
      simpa using h
    · intro h
      exact ⟨h2 x h, by simp [h]⟩
  have hps := hp.filter (fun x => decide (x ∈ l) == true)
  have hnd : ∀ (s : List S25), s.Pairwise lt → s.Nodup := fun s hs => hs.imp (fun {a b} hab e => by subst e; exact lt_irrefl a hab)
  refine ⟨A.filter (fun x => decide (x ∈ l) == true), ?_, ?_, hps, hmem, ?_⟩
  · refine Ev.congr (fun k => ?_) (Ev.bind (f := fun k t130 => (spec_tiPick.l0 k l true [] t130 (t130.length : Int) 0)) hA hk)
    unfold spec_tiSort.f spec_tiPick.f
    cases spec_tiSet.f k 9 with
    | none => rfl
    | some t =>
      simp only [Option.bind_some]
      cases spec_tiPick.l0 k l true [] t (t.length : Int) 0 with
      | none => rfl
      | some u => rfl
  · exact len_eq _ _ (hnd _ hps) h3 hmem
  · by_cases e : A.filter (fun x => decide (x ∈ l) == true) = l
    · rw [decide_eq_true e]
      rw [e] at hps
      exact ((sortedT_iff l h2 h3).2 hps).symm
    · rw [decide_eq_false e]
      cases hs : sortedT l
      · rfl
      · exact absurd (uniq _ _ hps ((sortedT_iff l h2 h3).1 hs) hmem) e

/-! Tiles of the laws and of the program; lists that are compared with themselves. -/
def conv (x : S131) : S25 := ⟨x.f0, x.f1⟩
theorem m_mid (pre : List S131) (x : S131) (xs : List S131) (d : S131) : (pre ++ x :: xs).getD pre.length d = x := by
  rw [List.getD_eq_getElem?_getD, List.getElem?_append_right (Nat.le_refl _), Nat.sub_self]
  rfl
theorem toTileS_ev : ∀ (rest pre : List S131), (pre ++ rest).length ≤ 100000000 → Ev (fun k => laws_toTileS.l0 k (pre ++ rest) (pre.map conv ++ List.replicate rest.length z25) (pre.length : Int)) ((pre ++ rest).map conv) := by
  intro rest
  induction rest with
  | nil =>
    intro pre hl
    refine Ev.step (f := fun _ => some ((pre ++ []).map conv)) (fun k => ?_) (Ev.now _)
    simp only [laws_toTileS.l0, List.append_nil]
    rw [if_neg (by omega)]
    simp
  | cons x xs ih =>
    intro pre hl
    have hlen : (pre ++ x :: xs).length = pre.length + xs.length + 1 := by simp; omega
    have hlen2 : (pre.map conv ++ List.replicate (x :: xs).length z25).length = pre.length + xs.length + 1 := by simp; omega
    have hget : rd_T131 (pre ++ x :: xs) (pre.length : Int) = x := by
      unfold rd_T131
      exact m_mid pre x xs _
    have hset : (pre.map conv ++ List.replicate (x :: xs).length z25).set ((pre.length : Int)).toNat (⟨x.f0, x.f1⟩ : S25) = (pre ++ [x]).map conv ++ List.replicate xs.length z25 := by
      rw [show ((pre.length : Int)).toNat = (pre.map conv).length from by simp, List.set_append_right _ _ (Nat.le_refl _), Nat.sub_self, List.length_cons, List.replicate_succ, List.set_cons_zero]
      simp [conv]
    have e1 : pre ++ [x] ++ xs = pre ++ x :: xs := by simp
    have hi := ih (pre ++ [x]) (by simpa using hl)
    rw [e1] at hi
    refine Ev.step (fun k => ?_) hi
    simp only [laws_toTileS.l0, laws_toTile.f, Option.bind_some]
    rw [if_pos (by omega), if_pos (by omega), hget, hlen2, if_pos (by omega), hset, t_wrap2 ((pre.length : Int) + 1) (by omega) (by omega)]
    simp
theorem toTileS_f (l : List S131) (hl : l.length ≤ 100000000) : Ev (fun k => laws_toTileS.f k l) (l.map conv) := by
  have h := toTileS_ev l [] hl
  refine Ev.congr (fun k => ?_) h
  unfold laws_toTileS.f
  rw [if_pos (by omega), if_pos (by omega)]
  simp

theorem eqTileS_ev : ∀ (rest pre : List S25), (pre ++ rest).length ≤ 100000000 → Ev (fun k => laws_eqTileS.l0 k (pre ++ rest) (pre ++ rest) (pre.length : Int)) true := by
  intro rest
  induction rest with
  | nil =>
    intro pre hl
    refine Ev.step (f := fun _ => some true) (fun k => ?_) (Ev.now _)
    simp only [laws_eqTileS.l0, List.append_nil]
    rw [if_neg (by omega)]
  | cons x xs ih =>
    intro pre hl
    have hlen : (pre ++ x :: xs).length = pre.length + xs.length + 1 := by simp; omega
    have e1 : pre ++ [x] ++ xs = pre ++ x :: xs := by simp
    have hi := ih (pre ++ [x]) (by simpa using hl)
    rw [e1] at hi
    refine Ev.step (fun k => ?_) hi
    simp only [laws_eqTileS.l0, laws_eqTile.f, if_true, Option.bind_some]
    rw [if_pos (by omega), if_pos (by omega), if_pos (by omega), t_wrap2 ((pre.length : Int) + 1) (by omega) (by omega)]
    simp
theorem eqTileS_f (l : List S25) (hl : l.length ≤ 100000000) : Ev (fun k => laws_eqTileS.f k l l) true := by
  refine Ev.congr (fun k => ?_) (eqTileS_ev l [] hl)
  unfold laws_eqTileS.f
  rw [if_pos rfl]
  rfl
theorem szTileS_f (l : List S131) (n : Int) (hl : l.length ≤ 9223372036854775807) (hn : 0 ≤ n ∧ n ≤ 1048576) : laws_szTileS.f l n = some (if (l.length : Int) ≤ n then n - l.length else -1) := by
  have hw : wrap64 (n - (l.length : Int)) = n - l.length := by
    unfold wrap64
    omega
  unfold laws_szTileS.f
  rw [hw]
  by_cases h : (l.length : Int) ≤ n
  · rw [if_neg (by omega), if_pos h]
  · rw [if_pos (by omega), if_neg h]

/-! Lists of numbers; puzzles of the laws. -/
theorem i_mid (pre : List Int) (x : Int) (xs : List Int) : rd (pre ++ x :: xs) (pre.length : Int) = x := by
  unfold rd
  rw [show ((pre.length : Int)).toNat = pre.length from rfl, List.getD_eq_getElem?_getD, List.getElem?_append_right (Nat.le_refl _), Nat.sub_self]
  rfl
theorem toIntS_ev : ∀ (rest pre : List Int), (pre ++ rest).length ≤ 100000000 → Ev (fun k => laws_toIntS.l0 k (pre ++ rest) (pre ++ List.replicate rest.length 0) (pre.length : Int)) (pre ++ rest) := by
  intro rest
  induction rest with
  | nil =>
    intro pre hl
    refine Ev.step (f := fun _ => some (pre ++ [])) (fun k => ?_) (Ev.now _)
    simp only [laws_toIntS.l0, List.append_nil]
    rw [if_neg (by omega)]
    simp
  | cons x xs ih =>
    intro pre hl
    have hlen : (pre ++ x :: xs).length = pre.length + xs.length + 1 := by simp; omega
    have hlen2 : (pre ++ List.replicate (x :: xs).length (0 : Int)).length = pre.length + xs.length + 1 := by simp; omega
    have hset : (pre ++ List.replicate (x :: xs).length (0 : Int)).set ((pre.length : Int)).toNat x = (pre ++ [x]) ++ List.replicate xs.length 0 := by
      rw [show ((pre.length : Int)).toNat = pre.length from rfl, List.set_append_right _ _ (Nat.le_refl _), Nat.sub_self, List.length_cons, List.replicate_succ, List.set_cons_zero]
      simp
    have e1 : pre ++ [x] ++ xs = pre ++ x :: xs := by simp
    have hi := ih (pre ++ [x]) (by simpa using hl)
    rw [e1] at hi
    refine Ev.step (fun k => ?_) hi
    simp only [laws_toIntS.l0]
    rw [if_pos (by omega), if_pos (by omega), hlen2, if_pos (by omega), i_mid, hset, t_wrap2 ((pre.length : Int) + 1) (by omega) (by omega)]
    simp
theorem toIntS_f (l : List Int) (hl : l.length ≤ 100000000) : Ev (fun k => laws_toIntS.f k l) l := by
  refine Ev.congr (fun k => ?_) (toIntS_ev l [] hl)
  unfold laws_toIntS.f
  rw [if_pos (by omega), if_pos (by omega)]
  simp
theorem eqIntS_ev : ∀ (rest pre : List Int), (pre ++ rest).length ≤ 100000000 → Ev (fun k => laws_eqIntS.l0 k (pre ++ rest) (pre ++ rest) (pre.length : Int)) true := by
  intro rest
  induction rest with
  | nil =>
    intro pre hl
    refine Ev.step (f := fun _ => some true) (fun k => ?_) (Ev.now _)
    simp only [laws_eqIntS.l0, List.append_nil]
    rw [if_neg (by omega)]
  | cons x xs ih =>
    intro pre hl
    have hlen : (pre ++ x :: xs).length = pre.length + xs.length + 1 := by simp; omega
    have e1 : pre ++ [x] ++ xs = pre ++ x :: xs := by simp
    have hi := ih (pre ++ [x]) (by simpa using hl)
    rw [e1] at hi
    refine Ev.step (fun k => ?_) hi
    simp only [laws_eqIntS.l0, if_true]
    rw [if_pos (by omega), if_pos (by omega), if_pos (by omega), t_wrap2 ((pre.length : Int) + 1) (by omega) (by omega)]
    simp
theorem eqIntS_f (l : List Int) (hl : l.length ≤ 100000000) : Ev (fun k => laws_eqIntS.f k l l) true := by
  refine Ev.congr (fun k => ?_) (eqIntS_ev l [] hl)
  unfold laws_eqIntS.f
  rw [if_pos rfl]
  rfl
theorem szIntS_f (l : List Int) (n : Int) (hl : l.length ≤ 9223372036854775807) (hn : 0 ≤ n ∧ n ≤ 1048576) : laws_szIntS.f l n = some (if (l.length : Int) ≤ n then n - l.length else -1) := by
  have hw : wrap64 (n - (l.length : Int)) = n - l.length := by
    unfold wrap64
    omega
  unfold laws_szIntS.f
  rw [hw]
  by_cases h : (l.length : Int) ≤ n
  · rw [if_neg (by omega), if_pos h]
  · rw [if_pos (by omega), if_neg h]
/-- Either a puzzle of the laws is too large to be asked, or it is small. -/
theorem szPuzzle_f (l : List S131) (c : List Int) (hl : l.length ≤ 9223372036854775807) (hc : c.length ≤ 9223372036854775807) :
    laws_szPuzzle.f l c 1048576 = some (-1) ∨ ∃ n, laws_szPuzzle.f l c 1048576 = some n ∧ ¬ n < 0 ∧ l.length ≤ 1048576 ∧ c.length ≤ 1048576 := by
  unfold laws_szPuzzle.f
  rw [szTileS_f l 1048576 hl (by omega)]
  by_cases h : (l.length : Int) ≤ 1048576
  · rw [if_pos h]
    simp only [Option.bind_some]
    rw [if_neg (by omega), szIntS_f c _ hc (by omega)]
    by_cases h2 : (c.length : Int) ≤ 1048576 - l.length
    · rw [if_pos h2]
      simp only [Option.bind_some]
      rw [if_neg (by omega)]
      exact .inr ⟨_, rfl, by omega, by omega, by omega⟩
    · rw [if_neg h2]
      exact .inl rfl
  · rw [if_neg h]
    exact .inl rfl
theorem toPuzzle_f (l : List S131) (c : List Int) (hl : l.length ≤ 1048576) (hc : c.length ≤ 1048576) : Ev (fun k => laws_toPuzzle.f k l c) (l.map conv, c) := by
  unfold laws_toPuzzle.f
  exact Ev.bind (f := fun k t122 => ((laws_toIntS.f k c).bind fun t125 => (some (t122, t125)))) (toTileS_f l (by omega)) (Ev.bind (f := fun _ t125 => (some (l.map conv, t125))) (toIntS_f c (by omega)) ⟨0, fun k _ => rfl⟩)
theorem eqPuzzle_f (l : List S25) (c : List Int) (hl : l.length ≤ 1048576) (hc : c.length ≤ 1048576) : Ev (fun k => laws_eqPuzzle.f k l c l c) true := by
  unfold laws_eqPuzzle.f
  refine Ev.bind (f := fun k t137 => (if t137 = true then ((laws_eqIntS.f k c c).bind fun t138 => (if t138 = true then (some true) else (some false))) else (some false))) (eqTileS_f l (by omega)) ?_
  simp only [if_true]
  exact Ev.bind (f := fun _ t138 => (if t138 = true then (some true) else (some false))) (eqIntS_f c (by omega)) ⟨0, fun k _ => rfl⟩

/-! What a puzzle is, the same on both sides. -/
theorem l1In_f (n lo hi : Int) : spec_l1In.f n lo hi = some (inB lo hi n) := by
  unfold spec_l1In.f inB
  by_cases h1 : lo ≤ n
  · rw [if_pos (show n ≥ lo from h1)]
    simp [h1]
  · rw [if_neg (show ¬ n ≥ lo from h1)]
    simp [h1]
theorem l1All_ev (lo hi : Int) : ∀ (rest pre : List Int), (pre ++ rest).length ≤ 2000000 → Ev (fun k => spec_l1All.l0 k lo hi (pre ++ rest) ((pre ++ rest).length : Int) (pre.length : Int)) (rest.all (inB lo hi)) := by
  intro rest
  induction rest with
  | nil =>
    intro pre hl
    refine Ev.step (f := fun _ => some true) (fun k => ?_) (Ev.now _)
    simp only [spec_l1All.l0, List.append_nil]
    rw [if_neg (by omega)]
  | cons x xs ih =>
    intro pre hl
    have hlen : (pre ++ x :: xs).length = pre.length + xs.length + 1 := by simp; omega
    have e1 : pre ++ [x] ++ xs = pre ++ x :: xs := by simp
    have hq := ih (pre ++ [x]) (by simpa using hl)
    rw [e1] at hq
    rw [List.all_cons]
    cases hx : inB lo hi x
    · refine Ev.step (f := fun _ => some false) (fun k => ?_) (Ev.now _)
      simp only [spec_l1All.l0]
      rw [if_pos (by omega), if_pos (by omega), if_pos (by omega), i_mid, l1In_f, hx]
      rfl
    · rw [Bool.true_and]
      refine Ev.step (fun k => ?_) hq
      simp only [spec_l1All.l0]
      rw [if_pos (by omega), if_pos (by omega), if_pos (by omega), i_mid, l1In_f, hx, t_wrap ((pre.length : Int) + 1) (by omega) (by omega)]
      simp
theorem l1All_f (lo hi : Int) (l : List Int) (hl : l.length ≤ 2000000) : Ev (fun k => spec_l1All.f k l lo hi) (l.all (inB lo hi)) := l1All_ev lo hi l [] hl
theorem any_out (lo hi : Int) (l : List Int) : (!(l.any fun n => !inB lo hi n)) = l.all (inB lo hi) := by
  induction l with
  | nil => rfl
  | cons x xs ih => rw [List.any_cons, List.all_cons, ← ih]; cases inB lo hi x <;> simp
theorem pzl_ev (s l : List S25) (c : List Int) (hs : s.length ≤ l.length) (hl : l.length ≤ 1000) : ∀ (d i : Nat), i + d = s.length → ∃ b : Bool, Ev (fun k => spec_pzGood.l0 k s (s.length : Int) (i : Int) l c) b ∧ (b = true ↔ ∀ j, i ≤ j → j < s.length → s.getD j z25 = l.getD j z25) := by
  intro d
  induction d with
  | zero =>
    intro i hi
    refine ⟨true, Ev.step (f := fun _ => some true) (fun k => ?_) (Ev.now _), by simp; intro j h1 h2; omega⟩
    simp only [spec_pzGood.l0]
    rw [if_neg (by omega)]
  | succ d ih =>
    intro i hi
    obtain ⟨b, h1, h2⟩ := ih (i + 1) (by omega)
    have hb : (!(((rd_T25 s (i : Int)).f0) == ((rd_T25 l (i : Int)).f0)) || (!(((rd_T25 s (i : Int)).f1) == ((rd_T25 l (i : Int)).f1)))) = !decide (s.getD i z25 = l.getD i z25) := by
      rw [← t_beq]
      unfold rd_T25
      rw [show ((i : Int)).toNat = i from rfl, Bool.not_and]
    by_cases e : s.getD i z25 = l.getD i z25
    · refine ⟨b, Ev.step (fun k => ?_) h1, ?_⟩
      · simp only [spec_pzGood.l0]
        rw [if_pos (by omega), if_pos (by omega), if_pos (by omega), if_pos (by omega), hb, if_neg (by simp only [e]; simp), t_wrap ((i : Int) + 1) (by omega) (by omega)]
        rfl
      · rw [h2]
        constructor
        · intro h j hj1 hj2
          by_cases ej : j = i
          · subst ej
            exact e
          · exact h j (by omega) hj2
        · intro h j hj1 hj2
          exact h j (by omega) hj2
    · refine ⟨false, Ev.step (f := fun _ => some false) (fun k => ?_) (Ev.now _), ?_⟩
      · simp only [spec_pzGood.l0]
        rw [if_pos (by omega), if_pos (by omega), if_pos (by omega), if_pos (by omega), hb, if_pos (by simp only [decide_eq_false e]; rfl)]
      · constructor
        · intro h
          cases h
        · intro h
          exact absurd (h i (Nat.le_refl _) (by omega)) e
theorem pzl_all (s l : List S25) (c : List Int) (hs : s.length = l.length) (hl : l.length ≤ 1000) : Ev (fun k => spec_pzGood.l0 k s (s.length : Int) 0 l c) (decide (s = l)) := by
  obtain ⟨b, h1, h2⟩ := pzl_ev s l c (by omega) hl s.length 0 (by omega)
  have : b = decide (s = l) := by
    rw [Bool.eq_iff_iff, h2, decide_eq_true_eq]
    constructor
    · intro h
      apply List.ext_getElem hs
      intro j j1 j2
      have := h j (by omega) j1
      rw [List.getD_eq_getElem?_getD, List.getD_eq_getElem?_getD, List.getElem?_eq_getElem j2, List.getElem?_eq_getElem j1] at this
      exact this
    · intro e j _ _
      rw [e]
  rw [← this]
  exact h1
/-- Is it a puzzle? -/
def pz (l : List S25) (c : List Int) : Bool := inB 1 9 (l.length : Int) && (isH l && (decide ((c.length : Int) = (l.length : Int) + 1) && (c.all (inB (-1) 9) && sortedT l)))
theorem inB_iff (lo hi n : Int) : inB lo hi n = true ↔ lo ≤ n ∧ n ≤ hi := by
  unfold inB
  simp
theorem pz_true (l : List S25) (c : List Int) (h : pz l c = true) : 1 ≤ l.length ∧ l.length ≤ 9 ∧ isH l = true ∧ c.length = l.length + 1 ∧ (∀ x ∈ c, -1 ≤ x ∧ x ≤ 9) ∧ sortedT l = true := by
  unfold pz at h
  simp only [Bool.and_eq_true, decide_eq_true_eq, inB_iff] at h
  obtain ⟨h1, h2, h3, h4, h5⟩ := h
  refine ⟨by omega, by omega, h2, by omega, fun x hx => ?_, h5⟩
  exact (inB_iff _ _ _).1 (List.all_eq_true.1 h4 x hx)
theorem pz_spec (l : List S25) (c : List Int) (hl : l.length ≤ 2000000) (hc : c.length ≤ 2000000) : Ev (fun k => spec_pzGood.f k l c) (pz l c) := by
  unfold spec_pzGood.f
  rw [l1In_f]
  simp only [Option.bind_some]
  cases h1 : inB 1 9 (l.length : Int)
  · refine Ev.step (f := fun _ => some (pz l c)) (fun k => ?_) (Ev.now _)
    simp [spec_pzGood.j0, pz, h1]
  · simp only [if_true]
    have s1 := isH_spec l hl
    have hln := (inB_iff _ _ _).1 h1
    refine Ev.bind (f := fun k t171 => (if t171 = true then (if (c.length : Int) = (wrap64 ((l.length : Int) + 1)) then ((spec_l1All.f k c (-1) 9).bind fun t172 => (spec_pzGood.j0 k (!t172) l c)) else (spec_pzGood.j0 k true l c)) else (spec_pzGood.j0 k true l c))) s1 ?_
    rw [t_wrap ((l.length : Int) + 1) (by omega) (by omega)]
    cases h2 : isH l
    · refine Ev.step (f := fun _ => some (pz l c)) (fun k => ?_) (Ev.now _)
      simp [spec_pzGood.j0, pz, h1, h2]
    · by_cases h3 : (c.length : Int) = (l.length : Int) + 1
      · have hd : decide ((c.length : Int) = (l.length : Int) + 1) = true := decide_eq_true h3
        simp only [if_true, h3]
        refine Ev.bind (f := fun k t172 => (spec_pzGood.j0 k (!t172) l c)) (l1All_f (-1) 9 c hc) ?_
        cases h4 : c.all (inB (-1) 9)
        · refine Ev.step (f := fun _ => some (pz l c)) (fun k => ?_) (Ev.now _)
          simp [spec_pzGood.j0, pz, h1, h2, hd, h4]
        · obtain ⟨s, q1, q2, _, _, q5⟩ := sort_f l h2
          have e : pz l c = decide (s = l) := by
            unfold pz
            rw [h1, h2, hd, h4, q5]
            rfl
          rw [e]
          refine Ev.step (f := fun k => (spec_tiSort.f k l).bind fun t173 => (spec_pzGood.l0 k t173 (t173.length : Int) 0 l c)) (fun k => ?_) (Ev.bind (f := fun k t173 => (spec_pzGood.l0 k t173 (t173.length : Int) 0 l c)) q1 (pzl_all s l c q2 (by omega)))
          simp [spec_pzGood.j0]
      · have hd : decide ((c.length : Int) = (l.length : Int) + 1) = false := decide_eq_false h3
        refine Ev.step (f := fun _ => some (pz l c)) (fun k => ?_) (Ev.now _)
        simp only [if_true]
        rw [if_neg h3]
        simp [spec_pzGood.j0, pz, h1, h2, hd]
theorem pz_impl (l : List S25) (c : List Int) (hl : l.length ≤ 2000000) : Ev (fun k => impl_IsPuzzle.f k l c) (pz l c) := by
  unfold impl_IsPuzzle.f impl_areWithin.f
  refine Ev.bind (f := fun k b1 => if b1 = true then (if inB 1 9 (l.length : Int) = true then (if sortedT l = true then (if (c.length : Int) = (l.length : Int) + 1 then some (!(c.any fun n => !inB (-1) 9 n)) else some false) else some false) else some false) else some false) (isH_impl l hl) ⟨0, fun k _ => ?_⟩
  (try dsimp only)
  rw [any_out]
  unfold pz
  by_cases h3 : (c.length : Int) = (l.length : Int) + 1
  · rw [decide_eq_true h3]
    cases isH l <;> cases inB 1 9 (l.length : Int) <;> cases sortedT l <;> simp [h3]
  · rw [decide_eq_false h3]
    cases isH l <;> cases inB 1 9 (l.length : Int) <;> cases sortedT l <;> simp [h3]

/-! ### All solutions: the same list on both sides, as far as it is short -/
def sOf (x y : Int) : S25 := ⟨mn x y, mx x y⟩
theorem sOf_impl (x y : Int) : impl_tile.f x y = some ((sOf x y).f0, (sOf x y).f1) := rfl
theorem sOf_spec (x y : Int) : spec_tiOf.f x y = some ((sOf x y).f0, (sOf x y).f1) := by
  unfold spec_tiOf.f spec_l1Least.f spec_l1Most.f sOf mn mx
  by_cases h : x < y
  · have h2 : ¬ y < x := by omega
    have h3 : ¬ x > y := by omega
    simp [h, h2, h3]
  · by_cases h2 : y < x
    · have h3 : x > y := h2
      simp [h, h2, h3]
    · have e : x = y := by omega
      subst e
      simp
def upf : Nat → Int → List Int
  | 0, _ => []
  | m + 1, n => n :: upf m (n + 1)
def rem (l : List S25) (t : S25) : List S25 := l.filter fun x => !decide (x = t)
def fit (c : List Int) (at_ : Nat) (n : Int) : Bool := decide (rd c (at_ : Int) = -1 ∨ rd c (at_ : Int) = n)
def last_ (p : List Int) : Int := rd p ((p.length : Int) - 1)
/-- All ways to go on from a chain p with the tiles l. -/
def srch (c : List Int) : Nat → List Int → List S25 → List (List Int)
  | 0, _, _ => []
  | d + 1, p, l => if l = [] then [p] else (upf 10 0).flatMap fun n => if fit c p.length n = true ∧ sOf (last_ p) n ∈ l then srch c d (p ++ [n]) (rem l (sOf (last_ p) n)) else []
/-- Tiles in order. -/
def row (l : List S25) : Prop := l.length ≤ 55 ∧ (∀ x ∈ l, good x = true) ∧ l.Pairwise lt
theorem row_nodup {l : List S25} (h : row l) : l.Nodup := h.2.2.imp (fun {a b} hab e => by subst e; exact lt_irrefl a hab)
theorem nd_of : ∀ (rest pre : List S25), (∀ x ∈ rest, x ∉ pre) → rest.Nodup → nd pre rest = true := by
  intro rest
  induction rest with
  | nil => intro pre _ _; rfl
  | cons x xs ih =>
    intro pre h1 h2
    rw [List.nodup_cons] at h2
    unfold nd
    rw [decide_eq_false (h1 x List.mem_cons_self), ih (pre ++ [x]) (fun y hy hm => by
      rcases List.mem_append.1 hm with hm | hm
      · exact h1 y (List.mem_cons_of_mem _ hy) hm
      · have e : y = x := by simpa using hm
        subst e
        exact h2.1 hy) h2.2]
    rfl
theorem row_isH {l : List S25} (h : row l) : isH l = true ∧ sortedT l = true := by
  have hn := row_nodup h
  refine ⟨?_, (sortedT_iff l h.2.1 hn).2 h.2.2⟩
  unfold isH
  rw [decide_eq_true h.1, List.all_eq_true.2 h.2.1, nd_of l [] (fun _ _ => by simp) hn]
  rfl
theorem row_of {l : List S25} (h : isH l = true) (k : sortedT l = true) : row l := by
  obtain ⟨h1, h2, h3⟩ := isH_true l h
  exact ⟨h1, h2, (sortedT_iff l h2 h3).1 k⟩
theorem row_rem {l : List S25} (h : row l) (t : S25) : row (rem l t) :=
  ⟨Nat.le_trans (List.length_filter_le _ _) h.1, fun x hx => h.2.1 x (List.mem_filter.1 hx).1, h.2.2.filter _⟩
theorem rem_len {l : List S25} (h : l.Nodup) (t : S25) (ht : t ∈ l) : (rem l t).length + 1 = l.length := by
  induction l with
  | nil => cases ht
  | cons x xs ih =>
    rw [List.nodup_cons] at h
    unfold rem
    by_cases e : x = t
    · subst e
      have hf : xs.filter (fun y => !decide (y = x)) = xs := by
        rw [List.filter_eq_self]
        intro y hy
        have : y ≠ x := fun e => h.1 (by rw [← e]; exact hy)
        simp [this]
      simp [hf]
    · have ht' : t ∈ xs := by
        rcases List.mem_cons.1 ht with e2 | e2
        · exact absurd e2.symm e
        · exact e2
      have := ih h.2 ht'
      unfold rem at this
      simp [e]
      omega
/-- The place of a tile among different ones; without it they are the others. -/
theorem index_at (t : S25) : ∀ (rest pre : List S25), (pre ++ rest).length ≤ 2000000 → rest.Nodup → ∃ r : Int, Ev (fun k => slices_Index_impl_Tile_impl_Tile.l0 k (pre ++ rest) ((pre ++ rest).length : Int) (pre.length : Int) t.f0 t.f1) r ∧
    (t ∉ rest → r = -1) ∧ (t ∈ rest → ∃ i : Nat, r = ((pre.length + i : Nat) : Int) ∧ i < rest.length ∧ rest.eraseIdx i = rem rest t) := by
  intro rest
  induction rest with
  | nil =>
    intro pre hl _
    refine ⟨-1, Ev.step (f := fun _ => some (-1)) (fun k => ?_) (Ev.now _), fun _ => rfl, fun h => by cases h⟩
    simp only [slices_Index_impl_Tile_impl_Tile.l0, List.append_nil]
    rw [if_neg (by omega)]
  | cons x xs ih =>
    intro pre hl hn
    rw [List.nodup_cons] at hn
    have hlen : (pre ++ x :: xs).length = pre.length + xs.length + 1 := by simp; omega
    have hget : rd_T25 (pre ++ x :: xs) (pre.length : Int) = x := by
      unfold rd_T25
      exact t_mid pre x xs _
    by_cases e : t = x
    · subst e
      refine ⟨(pre.length : Int), Ev.step (f := fun _ => some (pre.length : Int)) (fun k => ?_) (Ev.now _), fun h => absurd List.mem_cons_self h, fun _ => ⟨0, rfl, by simp, ?_⟩⟩
      · simp only [slices_Index_impl_Tile_impl_Tile.l0]
        rw [if_pos (by omega), if_pos (by omega), if_pos (by omega), hget, t_beq, if_pos (by simp)]
      · have hf : xs.filter (fun y => !decide (y = t)) = xs := by
          rw [List.filter_eq_self]
          intro y hy
          have : y ≠ t := fun e => hn.1 (by rw [← e]; exact hy)
          simp [this]
        unfold rem
        simp [hf]
    · obtain ⟨r, h1, h2, h3⟩ := ih (pre ++ [x]) (by simpa using hl) hn.2
      have e1 : pre ++ [x] ++ xs = pre ++ x :: xs := by simp
      rw [e1] at h1
      refine ⟨r, Ev.step (fun k => ?_) h1, fun h => h2 (fun hm => h (List.mem_cons_of_mem _ hm)), fun h => ?_⟩
      · simp only [slices_Index_impl_Tile_impl_Tile.l0]
        rw [if_pos (by omega), if_pos (by omega), if_pos (by omega), hget, t_beq, if_neg (by simp [e]), t_wrap ((pre.length : Int) + 1) (by omega) (by omega)]
        simp
      · have hm : t ∈ xs := by
          rcases List.mem_cons.1 h with e2 | e2
          · exact absurd e2 e
          · exact e2
        obtain ⟨i, hr, hi, he⟩ := h3 hm
        refine ⟨i + 1, by rw [hr]; simp; omega, by simp; omega, ?_⟩
        rw [List.eraseIdx_cons_succ, he]
        unfold rem
        have : ¬ x = t := fun e2 => e e2.symm
        simp [this]
theorem index_rem (t : S25) (l : List S25) (hl : row l) : ∃ r : Int, Ev (fun k => slices_Index_impl_Tile_impl_Tile.f k l t.f0 t.f1) r ∧ (t ∉ l → r = -1) ∧ (t ∈ l → 0 ≤ r ∧ r < l.length ∧ l.eraseIdx r.toNat = rem l t) := by
  obtain ⟨r, h1, h2, h3⟩ := index_at t l [] (by have := hl.1; simp; omega) (row_nodup hl)
  refine ⟨r, h1, h2, fun h => ?_⟩
  obtain ⟨i, hr, hi, he⟩ := h3 h
  subst hr
  refine ⟨by omega, by simp; omega, by simpa using he⟩
/-- What a search of the program answers: the list goes on, as long as it is short. -/
def Res (out S : List (List Int)) (r : Bool × List (List Int)) : Prop := if (out ++ S).length ≤ 200 then r = (true, out ++ S) else r.1 = false
theorem Res_nil (out : List (List Int)) (h : out.length ≤ 200) : Res out [] (true, out) := by
  unfold Res
  rw [List.append_nil, if_pos h]
theorem Res_step {out S S' : List (List Int)} {r r' : Bool × List (List Int)} (h1 : Res out S r) (hb : r.1 = true) (h2 : r.2.length ≤ 200 → Res r.2 S' r') : Res out (S ++ S') r' := by
  unfold Res at h1
  by_cases h : (out ++ S).length ≤ 200
  · rw [if_pos h] at h1
    subst h1
    have := h2 h
    unfold Res at this ⊢
    rw [← List.append_assoc]
    exact this
  · rw [if_neg h, hb] at h1
    cases h1
theorem Res_short {out S : List (List Int)} {r : Bool × List (List Int)} (h1 : Res out S r) (hb : r.1 = true) : r.2.length ≤ 200 := by
  unfold Res at h1
  by_cases h : (out ++ S).length ≤ 200
  · rw [if_pos h] at h1
    subst h1
    exact h
  · rw [if_neg h, hb] at h1
    cases h1
theorem Res_stop {out S S' : List (List Int)} {r : Bool × List (List Int)} (h1 : Res out S r) (hb : r.1 = false) : Res out (S ++ S') (false, r.2) := by
  unfold Res at h1 ⊢
  by_cases h : (out ++ S).length ≤ 200
  · rw [if_pos h] at h1
    subst h1
    cases hb
  · rw [if_neg (by simp only [List.length_append] at h ⊢; omega)]
theorem fits_f (hand : List S25) (c : List Int) (at_ : Nat) (n : Int) (h : at_ < c.length) : impl_Puzzle_fits.f hand c (at_ : Int) n = some (fit c at_ n) := by
  unfold impl_Puzzle_fits.f fit
  rw [if_pos (by omega), if_pos (by omega)]
  by_cases h1 : rd c (at_ : Int) = -1
  · rw [if_pos h1]
    simp [h1]
  · rw [if_neg h1]
    by_cases h2 : rd c (at_ : Int) = n
    · simp [h2]
    · simp [h1, h2]
theorem impl_loop (hand : List S25) (c p : List Int) (l : List S25) (d : Nat) (hl : row l) (hp : 0 < p.length) (hpc : p.length < c.length) (hc : c.length ≤ 100)
    (hrec : ∀ n, 0 ≤ n → n ≤ 9 → sOf (last_ p) n ∈ l → ∀ out : List (List Int), out.length ≤ 200 → ∃ r, Ev (fun k => impl_Puzzle_solutions_1.f k hand c (p ++ [n]) (rem l (sOf (last_ p) n)) out) r ∧ Res out (srch c d (p ++ [n]) (rem l (sOf (last_ p) n))) r) :
    ∀ (m : Nat) (n : Int) (out : List (List Int)), n + m = 10 → 0 ≤ n → out.length ≤ 200 → ∃ r, Ev (fun k => impl_Puzzle_solutions_1.l k (fun c' l' o => impl_Puzzle_solutions_1.f k hand c c' l' o) hand c p l (m + 1) n out) r ∧
      Res out ((upf m n).flatMap fun n => if fit c p.length n = true ∧ sOf (last_ p) n ∈ l then srch c d (p ++ [n]) (rem l (sOf (last_ p) n)) else []) r := by
  intro m
  induction m with
  | zero =>
    intro n out hn h0 ho
    refine ⟨(true, out), ⟨0, fun k _ => ?_⟩, Res_nil out ho⟩
    show impl_Puzzle_solutions_1.l _ _ _ _ _ _ _ _ _ = _
    simp only [impl_Puzzle_solutions_1.l]
    rw [if_neg (by omega)]
  | succ m ih =>
    intro n out hn h0 ho
    have hn9 : n < 10 := by omega
    simp only [upf, List.flatMap_cons]
    by_cases hf : fit c p.length n = true
    · obtain ⟨q, hq, hq1, hq2⟩ := index_rem (sOf (last_ p) n) l hl
      by_cases hm : sOf (last_ p) n ∈ l
      · obtain ⟨q0, q1, q2⟩ := hq2 hm
        rw [if_pos ⟨hf, hm⟩]
        obtain ⟨r, hr, hres⟩ := hrec n h0 (by omega) hm out ho
        have hgo : ∀ r', (r.1 = true → Ev (fun k => impl_Puzzle_solutions_1.l k (fun c' l' o => impl_Puzzle_solutions_1.f k hand c c' l' o) hand c p l (m + 1) (n + 1) r.2) r') → (r.1 = false → r' = (false, r.2)) →
            Ev (fun k => impl_Puzzle_solutions_1.l k (fun c' l' o => impl_Puzzle_solutions_1.f k hand c c' l' o) hand c p l (m + 1 + 1) n out) r' := by
          intro r' h1 h2
          refine Ev.congr (f := fun k => (slices_Index_impl_Tile_impl_Tile.f k l (sOf (last_ p) n).f0 (sOf (last_ p) n).f1).bind fun q => if 0 ≤ q then (if q < (l.length : Int) then ((slices_Clone_int_int.f p).bind fun c2 => ((slices_Clone_impl_Tile_impl_Tile.f l).bind fun l2 => ((impl_Puzzle_solutions_1.f k hand c (c2 ++ [n]) (l2.eraseIdx q.toNat) out).bind fun r => if r.1 = true then impl_Puzzle_solutions_1.l k (fun c' l' o => impl_Puzzle_solutions_1.f k hand c c' l' o) hand c p l (m + 1) (n + 1) r.2 else some (false, r.2)))) else none) else impl_Puzzle_solutions_1.l k (fun c' l' o => impl_Puzzle_solutions_1.f k hand c c' l' o) hand c p l (m + 1) (n + 1) out) (fun k => ?_) ?_
          · show impl_Puzzle_solutions_1.l _ _ _ _ _ _ _ _ _ = _
            rw [impl_Puzzle_solutions_1.l, if_pos hn9, fits_f hand c p.length n hpc]
            simp only [Option.bind_some, hf, if_true]
            rw [if_pos hp]
            rfl
          · refine Ev.bind (f := fun k (q : Int) => _) hq ?_
            refine Ev.congr (f := fun k => (impl_Puzzle_solutions_1.f k hand c (p ++ [n]) (rem l (sOf (last_ p) n)) out).bind fun r => if r.1 = true then impl_Puzzle_solutions_1.l k (fun c' l' o => impl_Puzzle_solutions_1.f k hand c c' l' o) hand c p l (m + 1) (n + 1) r.2 else some (false, r.2)) (fun k => ?_) ?_
            · (try dsimp only)
              have g1 : slices_Clone_int_int.f p = some p := by unfold slices_Clone_int_int.f; rw [if_pos (by omega)]
              have g2 : slices_Clone_impl_Tile_impl_Tile.f l = some l := by unfold slices_Clone_impl_Tile_impl_Tile.f; rw [if_pos (by have := hl.1; omega)]
              rw [if_pos q0, if_pos q1, g1, g2]
              simp only [Option.bind_some, q2]
            · refine Ev.bind (f := fun k (r : Bool × List (List Int)) => _) hr ?_
              cases hb : r.1 with
              | true =>
                refine Ev.congr (fun k => ?_) (h1 hb)
                simp
              | false =>
                rw [h2 hb]
                exact ⟨0, fun k _ => by simp⟩
        cases hb : r.1 with
        | true =>
          have hs := Res_short hres hb
          obtain ⟨r2, hr2, hres2⟩ := ih (n + 1) r.2 (by omega) (by omega) hs
          exact ⟨r2, hgo r2 (fun _ => hr2) (fun h => by rw [hb] at h; cases h), Res_step hres hb (fun _ => hres2)⟩
        | false => exact ⟨(false, r.2), hgo _ (fun h => by rw [hb] at h; cases h) (fun _ => rfl), Res_stop hres hb⟩
      · obtain ⟨r2, hr2, hres2⟩ := ih (n + 1) out (by omega) (by omega) ho
        rw [if_neg (fun h => hm h.2), List.nil_append]
        refine ⟨r2, ?_, hres2⟩
        have hq' := hq1 hm
        refine Ev.congr (f := fun k => (slices_Index_impl_Tile_impl_Tile.f k l (sOf (last_ p) n).f0 (sOf (last_ p) n).f1).bind fun q => if 0 ≤ q then (if q < (l.length : Int) then ((slices_Clone_int_int.f p).bind fun c2 => ((slices_Clone_impl_Tile_impl_Tile.f l).bind fun l2 => ((impl_Puzzle_solutions_1.f k hand c (c2 ++ [n]) (l2.eraseIdx q.toNat) out).bind fun r => if r.1 = true then impl_Puzzle_solutions_1.l k (fun c' l' o => impl_Puzzle_solutions_1.f k hand c c' l' o) hand c p l (m + 1) (n + 1) r.2 else some (false, r.2)))) else none) else impl_Puzzle_solutions_1.l k (fun c' l' o => impl_Puzzle_solutions_1.f k hand c c' l' o) hand c p l (m + 1) (n + 1) out) (fun k => ?_) ?_
        · show impl_Puzzle_solutions_1.l _ _ _ _ _ _ _ _ _ = _
          rw [impl_Puzzle_solutions_1.l, if_pos hn9, fits_f hand c p.length n hpc]
          simp only [Option.bind_some, hf, if_true]
          rw [if_pos hp]
          rfl
        · refine Ev.bind (f := fun k (q : Int) => _) hq ?_
          refine Ev.congr (fun k => ?_) hr2
          (try dsimp only)
          rw [if_neg (by omega)]
    · obtain ⟨r2, hr2, hres2⟩ := ih (n + 1) out (by omega) (by omega) ho
      rw [if_neg (fun h => hf h.1), List.nil_append]
      refine ⟨r2, Ev.congr (fun k => ?_) hr2, hres2⟩
      show impl_Puzzle_solutions_1.l _ _ _ _ _ _ _ _ _ = _
      rw [impl_Puzzle_solutions_1.l, if_pos hn9, fits_f hand c p.length n hpc]
      simp only [Option.bind_some]
      rw [if_neg hf]
theorem impl_look (hand : List S25) (c : List Int) (hc : c.length ≤ 100) : ∀ (d : Nat) (p : List Int) (l : List S25) (out : List (List Int)), row l → 0 < p.length → p.length + l.length = c.length → l.length < d → out.length ≤ 200 →
    ∃ r, Ev (fun k => impl_Puzzle_solutions_1.f k hand c p l out) r ∧ Res out (srch c d p l) r := by
  intro d
  induction d with
  | zero => intro p l out _ _ _ h _; omega
  | succ d ih =>
    intro p l out hl hp hpc hd ho
    by_cases h0 : l = []
    · subst h0
      refine ⟨(decide ((out.length : Int) + 1 ≤ 200), out ++ [p]), Ev.step (f := fun _ => some (decide ((out.length : Int) + 1 ≤ 200), out ++ [p])) (fun k => ?_) (Ev.now _), ?_⟩
      · simp only [impl_Puzzle_solutions_1.f, List.length_nil, if_true]
        rw [if_pos (by omega)]
      · unfold Res
        rw [srch, if_pos rfl]
        by_cases h : (out ++ [p]).length ≤ 200
        · rw [if_pos h]
          rw [List.length_append, List.length_singleton] at h
          rw [decide_eq_true (show (out.length : Int) + 1 ≤ 200 by omega)]
        · rw [if_neg h]
          rw [List.length_append, List.length_singleton] at h
          dsimp only
          rw [decide_eq_false_iff_not]
          omega
    · have hpos : 0 < l.length := List.length_pos_iff.2 h0
      obtain ⟨r, h1, h2⟩ := impl_loop hand c p l d hl hp (by omega) hc (fun n hn0 hn9 hm o ho' => by
        have := rem_len (row_nodup hl) _ hm
        exact ih (p ++ [n]) (rem l (sOf (last_ p) n)) o (row_rem hl _) (by simp) (by simp; omega) (by omega) ho') 10 0 out (by omega) (by omega) ho
      refine ⟨r, Ev.step (fun k => ?_) h1, ?_⟩
      · simp only [impl_Puzzle_solutions_1.f]
        rw [if_neg (by omega)]
      · simp only [srch]
        rw [if_neg h0]
        exact h2
/-- All solutions of a puzzle. -/
def sols (c : List Int) (l : List S25) : List (List Int) := (upf 10 0).flatMap fun n => if fit c 0 n = true then srch c (l.length + 1) [n] l else []
theorem impl_all_loop (l : List S25) (c : List Int) (hl : row l) (hc : c.length ≤ 100) (hlc : c.length = l.length + 1) : ∀ (m : Nat) (n : Int) (out : List (List Int)), n + m = 10 → 0 ≤ n → out.length ≤ 200 →
    ∃ r, Ev (fun k => impl_Puzzle_solutions.l k l c (m + 1) n out) r ∧ (if (out ++ (upf m n).flatMap fun n => if fit c 0 n = true then srch c (l.length + 1) [n] l else []).length ≤ 200 then r = (out ++ (upf m n).flatMap (fun n => if fit c 0 n = true then srch c (l.length + 1) [n] l else []), true) else r = ([], false)) := by
  intro m
  induction m with
  | zero =>
    intro n out hn h0 ho
    refine ⟨(out, true), ⟨0, fun k _ => ?_⟩, ?_⟩
    · show impl_Puzzle_solutions.l _ _ _ _ _ _ = _
      rw [impl_Puzzle_solutions.l, if_neg (by omega)]
    · simp only [upf, List.flatMap_nil, List.append_nil]
      rw [if_pos ho]
      trivial
  | succ m ih =>
    intro n out hn h0 ho
    have hn9 : n < 10 := by omega
    have hf0 : impl_Puzzle_fits.f l c 0 n = some (fit c 0 n) := fits_f l c 0 n (by omega)
    simp only [upf, List.flatMap_cons]
    by_cases hf : fit c 0 n = true
    · rw [if_pos hf, ← List.append_assoc]
      obtain ⟨r, hr, hres⟩ := impl_look l c hc (l.length + 1) [n] l out hl (by simp) (by simp; omega) (by omega) ho
      unfold Res at hres
      by_cases hs : (out ++ srch c (l.length + 1) [n] l).length ≤ 200
      · rw [if_pos hs] at hres
        subst hres
        obtain ⟨r2, hr2, hres2⟩ := ih (n + 1) (out ++ srch c (l.length + 1) [n] l) (by omega) (by omega) hs
        refine ⟨r2, ?_, hres2⟩
        refine Ev.congr (f := fun k => (impl_Puzzle_solutions_1.f k l c [n] l out).bind fun r => if r.1 = true then impl_Puzzle_solutions.l k l c (m + 1) (n + 1) r.2 else some ([], false)) (fun k => ?_) (Ev.bind (f := fun k (r : Bool × List (List Int)) => _) hr ?_)
        · show impl_Puzzle_solutions.l _ _ _ _ _ _ = _
          rw [impl_Puzzle_solutions.l, if_pos hn9, hf0]
          simp only [Option.bind_some]
          rw [if_pos hf]
        · simpa using hr2
      · rw [if_neg hs] at hres
        refine ⟨([], false), ?_, ?_⟩
        · refine Ev.congr (f := fun k => (impl_Puzzle_solutions_1.f k l c [n] l out).bind fun r => if r.1 = true then impl_Puzzle_solutions.l k l c (m + 1) (n + 1) r.2 else some ([], false)) (fun k => ?_) (Ev.bind (f := fun k (r : Bool × List (List Int)) => _) hr ⟨0, fun k _ => ?_⟩)
          · show impl_Puzzle_solutions.l _ _ _ _ _ _ = _
            rw [impl_Puzzle_solutions.l, if_pos hn9, hf0]
            simp only [Option.bind_some]
            rw [if_pos hf]
          · (try dsimp only)
            rw [hres]
            simp
        · rw [if_neg (by simp only [List.length_append] at hs ⊢; omega)]
    · rw [if_neg hf, List.nil_append]
      obtain ⟨r2, hr2, hres2⟩ := ih (n + 1) out (by omega) (by omega) ho
      refine ⟨r2, Ev.congr (fun k => ?_) hr2, hres2⟩
      show impl_Puzzle_solutions.l _ _ _ _ _ _ = _
      rw [impl_Puzzle_solutions.l, if_pos hn9, hf0]
      simp only [Option.bind_some]
      rw [if_neg hf]
theorem sols_impl (l : List S25) (c : List Int) (hl : row l) (hc : c.length ≤ 100) (hlc : c.length = l.length + 1) : Ev (fun k => impl_Puzzle_solutions.f k l c) (if (sols c l).length ≤ 200 then (sols c l, true) else ([], false)) := by
  obtain ⟨r, h1, h2⟩ := impl_all_loop l c hl hc hlc 10 0 [] (by omega) (by omega) (by simp)
  have : r = if (sols c l).length ≤ 200 then (sols c l, true) else ([], false) := by
    simp only [List.nil_append] at h2
    by_cases h : (sols c l).length ≤ 200
    · rw [if_pos h]
      rw [if_pos (show ((upf 10 0).flatMap fun n => if fit c 0 n = true then srch c (l.length + 1) [n] l else []).length ≤ 200 from h)] at h2
      exact h2
    · rw [if_neg h]
      rw [if_neg (show ¬ ((upf 10 0).flatMap fun n => if fit c 0 n = true then srch c (l.length + 1) [n] l else []).length ≤ 200 from h)] at h2
      exact h2
  rw [← this]
  exact h1
/-! .. and the reference's -/
def ResS (out S o : List (List Int)) : Prop := if (out ++ S).length ≤ 200 then o = out ++ S else 200 < o.length
theorem ResS_nil (out : List (List Int)) : ResS out [] out := by
  unfold ResS
  rw [List.append_nil]
  by_cases h : out.length ≤ 200
  · rw [if_pos h]
  · rw [if_neg h]
    omega
theorem ResS_full (out S : List (List Int)) (h : out.length > 200) : ResS out S out := by
  unfold ResS
  rw [if_neg (by simp; omega)]
  omega
theorem ResS_step {out S S' o o' : List (List Int)} (h1 : ResS out S o) (h2 : ResS o S' o') : ResS out (S ++ S') o' := by
  unfold ResS at *
  by_cases h : (out ++ S).length ≤ 200
  · rw [if_pos h] at h1
    subst h1
    rw [← List.append_assoc]
    exact h2
  · rw [if_neg h] at h1
    rw [if_neg (by simp only [List.length_append] at h ⊢; omega)]
    rw [if_neg (by simp; omega)] at h2
    exact h2
theorem own_f (p : List Int) (h : p.length ≤ 1000000) : spec_l1Own.f p = some p := by
  unfold spec_l1Own.f
  simp only [Option.bind_some, List.length_nil, List.nil_append]
  rw [if_pos (by omega)]
theorem those_ev (t : S25) : ∀ (rest pre out : List S25), (pre ++ rest).length ≤ 1000 → out.length ≤ pre.length → Ev (fun k => spec_tiThose.l0 k [t] false out (pre ++ rest) ((pre ++ rest).length : Int) (pre.length : Int)) (out ++ rem rest t) := by
  intro rest
  induction rest with
  | nil =>
    intro pre out hl ho
    refine Ev.step (f := fun _ => some (out ++ rem [] t)) (fun k => ?_) (Ev.now _)
    simp only [spec_tiThose.l0, List.append_nil]
    rw [if_neg (by omega)]
    simp [rem]
  | cons x xs ih =>
    intro pre out hl ho
    have hlen : (pre ++ x :: xs).length = pre.length + xs.length + 1 := by simp; omega
    have hget : rd_T25 (pre ++ x :: xs) (pre.length : Int) = x := by
      unfold rd_T25
      exact t_mid pre x xs _
    have e1 : pre ++ [x] ++ xs = pre ++ x :: xs := by simp
    obtain ⟨r, h1, h2⟩ := place_f x [t] (by simp)
    refine Ev.step (f := fun k => (spec_tiPlace.f k [t] x.f0 x.f1).bind fun t195 => (if ((decide (t195 ≥ 0)) == false) = true then (spec_tiThose.l0 k [t] false (out ++ [x]) (pre ++ x :: xs) ((pre ++ x :: xs).length : Int) (((pre ++ [x]).length : Nat) : Int)) else (spec_tiThose.l0 k [t] false out (pre ++ x :: xs) ((pre ++ x :: xs).length : Int) (((pre ++ [x]).length : Nat) : Int)))) (fun k => ?_) (Ev.bind (f := fun k (r : Int) => _) h1 ?_)
    · simp only [spec_tiThose.l0]
      rw [if_pos (by omega), if_pos (by omega), if_pos (by omega), hget, t_wrap ((pre.length : Int) + 1) (by omega) (by omega), if_pos (by omega)]
      simp [t_eta]
    · (try dsimp only)
      rw [h2]
      by_cases e : x = t
      · have hi := ih (pre ++ [x]) out (by simpa using hl) (by simp; omega)
        rw [e1] at hi
        refine Ev.congr (fun k => ?_) (show Ev _ (out ++ rem (x :: xs) t) from by
          have : rem (x :: xs) t = rem xs t := by simp [rem, e]
          rw [this]
          exact hi)
        simp [e]
      · have hi := ih (pre ++ [x]) (out ++ [x]) (by simpa using hl) (by simp; omega)
        rw [e1] at hi
        refine Ev.congr (fun k => ?_) (show Ev _ (out ++ rem (x :: xs) t) from by
          have : out ++ rem (x :: xs) t = out ++ [x] ++ rem xs t := by simp [rem, e]
          rw [this]
          exact hi)
        simp [e]
theorem those_rem (l : List S25) (hl : row l) (t : S25) : Ev (fun k => spec_tiThose.f k l [t] false) (rem l t) := by
  obtain ⟨hh, hs⟩ := row_isH hl
  obtain ⟨s, h1, h2, _, _, h5⟩ := sort_f l hh
  rw [hs] at h5
  have e : s = l := of_decide_eq_true h5
  subst e
  unfold spec_tiThose.f
  refine Ev.bind (f := fun k (s : List S25) => _) h1 ?_
  simpa using those_ev t s [] [] (by have := hl.1; simp; omega) (by simp)
theorem times_ev (n : Int) : ∀ (rest pre : List S25) (a : Int), (pre ++ rest).length ≤ 1000 → 0 ≤ a → a ≤ 2 * pre.length → ∃ t : Int, Ev (fun k => spec_tiTimes.l0 k n a (pre ++ rest) ((pre ++ rest).length : Int) (pre.length : Int)) t ∧ a ≤ t ∧ (t > a ↔ ∃ x ∈ rest, x.f0 = n ∨ x.f1 = n) := by
  intro rest
  induction rest with
  | nil =>
    intro pre a hl h0 h1
    refine ⟨a, Ev.step (f := fun _ => some a) (fun k => ?_) (Ev.now _), Int.le_refl _, by simp⟩
    simp only [spec_tiTimes.l0, List.append_nil]
    rw [if_neg (by omega)]
  | cons x xs ih =>
    intro pre a hl h0 h1
    have hlen : (pre ++ x :: xs).length = pre.length + xs.length + 1 := by simp; omega
    have hget : rd_T25 (pre ++ x :: xs) (pre.length : Int) = x := by
      unfold rd_T25
      exact t_mid pre x xs _
    have e1 : pre ++ [x] ++ xs = pre ++ x :: xs := by simp
    have hw := t_wrap ((pre.length : Int) + 1) (by omega) (by omega)
    by_cases ha : x.f0 = n
    · by_cases hb : x.f1 = n
      · obtain ⟨t, q1, q2, q3⟩ := ih (pre ++ [x]) (a + 1 + 1) (by simpa using hl) (by omega) (by simp; omega)
        rw [e1] at q1
        refine ⟨t, Ev.step (fun k => ?_) q1, by omega, ⟨fun _ => ⟨x, List.mem_cons_self, .inl ha⟩, fun _ => by omega⟩⟩
        simp only [spec_tiTimes.l0]
        rw [if_pos (by omega), if_pos (by omega), if_pos (by omega), hget, if_pos ha, if_pos hb, hw, t_wrap (a + 1) (by omega) (by omega), t_wrap (a + 1 + 1) (by omega) (by omega)]
        simp
      · obtain ⟨t, q1, q2, q3⟩ := ih (pre ++ [x]) (a + 1) (by simpa using hl) (by omega) (by simp; omega)
        rw [e1] at q1
        refine ⟨t, Ev.step (fun k => ?_) q1, by omega, ⟨fun _ => ⟨x, List.mem_cons_self, .inl ha⟩, fun _ => by omega⟩⟩
        simp only [spec_tiTimes.l0]
        rw [if_pos (by omega), if_pos (by omega), if_pos (by omega), hget, if_pos ha, if_neg hb, hw, t_wrap (a + 1) (by omega) (by omega)]
        simp
    · by_cases hb : x.f1 = n
      · obtain ⟨t, q1, q2, q3⟩ := ih (pre ++ [x]) (a + 1) (by simpa using hl) (by omega) (by simp; omega)
        rw [e1] at q1
        refine ⟨t, Ev.step (fun k => ?_) q1, by omega, ⟨fun _ => ⟨x, List.mem_cons_self, .inr hb⟩, fun _ => by omega⟩⟩
        simp only [spec_tiTimes.l0]
        rw [if_pos (by omega), if_pos (by omega), if_pos (by omega), hget, if_neg ha, if_pos hb, hw, t_wrap (a + 1) (by omega) (by omega)]
        simp
      · obtain ⟨t, q1, q2, q3⟩ := ih (pre ++ [x]) a (by simpa using hl) (by omega) (by simp; omega)
        rw [e1] at q1
        refine ⟨t, Ev.step (fun k => ?_) q1, by omega, ?_⟩
        · simp only [spec_tiTimes.l0]
          rw [if_pos (by omega), if_pos (by omega), if_pos (by omega), hget, if_neg ha, if_neg hb, hw]
          simp
        · rw [q3]
          constructor
          · rintro ⟨y, hy, h⟩
            exact ⟨y, List.mem_cons_of_mem _ hy, h⟩
          · rintro ⟨y, hy, h⟩
            rcases List.mem_cons.1 hy with e | e
            · subst e
              rcases h with h | h
              · exact absurd h ha
              · exact absurd h hb
            · exact ⟨y, e, h⟩
theorem times_any (l : List S25) (hl : l.length ≤ 1000) (n : Int) : ∃ t : Int, Ev (fun k => spec_tiTimes.f k l n) t ∧ (t > 0 ↔ ∃ x ∈ l, x.f0 = n ∨ x.f1 = n) := by
  obtain ⟨t, h1, _, h3⟩ := times_ev n l [] 0 (by simpa using hl) (by omega) (by simp)
  exact ⟨t, h1, h3⟩
theorem sOf_has (x y : Int) : (sOf x y).f0 = x ∨ (sOf x y).f1 = x := by
  unfold sOf mn mx
  by_cases h : y < x
  · right
    have : ¬ x < y := by omega
    simp [this]
  · left
    simp [h]
theorem srch_none (c : List Int) (d : Nat) (n : Int) (l : List S25) (h0 : l ≠ []) (h : ¬ ∃ x ∈ l, x.f0 = n ∨ x.f1 = n) : srch c d [n] l = [] := by
  cases d with
  | zero => rfl
  | succ d =>
    simp only [srch]
    rw [if_neg h0, List.flatMap_eq_nil_iff]
    intro m _
    rw [if_neg]
    rintro ⟨_, hm⟩
    exact h ⟨_, hm, sOf_has n m⟩
theorem want_fit (c : List Int) (hc9 : ∀ x ∈ c, -1 ≤ x) (at_ : Nat) (n : Int) (h : at_ < c.length) : (0 ≤ rd c (at_ : Int) ∧ rd c (at_ : Int) ≠ n) ↔ ¬ fit c at_ n = true := by
  have hm : rd c (at_ : Int) ∈ c := by
    unfold rd
    rw [show ((at_ : Int)).toNat = at_ from rfl, List.getD_eq_getElem?_getD, List.getElem?_eq_getElem h]
    exact List.getElem_mem h
  have := hc9 _ hm
  unfold fit
  simp only [decide_eq_true_eq]
  omega
theorem spec_loop (c p : List Int) (l : List S25) (d : Nat) (hl : row l) (hp : 0 < p.length) (hpc : p.length < c.length) (hc : c.length ≤ 100) (hc9 : ∀ x ∈ c, -1 ≤ x)
    (hrec : ∀ n, 0 ≤ n → n ≤ 9 → sOf (last_ p) n ∈ l → ∀ out : List (List Int), ∃ r, Ev (fun k => spec_pzLook.f k c (p ++ [n]) (rem l (sOf (last_ p) n)) out) r ∧ ResS out (srch c d (p ++ [n]) (rem l (sOf (last_ p) n))) r) :
    ∀ (m : Nat) (n : Int) (out : List (List Int)), n + m = 10 → 0 ≤ n → ∃ r, Ev (fun k => spec_pzLook.l k (fun b h o => spec_pzLook.f k c b h o) c p l (m + 1) n out) r ∧
      ResS out ((upf m n).flatMap fun n => if fit c p.length n = true ∧ sOf (last_ p) n ∈ l then srch c d (p ++ [n]) (rem l (sOf (last_ p) n)) else []) r := by
  intro m
  induction m with
  | zero =>
    intro n out hn h0
    refine ⟨out, ⟨0, fun k _ => ?_⟩, ResS_nil out⟩
    show spec_pzLook.l _ _ _ _ _ _ _ _ = _
    rw [spec_pzLook.l, if_neg (by omega)]
  | succ m ih =>
    intro n out hn h0
    have hn9 : n ≤ 9 := by omega
    have hwf := want_fit c hc9 p.length n hpc
    simp only [upf, List.flatMap_cons]
    by_cases hf : fit c p.length n = true
    · have hnw : ¬ (0 ≤ rd c (p.length : Int) ∧ rd c (p.length : Int) ≠ n) := fun h => (hwf.1 h) hf
      obtain ⟨q, hq, hq1⟩ := place_f (sOf (last_ p) n) l (by have := hl.1; omega)
      have hgo : ∀ r', Ev (fun k => (spec_tiPlace.f k l (sOf (last_ p) n).f0 (sOf (last_ p) n).f1).bind fun q => if q ≥ 0 then ((spec_l1Own.f p).bind fun b2 => if b2.length < 17592186044415 then ((spec_tiThose.f k l [sOf (last_ p) n] false).bind fun h2 => ((spec_pzLook.f k c (b2 ++ [n]) h2 out).bind fun o => spec_pzLook.l k (fun b h o => spec_pzLook.f k c b h o) c p l (m + 1) (n + 1) o)) else none) else spec_pzLook.l k (fun b h o => spec_pzLook.f k c b h o) c p l (m + 1) (n + 1) out) r' →
          Ev (fun k => spec_pzLook.l k (fun b h o => spec_pzLook.f k c b h o) c p l (m + 1 + 1) n out) r' := by
        intro r' h
        refine Ev.congr (fun k => ?_) h
        show spec_pzLook.l _ _ _ _ _ _ _ _ = _
        rw [spec_pzLook.l, if_pos hn9, if_pos hpc, if_neg hnw, if_neg (by omega), show rd p ((p.length : Int) - 1) = last_ p from rfl, sOf_spec]
        simp only [Option.bind_some, t_eta]
      by_cases hm : sOf (last_ p) n ∈ l
      · rw [if_pos ⟨hf, hm⟩]
        rw [decide_eq_true hm] at hq1
        have q0 : q ≥ 0 := of_decide_eq_true hq1
        obtain ⟨o1, ho1, hres1⟩ := hrec n h0 (by omega) hm out
        obtain ⟨o2, ho2, hres2⟩ := ih (n + 1) o1 (by omega) (by omega)
        refine ⟨o2, hgo o2 (Ev.bind (f := fun k (q : Int) => _) hq ?_), ResS_step hres1 hres2⟩
        refine Ev.congr (f := fun k => (spec_tiThose.f k l [sOf (last_ p) n] false).bind fun h2 => ((spec_pzLook.f k c (p ++ [n]) h2 out).bind fun o => spec_pzLook.l k (fun b h o => spec_pzLook.f k c b h o) c p l (m + 1) (n + 1) o)) (fun k => ?_) ?_
        · (try dsimp only)
          rw [if_pos q0, own_f p (by omega)]
          simp only [Option.bind_some]
          rw [if_pos (by omega)]
        · exact Ev.bind (f := fun k (h2 : List S25) => _) (those_rem l hl _) (Ev.bind (f := fun k (o : List (List Int)) => _) ho1 ho2)
      · rw [if_neg (fun h => hm h.2), List.nil_append]
        rw [decide_eq_false hm] at hq1
        have q0 : ¬ q ≥ 0 := of_decide_eq_false hq1
        obtain ⟨o2, ho2, hres2⟩ := ih (n + 1) out (by omega) (by omega)
        refine ⟨o2, hgo o2 (Ev.bind (f := fun k (q : Int) => _) hq (Ev.congr (fun k => ?_) ho2)), hres2⟩
        (try dsimp only)
        rw [if_neg q0]
    · have hw : 0 ≤ rd c (p.length : Int) ∧ rd c (p.length : Int) ≠ n := hwf.2 hf
      obtain ⟨o2, ho2, hres2⟩ := ih (n + 1) out (by omega) (by omega)
      rw [if_neg (fun h => hf h.1), List.nil_append]
      refine ⟨o2, Ev.congr (fun k => ?_) ho2, hres2⟩
      show spec_pzLook.l _ _ _ _ _ _ _ _ = _
      rw [spec_pzLook.l, if_pos hn9, if_pos hpc, if_pos hw]
theorem spec_look (c : List Int) (hc : c.length ≤ 100) (hc9 : ∀ x ∈ c, -1 ≤ x) : ∀ (d : Nat) (p : List Int) (l : List S25) (out : List (List Int)), row l → 0 < p.length → p.length + l.length = c.length → l.length < d →
    ∃ r, Ev (fun k => spec_pzLook.f k c p l out) r ∧ ResS out (srch c d p l) r := by
  intro d
  induction d with
  | zero => intro p l out _ _ _ h; omega
  | succ d ih =>
    intro p l out hl hp hpc hd
    by_cases hfull : out.length > 200
    · refine ⟨out, Ev.step (f := fun _ => some out) (fun k => ?_) (Ev.now _), ResS_full out _ hfull⟩
      simp only [spec_pzLook.f]
      rw [if_pos hfull]
    · by_cases h0 : l = []
      · subst h0
        refine ⟨out ++ [p], Ev.step (f := fun _ => some (out ++ [p])) (fun k => ?_) (Ev.now _), ?_⟩
        · simp only [spec_pzLook.f]
          rw [if_neg hfull, if_pos (by simpa using hpc), own_f p (by have : p.length = c.length := by simpa using hpc
                                                                     omega)]
          rfl
        · unfold ResS
          rw [srch, if_pos rfl]
          by_cases h : (out ++ [p]).length ≤ 200
          · rw [if_pos h]
          · rw [if_neg h]
            omega
      · have hpos : 0 < l.length := List.length_pos_iff.2 h0
        obtain ⟨r, h1, h2⟩ := spec_loop c p l d hl hp (by omega) hc hc9 (fun n hn0 hn9 hm o => by
          have := rem_len (row_nodup hl) _ hm
          exact ih (p ++ [n]) (rem l (sOf (last_ p) n)) o (row_rem hl _) (by simp) (by simp; omega) (by omega)) 10 0 out (by omega) (by omega)
        refine ⟨r, Ev.step (fun k => ?_) h1, ?_⟩
        · simp only [spec_pzLook.f]
          rw [if_neg hfull, if_neg (by omega)]
        · simp only [srch]
          rw [if_neg h0]
          exact h2
theorem spec_all_loop (l : List S25) (c : List Int) (hl : row l) (h0 : l ≠ []) (hc : c.length ≤ 100) (hlc : c.length = l.length + 1) (hc9 : ∀ x ∈ c, -1 ≤ x) : ∀ (m : Nat) (n : Int) (out : List (List Int)), n + m = 10 → 0 ≤ n →
    ∃ r, Ev (fun k => spec_pzLook.l k (fun b h o => spec_pzLook.f k c b h o) c [] l (m + 1) n out) r ∧ ResS out ((upf m n).flatMap fun n => if fit c 0 n = true then srch c (l.length + 1) [n] l else []) r := by
  intro m
  induction m with
  | zero =>
    intro n out hn h0
    refine ⟨out, ⟨0, fun k _ => ?_⟩, ResS_nil out⟩
    show spec_pzLook.l _ _ _ _ _ _ _ _ = _
    rw [spec_pzLook.l, if_neg (by omega)]
  | succ m ih =>
    intro n out hn hn0
    have hn9 : n ≤ 9 := by omega
    have hpc : ([] : List Int).length < c.length := by simp; omega
    have hwf := want_fit c hc9 0 n (by omega)
    simp only [upf, List.flatMap_cons]
    by_cases hf : fit c 0 n = true
    · have hnw : ¬ (0 ≤ rd c ((([] : List Int).length : Nat) : Int) ∧ rd c ((([] : List Int).length : Nat) : Int) ≠ n) := fun h => (hwf.1 h) hf
      rw [if_pos hf]
      obtain ⟨t, ht, ht1⟩ := times_any l (by have := hl.1; omega) n
      have hgo : ∀ r', Ev (fun k => (spec_tiTimes.f k l n).bind fun t => if t > 0 then ((spec_pzLook.f k c [n] l out).bind fun o => spec_pzLook.l k (fun b h o => spec_pzLook.f k c b h o) c [] l (m + 1) (n + 1) o) else spec_pzLook.l k (fun b h o => spec_pzLook.f k c b h o) c [] l (m + 1) (n + 1) out) r' →
          Ev (fun k => spec_pzLook.l k (fun b h o => spec_pzLook.f k c b h o) c [] l (m + 1 + 1) n out) r' := by
        intro r' h
        refine Ev.congr (fun k => ?_) h
        show spec_pzLook.l _ _ _ _ _ _ _ _ = _
        rw [spec_pzLook.l, if_pos hn9, if_pos hpc, if_neg hnw, if_pos (show ([] : List Int).length = 0 from rfl)]
      by_cases hx : ∃ x ∈ l, x.f0 = n ∨ x.f1 = n
      · have t0 := ht1.2 hx
        obtain ⟨o1, ho1, hres1⟩ := spec_look c hc hc9 (l.length + 1) [n] l out hl (by simp) (by simp; omega) (by omega)
        obtain ⟨o2, ho2, hres2⟩ := ih (n + 1) o1 (by omega) (by omega)
        refine ⟨o2, hgo o2 (Ev.bind (f := fun k (t : Int) => _) ht (Ev.congr (fun k => ?_) (Ev.bind (f := fun k (o : List (List Int)) => spec_pzLook.l k (fun b h o => spec_pzLook.f k c b h o) c [] l (m + 1) (n + 1) o) ho1 ho2))), ResS_step hres1 hres2⟩
        (try dsimp only)
        rw [if_pos t0]
      · have t0 : ¬ t > 0 := fun h => hx (ht1.1 h)
        rw [srch_none c _ n l h0 hx, List.nil_append]
        obtain ⟨o2, ho2, hres2⟩ := ih (n + 1) out (by omega) (by omega)
        refine ⟨o2, hgo o2 (Ev.bind (f := fun k (t : Int) => _) ht (Ev.congr (fun k => ?_) ho2)), hres2⟩
        (try dsimp only)
        rw [if_neg t0]
    · have hw : 0 ≤ rd c ((([] : List Int).length : Nat) : Int) ∧ rd c ((([] : List Int).length : Nat) : Int) ≠ n := hwf.2 hf
      obtain ⟨o2, ho2, hres2⟩ := ih (n + 1) out (by omega) (by omega)
      rw [if_neg hf, List.nil_append]
      refine ⟨o2, Ev.congr (fun k => ?_) ho2, hres2⟩
      show spec_pzLook.l _ _ _ _ _ _ _ _ = _
      rw [spec_pzLook.l, if_pos hn9, if_pos hpc, if_pos hw]
theorem sols_spec (l : List S25) (c : List Int) (hl : row l) (h0 : l ≠ []) (hc : c.length ≤ 100) (hlc : c.length = l.length + 1) (hc9 : ∀ x ∈ c, -1 ≤ x) : ∃ o, Ev (fun k => spec_pzAll.f k l c) (o, decide ((sols c l).length ≤ 200)) ∧ ((sols c l).length ≤ 200 → o = sols c l) := by
  obtain ⟨o, h1, h2⟩ := spec_all_loop l c hl h0 hc hlc hc9 10 0 [] (by omega) (by omega)
  have h3 : Ev (fun k => spec_pzLook.f k c [] l []) o := by
    refine Ev.step (fun k => ?_) h1
    simp only [spec_pzLook.f]
    rw [if_neg (by simp), if_neg (by simp; omega)]
  unfold ResS at h2
  rw [List.nil_append] at h2
  have h4 : (if (sols c l).length ≤ 200 then o = sols c l else 200 < o.length) := h2
  refine ⟨o, ?_, fun h => by rw [if_pos h] at h4; exact h4⟩
  have hb : decide ((o.length : Int) ≤ 200) = decide ((sols c l).length ≤ 200) := by
    by_cases h : (sols c l).length ≤ 200
    · rw [if_pos h] at h4
      subst h4
      rw [decide_eq_true h, decide_eq_true (by omega)]
    · rw [if_neg h] at h4
      rw [decide_eq_false h, decide_eq_false (by omega)]
  unfold spec_pzAll.f
  rw [← hb]
  exact Ev.bind (f := fun _ (o : List (List Int)) => some (o, decide ((o.length : Int) ≤ 200))) h3 ⟨0, fun k _ => rfl⟩
/-- Asked of a puzzle: the list and whether it is told; nothing where there is none. -/
theorem asked_both (l : List S25) (c : List Int) (hl : l.length ≤ 2000000) (hc : c.length ≤ 2000000) : ∃ (b : Bool) (A o : List (List Int)), Ev (fun k => spec_pzAsked.f k l c) (o, b) ∧ Ev (fun k => impl_Solutions.f k l c) (A, b) ∧ (b = true → o = A) ∧ (b = false → A = []) ∧ A.length ≤ 200 ∧ (b = true → pz l c = true ∧ A = sols c l) := by
  have h1 := pz_spec l c hl hc
  have h2 := pz_impl l c hl
  unfold spec_pzAsked.f impl_Solutions.f
  cases hp : pz l c
  · rw [hp] at h1 h2
    refine ⟨false, [], [], Ev.bind (f := fun k t => _) h1 ⟨0, fun k _ => ?_⟩, Ev.bind (f := fun k t => _) h2 ⟨0, fun k _ => ?_⟩, fun h => ?_, fun _ => rfl, ?_, fun h => ?_⟩
    · simp
    · simp
    · cases h
    · simp
    · cases h
  · rw [hp] at h1 h2
    obtain ⟨p1, p2, p3, p4, p5, p6⟩ := pz_true l c hp
    have hrow := row_of p3 p6
    have hne : l ≠ [] := fun e => by rw [e] at p1; simp at p1
    obtain ⟨o, g1, g2⟩ := sols_spec l c hrow hne (by omega) p4 (fun x hx => (p5 x hx).1)
    have g3 := sols_impl l c hrow (by omega) p4
    by_cases hs : (sols c l).length ≤ 200
    · rw [if_pos hs] at g3
      rw [decide_eq_true hs] at g1
      refine ⟨true, sols c l, o, Ev.bind (f := fun k t => _) h1 ?_, Ev.bind (f := fun k t => _) h2 ?_, fun _ => g2 hs, fun h => absurd h (by decide), hs, fun _ => ⟨rfl, rfl⟩⟩
      · simpa using Ev.bind (f := fun _ (bt201 : List (List Int) × Bool) => some (bt201.1, bt201.2)) g1 ⟨0, fun k _ => rfl⟩
      · simpa using Ev.bind (f := fun _ (bt201 : List (List Int) × Bool) => some (bt201.1, bt201.2)) g3 ⟨0, fun k _ => rfl⟩
    · rw [if_neg hs] at g3
      rw [decide_eq_false hs] at g1
      refine ⟨false, [], o, Ev.bind (f := fun k t => _) h1 ?_, Ev.bind (f := fun k t => _) h2 ?_, fun h => absurd h (by decide), fun _ => rfl, by simp, fun h => absurd h (by decide)⟩
      · simpa using Ev.bind (f := fun _ (bt201 : List (List Int) × Bool) => some (bt201.1, bt201.2)) g1 ⟨0, fun k _ => rfl⟩
      · simpa using Ev.bind (f := fun _ (bt201 : List (List Int) × Bool) => some (bt201.1, bt201.2)) g3 ⟨0, fun k _ => rfl⟩

/-! ### What all solutions have -/
theorem upf_mem : ∀ (m : Nat) (n x : Int), x ∈ upf m n → n ≤ x ∧ x < n + m := by
  intro m
  induction m with
  | zero => intro n x h; cases h
  | succ m ih =>
    intro n x h
    simp only [upf, List.mem_cons] at h
    rcases h with e | h
    · omega
    · have := ih (n + 1) x h
      omega
theorem srch_mem (c : List Int) : ∀ (d : Nat) (p : List Int) (l : List S25), row l → (∀ x ∈ p, 0 ≤ x ∧ x ≤ 9) → ∀ s ∈ srch c d p l, s.length = p.length + l.length ∧ ∀ x ∈ s, 0 ≤ x ∧ x ≤ 9 := by
  intro d
  induction d with
  | zero => intro p l _ _ s hs; cases hs
  | succ d ih =>
    intro p l hl hp s hs
    simp only [srch] at hs
    by_cases h0 : l = []
    · rw [if_pos h0] at hs
      have e : s = p := by simpa using hs
      subst e
      subst h0
      exact ⟨by simp, hp⟩
    · rw [if_neg h0] at hs
      obtain ⟨n, hn, hs⟩ := List.mem_flatMap.1 hs
      have hn9 := upf_mem 10 0 n hn
      by_cases hc : fit c p.length n = true ∧ sOf (last_ p) n ∈ l
      · rw [if_pos hc] at hs
        have hr := rem_len (row_nodup hl) _ hc.2
        obtain ⟨h1, h2⟩ := ih (p ++ [n]) (rem l (sOf (last_ p) n)) (row_rem hl _) (fun x hx => by
          rcases List.mem_append.1 hx with hx | hx
          · exact hp x hx
          · have e : x = n := by simpa using hx
            omega) s hs
        refine ⟨?_, h2⟩
        rw [h1]
        simp
        omega
      · rw [if_neg hc] at hs
        cases hs
theorem sols_mem (c : List Int) (l : List S25) (hl : row l) : ∀ s ∈ sols c l, s.length = l.length + 1 ∧ ∀ x ∈ s, 0 ≤ x ∧ x ≤ 9 := by
  intro s hs
  obtain ⟨n, hn, hs⟩ := List.mem_flatMap.1 hs
  have hn9 := upf_mem 10 0 n hn
  by_cases hf : fit c 0 n = true
  · rw [if_pos hf] at hs
    obtain ⟨h1, h2⟩ := srch_mem c (l.length + 1) [n] l hl (fun x hx => by
      have e : x = n := by simpa using hx
      omega) s hs
    exact ⟨by rw [h1]; simp; omega, h2⟩
  · rw [if_neg hf] at hs
    cases hs

/-! Marks. -/
def mt : Int → Nat → List S25
  | _, 0 => []
  | a, n + 1 => ⟨a, a + 1⟩ :: mt (a + 2) n
def mi : Int → Nat → List Int
  | _, 0 => []
  | a, n + 1 => a :: mi (a + 1) n
theorem mt_len : ∀ (n : Nat) (a : Int), (mt a n).length = n
  | 0, _ => rfl
  | n + 1, a => by unfold mt; rw [List.length_cons, mt_len n]
theorem mi_len : ∀ (n : Nat) (a : Int), (mi a n).length = n
  | 0, _ => rfl
  | n + 1, a => by unfold mi; rw [List.length_cons, mi_len n]
theorem set_mid {α : Type} (pre : List α) (x y : α) (xs : List α) : (pre ++ x :: xs).set ((pre.length : Int)).toNat y = pre ++ y :: xs := by
  rw [show ((pre.length : Int)).toNat = pre.length from rfl, List.set_append_right _ _ (Nat.le_refl _), Nat.sub_self, List.set_cons_zero]
theorem markT_ev : ∀ (rest pre : List S25) (a : Int), (pre ++ rest).length ≤ 2000000 → 0 ≤ a → a ≤ 100 + 2 * pre.length → Ev (fun k => laws_markTileS.l0 k (pre ++ rest) a (pre.length : Int)) (a + 2 * (rest.length : Int), pre ++ mt a rest.length) := by
  intro rest
  induction rest with
  | nil =>
    intro pre a hl h0 h1
    refine Ev.step (f := fun _ => some (a, pre ++ [])) (fun k => ?_) ⟨0, fun k _ => by simp [mt]⟩
    simp only [laws_markTileS.l0, List.append_nil]
    rw [if_neg (by omega)]
  | cons x xs ih =>
    intro pre a hl h0 h1
    have hlen : (pre ++ x :: xs).length = pre.length + xs.length + 1 := by simp; omega
    have hi := ih (pre ++ [⟨a, a + 1⟩]) (a + 2) (by simpa using hl) (by omega) (by simp; omega)
    refine Ev.step (fun k => ?_) (show Ev _ (a + 2 * ((x :: xs).length : Int), pre ++ mt a (x :: xs).length) from by
      have e : pre ++ mt a (x :: xs).length = pre ++ [⟨a, a + 1⟩] ++ mt (a + 2) xs.length := by simp [mt]
      have e2 : a + 2 * ((x :: xs).length : Int) = a + 2 + 2 * (xs.length : Int) := by rw [List.length_cons]; omega
      rw [e, e2]
      exact hi)
    simp only [laws_markTileS.l0, Option.bind_some]
    rw [if_pos (by omega), if_pos (by omega), set_mid, set_mid]
    unfold rd_T25
    rw [t_wrap ((pre.length : Int) + 1) (by omega) (by omega), t_wrap (a + 1) (by omega) (by omega), t_wrap (a + 1 + 1) (by omega) (by omega), show ((pre.length : Int)).toNat = pre.length from rfl, t_mid]
    simp only [List.append_assoc, List.singleton_append, List.length_append, List.length_cons, List.length_nil]
    rw [show a + 1 + 1 = a + 2 from by omega]
    rfl
theorem markI_ev : ∀ (rest pre : List Int) (a : Int), (pre ++ rest).length ≤ 2000000 → 0 ≤ a → a ≤ 10000000 + pre.length → Ev (fun k => laws_markIntS.l0 k (pre ++ rest) a (pre.length : Int)) (a + (rest.length : Int), pre ++ mi a rest.length) := by
  intro rest
  induction rest with
  | nil =>
    intro pre a hl h0 h1
    refine Ev.step (f := fun _ => some (a, pre ++ [])) (fun k => ?_) ⟨0, fun k _ => by simp [mi]⟩
    simp only [laws_markIntS.l0, List.append_nil]
    rw [if_neg (by omega)]
  | cons x xs ih =>
    intro pre a hl h0 h1
    have hlen : (pre ++ x :: xs).length = pre.length + xs.length + 1 := by simp; omega
    have hi := ih (pre ++ [a]) (a + 1) (by simpa using hl) (by omega) (by simp; omega)
    refine Ev.step (fun k => ?_) (show Ev _ (a + ((x :: xs).length : Int), pre ++ mi a (x :: xs).length) from by
      have e : pre ++ mi a (x :: xs).length = pre ++ [a] ++ mi (a + 1) xs.length := by simp [mi]
      have e2 : a + ((x :: xs).length : Int) = a + 1 + (xs.length : Int) := by rw [List.length_cons]; omega
      rw [e, e2]
      exact hi)
    simp only [laws_markIntS.l0]
    rw [if_pos (by omega), if_pos (by omega), set_mid, t_wrap ((pre.length : Int) + 1) (by omega) (by omega), t_wrap (a + 1) (by omega) (by omega)]
    simp only [List.append_assoc, List.singleton_append, List.length_append, List.length_cons, List.length_nil]
    rfl
theorem heldI_ev : ∀ (n : Nat) (pre : List Int) (a : Int), pre.length + n ≤ 2000000 → 0 ≤ a → a ≤ 10000000 + pre.length → Ev (fun k => laws_heldIntS.l0 k (pre ++ mi a n) a (pre.length : Int)) (a + (n : Int)) := by
  intro n
  induction n with
  | zero =>
    intro pre a hl h0 h1
    refine Ev.step (f := fun _ => some a) (fun k => ?_) ⟨0, fun k _ => by simp⟩
    simp only [laws_heldIntS.l0, mi, List.append_nil]
    rw [if_neg (by omega)]
  | succ n ih =>
    intro pre a hl h0 h1
    have hlen : (pre ++ mi a (n + 1)).length = pre.length + n + 1 := by rw [List.length_append, mi_len]; omega
    have hget : rd (pre ++ mi a (n + 1)) (pre.length : Int) = a := by
      unfold mi
      exact i_mid pre _ _
    have hi := ih (pre ++ [a]) (a + 1) (by simp; omega) (by omega) (by simp; omega)
    refine Ev.step (fun k => ?_) (show Ev _ (a + ((n + 1 : Nat) : Int)) from by
      have e2 : a + ((n + 1 : Nat) : Int) = a + 1 + (n : Int) := by omega
      rw [e2]
      exact hi)
    simp only [laws_heldIntS.l0]
    rw [if_pos (by omega), if_pos (by omega), hget, t_wrap ((pre.length : Int) + 1) (by omega) (by omega), t_wrap (a + 1) (by omega) (by omega)]
    simp [mi]
/-! ### Rows of rows -/
theorem ll_mid (pre : List (List Int)) (x : List Int) (xs : List (List Int)) : rd_L4 (pre ++ x :: xs) (pre.length : Int) = x := by
  unfold rd_L4
  simp
def ms : Int → List (List Int) → List (List Int)
  | _, [] => []
  | a, x :: xs => mi a x.length :: ms (a + x.length) xs
def tot : List (List Int) → Int
  | [] => 0
  | x :: xs => x.length + tot xs
theorem ms_len : ∀ (l : List (List Int)) (a : Int), (ms a l).length = l.length
  | [], _ => rfl
  | x :: xs, a => by rw [ms, List.length_cons, ms_len xs, List.length_cons]
theorem tot_pos : ∀ (l : List (List Int)), 0 ≤ tot l
  | [] => Int.le_refl _
  | x :: xs => by
    have := tot_pos xs
    unfold tot
    omega
theorem markSS_ev : ∀ (rest pre : List (List Int)) (a : Int), (pre ++ rest).length ≤ 1000 → (∀ s ∈ rest, s.length ≤ 1000) → 0 ≤ a → a ≤ 1000 + 1000 * (pre.length : Int) → Ev (fun k => laws_markIntSS.l0 k (pre ++ rest) a (pre.length : Int)) (a + tot rest, pre ++ ms a rest) := by
  intro rest
  induction rest with
  | nil =>
    intro pre a hl _ h0 h1
    refine Ev.step (f := fun _ => some (a + tot [], pre ++ ms a [])) (fun k => ?_) (Ev.now _)
    simp only [laws_markIntSS.l0, List.append_nil, tot, ms]
    rw [if_neg (by omega)]
    simp
  | cons x xs ih =>
    intro pre a hl hs h0 h1
    have hlen : (pre ++ x :: xs).length = pre.length + xs.length + 1 := by simp; omega
    have hx := hs x List.mem_cons_self
    have hi := ih (pre ++ [mi a x.length]) (a + x.length) (by simp; omega) (fun s h => hs s (List.mem_cons_of_mem _ h)) (by omega) (by simp; omega)
    have hm : Ev (fun k => laws_markIntS.f k x a) (a + (x.length : Int), mi a x.length) := by
      unfold laws_markIntS.f
      simpa using markI_ev x [] a (by simp; omega) h0 (by simp; omega)
    refine Ev.step (f := fun k => (laws_markIntS.f k x a).bind fun bt => laws_markIntSS.l0 k ((pre ++ x :: xs).set ((pre.length : Int)).toNat bt.2) bt.1 (((pre ++ [mi a x.length]).length : Nat) : Int)) (fun k => ?_) ?_
    · simp only [laws_markIntSS.l0]
      rw [if_pos (by omega), if_pos (by omega), ll_mid, t_wrap ((pre.length : Int) + 1) (by omega) (by omega)]
      simp
    · refine Ev.bind (f := fun k (bt : Int × List Int) => laws_markIntSS.l0 k ((pre ++ x :: xs).set ((pre.length : Int)).toNat bt.2) bt.1 (((pre ++ [mi a x.length]).length : Nat) : Int)) hm ?_
      rw [set_mid]
      have e : pre ++ mi a x.length :: xs = pre ++ [mi a x.length] ++ xs := by simp
      have e2 : (a + tot (x :: xs), pre ++ ms a (x :: xs)) = (a + (x.length : Int) + tot xs, pre ++ [mi a x.length] ++ ms (a + x.length) xs) := by
        simp only [tot, ms, List.append_assoc, List.singleton_append, Prod.mk.injEq, and_true]
        omega
      rw [e, e2]
      exact hi
theorem heldSS_ev : ∀ (rest pre : List (List Int)) (a : Int), pre.length + rest.length ≤ 1000 → (∀ s ∈ rest, s.length ≤ 1000) → 0 ≤ a → a ≤ 1000 + 1000 * (pre.length : Int) → Ev (fun k => laws_heldIntSS.l0 k (pre ++ ms a rest) a (pre.length : Int)) (a + tot rest) := by
  intro rest
  induction rest with
  | nil =>
    intro pre a hl _ h0 h1
    refine Ev.step (f := fun _ => some (a + tot [])) (fun k => ?_) (Ev.now _)
    simp only [laws_heldIntSS.l0, List.append_nil, tot, ms]
    rw [if_neg (by omega)]
    simp
  | cons x xs ih =>
    intro pre a hl hs h0 h1
    have hl2 : (x :: xs).length = xs.length + 1 := rfl
    have hlen : (pre ++ ms a (x :: xs)).length = pre.length + xs.length + 1 := by rw [List.length_append, ms_len]; omega
    have hx := hs x List.mem_cons_self
    have hi := ih (pre ++ [mi a x.length]) (a + x.length) (by simp; omega) (fun s h => hs s (List.mem_cons_of_mem _ h)) (by omega) (by simp; omega)
    have hm : Ev (fun k => laws_heldIntS.f k (mi a x.length) a) (a + (x.length : Int)) := by
      unfold laws_heldIntS.f
      simpa using heldI_ev x.length [] a (by simp; omega) h0 (by simp; omega)
    have hget : rd_L4 (pre ++ ms a (x :: xs)) (pre.length : Int) = mi a x.length := ll_mid pre _ _
    refine Ev.step (f := fun k => (laws_heldIntS.f k (mi a x.length) a).bind fun t => (if t < 0 then (some (-1)) else (laws_heldIntSS.l0 k (pre ++ ms a (x :: xs)) t (((pre ++ [mi a x.length]).length : Nat) : Int)))) (fun k => ?_) ?_
    · simp only [laws_heldIntSS.l0]
      rw [if_pos (by omega), if_pos (by omega), hget, t_wrap ((pre.length : Int) + 1) (by omega) (by omega)]
      simp
    · refine Ev.bind (f := fun k (t : Int) => (if t < 0 then (some (-1)) else (laws_heldIntSS.l0 k (pre ++ ms a (x :: xs)) t (((pre ++ [mi a x.length]).length : Nat) : Int)))) hm ?_
      refine Ev.congr (fun k => if_neg (by omega)) ?_
      have e : pre ++ ms a (x :: xs) = pre ++ [mi a x.length] ++ ms (a + x.length) xs := by simp [ms]
      have e2 : a + tot (x :: xs) = a + (x.length : Int) + tot xs := by
        simp only [tot]
        omega
      rw [e, e2]
      exact hi
theorem eqSS_ev : ∀ (rest pre : List (List Int)), (pre ++ rest).length ≤ 1000 → (∀ s ∈ rest, s.length ≤ 1000) → Ev (fun k => laws_eqIntSS.l0 k (pre ++ rest) (pre ++ rest) (pre.length : Int)) true := by
  intro rest
  induction rest with
  | nil =>
    intro pre hl _
    refine Ev.step (f := fun _ => some true) (fun k => ?_) (Ev.now _)
    simp only [laws_eqIntSS.l0, List.append_nil]
    rw [if_neg (by omega)]
  | cons x xs ih =>
    intro pre hl hs
    have hlen : (pre ++ x :: xs).length = pre.length + xs.length + 1 := by simp; omega
    have hx := hs x List.mem_cons_self
    have hi := ih (pre ++ [x]) (by simpa using hl) (fun s h => hs s (List.mem_cons_of_mem _ h))
    have e1 : pre ++ [x] ++ xs = pre ++ x :: xs := by simp
    rw [e1] at hi
    refine Ev.step (f := fun k => (laws_eqIntS.f k x x).bind fun t => (if t = true then (laws_eqIntSS.l0 k (pre ++ x :: xs) (pre ++ x :: xs) (((pre ++ [x]).length : Nat) : Int)) else (some false))) (fun k => ?_) ?_
    · simp only [laws_eqIntSS.l0]
      rw [if_pos (by omega), if_pos (by omega), if_pos (by omega), ll_mid, t_wrap ((pre.length : Int) + 1) (by omega) (by omega)]
      simp
    · refine Ev.bind (f := fun k (t : Bool) => (if t = true then (laws_eqIntSS.l0 k (pre ++ x :: xs) (pre ++ x :: xs) (((pre ++ [x]).length : Nat) : Int)) else (some false))) (eqIntS_f x (by omega)) ?_
      simpa using hi
theorem eqIntSS_f (r : List (List Int)) (h : r.length ≤ 1000) (hs : ∀ s ∈ r, s.length ≤ 1000) : Ev (fun k => laws_eqIntSS.f k r r) true := by
  unfold laws_eqIntSS.f
  simpa using eqSS_ev r [] h hs
theorem markSS_f (r : List (List Int)) (h : r.length ≤ 1000) (hs : ∀ s ∈ r, s.length ≤ 1000) : Ev (fun k => laws_markIntSS.f k r 1) (1 + tot r, ms 1 r) := by
  unfold laws_markIntSS.f
  simpa using markSS_ev r [] 1 (by simpa using h) hs (by omega) (by simp)
theorem heldSS_f (r : List (List Int)) (h : r.length ≤ 1000) (hs : ∀ s ∈ r, s.length ≤ 1000) : Ev (fun k => laws_heldIntSS.f k (ms 1 r) 1) (1 + tot r) := by
  unfold laws_heldIntSS.f
  simpa using heldSS_ev r [] 1 (by simpa using h) hs (by omega) (by simp)
/-! ### Both sides -/
theorem res_both (l : List S25) (c : List Int) (hl : l.length ≤ 2000000) (hc : c.length ≤ 2000000) : ∃ r : List (List Int) × Bool, Ev (fun k => spec_Solutions.f k l c) r ∧ Ev (fun k => impl_Solutions.f k l c) r ∧ r.1.length ≤ 1000 ∧ ∀ s ∈ r.1, s.length ≤ 1000 := by
  obtain ⟨b, A, o, h1, h2, h3, h4, h5, h6⟩ := asked_both l c hl hc
  have hrows : ∀ s ∈ A, s.length ≤ 1000 := by
    intro s hs
    cases b with
    | false => rw [h4 rfl] at hs; cases hs
    | true =>
      obtain ⟨hp, e⟩ := h6 rfl
      obtain ⟨p1, p2, p3, p4, p5, p6⟩ := pz_true l c hp
      rw [e] at hs
      have := (sols_mem c l (row_of p3 p6) s hs).1
      omega
  refine ⟨(A, b), ?_, h2, by simpa using (show A.length ≤ 1000 by omega), hrows⟩
  unfold spec_Solutions.f
  refine Ev.bind (f := fun k (bt : List (List Int) × Bool) => _) h1 ⟨0, fun k _ => ?_⟩
  cases b with
  | true => simp [h3 rfl]
  | false => simp [h4 rfl]
/-! ### The law -/
theorem mark2_f (l : List S25) (c : List Int) (hl : l.length ≤ 2000000) (hc : c.length ≤ 2000000) : ∃ (m : Int) (l' : List S25) (c' : List Int), Ev (fun k => laws_markPuzzle.f k l c 1) (m, l', c') ∧ ¬ m < 0 := by
  have a1 := markT_ev l [] 1 (by simpa using hl) (by omega) (by simp)
  have a2 := markI_ev c [] (1 + 2 * (l.length : Int)) (by simpa using hc) (by omega) (by simp; omega)
  simp only [List.nil_append] at a1 a2
  refine ⟨1 + 2 * (l.length : Int) + c.length, mt 1 l.length, mi (1 + 2 * (l.length : Int)) c.length, ?_, by omega⟩
  unfold laws_markPuzzle.f
  exact Ev.bind (f := fun k (b : Int × List S25) => (laws_markIntS.f k c b.1).bind fun d => (some (d.1, b.2, d.2))) a1 (Ev.bind (f := fun _ (d : Int × List Int) => (some (d.1, mt 1 l.length, d.2))) a2 ⟨0, fun k _ => rfl⟩)
theorem end2 (r : List (List Int)) (q1 : r.length ≤ 1000) (q2 : ∀ s ∈ r, s.length ≤ 1000) (b : Bool) : Ev (fun k => laws_FnExactSolutions.j2 k (ms 1 r) (1 + tot r) (b != b)) true := by
  have ht := tot_pos r
  refine Ev.step (f := fun k => (laws_heldIntSS.f k (ms 1 r) 1).bind fun t => (if t < 0 then (none) else (if t = 1 + tot r then (some true) else (none)))) (fun k => ?_) (Ev.bind (f := fun k (t : Int) => _) (heldSS_f r q1 q2) ⟨0, fun k _ => ?_⟩)
  · simp [laws_FnExactSolutions.j2]
  · (try dsimp only)
    rw [if_neg (by omega), if_pos rfl]
theorem end1 (l : List S131) (c : List Int) (r : List (List Int) × Bool) (hl : l.length ≤ 1048576) (hc : c.length ≤ 1048576) (h2 : Ev (fun k => impl_Solutions.f k (l.map conv) c) r) (q1 : r.1.length ≤ 1000) (q2 : ∀ s ∈ r.1, s.length ≤ 1000) : Ev (fun k => laws_FnExactSolutions.j1 k r.1 r.2 r.1 (r.2 != r.2) l c) true := by
  have ht := tot_pos r.1
  refine Ev.step (f := fun k => (laws_markIntSS.f k r.1 1).bind fun bt288 => ((laws_heldIntSS.f k bt288.2 1).bind fun t290 => (if t290 < 0 then (none) else (if t290 = bt288.1 then ((laws_toPuzzle.f k l c).bind fun bt291 => ((impl_Solutions.f k bt291.1 bt291.2).bind fun bt297 => ((laws_eqIntSS.f k bt297.1 r.1).bind fun t301 => (if t301 = true then (laws_FnExactSolutions.j2 k bt288.2 bt288.1 (bt297.2 != r.2)) else (laws_FnExactSolutions.j2 k bt288.2 bt288.1 true))))) else (none))))) (fun k => ?_) ?_
  · simp [laws_FnExactSolutions.j1]
  · refine Ev.bind (f := fun k (bt288 : Int × List (List Int)) => _) (markSS_f r.1 q1 q2) ?_
    refine Ev.bind (f := fun k (t290 : Int) => _) (heldSS_f r.1 q1 q2) ?_
    refine Ev.congr (f := fun k => ((laws_toPuzzle.f k l c).bind fun bt291 => ((impl_Solutions.f k bt291.1 bt291.2).bind fun bt297 => ((laws_eqIntSS.f k bt297.1 r.1).bind fun t301 => (if t301 = true then (laws_FnExactSolutions.j2 k (ms 1 r.1) (1 + tot r.1) (bt297.2 != r.2)) else (laws_FnExactSolutions.j2 k (ms 1 r.1) (1 + tot r.1) true)))))) (fun k => ?_) ?_
    · (try dsimp only)
      rw [if_neg (by omega), if_pos rfl]
    · refine Ev.bind (f := fun k (bt291 : List S25 × List Int) => _) (toPuzzle_f l c hl hc) ?_
      refine Ev.bind (f := fun k (bt297 : List (List Int) × Bool) => _) h2 ?_
      refine Ev.bind (f := fun k (t301 : Bool) => _) (eqIntSS_f r.1 q1 q2) ?_
      simp only [if_true]
      exact end2 r.1 q1 q2 r.2
theorem end0 (l : List S131) (c : List Int) (r : List (List Int) × Bool) (hl : l.length ≤ 1048576) (hc : c.length ≤ 1048576) (h2 : Ev (fun k => impl_Solutions.f k (l.map conv) c) r) (q1 : r.1.length ≤ 1000) (q2 : ∀ s ∈ r.1, s.length ≤ 1000) : Ev (fun k => laws_FnExactSolutions.j0 k r.1 r.2 r.1 r.2 (r.2 != r.2) l c (l.map conv) c) true := by
  obtain ⟨m, l', c', hm1, hm3⟩ := mark2_f (l.map conv) c (by simp; omega) (by omega)
  refine Ev.step (f := fun k => (laws_toPuzzle.f k l c).bind fun bt277 => ((laws_eqPuzzle.f k (l.map conv) c bt277.1 bt277.2).bind fun t283 => (if t283 = true then ((laws_markPuzzle.f k (l.map conv) c 1).bind fun bt284 => (if bt284.1 < 0 then (laws_FnExactSolutions.j1 k r.1 r.2 r.1 true l c) else ((laws_eqIntSS.f k r.1 r.1).bind fun t287 => (if t287 = true then (laws_FnExactSolutions.j1 k r.1 r.2 r.1 (r.2 != r.2) l c) else (laws_FnExactSolutions.j1 k r.1 r.2 r.1 true l c))))) else (none)))) (fun k => ?_) ?_
  · simp [laws_FnExactSolutions.j0]
  · refine Ev.bind (f := fun k (bt : List S25 × List Int) => _) (toPuzzle_f l c hl hc) ?_
    refine Ev.bind (f := fun k (t : Bool) => _) (eqPuzzle_f (l.map conv) c (by simpa using hl) hc) ?_
    simp only [if_true]
    refine Ev.bind (f := fun k (bt284 : Int × List S25 × List Int) => _) hm1 ?_
    refine Ev.congr (f := fun k => (laws_eqIntSS.f k r.1 r.1).bind fun t287 => (if t287 = true then (laws_FnExactSolutions.j1 k r.1 r.2 r.1 (r.2 != r.2) l c) else (laws_FnExactSolutions.j1 k r.1 r.2 r.1 true l c))) (fun k => ?_) ?_
    · (try dsimp only)
      rw [if_neg hm3]
    · refine Ev.bind (f := fun k (t : Bool) => _) (eqIntSS_f r.1 q1 q2) ?_
      simp only [if_true]
      exact end1 l c r hl hc h2 q1 q2
theorem FnExactSolutions (l0_0 : List (S131)) (l0_1 : List Int) (_h0 : (l0_0.length ≤ 9223372036854775807 ∧ ∀ x_ ∈ l0_0, ((Lit.int .i64 x_.f0).wf = true ∧ (Lit.int .i64 x_.f1).wf = true))) (_h1 : (l0_1.length ≤ 9223372036854775807 ∧ ∀ x_ ∈ l0_1, (Lit.int .i64 x_).wf = true)) : ∃ k, laws_FnExactSolutions.f k l0_0 l0_1 = some true := by
  refine Ev.rounds (g := fun k => laws_FnExactSolutions.f k l0_0 l0_1) ?_
  unfold laws_FnExactSolutions.f
  rcases szPuzzle_f l0_0 l0_1 _h0.1 _h1.1 with hsz | ⟨n, hsz, hn, hl, hc⟩
  · rw [hsz]
    exact ⟨0, fun k _ => rfl⟩
  · rw [hsz]
    simp only [Option.bind_some, hn, if_false]
    have htp := toPuzzle_f l0_0 l0_1 hl hc
    obtain ⟨r, h1, h2, h3, h4⟩ := res_both (l0_0.map conv) l0_1 (by simp; omega) (by omega)
    refine Ev.bind (f := fun k (bt205 : List S25 × List Int) => _) htp ?_
    refine Ev.bind (f := fun k (bt211 : List (List Int) × Bool) => _) h1 ?_
    refine Ev.bind (f := fun k (bt213 : List S25 × List Int) => _) htp ?_
    refine Ev.bind (f := fun k (bt220 : List (List Int) × Bool) => _) h2 ?_
    refine Ev.bind (f := fun k (t : Bool) => _) (eqIntSS_f r.1 h3 h4) ?_
    simp only [if_true]
    exact end0 l0_0 l0_1 r hl hc h2 h3 h4


end Go.Proofs.Ytgcnlhebfnaaoaa.QPure
