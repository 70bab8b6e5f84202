/- For every input the law FnChainsLaid answers true: the plain statement over lists and numbers. No conditions. -/
import Derived.Test.YtmgdndgaiicaiaaQFnChainsLaidx1
import Derived.Test.YtmgdndgaiicaiaaQFnChainsLaidx2
import Derived.Test.YtmgdndgaiicaiaaQFnChainsLaidx3
import Derived.Test.YtmgdndgaiicaiaaQFnChainsLaidx4
import Derived.Test.YtmgdndgaiicaiaaQFnChainsLaidx5
import Derived.Test.YtmgdndgaiicaiaaQFnChainsLaidx6
import Derived.Test.YtmgdndgaiicaiaaQFnChainsLaidx7
import Derived.Test.YtmgdndgaiicaiaaQFnChainsLaidx8
import Derived.Test.YtmgdndgaiicaiaaQFnChainsLaidx9
import Derived.Test.YtmgdndgaiicaiaaQFnChainsLaidx10
import Derived.Test.YtmgdndgaiicaiaaQFnChainsLaidx11
import Derived.Test.YtmgdndgaiicaiaaQFnChainsLaidx12
import Derived.Test.YtmgdndgaiicaiaaQFnChainsLaidx13
import Derived.Test.YtmgdndgaiicaiaaQFnChainsLaidx14
import Derived.Test.YtmgdndgaiicaiaaQFnChainsLaidx15
namespace Go.Proofs.Ytmgdndgaiicaiaa.QPure
open Go.RowKit Go.Proofs.Ytmgdndgaiicaiaa.QFnChainsLaid Go.Proofs.YtmgdndgaiicaiaaW.PrintWords Go.Proofs.YtmgdndgaiicaiaaW.PrintLast

set_option linter.unusedVariables false
set_option linter.unusedSimpArgs false
/-! Hands and their order, in plain words. -/
theorem t_eta (x : S43) : (⟨x.f0, x.f1⟩ : S43) = x := rfl
theorem t_ext (x y : S43) (h0 : x.f0 = y.f0) (h1 : x.f1 = y.f1) : x = y := by
  cases x
  cases y
  simp_all
instance t_dec : DecidableEq S43 := fun x y => if h : x.f0 = y.f0 ∧ x.f1 = y.f1 then isTrue (t_ext x y h.1 h.2) else isFalse (fun e => h (by subst e; exact ⟨rfl, rfl⟩))
theorem t_beq (x y : S43) : (x.f0 == y.f0 && (x.f1 == y.f1)) = decide (x = y) := by
  by_cases h : x = y
  · subst h
    simp
  · have : ¬ (x.f0 = y.f0 ∧ x.f1 = y.f1) := fun e => h (t_ext x y e.1 e.2)
    rw [decide_eq_false h]
    by_cases h0 : x.f0 = y.f0
    · have h1 : ¬ x.f1 = y.f1 := fun e => this ⟨h0, e⟩
      simp [h1]
    · simp [h0]
theorem t_mid (pre : List S43) (x : S43) (xs : List S43) (d : S43) : (pre ++ x :: xs).getD pre.length d = x := by
  rw [List.getD_eq_getElem?_getD, List.getElem?_append_right (Nat.le_refl _), Nat.sub_self]
  rfl
theorem t_wrap (n : Int) (h : -1000000000 ≤ n) (h' : n ≤ 1000000000) : wrap64 n = n := by
  unfold wrap64
  omega

theorem t_wrap2 (n : Int) (h : -1000000000000 ≤ n) (h' : n ≤ 1000000000000) : wrap64 n = n := by
  unfold wrap64
  omega

def good (x : S43) : Bool := decide (0 ≤ x.f0) && (decide (x.f0 ≤ x.f1) && decide (x.f1 ≤ 9))
theorem good_iff (x : S43) : good x = true ↔ 0 ≤ x.f0 ∧ x.f0 ≤ x.f1 ∧ x.f1 ≤ 9 := by
  unfold good
  simp
theorem tiGood_f (x : S43) : spec_tiGood.f x.f0 x.f1 = some (good x) := by
  unfold spec_tiGood.f spec_l1In.f good
  by_cases h1 : 0 ≤ x.f0
  · have h1' : x.f0 ≥ 0 := h1
    rw [if_pos h1']
    by_cases h2 : x.f0 ≤ x.f1
    · simp [h1, h2]
    · simp [h1, h2]
  · have h1' : ¬ x.f0 ≥ 0 := h1
    rw [if_neg h1']
    simp [h1]

/-- The first place of a tile behind pre. -/
theorem place_ev (t : S43) : ∀ (rest pre : List S43), (pre ++ rest).length ≤ 2000000 → ∃ r : Int, Ev (fun k => spec_tiPlace.l0 k (pre ++ rest) ((pre ++ rest).length : Int) (pre.length : Int) t.f0 t.f1) r ∧ decide (r ≥ 0) = decide (t ∈ rest) := by
  intro rest
  induction rest with
  | nil =>
    intro pre hl
    refine ⟨-1, Ev.step (f := fun _ => some (-1)) (fun k => ?_) (Ev.now _), by simp⟩
    simp only [spec_tiPlace.l0, List.append_nil]
    rw [if_neg (by omega)]
  | cons x xs ih =>
    intro pre hl
    have hlen : (pre ++ x :: xs).length = pre.length + xs.length + 1 := by simp; omega
    have hget : rd_T43 (pre ++ x :: xs) (pre.length : Int) = x := by
      unfold rd_T43
      exact t_mid pre x xs _
    by_cases e : x = t
    · refine ⟨(pre.length : Int), Ev.step (f := fun _ => some (pre.length : Int)) (fun k => ?_) (Ev.now _), by simp [e]⟩
      simp only [spec_tiPlace.l0]
      rw [if_pos (by omega), if_pos (by omega), if_pos (by omega), hget, t_beq, if_pos (by simp [e])]
    · obtain ⟨r, h1, h2⟩ := ih (pre ++ [x]) (by simpa using hl)
      have e1 : pre ++ [x] ++ xs = pre ++ x :: xs := by simp
      rw [e1] at h1
      refine ⟨r, Ev.step (fun k => ?_) h1, by rw [h2]; simp [Ne.symm e]⟩
      simp only [spec_tiPlace.l0]
      rw [if_pos (by omega), if_pos (by omega), if_pos (by omega), hget, t_beq, if_neg (by simp [e]), t_wrap ((pre.length : Int) + 1) (by omega) (by omega)]
      simp
theorem place_f (t : S43) (l : List S43) (hl : l.length ≤ 2000000) : ∃ r : Int, Ev (fun k => spec_tiPlace.f k l t.f0 t.f1) r ∧ decide (r ≥ 0) = decide (t ∈ l) := place_ev t l [] hl

/-- .. and the program's. -/
theorem index_ev (t : S43) : ∀ (rest pre : List S43), (pre ++ rest).length ≤ 2000000 → ∃ r : Int, Ev (fun k => slices_Index_impl_Tile_impl_Tile.l0 k (pre ++ rest) ((pre ++ rest).length : Int) (pre.length : Int) t.f0 t.f1) r ∧ decide (r ≥ 0) = decide (t ∈ rest) := by
  intro rest
  induction rest with
  | nil =>
    intro pre hl
    refine ⟨-1, Ev.step (f := fun _ => some (-1)) (fun k => ?_) (Ev.now _), by simp⟩
    simp only [slices_Index_impl_Tile_impl_Tile.l0, List.append_nil]
    rw [if_neg (by omega)]
  | cons x xs ih =>
    intro pre hl
    have hlen : (pre ++ x :: xs).length = pre.length + xs.length + 1 := by simp; omega
    have hget : rd_T43 (pre ++ x :: xs) (pre.length : Int) = x := by
      unfold rd_T43
      exact t_mid pre x xs _
    by_cases e : t = x
    · refine ⟨(pre.length : Int), Ev.step (f := fun _ => some (pre.length : Int)) (fun k => ?_) (Ev.now _), by simp [e]⟩
      simp only [slices_Index_impl_Tile_impl_Tile.l0]
      rw [if_pos (by omega), if_pos (by omega), if_pos (by omega), hget, t_beq, if_pos (by simp [e])]
    · obtain ⟨r, h1, h2⟩ := ih (pre ++ [x]) (by simpa using hl)
      have e1 : pre ++ [x] ++ xs = pre ++ x :: xs := by simp
      rw [e1] at h1
      refine ⟨r, Ev.step (fun k => ?_) h1, by rw [h2]; simp [e]⟩
      simp only [slices_Index_impl_Tile_impl_Tile.l0]
      rw [if_pos (by omega), if_pos (by omega), if_pos (by omega), hget, t_beq, if_neg (by simp [e]), t_wrap ((pre.length : Int) + 1) (by omega) (by omega)]
      simp
theorem contains_f (t : S43) (l : List S43) (hl : l.length ≤ 2000000) : Ev (fun k => slices_Contains_impl_Tile_impl_Tile.f k l t.f0 t.f1) (decide (t ∈ l)) := by
  obtain ⟨r, h1, h2⟩ := index_ev t l [] hl
  rw [← h2]
  exact Ev.bind (f := fun _ t177 => (some (decide (t177 ≥ 0)))) h1 ⟨0, fun k _ => rfl⟩

/-- No two the same, behind pre. -/
def nd : List S43 → List S43 → Bool
  | _, [] => true
  | pre, x :: xs => !decide (x ∈ pre) && nd (pre ++ [x]) xs
def hb : List S43 → List S43 → Bool
  | _, [] => true
  | pre, x :: xs => good x && (!decide (x ∈ pre) && hb (pre ++ [x]) xs)
theorem hb_nd : ∀ (rest pre : List S43), hb pre rest = (rest.all good && nd pre rest) := by
  intro rest
  induction rest with
  | nil => intro pre; rfl
  | cons x xs ih =>
    intro pre
    unfold hb nd
    rw [ih, List.all_cons]
    cases good x <;> cases decide (x ∈ pre) <;> cases xs.all good <;> simp
theorem nd_nodup : ∀ (rest pre : List S43), nd pre rest = true → (∀ x ∈ rest, x ∉ pre) ∧ rest.Nodup := by
  intro rest
  induction rest with
  | nil => intro pre _; exact ⟨(fun x h => by cases h), List.nodup_nil⟩
  | cons x xs ih =>
    intro pre h
    unfold nd at h
    simp only [Bool.and_eq_true, Bool.not_eq_true', decide_eq_false_iff_not] at h
    obtain ⟨h1, h2⟩ := ih _ h.2
    refine ⟨fun y hy => ?_, ?_⟩
    · rcases List.mem_cons.1 hy with rfl | hy
      · exact h.1
      · exact fun hp => h1 y hy (List.mem_append_left _ hp)
    · rw [List.nodup_cons]
      exact ⟨fun hx => h1 x hx (by simp), h2⟩

theorem tiHand_ev : ∀ (rest pre : List S43), (pre ++ rest).length ≤ 2000000 → Ev (fun k => spec_tiHand.l0 k (pre ++ rest) (pre ++ rest) ((pre ++ rest).length : Int) (pre.length : Int)) (hb pre rest) := by
  intro rest
  induction rest with
  | nil =>
    intro pre hl
    refine Ev.step (f := fun _ => some true) (fun k => ?_) (Ev.now _)
    simp only [spec_tiHand.l0, List.append_nil]
    rw [if_neg (by omega)]
  | cons x xs ih =>
    intro pre hl
    have hlen : (pre ++ x :: xs).length = pre.length + xs.length + 1 := by simp; omega
    have hget : rd_T43 (pre ++ x :: xs) (pre.length : Int) = x := by
      unfold rd_T43
      exact t_mid pre x xs _
    have htake : (pre ++ x :: xs).take ((pre.length : Int)).toNat = pre := by simp
    cases hg : good x
    · refine Ev.step (f := fun _ => some (hb pre (x :: xs))) (fun k => ?_) (Ev.now _)
      simp only [spec_tiHand.l0]
      rw [if_pos (by omega), if_pos (by omega), if_pos (by omega), hget, tiGood_f, hg]
      simp [hb, hg]
    · obtain ⟨r, h1, h2⟩ := place_f x pre (by omega)
      have e1 : pre ++ [x] ++ xs = pre ++ x :: xs := by simp
      have hi := ih (pre ++ [x]) (by simpa using hl)
      rw [e1] at hi
      refine Ev.step (f := fun k => (spec_tiPlace.f k pre x.f0 x.f1).bind fun t123 => (if t123 ≥ 0 then (some false) else (spec_tiHand.l0 k (pre ++ x :: xs) (pre ++ x :: xs) ((pre ++ x :: xs).length : Int) (((pre ++ [x]).length : Nat) : Int)))) (fun k => ?_) ?_
      · simp only [spec_tiHand.l0]
        rw [if_pos (by omega), if_pos (by omega), if_pos (by omega), hget, tiGood_f, hg]
        simp only [Option.bind_some, if_true]
        rw [if_pos (by omega), htake, t_wrap ((pre.length : Int) + 1) (by omega) (by omega)]
        simp
      · refine Ev.bind (f := fun k t123 => (if t123 ≥ 0 then (some false) else (spec_tiHand.l0 k (pre ++ x :: xs) (pre ++ x :: xs) ((pre ++ x :: xs).length : Int) (((pre ++ [x]).length : Nat) : Int)))) h1 ?_
        by_cases hm : x ∈ pre
        · have hr : r ≥ 0 := by
            rw [decide_eq_true hm] at h2
            exact of_decide_eq_true h2
          refine ⟨0, fun k _ => ?_⟩
          (try dsimp only)
          rw [if_pos hr]
          simp [hb, hm]
        · have hr : ¬ r ≥ 0 := by
            rw [decide_eq_false hm] at h2
            exact of_decide_eq_false h2
          refine Ev.congr (fun k => ?_) (show Ev _ (hb pre (x :: xs)) from by
            have : hb pre (x :: xs) = hb (pre ++ [x]) xs := by simp [hb, hg, hm]
            rw [this]
            exact hi)
          (try dsimp only)
          rw [if_neg hr]

theorem areDiff_ev : ∀ (rest pre : List S43), (pre ++ rest).length ≤ 2000000 → Ev (fun k => impl_areDifferent_impl_Tile.l0 k (pre ++ rest) (pre ++ rest) ((pre ++ rest).length : Int) (pre.length : Int)) (nd pre rest) := by
  intro rest
  induction rest with
  | nil =>
    intro pre hl
    refine Ev.step (f := fun _ => some true) (fun k => ?_) (Ev.now _)
    simp only [impl_areDifferent_impl_Tile.l0, List.append_nil]
    rw [if_neg (by omega)]
  | cons x xs ih =>
    intro pre hl
    have hlen : (pre ++ x :: xs).length = pre.length + xs.length + 1 := by simp; omega
    have hget : rd_T43 (pre ++ x :: xs) (pre.length : Int) = x := by
      unfold rd_T43
      exact t_mid pre x xs _
    have htake : (pre ++ x :: xs).take ((pre.length : Int)).toNat = pre := by simp
    have h1 := contains_f x pre (by omega)
    have e1 : pre ++ [x] ++ xs = pre ++ x :: xs := by simp
    have hi := ih (pre ++ [x]) (by simpa using hl)
    rw [e1] at hi
    refine Ev.step (f := fun k => (slices_Contains_impl_Tile_impl_Tile.f k pre x.f0 x.f1).bind fun t184 => (if t184 = true then (some false) else (impl_areDifferent_impl_Tile.l0 k (pre ++ x :: xs) (pre ++ x :: xs) ((pre ++ x :: xs).length : Int) (((pre ++ [x]).length : Nat) : Int)))) (fun k => ?_) ?_
    · simp only [impl_areDifferent_impl_Tile.l0]
      rw [if_pos (by omega), if_pos (by omega), if_pos (by omega), if_pos (by omega), hget, htake, t_wrap ((pre.length : Int) + 1) (by omega) (by omega)]
      simp
    · refine Ev.bind (f := fun k t184 => (if t184 = true then (some false) else (impl_areDifferent_impl_Tile.l0 k (pre ++ x :: xs) (pre ++ x :: xs) ((pre ++ x :: xs).length : Int) (((pre ++ [x]).length : Nat) : Int)))) h1 ?_
      by_cases hm : x ∈ pre
      · refine ⟨0, fun k _ => ?_⟩
        simp [nd, hm]
      · refine Ev.congr (fun k => ?_) (show Ev _ (nd pre (x :: xs)) from by
          have : nd pre (x :: xs) = nd (pre ++ [x]) xs := by simp [nd, hm]
          rw [this]
          exact hi)
        simp only [hm, decide_false, Bool.false_eq_true, if_false]

theorem noTile_good (x : S43) : noTile x = !good x := rfl
theorem any_no (l : List S43) : l.any noTile = !l.all good := by
  induction l with
  | nil => rfl
  | cons x xs ih => rw [List.any_cons, List.all_cons, ih, noTile_good]; cases good x <;> simp

/-- Is it a hand? The same on both sides. -/
def isH (l : List S43) : Bool := decide (l.length ≤ 55) && (l.all good && nd [] l)
theorem isH_spec (l : List S43) (hl : l.length ≤ 2000000) : Ev (fun k => spec_tiHand.f k l) (isH l) := by
  by_cases h : l.length ≤ 55
  · have hi := tiHand_ev l [] hl
    rw [hb_nd] at hi
    refine Ev.congr (fun k => ?_) (show Ev _ (isH l) from by
      have : isH l = (l.all good && nd [] l) := by simp [isH, h]
      rw [this]
      exact hi)
    unfold spec_tiHand.f
    rw [if_neg (by omega)]
    rfl
  · refine ⟨0, fun k _ => ?_⟩
    show spec_tiHand.f k l = _
    unfold spec_tiHand.f
    rw [if_pos (by omega)]
    simp [isH, h]
theorem isH_impl (l : List S43) (hl : l.length ≤ 2000000) : Ev (fun k => impl_IsHand.f k l) (isH l) := by
  by_cases h : l.length ≤ 55
  · cases hg : l.all good
    · refine ⟨0, fun k _ => ?_⟩
      show impl_IsHand.f k l = _
      unfold impl_IsHand.f
      rw [if_pos (by omega), any_no, hg]
      simp [isH, hg]
    · have hi := areDiff_ev l [] hl
      refine Ev.congr (fun k => ?_) (show Ev _ (isH l) from by
        have : isH l = nd [] l := by simp [isH, h, hg]
        rw [this]
        exact hi)
      unfold impl_IsHand.f
      rw [if_pos (by omega), any_no, hg]
      simp only [Bool.not_true, Bool.false_eq_true, if_false]
      rfl
  · refine ⟨0, fun k _ => ?_⟩
    show impl_IsHand.f k l = _
    unfold impl_IsHand.f
    rw [if_neg (by omega)]
    simp [isH, h]
theorem isH_true (l : List S43) (h : isH l = true) : l.length ≤ 55 ∧ (∀ x ∈ l, good x = true) ∧ l.Nodup := by
  unfold isH at h
  simp only [Bool.and_eq_true, decide_eq_true_eq] at h
  exact ⟨h.1, List.all_eq_true.1 h.2.1, (nd_nodup l [] h.2.2).2⟩

/-! ### Order -/
def lt (x y : S43) : Prop := x.f0 < y.f0 ∨ (x.f0 = y.f0 ∧ x.f1 < y.f1)
theorem lt_irrefl (x : S43) : ¬ lt x x := by
  unfold lt
  omega
theorem lt_trans {x y z : S43} (h : lt x y) (k : lt y z) : lt x z := by
  unfold lt at *
  omega
theorem lt_asymm {x y : S43} (h : lt x y) : ¬ lt y x := by
  unfold lt at *
  omega
theorem lt_total (x y : S43) (h : ¬ lt x y) (k : x ≠ y) : lt y x := by
  have : ¬ (x.f0 = y.f0 ∧ x.f1 = y.f1) := fun e => k (t_ext x y e.1 e.2)
  unfold lt at *
  omega

theorem uniq : ∀ (a b : List S43), a.Pairwise lt → b.Pairwise lt → (∀ x, x ∈ a ↔ x ∈ b) → a = b := by
  intro a
  induction a with
  | nil =>
    intro b _ _ h
    cases b with
    | nil => rfl
    | cons y ys => exact absurd ((h y).2 List.mem_cons_self) (by simp)
  | cons x xs ih =>
    intro b ha hb h
    cases b with
    | nil => exact absurd ((h x).1 List.mem_cons_self) (by simp)
    | cons y ys =>
      rw [List.pairwise_cons] at ha hb
      have e : x = y := by
        rcases List.mem_cons.1 ((h x).1 List.mem_cons_self) with e | e
        · exact e
        · rcases List.mem_cons.1 ((h y).2 List.mem_cons_self) with e2 | e2
          · exact e2.symm
          · exact absurd (ha.1 y e2) (lt_asymm (hb.1 x e))
      subst e
      congr 1
      refine ih ys ha.2 hb.2 (fun z => ?_)
      constructor
      · intro hz
        rcases List.mem_cons.1 ((h z).1 (List.mem_cons_of_mem _ hz)) with e | e
        · subst e
          exact absurd (ha.1 z hz) (lt_irrefl z)
        · exact e
      · intro hz
        rcases List.mem_cons.1 ((h z).2 (List.mem_cons_of_mem _ hz)) with e | e
        · subst e
          exact absurd (hb.1 z hz) (lt_irrefl z)
        · exact e

/-! ### The whole set -/
def code (l : List S43) : List (Int × Int) := l.map fun t => (t.f0, t.f1)
theorem code_inj (a b : List S43) (h : code a = code b) : a = b := by
  unfold code at h
  induction a generalizing b with
  | nil => cases b with
    | nil => rfl
    | cons y b => simp at h
  | cons x a ih => cases b with
    | nil => simp at h
    | cons y b =>
      simp only [List.map_cons, List.cons.injEq, Prod.mk.injEq] at h
      rw [ih b h.2]
      cases x
      cases y
      simp_all
def lst (n : Nat) : List (Int × Int) := (List.range (n + 1)).flatMap fun a => (List.range (n + 1 - a)).map fun b => ((a : Int), ((a + b : Nat) : Int))
theorem len_le : ∀ (a b : List S43), a.Nodup → (∀ x, x ∈ a → x ∈ b) → a.length ≤ b.length := by
  intro a
  induction a with
  | nil => intro b _ _; simp
  | cons x xs ih =>
    intro b hn h
    rw [List.nodup_cons] at hn
    have hx := h x List.mem_cons_self
    have := ih (b.erase x) hn.2 (fun y hy => (List.mem_erase_of_ne (fun e => hn.1 (by rw [← e]; exact hy))).2 (h y (List.mem_cons_of_mem _ hy)))
    rw [List.length_erase_of_mem hx] at this
    have hp : 0 < b.length := List.length_pos_of_mem hx
    simp
    omega
theorem len_eq (a b : List S43) (ha : a.Nodup) (hb : b.Nodup) (h : ∀ x, x ∈ a ↔ x ∈ b) : a.length = b.length :=
  Nat.le_antisymm (len_le a b ha (fun x hx => (h x).1 hx)) (len_le b a hb (fun x hx => (h x).2 hx))

/-! Lists of numbers; puzzles of the laws. -/
theorem i_mid (pre : List Int) (x : Int) (xs : List Int) : rd (pre ++ x :: xs) (pre.length : Int) = x := by
  unfold rd
  rw [show ((pre.length : Int)).toNat = pre.length from rfl, List.getD_eq_getElem?_getD, List.getElem?_append_right (Nat.le_refl _), Nat.sub_self]
  rfl
/-! What a puzzle is, the same on both sides. -/
theorem l1In_f (n lo hi : Int) : spec_l1In.f n lo hi = some (inB lo hi n) := by
  unfold spec_l1In.f inB
  by_cases h1 : lo ≤ n
  · rw [if_pos (show n ≥ lo from h1)]
    simp [h1]
  · rw [if_neg (show ¬ n ≥ lo from h1)]
    simp [h1]
theorem l1All_ev (lo hi : Int) : ∀ (rest pre : List Int), (pre ++ rest).length ≤ 2000000 → Ev (fun k => spec_l1All.l0 k lo hi (pre ++ rest) ((pre ++ rest).length : Int) (pre.length : Int)) (rest.all (inB lo hi)) := by
  intro rest
  induction rest with
  | nil =>
    intro pre hl
    refine Ev.step (f := fun _ => some true) (fun k => ?_) (Ev.now _)
    simp only [spec_l1All.l0, List.append_nil]
    rw [if_neg (by omega)]
  | cons x xs ih =>
    intro pre hl
    have hlen : (pre ++ x :: xs).length = pre.length + xs.length + 1 := by simp; omega
    have e1 : pre ++ [x] ++ xs = pre ++ x :: xs := by simp
    have hq := ih (pre ++ [x]) (by simpa using hl)
    rw [e1] at hq
    rw [List.all_cons]
    cases hx : inB lo hi x
    · refine Ev.step (f := fun _ => some false) (fun k => ?_) (Ev.now _)
      simp only [spec_l1All.l0]
      rw [if_pos (by omega), if_pos (by omega), if_pos (by omega), i_mid, l1In_f, hx]
      rfl
    · rw [Bool.true_and]
      refine Ev.step (fun k => ?_) hq
      simp only [spec_l1All.l0]
      rw [if_pos (by omega), if_pos (by omega), if_pos (by omega), i_mid, l1In_f, hx, t_wrap ((pre.length : Int) + 1) (by omega) (by omega)]
      simp
theorem l1All_f (lo hi : Int) (l : List Int) (hl : l.length ≤ 2000000) : Ev (fun k => spec_l1All.f k l lo hi) (l.all (inB lo hi)) := l1All_ev lo hi l [] hl
theorem any_out (lo hi : Int) (l : List Int) : (!(l.any fun n => !inB lo hi n)) = l.all (inB lo hi) := by
  induction l with
  | nil => rfl
  | cons x xs ih => rw [List.any_cons, List.all_cons, ← ih]; cases inB lo hi x <;> simp
theorem inB_iff (lo hi n : Int) : inB lo hi n = true ↔ lo ≤ n ∧ n ≤ hi := by
  unfold inB
  simp

/-! ### Chains: numbers of tiles, no two tiles the same -/
theorem whole : ∃ A : List S43, True ∧ A.length = 55 ∧ True ∧ (∀ x, x ∈ A ↔ good x = true) := by
  refine ⟨(List.range 10).flatMap fun i => (List.range (10 - i)).map fun j => (⟨(i : Int), ((i + j : Nat) : Int)⟩ : S43), trivial, by decide, trivial, fun x => ?_⟩
  rw [good_iff, List.mem_flatMap]
  constructor
  · rintro ⟨i, hi, h⟩
    rw [List.mem_map] at h
    obtain ⟨j, hj, rfl⟩ := h
    rw [List.mem_range] at hi hj
    simp only
    omega
  · rintro ⟨h1, h2, h3⟩
    refine ⟨x.f0.toNat, by rw [List.mem_range]; omega, ?_⟩
    rw [List.mem_map]
    refine ⟨(x.f1 - x.f0).toNat, by rw [List.mem_range]; omega, t_ext _ _ ?_ ?_⟩
    · simp only
      omega
    · simp only
      omega

/-! Chains and their tiles, the same on both sides. -/
def tileOf (x y : Int) : S43 := ⟨mn x y, mx x y⟩
def tilesL : List Int → List S43
  | [] => []
  | x :: xs => (match xs with | [] => [] | y :: _ => [tileOf x y]) ++ tilesL xs
theorem tilesL_two (x y : Int) (r : List Int) : tilesL (x :: y :: r) = tileOf x y :: tilesL (y :: r) := rfl
theorem tilesL_len : ∀ c : List Int, (tilesL c).length = c.length - 1
  | [] => rfl
  | [_] => rfl
  | x :: y :: r => by
    rw [tilesL_two, List.length_cons, tilesL_len (y :: r)]
    simp
theorem tiOf_f (x y : Int) : spec_tiOf.f x y = some ((tileOf x y).f0, (tileOf x y).f1) := by
  unfold spec_tiOf.f spec_l1Least.f spec_l1Most.f tileOf mn mx
  by_cases h : x < y
  · rw [if_pos h, if_neg (by omega)]
    simp [h]
    omega
  · by_cases h2 : x > y
    · rw [if_neg h, if_pos h2]
      simp [h]
      omega
    · have : x = y := by omega
      subst this
      simp
theorem haTiles_ev : ∀ (rest pre : List Int) (o : List S43), (pre ++ rest).length ≤ 2000000 → o.length ≤ pre.length → 0 < pre.length →
    Ev (fun k => spec_haTiles.l0 k (pre ++ rest) o (pre.length : Int)) (o ++ tilesL (pre.getLast! :: rest)) ∧ Ev (fun k => impl_tilesOf.l0 k (pre ++ rest) o (pre.length : Int)) (o ++ tilesL (pre.getLast! :: rest)) := by
  intro rest
  induction rest with
  | nil =>
    intro pre o h1 h2 h3
    constructor
    · refine Ev.step (f := fun _ => some (o ++ tilesL [pre.getLast!])) (fun k => ?_) (Ev.now _)
      simp only [spec_haTiles.l0, List.append_nil]
      rw [if_neg (by omega)]
      simp [tilesL]
    · refine Ev.step (f := fun _ => some (o ++ tilesL [pre.getLast!])) (fun k => ?_) (Ev.now _)
      simp only [impl_tilesOf.l0, List.append_nil]
      rw [if_neg (by omega)]
      simp [tilesL]
  | cons x xs ih =>
    intro pre o h1 h2 h3
    have hlen : (pre ++ x :: xs).length = pre.length + xs.length + 1 := by simp; omega
    have e1 : pre ++ [x] ++ xs = pre ++ x :: xs := by simp
    have hl : (pre ++ [x]).getLast! = x := by simp [List.getLast!_eq_getLast?_getD]
    have hp : rd (pre ++ x :: xs) ((pre.length : Int) - 1) = pre.getLast! := by
      unfold rd
      rw [show ((pre.length : Int) - 1).toNat = pre.length - 1 from by omega, List.getD_eq_getElem?_getD, List.getElem?_append_left (by omega), List.getLast!_eq_getLast?_getD, List.getLast?_eq_getElem?]
      rfl
    obtain ⟨i1, i2⟩ := ih (pre ++ [x]) (o ++ [tileOf pre.getLast! x]) (by simpa using h1) (by simp; omega) (by simp)
    rw [e1, hl] at i1 i2
    have ht : o ++ tilesL (pre.getLast! :: x :: xs) = o ++ [tileOf pre.getLast! x] ++ tilesL (x :: xs) := by
      rw [tilesL_two]
      simp
    rw [ht]
    constructor
    · refine Ev.step (fun k => ?_) i1
      simp only [spec_haTiles.l0]
      rw [if_pos (by omega), t_wrap ((pre.length : Int) - 1) (by omega) (by omega), if_pos (by omega), if_pos (by omega), if_pos (by omega), hp, i_mid, tiOf_f]
      simp only [Option.bind_some]
      rw [if_pos (by omega), t_wrap ((pre.length : Int) + 1) (by omega) (by omega)]
      simp
    · refine Ev.step (fun k => ?_) i2
      simp only [impl_tilesOf.l0, impl_tile.f, Option.bind_some]
      rw [if_pos (by omega), t_wrap ((pre.length : Int) - 1) (by omega) (by omega), if_pos (by omega), if_pos (by omega), if_pos (by omega), hp, i_mid, if_pos (by omega), t_wrap ((pre.length : Int) + 1) (by omega) (by omega)]
      simp [tileOf]
theorem haTiles_f (c : List Int) (h : c.length ≤ 2000000) : Ev (fun k => spec_haTiles.f k c) (tilesL c) ∧ Ev (fun k => impl_tilesOf.f k c) (tilesL c) := by
  unfold spec_haTiles.f impl_tilesOf.f
  cases c with
  | nil =>
    constructor
    · refine Ev.step (f := fun _ => some []) (fun k => ?_) (Ev.now _)
      simp [spec_haTiles.l0]
    · refine Ev.step (f := fun _ => some []) (fun k => ?_) (Ev.now _)
      simp [impl_tilesOf.l0]
  | cons x xs =>
    obtain ⟨i1, i2⟩ := haTiles_ev xs [x] [] (by simpa using h) (by simp) (by simp)
    exact ⟨i1, i2⟩
theorem tilesL_good (c : List Int) (h : c.all (inB 0 9) = true) : ∀ x ∈ tilesL c, good x = true := by
  induction c with
  | nil => intro x hx; cases hx
  | cons a r ih =>
    rw [List.all_cons, Bool.and_eq_true] at h
    cases r with
    | nil => intro x hx; cases hx
    | cons b r =>
      intro x hx
      rw [tilesL_two] at hx
      rcases List.mem_cons.1 hx with rfl | hx
      · have h2 := h.2
        rw [List.all_cons, Bool.and_eq_true] at h2
        have ha := h.1
        have hb := h2.1
        unfold inB at ha hb
        simp only [Bool.and_eq_true, decide_eq_true_eq] at ha hb
        rw [good_iff]
        unfold tileOf mn mx
        simp only
        split <;> split <;> omega
      · exact ih h.2 x hx
/-- Is it a chain? -/
def ch (c : List Int) : Bool := decide (1 ≤ c.length) && (c.all (inB 0 9) && nd [] (tilesL c))
theorem ch_true (c : List Int) (h : ch c = true) : 1 ≤ c.length ∧ c.length ≤ 56 ∧ (∀ x ∈ c, 0 ≤ x ∧ x ≤ 9) ∧ isH (tilesL c) = true := by
  unfold ch at h
  simp only [Bool.and_eq_true, decide_eq_true_eq] at h
  obtain ⟨h1, h2, h3⟩ := h
  have hg := tilesL_good c h2
  obtain ⟨A, _, hA, hP, hm⟩ := whole
  have hle := len_le (tilesL c) A (nd_nodup _ _ h3).2 (fun x hx => (hm x).2 (hg x hx))
  rw [tilesL_len, hA] at hle
  refine ⟨h1, by omega, fun x hx => ?_, ?_⟩
  · have := List.all_eq_true.1 h2 x hx
    unfold inB at this
    simpa using this
  · unfold isH
    rw [decide_eq_true (by rw [tilesL_len]; omega), h3, List.all_eq_true.2 hg]
    rfl

theorem ch_spec (c : List Int) (h : c.length ≤ 2000000) : Ev (fun k => spec_haGood.f k c) (ch c) := by
  unfold spec_haGood.f
  rw [l1In_f]
  simp only [Option.bind_some]
  cases h1 : inB 1 56 (c.length : Int)
  · refine ⟨0, fun k _ => ?_⟩
    have : ch c = false := by
      cases hc : ch c
      · rfl
      · obtain ⟨a, b, _⟩ := ch_true c hc
        have : inB 1 56 (c.length : Int) = true := (inB_iff _ _ _).2 (by omega)
        rw [this] at h1
        cases h1
    simp [this]
  · simp only [if_true]
    have hb := (inB_iff _ _ _).1 h1
    refine Ev.bind (f := fun k t => _) (l1All_f 0 9 c h) ?_
    cases h2 : c.all (inB 0 9)
    · refine ⟨0, fun k _ => ?_⟩
      simp [ch, h2]
    · simp only [if_true]
      refine Ev.bind (f := fun k t => _) (haTiles_f c h).1 ?_
      refine Ev.bind (f := fun k t => _) (isH_spec (tilesL c) (by rw [tilesL_len]; omega)) ⟨0, fun k _ => ?_⟩
      have : isH (tilesL c) = ch c := by
        unfold isH ch
        rw [h2, List.all_eq_true.2 (tilesL_good c h2), decide_eq_true (show (tilesL c).length ≤ 55 from by rw [tilesL_len]; omega), decide_eq_true (show 1 ≤ c.length from by omega)]
      rw [this]
theorem ch_impl (c : List Int) (h : c.length ≤ 2000000) : Ev (fun k => impl_IsChain.f k c) (ch c) := by
  unfold impl_IsChain.f impl_areWithin.f
  by_cases h1 : (c.length : Int) > 0
  · simp only [if_pos h1, Option.bind_some]
    rw [any_out]
    cases h2 : c.all (inB 0 9)
    · refine ⟨0, fun k _ => ?_⟩
      simp [ch, h2]
    · simp only [if_true]
      refine Ev.bind (f := fun k t => _) (haTiles_f c h).2 ?_
      have hi := areDiff_ev (tilesL c) [] (by simp; rw [tilesL_len]; omega)
      refine Ev.bind (f := fun k t => _) (show Ev (fun k => impl_areDifferent_impl_Tile.f k (tilesL c)) (nd [] (tilesL c)) from hi) ⟨0, fun k _ => ?_⟩
      have : nd [] (tilesL c) = ch c := by
        unfold ch
        rw [h2, decide_eq_true (show 1 ≤ c.length from by omega)]
        rfl
      rw [this]
  · simp only [if_neg h1]
    refine ⟨0, fun k _ => ?_⟩
    have : c.length = 0 := by omega
    simp [ch, this]

theorem nodup_nd : ∀ (rest pre : List S43), (∀ x ∈ rest, x ∉ pre) → rest.Nodup → nd pre rest = true := by
  intro rest
  induction rest with
  | nil => intro pre _ _; rfl
  | cons x xs ih =>
    intro pre h1 h2
    rw [List.nodup_cons] at h2
    unfold nd
    rw [decide_eq_false (h1 x List.mem_cons_self), ih (pre ++ [x]) (fun y hy hp => ?_) h2.2]
    · rfl
    · rcases List.mem_append.1 hp with hp | hp
      · exact h1 y (List.mem_cons_of_mem _ hy) hp
      · have : y = x := by simpa using hp
        subst this
        exact h2.1 hy
theorem ch_iff (c : List Int) : ch c = true ↔ 1 ≤ c.length ∧ (∀ x ∈ c, 0 ≤ x ∧ x ≤ 9) ∧ (tilesL c).Nodup := by
  constructor
  · intro h
    have h1 := ch_true c h
    exact ⟨h1.1, h1.2.2.1, (isH_true _ h1.2.2.2).2.2⟩
  · rintro ⟨h1, h2, h3⟩
    unfold ch
    rw [decide_eq_true h1, nodup_nd _ [] (fun _ _ h => by cases h) h3, List.all_eq_true.2 (fun x hx => (inB_iff _ _ _).2 (h2 x hx))]
    rfl
theorem tilesL_app (x : Int) (b : List Int) : ∀ a : List Int, tilesL (a ++ x :: b) = tilesL (a ++ [x]) ++ tilesL (x :: b)
  | [] => rfl
  | [y] => rfl
  | y :: z :: a => by
    have ih := tilesL_app x b (z :: a)
    simp only [List.cons_append] at ih ⊢
    rw [tilesL_two, ih, tilesL_two]
    rfl
theorem tileOf_comm (x y : Int) : tileOf x y = tileOf y x := by
  apply t_ext <;> (unfold tileOf mn mx; simp only; split <;> split <;> omega)
theorem tilesL_rev : ∀ c : List Int, tilesL c.reverse = (tilesL c).reverse
  | [] => rfl
  | [_] => rfl
  | x :: y :: r => by
    have ih := tilesL_rev (y :: r)
    rw [tilesL_two, List.reverse_cons, List.reverse_cons, List.append_assoc]
    show tilesL (r.reverse ++ y :: [x]) = _
    rw [tilesL_app, ← List.reverse_cons, ih, List.reverse_cons, tileOf_comm x y]
    rfl
theorem tilesL_take : ∀ (c : List Int) (n : Nat), tilesL (c.take n) = (tilesL c).take (n - 1)
  | [], n => by simp [tilesL]
  | [x], n => by cases n <;> simp [tilesL]
  | x :: y :: r, 0 => by simp [tilesL]
  | x :: y :: r, 1 => by simp [tilesL]
  | x :: y :: r, n + 2 => by
    have ih := tilesL_take (y :: r) (n + 1)
    rw [List.take_succ_cons] at ih
    rw [List.take_succ_cons, List.take_succ_cons, tilesL_two, ih, tilesL_two]
    simp
theorem tilesL_drop : ∀ (n : Nat) (c : List Int), tilesL (c.drop n) = (tilesL c).drop n
  | 0, c => rfl
  | n + 1, [] => by simp [tilesL]
  | n + 1, [x] => by simp [tilesL]
  | n + 1, x :: y :: r => by
    rw [List.drop_succ_cons, tilesL_drop n (y :: r), tilesL_two, List.drop_succ_cons]
theorem ch_take (c : List Int) (n : Nat) (h : ch c = true) (h1 : 1 ≤ n) : ch (c.take n) = true := by
  rw [ch_iff] at h ⊢
  refine ⟨by rw [List.length_take]; omega, fun x hx => h.2.1 x (List.mem_of_mem_take hx), ?_⟩
  rw [tilesL_take]
  exact h.2.2.sublist (List.take_sublist _ _)
theorem ch_drop (c : List Int) (n : Nat) (h : ch c = true) (h1 : n < c.length) : ch (c.drop n) = true := by
  rw [ch_iff] at h ⊢
  refine ⟨by rw [List.length_drop]; omega, fun x hx => h.2.1 x (List.mem_of_mem_drop hx), ?_⟩
  rw [tilesL_drop]
  exact h.2.2.sublist (List.drop_sublist _ _)
theorem ch_rev (c : List Int) (h : ch c = true) : ch c.reverse = true := by
  rw [ch_iff] at h ⊢
  refine ⟨by simpa using h.1, fun x hx => h.2.1 x (by simpa using hx), ?_⟩
  rw [tilesL_rev]
  exact List.pairwise_reverse.2 (h.2.2.imp fun h => Ne.symm h)
theorem ch_len (c : List Int) (h : ch c = true) : 1 ≤ c.length ∧ c.length ≤ 56 := ⟨(ch_true c h).1, (ch_true c h).2.1⟩
theorem tilesL_get : ∀ (c : List Int) (i : Nat), i + 1 < c.length → (tilesL c).getD i z43 = tileOf (c.getD i 0) (c.getD (i + 1) 0)
  | [], i, h => by simp at h
  | [_], i, h => by simp at h
  | x :: y :: r, 0, _ => rfl
  | x :: y :: r, i + 1, h => by
    rw [tilesL_two, List.getD_cons_succ, tilesL_get (y :: r) i (by simp at h ⊢; omega)]
    rfl
theorem tiles_good (c : List Int) (h : ch c = true) (x : S43) (hx : x ∈ tilesL c) : good x = true := (isH_true _ (ch_true c h).2.2.2).2.1 x hx
/-! ### What the functions answer -/
theorem rd_get (l : List Int) (i : Nat) : rd l (i : Int) = l.getD i 0 := rfl
theorem rdT_get (l : List S43) (i : Nat) : rd_T43 l (i : Int) = l.getD i z43 := rfl
theorem iSame_ev (l : List Int) (hl : l.length ≤ 100000000) : ∀ (d i : Nat), i + d = l.length → Ev (fun k => laws_iSame.l0 k l l (l.length : Int) (i : Int)) true := by
  intro d
  induction d with
  | zero =>
    intro i hi
    refine ⟨1, fun k hk => ?_⟩
    obtain ⟨j, rfl⟩ : ∃ j, k = j + 1 := ⟨k - 1, by omega⟩
    simp only [laws_iSame.l0]
    rw [if_neg (by omega)]
  | succ d ih =>
    intro i hi
    refine Ev.step (fun k => ?_) (ih (i + 1) (by omega))
    simp only [laws_iSame.l0]
    rw [if_pos (by omega), if_pos (by omega), if_pos (by omega), if_pos (by omega), if_pos trivial, t_wrap ((i : Int) + 1) (by omega) (by omega)]
    rfl
theorem iSame_f (l : List Int) (hl : l.length ≤ 100000000) : Ev (fun k => laws_iSame.f k l l) true := by
  unfold laws_iSame.f
  simp only [if_true]
  exact iSame_ev l hl l.length 0 (by omega)
theorem iTiles_ev (l : List S43) (hl : l.length ≤ 100000000) : ∀ (d i : Nat), i + d = l.length → Ev (fun k => laws_iTiles.l0 k l l (l.length : Int) (i : Int)) true := by
  intro d
  induction d with
  | zero =>
    intro i hi
    refine ⟨1, fun k hk => ?_⟩
    obtain ⟨j, rfl⟩ : ∃ j, k = j + 1 := ⟨k - 1, by omega⟩
    simp only [laws_iTiles.l0]
    rw [if_neg (by omega)]
  | succ d ih =>
    intro i hi
    refine Ev.step (fun k => ?_) (ih (i + 1) (by omega))
    simp only [laws_iTiles.l0]
    rw [if_pos (by omega), if_pos (by omega), if_pos (by omega), if_pos (by omega), t_wrap ((i : Int) + 1) (by omega) (by omega)]
    simp
theorem iTiles_f (l : List S43) (hl : l.length ≤ 100000000) : Ev (fun k => laws_iTiles.f k l l) true := by
  unfold laws_iTiles.f
  simp only [if_true]
  exact iTiles_ev l hl l.length 0 (by omega)
theorem iIn_ev (l : List S43) (t : S43) (hl : l.length ≤ 100000000) (ht : t ∈ l) : ∀ (d i : Nat), i + d = l.length → t ∈ l.drop i → Ev (fun k => laws_iIn.l0 k l (l.length : Int) (i : Int) t.f0 t.f1) true := by
  intro d
  induction d with
  | zero =>
    intro i hi h
    rw [List.drop_eq_nil_of_le (by omega)] at h
    cases h
  | succ d ih =>
    intro i hi h
    by_cases e : l.getD i z43 = t
    · refine ⟨1, fun k hk => ?_⟩
      obtain ⟨j, rfl⟩ : ∃ j, k = j + 1 := ⟨k - 1, by omega⟩
      simp only [laws_iIn.l0]
      rw [if_pos (by omega), if_pos (by omega), if_pos (by omega), rdT_get, e]
      simp
    · refine Ev.step (fun k => ?_) (ih (i + 1) (by omega) ?_)
      · simp only [laws_iIn.l0]
        rw [if_pos (by omega), if_pos (by omega), if_pos (by omega), rdT_get, t_beq, decide_eq_false e, t_wrap ((i : Int) + 1) (by omega) (by omega)]
        simp
      · have hx : l.drop i = l[i] :: l.drop (i + 1) := List.drop_eq_getElem_cons (by omega)
        rw [hx] at h
        rcases List.mem_cons.1 h with h | h
        · exfalso
          apply e
          rw [h, List.getD_eq_getElem?_getD, List.getElem?_eq_getElem (by omega)]
          rfl
        · exact h
theorem iIn_f (l : List S43) (t : S43) (hl : l.length ≤ 100000000) (ht : t ∈ l) : Ev (fun k => laws_iIn.f k l t.f0 t.f1) true := iIn_ev l t hl ht l.length 0 (by omega) ht
theorem concat1 (L : List (List Int)) (n : Nat) (hL : L.length ≤ 1000) (hn : n ≤ 1000000) : ∀ (d i : Nat) (o : List Int), i + d = L.length → o.length + (L.drop i).flatten.length ≤ n → Ev (fun k => slices_Concat_int_int.l1 k o L (L.length : Int) (i : Int)) (o ++ (L.drop i).flatten) := by
  intro d
  induction d with
  | zero =>
    intro i o hi ho
    refine ⟨1, fun k hk => ?_⟩
    obtain ⟨j, rfl⟩ : ∃ j, k = j + 1 := ⟨k - 1, by omega⟩
    simp only [slices_Concat_int_int.l1]
    rw [if_neg (by omega), List.drop_eq_nil_of_le (by omega)]
    simp
  | succ d ih =>
    intro i o hi ho
    have hx : L.drop i = L[i] :: L.drop (i + 1) := List.drop_eq_getElem_cons (by omega)
    have hg : rd_L3 L (i : Int) = L[i] := by
      show L.getD i [] = _
      rw [List.getD_eq_getElem?_getD, List.getElem?_eq_getElem (by omega)]
      rfl
    rw [hx] at ho ⊢
    rw [List.flatten_cons] at ho ⊢
    rw [List.length_append] at ho
    rw [← List.append_assoc]
    refine Ev.step (fun k => ?_) (ih (i + 1) (o ++ L[i]) (by omega) (by rw [List.length_append]; omega))
    simp only [slices_Concat_int_int.l1]
    rw [if_pos (by omega), if_pos (by omega), if_pos (by omega), hg, if_pos (by omega), t_wrap ((i : Int) + 1) (by omega) (by omega)]
    rfl
theorem concat0 (L : List (List Int)) (n : Nat) (hL : L.length ≤ 1000) (hn : n ≤ 1000000) (hf : L.flatten.length ≤ n) : ∀ (d i m : Nat), i + d = L.length → m + (L.drop i).flatten.length ≤ n → Ev (fun k => slices_Concat_int_int.l0 k L (m : Int) L (L.length : Int) (i : Int)) L.flatten := by
  intro d
  induction d with
  | zero =>
    intro i m hi hm
    have h1 := concat1 L n hL hn L.length 0 [] (by omega) (by simpa using hf)
    refine Ev.step (fun k => ?_) h1
    simp only [slices_Concat_int_int.l0, slices_Grow_int_int.f, List.length_nil]
    rw [if_neg (by omega), if_pos trivial, if_pos (by omega), if_pos (by omega)]
    rfl
  | succ d ih =>
    intro i m hi hm
    have hx : L.drop i = L[i] :: L.drop (i + 1) := List.drop_eq_getElem_cons (by omega)
    have hg : rd_L3 L (i : Int) = L[i] := by
      show L.getD i [] = _
      rw [List.getD_eq_getElem?_getD, List.getElem?_eq_getElem (by omega)]
      rfl
    rw [hx, List.flatten_cons, List.length_append] at hm
    refine Ev.step (fun k => ?_) (ih (i + 1) (m + L[i].length) (by omega) (by omega))
    simp only [slices_Concat_int_int.l0]
    rw [if_pos (by omega), if_pos (by omega), if_pos (by omega), hg, t_wrap ((m : Int) + (L[i].length : Int)) (by omega) (by omega), if_neg (by omega), t_wrap ((i : Int) + 1) (by omega) (by omega)]
    rfl
theorem concat_f (L : List (List Int)) (hL : L.length ≤ 1000) (hn : L.flatten.length ≤ 1000000) : Ev (fun k => slices_Concat_int_int.f k L) L.flatten :=
  concat0 L L.flatten.length hL hn (Nat.le_refl _) L.length 0 0 (by omega) (by simp)
theorem concat_two (a b : List Int) (ha : a.length ≤ 100000) (hb : b.length ≤ 100000) : Ev (fun k => slices_Concat_int_int.f k [a, b]) (a ++ b) := by
  have h := concat_f [a, b] (by simp) (by simp; omega)
  simpa using h

/-! ### A chain's tiles, ends, the chain backwards -/
theorem wn (n : Nat) (h : n ≤ 100000000) : wrap64 ((n : Int) - 1) = (n : Int) - 1 := t_wrap _ (by omega) (by omega)
theorem tiles_i (c : List Int) (h : c.length ≤ 2000000) : Ev (fun k => impl_TilesOfChain.f k c) (if ch c = true then (tilesL c, true) else ([], false)) := by
  unfold impl_TilesOfChain.f
  refine Ev.bind (f := fun k t => _) (ch_impl c h) ?_
  cases ch c
  · exact ⟨0, fun _ _ => rfl⟩
  · simp only [if_true]
    exact Ev.bind (f := fun k t => some (t, true)) (haTiles_f c h).2 ⟨0, fun _ _ => rfl⟩
theorem tiles_s (c : List Int) (h : c.length ≤ 2000000) : Ev (fun k => spec_TilesOfChain.f k c) (if ch c = true then (tilesL c, true) else ([], false)) := by
  unfold spec_TilesOfChain.f
  refine Ev.bind (f := fun k t => _) (ch_spec c h) ?_
  cases ch c
  · exact ⟨0, fun _ _ => rfl⟩
  · simp only [if_true]
    exact Ev.bind (f := fun k t => some (t, true)) (haTiles_f c h).1 ⟨0, fun _ _ => rfl⟩
def lastI (c : List Int) : Int := c.getD (c.length - 1) 0
theorem ends_f (c : List Int) (h : 1 ≤ c.length) (h2 : c.length ≤ 2000000) : impl_ends.f c = some (c.getD 0 0, lastI c) := by
  unfold impl_ends.f
  rw [if_pos (by omega), wn _ (by omega), if_pos (by omega), if_pos (by omega)]
  unfold lastI
  rw [show ((c.length : Int) - 1) = ((c.length - 1 : Nat) : Int) by omega]
  rfl
theorem ends_i (c : List Int) (h : c.length ≤ 2000000) : Ev (fun k => impl_EndsOfChain.f k c) (if ch c = true then (c.getD 0 0, lastI c, true) else (0, 0, false)) := by
  unfold impl_EndsOfChain.f
  refine Ev.bind (f := fun k t => _) (ch_impl c h) ?_
  cases hc : ch c
  · exact ⟨0, fun _ _ => rfl⟩
  · simp only [if_true]
    rw [ends_f c (ch_len c hc).1 h]
    exact ⟨0, fun _ _ => rfl⟩
theorem ends_s (c : List Int) (h : c.length ≤ 2000000) : Ev (fun k => spec_EndsOfChain.f k c) (if ch c = true then (c.getD 0 0, lastI c, true) else (0, 0, false)) := by
  unfold spec_EndsOfChain.f
  refine Ev.bind (f := fun k t => _) (ch_spec c h) ?_
  cases hc : ch c
  · exact ⟨0, fun _ _ => rfl⟩
  · have hl := (ch_len c hc).1
    simp only [if_true]
    refine ⟨0, fun k _ => ?_⟩
    simp only
    rw [if_pos (by omega), wn _ (by omega), if_pos (by omega), if_pos (by omega)]
    unfold lastI
    rw [show ((c.length : Int) - 1) = ((c.length - 1 : Nat) : Int) by omega]
    rfl
theorem rev_set (A M B : List Int) (x y : Int) : ((A ++ x :: M ++ y :: B).set A.length y).set (A.length + M.length + 1) x = A ++ y :: M ++ x :: B := by
  have e1 : (A ++ x :: M ++ y :: B).set A.length y = A ++ y :: M ++ y :: B := by
    simp [List.set_append]
  rw [e1]
  have e2 : A.length + M.length + 1 = (A ++ y :: M).length := by simp; omega
  rw [e2]
  simp [List.set_append]
theorem rev_ev : ∀ (n : Nat) (A M B : List Int), M.length = n → (A ++ M ++ B).length ≤ 2000000 → Ev (fun k => slices_Reverse_int_int.l0 k (A ++ M ++ B) (A.length : Int) ((A.length : Int) + (M.length : Int) - 1)) (A ++ M.reverse ++ B) := by
  intro n
  induction n using Nat.strongRecOn with
  | ind n ih =>
    intro A M B hn hl
    by_cases h2 : 2 ≤ M.length
    · obtain ⟨x, M', rfl⟩ : ∃ x M', M = x :: M' := by
        cases M with
        | nil => simp at h2
        | cons x M' => exact ⟨x, M', rfl⟩
      obtain ⟨N, y, rfl⟩ : ∃ N y, M' = N ++ [y] := by
        have hne : M' ≠ [] := by
          rintro rfl
          simp at h2
        exact ⟨M'.dropLast, M'.getLast hne, (List.dropLast_concat_getLast hne).symm⟩
      have hlen : (x :: (N ++ [y])).length = N.length + 2 := by simp
      have hl2 : A.length + N.length + 2 + B.length ≤ 2000000 := by simp at hl; omega
      have e0 : A ++ x :: (N ++ [y]) ++ B = A ++ x :: N ++ y :: B := by simp
      have e3 : A ++ y :: N ++ x :: B = (A ++ [y]) ++ N ++ ([x] ++ B) := by simp
      have e4 : A ++ (x :: (N ++ [y])).reverse ++ B = (A ++ [y]) ++ N.reverse ++ ([x] ++ B) := by simp
      have gx : rd (A ++ x :: N ++ y :: B) (A.length : Int) = x := by
        show (A ++ x :: N ++ y :: B).getD A.length 0 = x
        simp [List.getD_eq_getElem?_getD]
      have gy : rd (A ++ x :: N ++ y :: B) (((A.length + N.length + 1 : Nat)) : Int) = y := by
        show (A ++ x :: N ++ y :: B).getD (A.length + N.length + 1) 0 = y
        have e : A.length + N.length + 1 = (A ++ x :: N).length := by simp; omega
        rw [e]
        simp [List.getD_eq_getElem?_getD]
      have ll : (A ++ x :: N ++ y :: B).length = A.length + N.length + 2 + B.length := by simp; omega
      rw [e4]
      have step := ih N.length (by omega) (A ++ [y]) N ([x] ++ B) rfl (by simp; omega)
      refine Ev.step (fun k => ?_) step
      simp only [slices_Reverse_int_int.l0]
      rw [hlen, show ((A.length : Int) + ((N.length + 2 : Nat) : Int) - 1) = ((A.length + N.length + 1 : Nat) : Int) by omega, e0, if_pos (by omega), if_pos (by omega), if_pos (by omega), if_pos (by omega), if_pos (by omega), gx, gy,
        Int.toNat_natCast, Int.toNat_natCast, rev_set, e3, t_wrap ((A.length : Int) + 1) (by omega) (by omega), t_wrap (((A.length + N.length + 1 : Nat) : Int) - 1) (by omega) (by omega)]
      have l1 : (A ++ [y]).length = A.length + 1 := by simp
      rw [l1, show (((A.length + N.length + 1 : Nat) : Int) - 1) = ((A.length + 1 : Nat) : Int) + (N.length : Int) - 1 by omega]
      rfl
    · have hr : M.reverse = M := by
        match M, h2 with
        | [], _ => rfl
        | [_], _ => rfl
        | _ :: _ :: _, h2 => simp at h2
      rw [hr]
      refine ⟨1, fun k hk => ?_⟩
      obtain ⟨j, rfl⟩ : ∃ j, k = j + 1 := ⟨k - 1, by omega⟩
      simp only [slices_Reverse_int_int.l0]
      rw [if_neg (by omega)]
theorem turned_f (c : List Int) (h : c.length ≤ 2000000) : Ev (fun k => impl_turned.f k c) c.reverse := by
  unfold impl_turned.f slices_Clone_int_int.f
  rw [if_pos (by omega)]
  simp only [Option.bind_some]
  have h1 := rev_ev c.length [] c [] rfl (by simpa using h)
  refine Ev.bind (f := fun k t => some t) (?_ : Ev (fun k => slices_Reverse_int_int.f k c) c.reverse) ⟨0, fun _ _ => rfl⟩
  unfold slices_Reverse_int_int.f
  rw [wn _ (by omega)]
  have e : [] ++ c ++ [] = c := by simp
  have e2 : [] ++ c.reverse ++ [] = c.reverse := by simp
  rw [e, e2] at h1
  simpa using h1
theorem haTurn_ev (c : List Int) (h : c.length ≤ 2000000) : ∀ (d : Nat) (o : List Int), d ≤ c.length → o.length + d ≤ c.length → Ev (fun k => spec_haTurn.l0 k c o ((d : Int) - 1)) (o ++ (c.take d).reverse) := by
  intro d
  induction d with
  | zero =>
    intro o _ _
    refine ⟨1, fun k hk => ?_⟩
    obtain ⟨j, rfl⟩ : ∃ j, k = j + 1 := ⟨k - 1, by omega⟩
    simp only [spec_haTurn.l0]
    rw [if_neg (by omega)]
    simp
  | succ d ih =>
    intro o h1 h2
    have hx : c.take (d + 1) = c.take d ++ [c.getD d 0] := by
      rw [List.take_succ_eq_append_getElem (by omega), List.getD_eq_getElem?_getD, List.getElem?_eq_getElem (by omega)]
      rfl
    rw [hx, List.reverse_append, List.reverse_singleton, ← List.append_assoc]
    refine Ev.step (fun k => ?_) (ih (o ++ [c.getD d 0]) (by omega) (by simp; omega))
    simp only [spec_haTurn.l0]
    rw [show (((d + 1 : Nat) : Int) - 1) = (d : Int) by omega, if_pos (by omega), if_pos (by omega), if_pos (by omega), if_pos (by omega), t_wrap ((d : Int) - 1) (by omega) (by omega)]
    rfl
theorem haTurn_f (c : List Int) (h : c.length ≤ 2000000) : Ev (fun k => spec_haTurn.f k c) c.reverse := by
  unfold spec_haTurn.f
  rw [wn _ (by omega)]
  have h1 := haTurn_ev c h c.length [] (Nat.le_refl _) (by simp)
  simpa using h1
theorem turn_i (c : List Int) (h : c.length ≤ 2000000) : Ev (fun k => impl_TurnChain.f k c) (if ch c = true then (c.reverse, true) else ([], false)) := by
  unfold impl_TurnChain.f
  refine Ev.bind (f := fun k t => _) (ch_impl c h) ?_
  cases ch c
  · exact ⟨0, fun _ _ => rfl⟩
  · simp only [if_true]
    exact Ev.bind (f := fun k t => some (t, true)) (turned_f c h) ⟨0, fun _ _ => rfl⟩
theorem turn_s (c : List Int) (h : c.length ≤ 2000000) : Ev (fun k => spec_TurnChain.f k c) (if ch c = true then (c.reverse, true) else ([], false)) := by
  unfold spec_TurnChain.f
  refine Ev.bind (f := fun k t => _) (ch_spec c h) ?_
  cases ch c
  · exact ⟨0, fun _ _ => rfl⟩
  · simp only [if_true]
    exact Ev.bind (f := fun k t => some (t, true)) (haTurn_f c h) ⟨0, fun _ _ => rfl⟩
/-! ### Texts -/
theorem ba_ext (a b : ByteArray) (h : a.data.toList = b.data.toList) : a = b := by
  cases a
  cases b
  simp only [ByteArray.mk.injEq]
  exact Array.toList_inj.1 h
theorem ba_app (a b : ByteArray) : (a ++ b).data.toList = a.data.toList ++ b.data.toList := by
  rw [ByteArray.data_append, Array.toList_append]
def dg (n : Int) : Int := (wrap64 (48 + n)) % 256
theorem son_app (a b : List Int) : strOfNums (a ++ b) = strOfNums a ++ strOfNums b := by
  apply ba_ext
  rw [ba_app, strOfNums_data, strOfNums_data, strOfNums_data, List.map_append]
theorem chainText_ev (c : List Int) (h : c.length ≤ 2000000) (hc : ∀ x ∈ c, 0 ≤ x) : ∀ (d i : Nat), i + d = c.length → Ev (fun k => impl_chainText.l0 k ((c.take i).map dg) c (c.length : Int) (i : Int)) (strOfNums (c.map dg)) := by
  intro d
  induction d with
  | zero =>
    intro i hi
    refine ⟨1, fun k hk => ?_⟩
    obtain ⟨j, rfl⟩ : ∃ j, k = j + 1 := ⟨k - 1, by omega⟩
    simp only [impl_chainText.l0]
    rw [if_neg (by omega), List.take_of_length_le (by omega)]
  | succ d ih =>
    intro i hi
    have hx : c.take (i + 1) = c.take i ++ [c.getD i 0] := by
      rw [List.take_succ_eq_append_getElem (by omega), List.getD_eq_getElem?_getD, List.getElem?_eq_getElem (by omega)]
      rfl
    have hp : 0 ≤ c.getD i 0 := by
      rw [List.getD_eq_getElem?_getD, List.getElem?_eq_getElem (by omega)]
      exact hc _ (List.getElem_mem _)
    have h1 := ih (i + 1) (by omega)
    rw [hx, List.map_append] at h1
    refine Ev.step (fun k => ?_) h1
    simp only [impl_chainText.l0]
    rw [if_pos (by omega), if_pos (by omega), if_pos (by omega), rd_get, if_neg (by omega), if_pos (by simp; omega), t_wrap ((i : Int) + 1) (by omega) (by omega)]
    rfl
theorem num_f (n : Int) (h : n < 10) : Ev (fun k => spec_l1Num.f k n) (strOfNums [dg n]) := by
  refine ⟨1, fun k hk => ?_⟩
  obtain ⟨j, rfl⟩ : ∃ j, k = j + 1 := ⟨k - 1, by omega⟩
  simp only [spec_l1Num.f]
  rw [if_pos h]
  rfl
theorem haText_ev (c : List Int) (h : c.length ≤ 2000000) (hc : ∀ x ∈ c, x < 10) : ∀ (d i : Nat), i + d = c.length → Ev (fun k => spec_haText.l0 k (strOfNums ((c.take i).map dg)) c (c.length : Int) (i : Int)) (strOfNums (c.map dg)) := by
  intro d
  induction d with
  | zero =>
    intro i hi
    refine ⟨1, fun k hk => ?_⟩
    obtain ⟨j, rfl⟩ : ∃ j, k = j + 1 := ⟨k - 1, by omega⟩
    simp only [spec_haText.l0]
    rw [if_neg (by omega), List.take_of_length_le (by omega)]
  | succ d ih =>
    intro i hi
    have hx : c.take (i + 1) = c.take i ++ [c.getD i 0] := by
      rw [List.take_succ_eq_append_getElem (by omega), List.getD_eq_getElem?_getD, List.getElem?_eq_getElem (by omega)]
      rfl
    have hp : c.getD i 0 < 10 := by
      rw [List.getD_eq_getElem?_getD, List.getElem?_eq_getElem (by omega)]
      exact hc _ (List.getElem_mem _)
    have h1 := ih (i + 1) (by omega)
    rw [hx, List.map_append, son_app] at h1
    have hs : (strOfNums ((c.take i).map dg)).size = i := by
      rw [strOfNums_size, List.length_map, List.length_take]
      omega
    refine Ev.step (f := fun k => (spec_l1Num.f k (c.getD i 0)).bind fun t => if (strOfNums ((c.take i).map dg)).size + t.size ≤ 9223372036854775807 then spec_haText.l0 k (strOfNums ((c.take i).map dg) ++ t) c (c.length : Int) (wrap64 ((i : Int) + 1)) else none) (fun k => ?_) ?_
    · simp only [spec_haText.l0]
      rw [if_pos (by omega), if_pos (by omega), if_pos (by omega), rd_get]
    · refine Ev.bind (f := fun k t => _) (num_f _ hp) ?_
      simp only [if_pos (show (strOfNums ((c.take i).map dg)).size + (strOfNums [dg (c.getD i 0)]).size ≤ 9223372036854775807 from by rw [hs, strOfNums_size]; simp; omega)]
      rw [t_wrap ((i : Int) + 1) (by omega) (by omega)]
      exact h1
theorem text_i (c : List Int) (h : c.length ≤ 2000000) : Ev (fun k => impl_ChainText.f k c) (if ch c = true then (strOfNums (c.map dg), true) else ((⟨#[]⟩ : ByteArray), false)) := by
  unfold impl_ChainText.f
  refine Ev.bind (f := fun k t => _) (ch_impl c h) ?_
  cases hc : ch c
  · exact ⟨0, fun _ _ => rfl⟩
  · simp only [if_true]
    have h1 := ((ch_iff c).1 hc).2.1
    exact Ev.bind (f := fun k t => some (t, true)) (show Ev (fun k => impl_chainText.f k c) _ from chainText_ev c h (fun x hx => (h1 x hx).1) c.length 0 (by omega)) ⟨0, fun _ _ => rfl⟩
theorem haText_f (c : List Int) (h : c.length ≤ 2000000) (hc : ∀ x ∈ c, x < 10) : Ev (fun k => spec_haText.f k c) (strOfNums (c.map dg)) := haText_ev c h hc c.length 0 (by omega)
theorem text_s (c : List Int) (h : c.length ≤ 2000000) : Ev (fun k => spec_ChainText.f k c) (if ch c = true then (strOfNums (c.map dg), true) else ((⟨#[]⟩ : ByteArray), false)) := by
  unfold spec_ChainText.f
  refine Ev.bind (f := fun k t => _) (ch_spec c h) ?_
  cases hc : ch c
  · exact ⟨0, fun _ _ => rfl⟩
  · simp only [if_true]
    have h1 := ((ch_iff c).1 hc).2.1
    exact Ev.bind (f := fun k t => some (t, true)) (haText_f c h (fun x hx => by have := h1 x hx; omega)) ⟨0, fun _ _ => rfl⟩
/-- What a text reads as. -/
def rdT (s : ByteArray) : List Int := (bytesOf s).map fun b => b - 48
theorem rdT_len (s : ByteArray) : (rdT s).length = s.size := by unfold rdT; rw [List.length_map, bytesOf_length]
theorem bytes_range (s : ByteArray) : ∀ b ∈ bytesOf s, 0 ≤ b ∧ b ≤ 255 := by
  intro b hb
  unfold bytesOf at hb
  rw [List.mem_map] at hb
  obtain ⟨u, _, rfl⟩ := hb
  have := u.toNat_lt
  omega
theorem bytes_get (s : ByteArray) (i : Nat) (h : i < s.size) : (bytesOf s).getD i 0 = bt s (i : Int) := by
  unfold bytesOf bt
  rw [List.getD_eq_getElem?_getD, Int.toNat_natCast, dif_pos h, List.getElem?_map, List.getElem?_eq_getElem (by simpa using h)]
  rfl
theorem parse_i_ev (s : ByteArray) (h : s.size ≤ 2000000) : ∀ (d i : Nat), i + d = s.size → Ev (fun k => impl_ParseChain.l0 k ((rdT s).take i) (bytesOf s) ((bytesOf s).length : Int) (i : Int)) (if ch (rdT s) = true then (rdT s, true) else ([], false)) := by
  have hb := bytesOf_length s
  have hr := rdT_len s
  intro d
  induction d with
  | zero =>
    intro i hi
    refine Ev.step (fun k => ?_) (Ev.bind (f := fun k t => if t = true then some (rdT s, true) else some ([], false)) (ch_impl (rdT s) (by omega)) ?_)
    · simp only [impl_ParseChain.l0]
      rw [if_neg (by omega), List.take_of_length_le (by omega)]
    · refine ⟨0, fun k _ => ?_⟩
      cases ch (rdT s) <;> rfl
  | succ d ih =>
    intro i hi
    have hx : (rdT s).take (i + 1) = (rdT s).take i ++ [(rdT s).getD i 0] := by
      rw [List.take_succ_eq_append_getElem (by omega), List.getD_eq_getElem?_getD, List.getElem?_eq_getElem (by omega)]
      rfl
    have hg : (rdT s).getD i 0 = (bytesOf s).getD i 0 - 48 := by
      unfold rdT
      rw [List.getD_eq_getElem?_getD, List.getD_eq_getElem?_getD, List.getElem?_map, List.getElem?_eq_getElem (by omega)]
      rfl
    have hv : 0 ≤ (bytesOf s).getD i 0 ∧ (bytesOf s).getD i 0 ≤ 255 := by
      rw [List.getD_eq_getElem?_getD, List.getElem?_eq_getElem (by omega)]
      exact bytes_range s _ (List.getElem_mem _)
    have h1 := ih (i + 1) (by omega)
    rw [hx, hg] at h1
    refine Ev.step (fun k => ?_) h1
    simp only [impl_ParseChain.l0]
    rw [if_pos (by omega), if_pos (by omega), if_pos (by omega), rd_get, if_pos (by rw [List.length_take]; omega), t_wrap ((bytesOf s).getD i 0) (by omega) (by omega), t_wrap ((bytesOf s).getD i 0 - 48) (by omega) (by omega), t_wrap ((i : Int) + 1) (by omega) (by omega)]
    rfl
theorem parse_i (s : ByteArray) (h : s.size ≤ 2000000) : Ev (fun k => impl_ParseChain.f k s) (if ch (rdT s) = true then (rdT s, true) else ([], false)) := by
  unfold impl_ParseChain.f conv_bytes.f
  rw [if_pos (by omega)]
  simp only [Option.bind_some]
  exact parse_i_ev s h s.size 0 (by omega)
theorem parse_s_ev (s : ByteArray) (h : s.size ≤ 56) : ∀ (d i : Nat), i + d = s.size → Ev (fun k => (spec_haParse.l0 k s ((rdT s).take i) (i : Int)).bind fun r => if r.2 = true then some (r.1, true) else some (([] : List Int), false)) (if ch (rdT s) = true then (rdT s, true) else ([], false)) := by
  have hb := bytesOf_length s
  have hr := rdT_len s
  intro d
  induction d with
  | zero =>
    intro i hi
    refine Ev.step (fun k => ?_) (Ev.bind (f := fun k t => if t = true then some (rdT s, true) else some ([], false)) (ch_spec (rdT s) (by omega)) ?_)
    · simp only [spec_haParse.l0]
      rw [if_neg (by omega), List.take_of_length_le (by omega)]
      cases spec_haGood.f k (rdT s) <;> rfl
    · refine ⟨0, fun k _ => ?_⟩
      cases ch (rdT s) <;> rfl
  | succ d ih =>
    intro i hi
    have hx : (rdT s).take (i + 1) = (rdT s).take i ++ [(rdT s).getD i 0] := by
      rw [List.take_succ_eq_append_getElem (by omega), List.getD_eq_getElem?_getD, List.getElem?_eq_getElem (by omega)]
      rfl
    have hg : (rdT s).getD i 0 = (bytesOf s).getD i 0 - 48 := by
      unfold rdT
      rw [List.getD_eq_getElem?_getD, List.getD_eq_getElem?_getD, List.getElem?_map, List.getElem?_eq_getElem (by omega)]
      rfl
    have hm : (rdT s).getD i 0 ∈ rdT s := by
      rw [List.getD_eq_getElem?_getD, List.getElem?_eq_getElem (by omega)]
      exact List.getElem_mem _
    have hv : 0 ≤ (bytesOf s).getD i 0 ∧ (bytesOf s).getD i 0 ≤ 255 := by
      rw [List.getD_eq_getElem?_getD, List.getElem?_eq_getElem (by omega)]
      exact bytes_range s _ (List.getElem_mem _)
    have no : ¬ (0 ≤ (rdT s).getD i 0 ∧ (rdT s).getD i 0 ≤ 9) → ch (rdT s) = false := by
      intro hn
      cases hc : ch (rdT s)
      · rfl
      · exact absurd (((ch_iff _).1 hc).2.1 _ hm) hn
    rw [bytes_get s i (by omega)] at hg hv
    by_cases h1 : bt s (i : Int) < 48
    · rw [no (by omega)]
      refine ⟨1, fun k hk => ?_⟩
      obtain ⟨j, rfl⟩ : ∃ j, k = j + 1 := ⟨k - 1, by omega⟩
      simp only [spec_haParse.l0]
      rw [if_pos (by omega), if_pos (by omega), if_pos h1]
      rfl
    · by_cases h2 : bt s (i : Int) > 57
      · rw [no (by omega)]
        refine ⟨1, fun k hk => ?_⟩
        obtain ⟨j, rfl⟩ : ∃ j, k = j + 1 := ⟨k - 1, by omega⟩
        simp only [spec_haParse.l0]
        rw [if_pos (by omega), if_pos (by omega), if_neg h1, if_pos h2]
        rfl
      · have h3 := ih (i + 1) (by omega)
        rw [hx, hg] at h3
        refine Ev.step (fun k => ?_) h3
        simp only [spec_haParse.l0]
        rw [if_pos (by omega), if_pos (by omega), if_neg h1, if_neg h2, if_pos (by rw [List.length_take]; omega), t_wrap ((i : Int) + 1) (by omega) (by omega), show (bt s (i : Int) - 48) % 256 = bt s (i : Int) - 48 by omega]
        rfl
theorem parse_s (s : ByteArray) (h : s.size ≤ 2000000) : Ev (fun k => spec_ParseChain.f k s) (if ch (rdT s) = true then (rdT s, true) else ([], false)) := by
  unfold spec_ParseChain.f spec_haParse.f
  by_cases h1 : (s.size : Int) > 56
  · simp only [if_pos h1]
    have : ch (rdT s) = false := by
      cases hc : ch (rdT s)
      · rfl
      · have := (ch_len _ hc).2
        rw [rdT_len] at this
        omega
    rw [this]
    exact ⟨0, fun _ _ => rfl⟩
  · simp only [if_neg h1]
    exact parse_s_ev s (by omega) s.size 0 (by omega)
theorem ofN (b : UInt8) : UInt8.ofNat b.toNat = b := by simp
theorem dg_in (n : Int) (h : 0 ≤ n ∧ n ≤ 9) : dg n = 48 + n := by
  unfold dg
  rw [t_wrap _ (by omega) (by omega)]
  omega
theorem read_text (c : List Int) (h : ∀ x ∈ c, 0 ≤ x ∧ x ≤ 9) : rdT (strOfNums (c.map dg)) = c := by
  unfold rdT bytesOf
  rw [strOfNums_data, List.map_map, List.map_map, List.map_map]
  conv => rhs; rw [← List.map_id c]
  apply List.map_congr_left
  intro x hx
  have := h x hx
  simp only [Function.comp_apply, id_eq]
  rw [dg_in x this, UInt8.toNat_ofNat']
  omega
theorem text_read (s : ByteArray) (h : ∀ x ∈ rdT s, 0 ≤ x ∧ x ≤ 9) : strOfNums ((rdT s).map dg) = s := by
  apply ba_ext
  rw [strOfNums_data]
  unfold rdT bytesOf at *
  rw [List.map_map, List.map_map, List.map_map]
  conv => rhs; rw [← List.map_id s.data.toList]
  apply List.map_congr_left
  intro b hb
  have := h ((b.toNat : Int) - 48) (by rw [List.mem_map]; exact ⟨_, List.mem_map.2 ⟨b, hb, rfl⟩, rfl⟩)
  simp only [Function.comp_apply, id_eq]
  rw [dg_in _ this, show (48 + ((b.toNat : Int) - 48)).toNat = b.toNat by omega, ofN]

/-! ### Rings -/
def isR (c : List Int) : Bool := if c.length > 1 then c.getD 0 0 == lastI c else false
theorem ring_i (c : List Int) (h : c.length ≤ 2000000) : Ev (fun k => impl_IsRing.f k c) (if ch c = true then (isR c, true) else (false, false)) := by
  unfold impl_IsRing.f
  refine Ev.bind (f := fun k t => _) (ch_impl c h) ?_
  cases hc : ch c
  · exact ⟨0, fun _ _ => rfl⟩
  · simp only [if_true]
    rw [ends_f c (ch_len c hc).1 h]
    refine ⟨0, fun k _ => ?_⟩
    simp only [Option.bind_some]
    unfold isR
    by_cases h1 : c.length > 1
    · rw [if_pos (by omega), if_pos h1]
    · rw [if_neg (by omega), if_neg h1]
theorem haRing_f (c : List Int) (h : c.length ≤ 2000000) : spec_haRing.f c = some (isR c) := by
  unfold spec_haRing.f isR
  by_cases h1 : c.length > 1
  · rw [if_pos (by omega), if_pos (by omega), wn _ (by omega), if_pos (by omega), if_pos (by omega), if_pos h1]
    unfold lastI
    rw [show ((c.length : Int) - 1) = ((c.length - 1 : Nat) : Int) by omega]
    rfl
  · rw [if_neg (by omega), if_neg h1]
theorem ring_s (c : List Int) (h : c.length ≤ 2000000) : Ev (fun k => spec_IsRing.f k c) (if ch c = true then (isR c, true) else (false, false)) := by
  unfold spec_IsRing.f
  refine Ev.bind (f := fun k t => _) (ch_spec c h) ?_
  cases hc : ch c
  · exact ⟨0, fun _ _ => rfl⟩
  · simp only [if_true]
    rw [haRing_f c h]
    exact ⟨0, fun _ _ => rfl⟩
/-- A ring that begins at another number. -/
def spinL (r : List Int) (k : Nat) : List Int := (r.take (r.length - 1)).drop k ++ r.take (k + 1)
def canSpin (r : List Int) (k : Int) : Bool := ch r && (isR r && inB 0 ((r.length : Int) - 2) k)
theorem parts (r : List Int) (k : Nat) (h : k + 2 ≤ r.length) : ∃ (A : List Int) (v : Int) (B : List Int) (e : Int), r = A ++ v :: (B ++ [e]) ∧ A.length = k := by
  have h1 : r = r.take k ++ r.drop k := (List.take_append_drop k r).symm
  have h2 : (r.drop k).length = r.length - k := List.length_drop
  cases hd : r.drop k with
  | nil => rw [hd] at h2; simp at h2; omega
  | cons v t =>
    have ht : t ≠ [] := by
      rintro rfl
      rw [hd] at h2
      simp at h2
      omega
    refine ⟨r.take k, v, t.dropLast, t.getLast ht, ?_, by rw [List.length_take]; omega⟩
    rw [List.dropLast_concat_getLast ht, ← hd]
    exact h1
theorem spin_eq (A : List Int) (v : Int) (B : List Int) (e : Int) : spinL (A ++ v :: (B ++ [e])) A.length = v :: B ++ (A ++ [v]) := by
  unfold spinL
  have e1 : A ++ v :: (B ++ [e]) = (A ++ v :: B) ++ [e] := by simp
  have e2 : (A ++ v :: (B ++ [e])).length - 1 = (A ++ v :: B).length := by simp
  have e3 : A ++ v :: (B ++ [e]) = (A ++ [v]) ++ (B ++ [e]) := by simp
  have e4 : A.length + 1 = (A ++ [v]).length := by simp
  rw [e2, e4]
  conv => lhs; arg 1; rw [e1, List.take_left' rfl]
  conv => lhs; arg 2; rw [e3, List.take_left' rfl]
  rw [List.drop_left' rfl]
theorem last_app (A : List Int) (e : Int) : lastI (A ++ [e]) = e := by
  unfold lastI
  rw [List.getD_eq_getElem?_getD]
  simp
theorem spin_i (r : List Int) (k : Int) (h : r.length ≤ 100000) : Ev (fun q => impl_SpinRing.f q r k) (if canSpin r k = true then (spinL r k.toNat, true) else ([], false)) := by
  unfold impl_SpinRing.f canSpin
  refine Ev.bind (f := fun q t => _) (ring_i r (by omega)) ?_
  cases hc : ch r
  · exact ⟨0, fun _ _ => rfl⟩
  · have hl := (ch_len r hc).1
    simp only [if_true]
    cases hr : isR r
    · exact ⟨0, fun _ _ => rfl⟩
    · have h1 : 1 < r.length := by
        unfold isR at hr
        split at hr
        · assumption
        · cases hr
      simp only [if_true, Bool.true_and]
      rw [t_wrap ((r.length : Int) - 2) (by omega) (by omega)]
      cases hk : inB 0 ((r.length : Int) - 2) k
      · rw [show impl_within.f k 0 ((r.length : Int) - 2) = some false from by
          unfold impl_within.f
          by_cases h0 : 0 ≤ k
          · rw [if_pos h0, decide_eq_false]
            intro h2
            have := (inB_iff 0 ((r.length : Int) - 2) k).2 ⟨h0, h2⟩
            rw [hk] at this
            cases this
          · rw [if_neg h0]]
        exact ⟨0, fun _ _ => rfl⟩
      · have hk2 := (inB_iff _ _ _).1 hk
        rw [show impl_within.f k 0 ((r.length : Int) - 2) = some true from by
          unfold impl_within.f
          rw [if_pos hk2.1, decide_eq_true hk2.2]]
        simp only [Option.bind_some, if_true]
        rw [wn _ (by omega), t_wrap (k + 1) (by omega) (by omega)]
        simp only [if_pos hk2.1, if_pos (show k ≤ (r.length : Int) - 1 by omega), if_pos (show (r.length : Int) - 1 ≤ (r.length : Int) by omega), if_pos (show 0 ≤ k + 1 by omega), if_pos (show k + 1 ≤ (r.length : Int) by omega)]
        have hcc := concat_two ((r.take (((r.length : Int) - 1).toNat)).drop k.toNat) (r.take ((k + 1).toNat)) (by rw [List.length_drop, List.length_take]; omega) (by rw [List.length_take]; omega)
        have e : (r.take (((r.length : Int) - 1).toNat)).drop k.toNat ++ r.take ((k + 1).toNat) = spinL r k.toNat := by
          unfold spinL
          rw [show ((r.length : Int) - 1).toNat = r.length - 1 by omega, show (k + 1).toNat = k.toNat + 1 by omega]
        rw [e] at hcc
        exact Ev.bind (f := fun q t => some (t, true)) hcc ⟨0, fun _ _ => rfl⟩
theorem ring_parts (r : List Int) (k : Nat) (hr : isR r = true) (hk : k + 2 ≤ r.length) : ∃ (A : List Int) (v : Int) (B : List Int) (e : Int), r = A ++ v :: (B ++ [e]) ∧ A.length = k ∧ e = (A ++ [v]).getD 0 0 := by
  obtain ⟨A, v, B, e, h1, h2⟩ := parts r k hk
  refine ⟨A, v, B, e, h1, h2, ?_⟩
  unfold isR at hr
  rw [if_pos (by omega), beq_iff_eq] at hr
  have : lastI r = e := by
    rw [h1, show A ++ v :: (B ++ [e]) = (A ++ v :: B) ++ [e] by simp, last_app]
  rw [this, h1] at hr
  rw [← hr]
  cases A <;> rfl
theorem spin_s (r : List Int) (k : Int) (h : r.length ≤ 100000) : Ev (fun q => spec_SpinRing.f q r k) (if canSpin r k = true then (spinL r k.toNat, true) else ([], false)) := by
  unfold spec_SpinRing.f canSpin
  refine Ev.bind (f := fun q t => _) (ch_spec r (by omega)) ?_
  cases hc : ch r
  · exact ⟨0, fun _ _ => rfl⟩
  · have hl := (ch_len r hc).1
    simp only [if_true]
    rw [haRing_f r (by omega)]
    simp only [Option.bind_some]
    cases hr : isR r
    · exact ⟨0, fun _ _ => rfl⟩
    · have h1 : 1 < r.length := by
        unfold isR at hr
        split at hr
        · assumption
        · cases hr
      simp only [if_true, Bool.true_and]
      rw [t_wrap ((r.length : Int) - 2) (by omega) (by omega), l1In_f]
      simp only [Option.bind_some]
      cases hk : inB 0 ((r.length : Int) - 2) k
      · exact ⟨0, fun _ _ => rfl⟩
      · have hk2 := (inB_iff _ _ _).1 hk
        simp only [if_true]
        rw [if_pos hk2.1, if_pos (by omega), t_wrap (k + 1) (by omega) (by omega)]
        unfold spec_l1Own.f
        simp only [Option.bind_some, List.nil_append]
        rw [if_pos (by rw [List.length_drop]; simp; omega)]
        simp only [Option.bind_some]
        rw [if_pos (by omega), if_pos (by omega), if_pos (by rw [List.length_drop, List.length_drop, List.length_take]; omega)]
        refine ⟨0, fun q _ => ?_⟩
        have e : r.drop k.toNat ++ (r.take ((k + 1).toNat)).drop 1 = spinL r k.toNat := by
          obtain ⟨A, v, B, e, h3, h4, h5⟩ := ring_parts r k.toNat hr (by omega)
          rw [show (k + 1).toNat = k.toNat + 1 by omega, h3, ← h4, spin_eq, List.drop_left' rfl]
          have e3 : A ++ v :: (B ++ [e]) = (A ++ [v]) ++ (B ++ [e]) := by simp
          rw [e3, List.take_left' (by simp)]
          cases A with
          | nil =>
            have : e = v := h5
            subst this
            simp
          | cons a A =>
            have : e = a := h5
            subst this
            simp
        rw [e]
theorem spin_tiles (r : List Int) (k : Nat) (hr : isR r = true) (hk : k + 2 ≤ r.length) : ∃ X Y, tilesL r = X ++ Y ∧ tilesL (spinL r k) = Y ++ X := by
  obtain ⟨A, v, B, e, h3, h4, h5⟩ := ring_parts r k hr hk
  refine ⟨tilesL (A ++ [v]), tilesL (v :: (B ++ [e])), ?_, ?_⟩
  · rw [h3, tilesL_app]
  · rw [h3, ← h4, spin_eq]
    cases A with
    | nil =>
      have : e = v := h5
      subst this
      simp [tilesL]
    | cons a A =>
      have : e = a := h5
      subst this
      have := tilesL_app e (A ++ [v]) (v :: B)
      simp only [List.cons_append] at this ⊢
      exact this
theorem spin_mem (r : List Int) (k : Nat) (hk : k + 2 ≤ r.length) (x : Int) (hx : x ∈ spinL r k) : x ∈ r := by
  unfold spinL at hx
  rcases List.mem_append.1 hx with h | h
  · exact List.mem_of_mem_take (List.mem_of_mem_drop h)
  · exact List.mem_of_mem_take h
theorem spin_len (r : List Int) (k : Nat) (hk : k + 2 ≤ r.length) : (spinL r k).length = r.length := by
  unfold spinL
  rw [List.length_append, List.length_drop, List.length_take, List.length_take]
  omega
theorem spin_ch (r : List Int) (k : Nat) (h : ch r = true) (hr : isR r = true) (hk : k + 2 ≤ r.length) : ch (spinL r k) = true := by
  obtain ⟨X, Y, h1, h2⟩ := spin_tiles r k hr hk
  rw [ch_iff] at h ⊢
  refine ⟨by rw [spin_len r k hk]; omega, fun x hx => h.2.1 x (spin_mem r k hk x hx), ?_⟩
  rw [h2]
  have := h.2.2
  rw [h1] at this
  exact (List.perm_append_comm.nodup_iff).1 this
theorem spin_back (r : List Int) (k : Nat) (hr : isR r = true) (hk : k + 2 ≤ r.length) : isR (spinL r k) = true ∧ spinL (spinL r k) ((r.length - 1 - k) % (r.length - 1)) = r ∧ (spinL r k).getD 0 0 = r.getD k 0 := by
  obtain ⟨A, v, B, e, h3, h4, h5⟩ := ring_parts r k hr hk
  have hlen : r.length = A.length + B.length + 2 := by rw [h3]; simp; omega
  have hsp : spinL r k = v :: B ++ (A ++ [v]) := by rw [h3, ← h4, spin_eq]
  refine ⟨?_, ?_, ?_⟩
  · unfold isR
    rw [spin_len r k hk, if_pos (by omega), hsp, ← List.append_assoc, last_app]
    simp
  · rw [hsp]
    cases A with
    | nil =>
      have he : e = v := h5
      subst he
      have h0 : k = 0 := by simpa using h4.symm
      rw [h0, Nat.sub_zero, Nat.mod_self]
      have := spin_eq [] e B e
      simp only [List.nil_append, List.length_nil] at this
      rw [h3]
      simp only [List.nil_append, List.cons_append]
      rw [this]
      simp
    | cons a A =>
      have he : e = a := h5
      subst he
      have hm : (r.length - 1 - k) % (r.length - 1) = (v :: B).length := by
        have h6 : r.length - 1 - k = (v :: B).length := by
          rw [hlen, ← h4]
          simp
          omega
        rw [h6]
        apply Nat.mod_eq_of_lt
        rw [hlen]
        simp
      rw [hm]
      have := spin_eq (v :: B) e A v
      simp only [List.cons_append] at this ⊢
      rw [this, h3]
      simp
  · rw [hsp, h3, ← h4]
    simp [List.getD_eq_getElem?_getD]
/-! ### Chains that are joined -/
def joinL (a b : List Int) : List Int × Bool := if ch a = true then (if ch b = true then (if lastI a = b.getD 0 0 then (if ch (a ++ b.drop 1) = true then (a ++ b.drop 1, true) else ([], false)) else ([], false)) else ([], false)) else ([], false)
theorem join_i (a b : List Int) (ha : a.length ≤ 1000) (hb : b.length ≤ 1000) : Ev (fun q => impl_JoinChains.f q a b) (joinL a b) := by
  unfold impl_JoinChains.f joinL
  refine Ev.bind (f := fun q t => _) (ch_impl a (by omega)) ?_
  have no : Ev (fun q => impl_JoinChains.j0 q a b true) (([] : List Int), false) := by
    refine ⟨1, fun k hk => ?_⟩
    obtain ⟨j, rfl⟩ : ∃ j, k = j + 1 := ⟨k - 1, by omega⟩
    simp only [impl_JoinChains.j0, if_true]
  cases hca : ch a
  · exact no
  · simp only [if_true]
    refine Ev.bind (f := fun q t => _) (ch_impl b (by omega)) ?_
    cases hcb : ch b
    · exact no
    · have la := (ch_len a hca).1
      have lb := (ch_len b hcb).1
      simp only [if_true]
      rw [wn _ (by omega)]
      simp only [if_pos (show 0 ≤ (a.length : Int) - 1 by omega), if_pos (show (a.length : Int) - 1 < (a.length : Int) by omega), if_pos (show 0 < (b.length : Int) by omega)]
      have e1 : rd a ((a.length : Int) - 1) = lastI a := by
        unfold lastI
        rw [show ((a.length : Int) - 1) = ((a.length - 1 : Nat) : Int) by omega]
        rfl
      have e2 : rd b 0 = b.getD 0 0 := rfl
      rw [e1, e2]
      by_cases he : lastI a = b.getD 0 0
      · rw [if_pos he, he, bne_self_eq_false]
        refine Ev.step (f := fun q => (slices_Concat_int_int.f q [a, b.drop 1]).bind fun t468 => ((impl_IsChain.f q t468).bind fun t471 => (if t471 = true then (some (t468, true)) else (some (([] : List Int), false))))) (fun k => ?_) ?_
        · simp only [impl_JoinChains.j0, Bool.false_eq_true, if_false]
          rw [if_pos (by omega)]
        · refine Ev.bind (f := fun q t => _) (concat_two a (b.drop 1) (by omega) (by rw [List.length_drop]; omega)) ?_
          refine Ev.bind (f := fun q t => _) (ch_impl (a ++ b.drop 1) (by rw [List.length_append, List.length_drop]; omega)) ?_
          cases ch (a ++ b.drop 1) <;> exact ⟨0, fun _ _ => rfl⟩
      · rw [if_neg he, bne_iff_ne.2 he]
        exact no
theorem join_s (a b : List Int) (ha : a.length ≤ 1000) (hb : b.length ≤ 1000) : Ev (fun q => spec_JoinChains.f q a b) (joinL a b) := by
  unfold spec_JoinChains.f joinL
  refine Ev.bind (f := fun q t => _) (ch_spec a (by omega)) ?_
  have no : Ev (fun q => spec_JoinChains.j0 q a b true) (([] : List Int), false) := by
    refine ⟨1, fun k hk => ?_⟩
    obtain ⟨j, rfl⟩ : ∃ j, k = j + 1 := ⟨k - 1, by omega⟩
    simp only [spec_JoinChains.j0, if_true]
  cases hca : ch a
  · exact no
  · simp only [if_true]
    refine Ev.bind (f := fun q t => _) (ch_spec b (by omega)) ?_
    cases hcb : ch b
    · exact no
    · have la := (ch_len a hca).1
      have lb := (ch_len b hcb).1
      simp only [if_true]
      rw [wn _ (by omega)]
      simp only [if_pos (show 0 ≤ (a.length : Int) - 1 by omega), if_pos (show (a.length : Int) - 1 < (a.length : Int) by omega), if_pos (show 0 < (b.length : Int) by omega)]
      have e1 : rd a ((a.length : Int) - 1) = lastI a := by
        unfold lastI
        rw [show ((a.length : Int) - 1) = ((a.length - 1 : Nat) : Int) by omega]
        rfl
      have e2 : rd b 0 = b.getD 0 0 := rfl
      rw [e1, e2]
      by_cases he : lastI a = b.getD 0 0
      · rw [if_pos he, he, bne_self_eq_false]
        refine Ev.step (f := fun q => ((spec_haGood.f q (a ++ b.drop 1)).bind fun t471 => (if t471 = true then (some (a ++ b.drop 1, true)) else (some (([] : List Int), false))))) (fun k => ?_) ?_
        · simp only [spec_JoinChains.j0, Bool.false_eq_true, if_false, spec_l1Own.f, Option.bind_some, List.nil_append]
          rw [if_pos (by simp; omega)]
          simp only [Option.bind_some]
          rw [if_pos (by omega), if_pos (by rw [List.length_drop]; omega)]
        · refine Ev.bind (f := fun q t => _) (ch_spec (a ++ b.drop 1) (by rw [List.length_append, List.length_drop]; omega)) ?_
          cases ch (a ++ b.drop 1) <;> exact ⟨0, fun _ _ => rfl⟩
      · rw [if_neg he, bne_iff_ne.2 he]
        exact no
theorem join_true (a b : List Int) (h : (joinL a b).2 = true) : (joinL a b).1 = a ++ b.drop 1 ∧ 1 ≤ a.length ∧ 1 ≤ b.length ∧ lastI a = b.getD 0 0 := by
  unfold joinL at h ⊢
  cases hca : ch a
  · rw [hca] at h; simp at h
  · cases hcb : ch b
    · rw [hca, hcb] at h; simp at h
    · rw [hca, hcb] at h
      simp only [if_true] at h ⊢
      by_cases he : lastI a = b.getD 0 0
      · rw [if_pos he] at h ⊢
        cases hcc : ch (a ++ b.drop 1)
        · rw [hcc] at h; simp at h
        · exact ⟨rfl, (ch_len a hca).1, (ch_len b hcb).1, he⟩
      · rw [if_neg he] at h
        cases h
/-! ### A tile more -/
theorem isTile_f (t : S43) : impl_IsTile.f t.f0 t.f1 = some (good t) := by
  unfold impl_IsTile.f impl_within.f good
  by_cases h : 0 ≤ t.f0
  · rw [if_pos h, decide_eq_true h]
    by_cases h2 : t.f0 ≤ t.f1
    · simp [h2]
    · simp [h2]
  · rw [if_neg h, decide_eq_false h]
    rfl
theorem tileOf_other (x y : Int) (hx : 0 ≤ x ∧ x ≤ 9) (hy : 0 ≤ y ∧ y ≤ 9) : impl_Tile_other.f (tileOf x y).f0 (tileOf x y).f1 x = some y ∧ impl_Tile_has.f (tileOf x y).f0 (tileOf x y).f1 x = some true := by
  unfold impl_Tile_other.f impl_Tile_has.f tileOf mn mx
  simp only
  by_cases h : x < y
  · rw [if_pos h, if_neg (by omega)]
    refine ⟨?_, by simp⟩
    rw [t_wrap (x + y) (by omega) (by omega), t_wrap _ (by omega) (by omega)]
    congr 1
    omega
  · rw [if_neg h]
    by_cases h2 : y < x
    · rw [if_pos h2]
      refine ⟨?_, by simp⟩
      rw [t_wrap (y + x) (by omega) (by omega), t_wrap _ (by omega) (by omega)]
      congr 1
      omega
    · have : x = y := by omega
      subst this
      rw [if_neg h]
      refine ⟨?_, by simp⟩
      rw [t_wrap (x + x) (by omega) (by omega), t_wrap _ (by omega) (by omega)]
      congr 1
      omega


end Go.Proofs.Ytmgdndgaiicaiaa.QPure
