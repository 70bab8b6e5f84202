-- WRITTEN BY A PROGRAM OF THIS CLAIM'S AUTHOR (wprint.py)
import Derived.Test.YtfkonhamjnembaaGreatQFnPuzzlesMadex0
import Derived.Test.YtfkonhamjnembaaGreatQFnPuzzlesMadex4
import Derived.Test.YtfkonhamjnembaaGreatQFnPuzzlesMadex5
namespace Go.Proofs.YtfkonhamjnembaaGreat.QFnPuzzlesMade
open Go.RowKit Go.Proofs.YtfkonhamjnembaaGreatW.PrintWords Go.Proofs.YtfkonhamjnembaaGreatW.PrintLast Go.Proofs.YtfkonhamjnembaaGreatW.PrintMore
attribute [local go_sem] max2_int min2_int max_two min_two max_three min_three max_four min_four   -- for this text's walks alone
set_option linter.unusedVariables false
set_option linter.unusedSimpArgs false

/-! ### impl_sorted: function 34, by hand -/
def cmpT (x y : S67) : Int := if x.f0 = y.f0 then wrap64 (x.f1 - y.f1) else wrap64 (x.f0 - y.f0)
theorem cmpT_f (x y : S67) : impl_compareTiles.f x.f0 x.f1 y.f0 y.f1 = some (cmpT x y) := by
 unfold impl_compareTiles.f cmpT
 by_cases h : x.f0 = y.f0
 ·rw [if_pos h, if_pos h]
 ·rw [if_neg h, if_neg h]
def sortedT : List S67 → Bool
 | [] => true
 | x :: xs => (match xs with | [] => true | y :: _ => !decide (cmpT y x < 0)) && sortedT xs
theorem sortedT_no : ∀ (l : List S67) (j : Nat), j + 1 < l.length → cmpT (l.getD (j + 1) z67) (l.getD j z67) < 0 → sortedT l = false := by
 intro l
 induction l with
 | nil => intro j h; simp at h
 | cons x xs ih =>
  intro j hj h
  unfold sortedT
  cases j with
  | zero =>
   cases xs with
   | nil => simp at hj
   | cons y ys =>
    simp at h
    simp [h]
  | succ j =>
   have := ih j (by simpa using hj) (by simpa using h)
   rw [this, Bool.and_false]
theorem sortedT_yes : ∀ (l : List S67), (∀ j, j + 1 < l.length → ¬ cmpT (l.getD (j + 1) z67) (l.getD j z67) < 0) → sortedT l = true := by
 intro l
 induction l with
 | nil => intro _; rfl
 | cons x xs ih =>
  intro h
  unfold sortedT
  have h1 := ih (fun j hj => by have := h (j + 1) (by simpa using hj); simpa using this)
  rw [h1, Bool.and_true]
  cases xs with
  | nil => rfl
  | cons y ys =>
   have := h 0 (by simp)
   simp at this
   simp
   omega

/-! ### Sorting tiles: the shelf's contract of slices.SortFunc, told of rows of the call's own -/
section
open Go.Shelf Go.Sort Go.Lib
def smallT (x : S67) : Bool := decide (-1000000000 ≤ x.f0 ∧ x.f0 ≤ 1000000000 ∧ -1000000000 ≤ x.f1 ∧ x.f1 ≤ 1000000000)
abbrev SmT := {x : S67 // smallT x = true}
instance : Inhabited SmT := ⟨⟨⟨0, 0⟩, by decide⟩⟩
/-- Is one ahead of the other? -/
def ltT (x y : S67) : Bool := decide (x.f0 < y.f0 ∨ (x.f0 = y.f0 ∧ x.f1 < y.f1))
def encT (x : SmT) : List Value := [.int .i64 x.1.f0, .int .i64 x.1.f1]
def cfT (x y : SmT) : Int := cmpT x.1 y.1
theorem smallT_iff (x : S67) : smallT x = true ↔ -1000000000 ≤ x.f0 ∧ x.f0 ≤ 1000000000 ∧ -1000000000 ≤ x.f1 ∧ x.f1 ≤ 1000000000 := by
 unfold smallT
 simp
theorem cfT_lt (x y : SmT) : ltOf cfT x y = ltT x.1 y.1 := by
 have hx := (smallT_iff _).1 x.2
 have hy := (smallT_iff _).1 y.2
 unfold ltOf cfT cmpT ltT
 have w : ∀ n : Int, -2000000000 ≤ n → n ≤ 2000000000 → wrap64 n = n := fun n h h' => by unfold wrap64; omega
 by_cases h : x.1.f0 = y.1.f0
 ·rw [if_pos h, w _ (by omega) (by omega)]
  simp only [decide_eq_decide]
  omega
 ·rw [if_neg h, w _ (by omega) (by omega)]
  simp only [decide_eq_decide]
  omega
theorem ltT_iff (x y : S67) : ltT x y = true ↔ (x.f0 < y.f0 ∨ (x.f0 = y.f0 ∧ x.f1 < y.f1)) := by
 unfold ltT
 simp
theorem ltT_no (x y : S67) : ltT x y = false ↔ ¬ (x.f0 < y.f0 ∨ (x.f0 = y.f0 ∧ x.f1 < y.f1)) := by
 unfold ltT
 exact decide_eq_false_iff_not
theorem swoT : SWO (ltOf cfT) where
 irrefl x := by
  rw [cfT_lt, ltT_no]
  omega
 trans x y z h k := by
  rw [cfT_lt, ltT_iff] at *
  omega
 ntrans x y z h k := by
  rw [cfT_lt, ltT_no] at *
  omega
theorem totT (x y : SmT) (h : ltOf cfT x y = false) (k : ltOf cfT y x = false) : x = y := by
 rw [cfT_lt, ltT_no] at h k
 have h0 : x.1.f0 = y.1.f0 := by omega
 have h1 : x.1.f1 = y.1.f1 := by omega
 obtain ⟨⟨a, b⟩, _⟩ := x
 obtain ⟨⟨c, d⟩, _⟩ := y
 simp only at h0 h1
 subst h0 h1
 rfl
/-- The small tiles of a list of small tiles. -/
def smalls (l : List S67) (h : l.all smallT = true) : Array SmT := (l.pmap (fun x hx => (⟨x, hx⟩ : SmT)) (fun x hx => List.all_eq_true.1 h x hx)).toArray
theorem smalls_val (l : List S67) (h : l.all smallT = true) : (smalls l h).toList.map (·.1) = l := by
 unfold smalls
 rw [List.map_pmap]
 simp
theorem smalls_size (l : List S67) (h : l.all smallT = true) : (smalls l h).size = l.length := by
 unfold smalls
 simp
/-- A list of tiles in order. -/
def msort (l : List S67) : List S67 := l.mergeSort fun x y => !ltT y x
theorem smalls_sort (l : List S67) (h : l.all smallT = true) : (((smalls l h).toList.mergeSort fun x y => !(ltOf cfT) y x).map (·.1)) = msort l := by
 rw [List.map_mergeSort (s := fun x y => !ltT y x) (fun a _ b _ => by rw [cfT_lt]), smalls_val]
 rfl
/-- What a block holds once the sort has written its row. -/
theorem row_put (cur : Array Value) (d : Array SmT) (n : Nat) (hs : cur.size = n * 2) (hd : d.size ≤ n) (j : Nat) (hj : j < d.size) :
  (((putCells id 0 (flatK encT 2 d) cur).toList.drop (j * 2)).take 2) = encT d[j]! := by
 have h0 : ∀ t, t < d.size * 2 → (putCells id 0 (flatK encT 2 d) cur).toList[t]? = some ((encT d[t / 2]!)[t % 2]!) := by
  intro t ht
  rw [Array.getElem?_toList]
  unfold putCells
  rw [Array.getElem?_mapIdx, Array.getElem?_eq_getElem (by omega)]
  simp only [Option.map_some]
  rw [if_pos ⟨by omega, by rw [size_flatK]; omega⟩, Nat.sub_zero, get_flatK _ _ _ _ ht]
  rfl
 have e0 := h0 (j * 2) (by omega)
 have e1 := h0 (j * 2 + 1) (by omega)
 rw [show j * 2 / 2 = j from by omega, show j * 2 % 2 = 0 from by omega] at e0
 rw [show (j * 2 + 1) / 2 = j from by omega, show (j * 2 + 1) % 2 = 1 from by omega] at e1
 apply List.ext_getElem?
 intro i
 rw [List.getElem?_take]
 by_cases hi : i < 2
 ·rw [if_pos hi, List.getElem?_drop]
  rcases (show i = 0 ∨ i = 1 from by omega) with rfl | rfl
  ·rw [Nat.add_zero, e0]
   rfl
  ·rw [e1]
   rfl
 ·rw [if_neg hi, List.getElem?_eq_none (by simp [encT]; omega)]
/-- A row of the call's own, taken apart. -/
theorem row_open (w1 : World) (base g cap : Nat) (ok : Nat → Prop) (l : List S67) (hR : Kd.R k67 67 w1 base ok (.slice (some ⟨g, 0, none⟩) l.length cap) l) :
  ∃ cur, (∀ k, some g = some k → ok k) ∧ base ≤ g ∧ w1.heap[g]? = some (.cells cur 67 (0, 0)) ∧ l.length ≤ cap ∧ cap ≤ maxLen ∧ cur.size = cap * 2 ∧ ∀ j x, l[j]? = some x → ((cur.toList.drop (j * 2)).take 2) = [.int .i64 x.f0, .int .i64 x.f1] := by
 obtain ⟨hok, inner, ⟨hlen, hown⟩, hrep⟩ := hR
 rcases hown with ⟨hv, _⟩ | ⟨g', cap', cur, hv, hb, hh, hn, hm, hs, ht⟩
 ·cases hv
 ·injection hv with h1 h2 h3
  injection h1 with h1
  injection h1 with h1
  subst h1
  subst h3
  refine ⟨cur, hok, hb, hh, hn, hm, hs, fun j x hj => ?_⟩
  have hjl : j < l.length := (List.getElem?_eq_some_iff.1 hj).1
  obtain ⟨c0, c1, hc, e0, e1⟩ := hrep.2 j x hj
  have e0' : c0 = [.int .i64 x.f0] := e0
  have e1' : c1 = [.int .i64 x.f1] := e1
  have hc' : (inner.drop (j * 2)).take 2 = c0 ++ c1 := hc
  rw [e0', e1', ← ht] at hc'
  have hk : l.length * (k67 : Kd S67).sz = l.length * 2 := rfl
  rw [hk, List.drop_take, List.take_take, Nat.min_eq_left (by omega)] at hc'
  exact hc'
/-- The sort's row: held ahead, and the call's own still behind it. -/
theorem sort_holds (w1 : World) (base g cap : Nat) (ok : Nat → Prop) (l : List S67) (hR : Kd.R k67 67 w1 base ok (.slice (some ⟨g, 0, none⟩) l.length cap) l) (d : Array SmT) (hd : d.toList.map (·.1) = l) :
  HoldsK encT 2 w1 g 0 d ∧ g < w1.heap.size := by
 obtain ⟨cur, _, _, hh, hn, _, hs, hc⟩ := row_open w1 base g cap ok l hR
 have hds : d.size = l.length := by rw [← hd]; simp
 refine ⟨fun t ht => ?_, ?_⟩
 ·rw [size_flatK] at ht
  rw [get_flatK _ _ _ _ ht]
  have hj : t / 2 < d.size := by omega
  have hx : l[t / 2]? = some (d[t / 2]!).1 := by
   rw [← hd, List.getElem?_map, Array.getElem?_toList, Array.getElem?_eq_getElem hj]
   simp only [Option.map_some]
   rw [getElem!_pos d (t / 2) hj]
  have h2 := hc (t / 2) _ hx
  have h3 : cur.toList[t]? = (encT d[t / 2]!)[t % 2]? := by
   have := congrArg (fun z => z[t % 2]?) h2
   simp only [List.getElem?_take, List.getElem?_drop, if_pos (show t % 2 < 2 from by omega), show t / 2 * 2 + t % 2 = t from by omega] at this
   exact this
  have h4 : (encT d[t / 2]!)[t % 2]? = some ((encT d[t / 2]!)[t % 2]!) := by
   rcases (show t % 2 = 0 ∨ t % 2 = 1 from by omega) with e | e <;> rw [e] <;> rfl
  constructor
  ·show w1.cell? ⟨g, 0 + t, none⟩ = some (id ((encT d[t / 2]!)[t % 2]!))
   rw [Nat.zero_add]
   unfold World.cell?
   rw [hh]
   show cur[t]? = _
   rw [← Array.getElem?_toList, h3, h4]
   rfl
  ·show w1.frozen? ⟨g, 0 + t, none⟩ = false
   unfold World.frozen?
   rw [hh]
   simp
 ·exact (Array.getElem?_eq_some_iff.1 hh).1
theorem sort_row (w1 : World) (base g cap : Nat) (ok : Nat → Prop) (l : List S67) (hR : Kd.R k67 67 w1 base ok (.slice (some ⟨g, 0, none⟩) l.length cap) l) (d : Array SmT) (hd : d.size = l.length) (n : Nat) (os : Array Obj) :
  Kd.R k67 67 (sortWorldK encT 2 w1 g 0 n d os) base ok (.slice (some ⟨g, 0, none⟩) l.length cap) (d.toList.map (·.1)) ∧ Go.RowKit.Below base w1 (sortWorldK encT 2 w1 g 0 n d os) := by
 obtain ⟨cur, hok, hb, hh, hn, hm, hs, hc⟩ := row_open w1 base g cap ok l hR
 have hg : g < w1.heap.size := (Array.getElem?_eq_some_iff.1 hh).1
 have hhp : (sortWorldK encT 2 w1 g 0 n d os).heap = w1.heap.modify g (onCells (putCells id 0 (flatK encT 2 d))) ++ os := rfl
 have hblk : (sortWorldK encT 2 w1 g 0 n d os).heap[g]? = some (.cells (putCells id 0 (flatK encT 2 d) cur) 67 (0, 0)) := by
  rw [hhp, Array.getElem?_append_left (by simpa using hg), Array.getElem?_modify, if_pos rfl, hh]
  rfl
 have hsz : (putCells id 0 (flatK encT 2 d) cur).size = cap * 2 := by
  unfold putCells
  rw [Array.size_mapIdx, hs]
 have hl2 : (d.toList.map (·.1)).length = l.length := by simp [hd]
 refine ⟨⟨hok, (putCells id 0 (flatK encT 2 d) cur).toList.take (l.length * 2), ⟨?_, .inr ⟨g, cap, _, by rw [hl2], hb, hblk, by rw [hl2]; exact hn, hm, hsz, by rw [hl2]; rfl⟩⟩, ?_, ?_⟩, rfl, rfl, rfl, ?_, ?_⟩
 ·rw [hl2]
  show (List.take (l.length * 2) _).length = l.length * 2
  have hz : (putCells id 0 (flatK encT 2 d) cur).toList.length = cap * 2 := hsz
  rw [List.length_take, hz]
  omega
 ·rw [hl2]
  show (List.take (l.length * 2) _).length = l.length * 2
  have hz : (putCells id 0 (flatK encT 2 d) cur).toList.length = cap * 2 := hsz
  rw [List.length_take, hz]
  omega
 ·intro j x hj
  have hjl : j < d.size := by
   have := (List.getElem?_eq_some_iff.1 hj).1
   simpa using this
  rw [List.getElem?_map, Array.getElem?_toList, Array.getElem?_eq_getElem hjl] at hj
  simp only [Option.map_some, Option.some.injEq] at hj
  have h2 := row_put cur d cap hs (by omega) j hjl
  show ∃ c0 c1, ((List.take (l.length * 2) _).drop (j * 2)).take 2 = c0 ++ c1 ∧ c0 = [Value.int .i64 x.f0] ∧ c1 = [Value.int .i64 x.f1]
  rw [List.drop_take, List.take_take, Nat.min_eq_left (by omega), h2]
  refine ⟨_, _, ?_, rfl, rfl⟩
  rw [getElem!_pos d j hjl, ← hj]
  rfl
 ·rw [hhp]
  simp
 ·intro k hk
  rw [hhp, Array.getElem?_append_left (by simp; omega), Array.getElem?_modify, if_neg (by omega)]
set_option maxHeartbeats 1000000 in
/-- compareTiles, in whatever world: it may lay blocks. -/
theorem cmpT_lays (x y : S67) (W : World) : Calls Tryz.prog 47 #[.agg #[.int .i64 x.f0, .int .i64 x.f1], .agg #[.int .i64 y.f0, .int .i64 y.f1]] W fun e w' => e = .returned (.int .i64 (cmpT x y)) ∧ ∃ q os', w' = grow (W.drewN q) os' := by
 unfold cmpT
 by_cases h : x.f0 = y.f0
 ·rw [if_pos h]
  go_enter Tryz.func47, Tryz.ntmps47
  go_wp2
  go_ret
  exact ⟨rfl, 0, _, by rw [alloc_eq_grow, alloc_eq_grow, grow_grow]; rfl⟩
 ·rw [if_neg h]
  go_enter Tryz.func47, Tryz.ntmps47
  go_wp2
  go_ret
  exact ⟨rfl, 0, _, by rw [alloc_eq_grow, alloc_eq_grow, grow_grow]; rfl⟩
theorem msort_nil : msort [] = [] := by
 unfold msort
 simp
/-- slices.SortFunc at a row of the call's own: it stays the call's own, and is in order. -/
theorem sortT (w : World) (base : Nat) (ok : Nat → Prop) (v : Value) (l : List S67) (hs : l.all smallT = true) (hl : l.length < 4611686018427387904) (hR : Kd.R k67 67 w base ok v l) :
  Calls Tryz.prog 78 #[v, .func (.func 47) #[] #[]] w fun e w' => e = .returned (.tuple #[]) ∧ Kd.R k67 67 w' base ok v (msort l) ∧ Go.RowKit.Below base w w' := by
 have hv : ∃ p cap, v = .slice p l.length cap ∧ (0 < l.length → ∃ g, p = some ⟨g, 0, none⟩) := by
  obtain ⟨_, inner, ⟨_, hown⟩, _⟩ := hR
  rcases hown with ⟨hv, hn⟩ | ⟨g, cap, cur, hv, _⟩
  ·exact ⟨none, 0, by rw [hv, hn], fun h => by omega⟩
  ·exact ⟨_, cap, hv, fun _ => ⟨g, rfl⟩⟩
 obtain ⟨p, cap, rfl, hp⟩ := hv
 by_cases h0 : l = []
 ·subst h0
  refine (Tryz.slices_SortFunc_none (α := Nat) p cap (.func (.func 47) #[] #[]) w).mono ?_
  rintro e w' ⟨he, rfl⟩
  exact ⟨he, by rw [msort_nil]; exact hR, Go.RowKit.Below.refl _ _⟩
 ·have hpos : 0 < l.length := List.length_pos_iff.2 h0
  obtain ⟨g, rfl⟩ := hp hpos
  obtain ⟨hH, hg⟩ := sort_holds w base g cap ok l hR (smalls l hs) (smalls_val l hs)
  have hsz := smalls_size l hs
  have hcmp : CmpLays Tryz.prog 47 #[] encT 2 cfT g 0 (smalls l hs).size w := fun _ _ _ _ x y => cmpT_lays x.1 y.1 _
  have hcon := Tryz.slices_SortFunc_total 2 Tryz.isAgg67 Tryz.sizeOf67 encT (fun _ => rfl) (fun x u hu => by simp [encT] at hu; rcases hu with rfl | rfl <;> rfl) cfT swoT 47 #[] g 0 cap (smalls l hs) w (enters_of Tryz.func47 (by kernel_rfl) rfl) hcmp hH hg (by omega) totT
  rw [hsz] at hcon
  refine hcon.mono ?_
  rintro e w' ⟨he, n, os, rfl⟩
  have hq : ((smalls l hs).toList.mergeSort fun x y => !(ltOf cfT) y x).toArray.size = l.length := by simp [hsz]
  obtain ⟨r1, r2⟩ := sort_row w base g cap ok l hR _ hq n os
  rw [List.toList_toArray, smalls_sort] at r1
  exact ⟨he, r1, r2⟩
end
/-- A list of tiles, sorted, in memory of its own. -/
def impl_sorted.f (l0 : List S67) : Option (List S67) := (slices_Clone_impl_Tile_impl_Tile.f l0).bind fun _ => if l0.all smallT = true then some (msort l0) else none
set_option maxHeartbeats 1000000 in
theorem impl_sorted.calls (A0 : Option Addr) (c0 : Nat) (l0 : List S67) (r : List S67) (w : World) (hr0 : Kd.C k67 w A0 l0.length l0) (hc0 : l0.length ≤ c0) (h : impl_sorted.f l0 = some r) :
  Calls Tryz.prog 34 #[.slice A0 l0.length c0] w fun e w' => ∃ v0_ : Value, e = .returned (v0_) ∧ Kd.R k67 67 w' w.heap.size (fun _ => True) v0_ r ∧ Below w.heap.size w w' := by
 unfold impl_sorted.f at h
 obtain ⟨t, ht, h⟩ := Option.bind_eq_some_iff.1 h
 have hl : l0.length < 8796093022208 := by
  unfold slices_Clone_impl_Tile_impl_Tile.f at ht
  by_cases hl : l0.length < 8796093022208
  ·exact hl
  ·rw [if_neg hl] at ht
   cases ht
 obtain rfl : l0 = t := by
  unfold slices_Clone_impl_Tile_impl_Tile.f at ht
  rw [if_pos hl] at ht
  exact Option.some.inj ht
 by_cases hs : l0.all smallT = true
 ·rw [if_pos hs] at h
  obtain rfl := Option.some.inj h
  have hcl := slices_Clone_impl_Tile_impl_Tile.calls A0 c0 l0 l0 w hr0 hc0 ht
  have hso := fun (W : World) (v : Value) (hR : Kd.R k67 67 W w.heap.size (fun _ => True) v l0) => sortT W w.heap.size (fun _ => True) v l0 hs (by omega) hR
  have HR := Lib.hid hr0
  clear hr0 h ht
  go_enter Tryz.func34, Tryz.ntmps34
  go_wp2_with (first
   | (go_at_call 54; refine hcl.mono ?_; rintro e w1 ⟨v1, rfl, ho1, hb1⟩)
   | (go_at_call 78; refine (hso _ _ ho1).mono ?_; rintro e w2 ⟨rfl, ho2, hb2⟩))
  go_ret
  exact ⟨_, rfl, ho2, hb1.trans hb2⟩
 ·rw [if_neg hs] at h
  cases h


/-! ### slices_Clone_int_int: function 36, by hand -/
theorem slices_Clone_int_int.info : (Tryz.prog.info? 3).map (fun i => (i.zero, i.size, i.bytes)) = some (some (.int .i64 0), (Kd.int .i64).sz, 8) := by kernel_rfl
/-- A copy in memory of its own (nil of nil). -/
def slices_Clone_int_int.f (l0 : List (Int)) : Option (List (Int)) := if l0.length < 17592186044416 then some l0 else none
set_option maxHeartbeats 1000000 in
theorem slices_Clone_int_int.calls (A0 : Option Addr) (c0 : Nat) (l0 : List (Int)) (r : List (Int)) (w : World) (hr0 : Kd.C (Kd.int .i64) w A0 l0.length l0) (_hc0 : l0.length ≤ c0) (h : slices_Clone_int_int.f l0 = some r) :
  Calls Tryz.prog 36 #[.slice A0 l0.length c0] w fun e w' => ∃ v0_ : Value, e = .returned (v0_) ∧ Kd.R (Kd.int .i64) 3 w' w.heap.size (fun _ => True) v0_ r ∧ Below w.heap.size w w' := by
 unfold slices_Clone_int_int.f at h
 by_cases hl : l0.length < 17592186044416
 ·rw [if_pos hl] at h
  obtain rfl := Option.some.inj h
  clear h
  cases A0 with
  | none =>
   have hz : l0 = [] := by
    cases l0 with
    | nil => rfl
    | cons x xs =>
     obtain ⟨ad, e, _⟩ := hr0.2.2 (by simp)
     cases e
   subst hz
   clear hr0 hl
   have hq := fun (W : World) => Lib.run_eql_slice_nil (P := Tryz.prog) W 24 3 none 0 c0 0 0 Tryz.underlying24
   go_enter Tryz.func36, Tryz.ntmps36
   go_wp2
   go_ret
   exact ⟨_, rfl, Kd.R_nil _ _ _ _ _, Below.refl _ _⟩
  | some ad =>
   have hq := fun (W : World) => Lib.run_eql_slice_nil (P := Tryz.prog) W 24 3 (some ad) l0.length c0 0 0 Tryz.underlying24
   have HR := Lib.hid hr0
   clear hr0
   go_enter Tryz.func36, Tryz.ntmps36
   go_wp2_with (first
    | ((with_reducible refine gate_dst (N := 5) rfl ?_); refine Kd.R_lit (Kd.int .i64) _ 3 ?hg (N := 5) ?hd (xs := ([] : List (Int))) (inner := []) (ok := fun _ => True) (okp := fun _ => True) ?hr ?hp (fun _ hk => hk) trivial (Below.refl _ _) (Nat.le_refl _) (by simp) ?_; (case hd => rfl); (case hg => rfl); (case hr => first | (go_simp; done) | (go_simp; rfl)); (case hp => exact (Reps.none _ _)); intro v1 w1 ho1 hb1 hg_ hnew_; clear hg_ hnew_)
    | ((with_reducible refine gate_builtin (b := .append) (xs := #[.tmp 5, .tmp 6]) rfl ?_); at_builtin; refine Kd.R_append_rows (Kd.int .i64) (w0 := w) w.heap.size rfl (.tmp 5) (.tmp 6) 24 3 (.int .i64 0) 8 rfl Tryz.underlying24 slices_Clone_int_int.info rfl (by decide) (by omega) v1 [] l0 _ _ _ (fun _ => True) (fun _ => False) rfl rfl ?aO ?aR (fun _ _ h => h) (fun _ h => h.elim) ?aF ?aB ?aS ?aL ?_; (case aR => exact Kd.C_below HR.out hb1); (case aB => exact hb1); (case aF => exact (fun _ _ => trivial)); (case aO => exact ho1); (case aS => exact hb1.size); (case aL => simp; omega); intro v2 w2 ho2 hb2 hg hat))
   go_ret
   exact ⟨_, rfl, ho2, hb2⟩
 ·rw [if_neg hl] at h
  exact absurd h (by simp)


/-! ### impl_MakePuzzle: function 6 -/
mutual
def impl_MakePuzzle.j0 : Nat → List Int → Int → Bool → Option ((List (S67)) × List Int × Bool)
 | 0, _, _, _ => none
 | k + 1, x0, x1, x22 => if x22 = true then (some (([] : List (S67)), ([] : List Int), false)) else ((impl_tilesOf.f k x0).bind fun t237 => ((impl_sorted.f t237).bind fun t240 => ((slices_Clone_int_int.f x0).bind fun t243 => (impl_MakePuzzle.l0 k x1 (x0.length : Int) 0 t240 t243))))
def impl_MakePuzzle.l0 : Nat → Int → Int → Int → List (S67) → List Int → Option ((List (S67)) × List Int × Bool)
 | 0, _, _, _, _, _ => none
 | k + 1, x1, x31, x32, x247000, x247001 => if x32 < x31 then (if x1 = 0 then (none) else (if (Int.tmod x32 x1) = 0 then (impl_MakePuzzle.l0 k x1 x31 (wrap64 (x32 + 1)) x247000 x247001) else (if 0 ≤ x32 then (if x32 < (x247001.length : Int) then (impl_MakePuzzle.l0 k x1 x31 (wrap64 (x32 + 1)) x247000 (x247001.set (x32 : Int).toNat (-1))) else (none)) else (none)))) else (some (x247000, x247001, true))
end
def impl_MakePuzzle.f (k : Nat) (l0 : List Int) (a1 : Int) : Option ((List (S67)) × List Int × Bool) := (impl_IsChain.f k l0).bind fun t234 => (if t234 = true then ((impl_within.f (wrap64 ((l0.length : Int) - 1)) 1 9).bind fun t235 => (if t235 = true then ((impl_within.f a1 1 10).bind fun t236 => (impl_MakePuzzle.j0 k l0 a1 (!t236))) else (impl_MakePuzzle.j0 k l0 a1 true))) else (impl_MakePuzzle.j0 k l0 a1 true))
/-! ### spec_tiSet: function 103 -/
mutual
def spec_tiSet.l0 : Nat → Int → List (S67) → Int → Option ((List (S67)))
 | 0, _, _, _ => none
 | k + 1, x0, x3, x4 => if x4 ≤ x0 then (spec_tiSet.l1 k x0 x3 x4 x4) else (some x3)
def spec_tiSet.l1 : Nat → Int → List (S67) → Int → Int → Option ((List (S67)))
 | 0, _, _, _, _ => none
 | k + 1, x0, x3, x4, x5 => if x5 ≤ x0 then (if x3.length < 8796093022208 then (spec_tiSet.l1 k x0 (x3 ++ [(⟨x4, x5⟩ : S67)]) x4 (wrap64 (x5 + 1))) else (none)) else (spec_tiSet.l0 k x0 x3 (wrap64 (x4 + 1)))
end
def spec_tiSet.f (k : Nat) (a0 : Int) : Option ((List (S67))) := spec_tiSet.l0 k a0 ([] : List (S67)) 0
theorem spec_tiSet.mono_l : ∀ k, (∀ y0 y1 y2, LeO (spec_tiSet.l0 k y0 y1 y2) (spec_tiSet.l0 (k + 1) y0 y1 y2)) ∧ (∀ y0 y1 y2 y3, LeO (spec_tiSet.l1 k y0 y1 y2 y3) (spec_tiSet.l1 (k + 1) y0 y1 y2 y3))
 | 0 => ⟨fun _ _ _ r h => by simp [spec_tiSet.l0] at h, fun _ _ _ _ r h => by simp [spec_tiSet.l1] at h⟩
 | k + 1 => by
  obtain ⟨ih0, ih1⟩ := spec_tiSet.mono_l k
  refine ⟨?_, ?_⟩
  ·intro y0 y1 y2
   unfold spec_tiSet.l0
   repeat' first
   | (with_reducible exact ih0 _ _ _)
   | (with_reducible exact ih1 _ _ _ _)
   | (with_reducible exact LeO.refl _)
   | (with_reducible exact LeO.none _)
   | (with_reducible refine LeO.ite ?_ ?_)
   | (with_reducible refine LeO.bind ?_ (fun _ => ?_))
   | exact ih0 _ _ _
   | exact ih1 _ _ _ _
   | exact LeO.none _
   | refine LeO.ite ?_ ?_
   | refine LeO.bind ?_ (fun _ => ?_)
  ·intro y0 y1 y2 y3
   unfold spec_tiSet.l1
   repeat' first
   | (with_reducible exact ih0 _ _ _)
   | (with_reducible exact ih1 _ _ _ _)
   | (with_reducible exact LeO.refl _)
   | (with_reducible exact LeO.none _)
   | (with_reducible refine LeO.ite ?_ ?_)
   | (with_reducible refine LeO.bind ?_ (fun _ => ?_))
   | exact ih0 _ _ _
   | exact ih1 _ _ _ _
   | exact LeO.none _
   | refine LeO.ite ?_ ?_
   | refine LeO.bind ?_ (fun _ => ?_)
theorem spec_tiSet.mono : ∀ a0 k, LeO (spec_tiSet.f k a0) (spec_tiSet.f (k + 1) a0) := by
 intro a0 k
 obtain ⟨ih0, ih1⟩ := spec_tiSet.mono_l k
 unfold spec_tiSet.f
 repeat' first
   | (with_reducible exact ih0 _ _ _)
   | (with_reducible exact ih1 _ _ _ _)
   | (with_reducible exact LeO.refl _)
   | (with_reducible exact LeO.none _)
   | (with_reducible refine LeO.ite ?_ ?_)
   | (with_reducible refine LeO.bind ?_ (fun _ => ?_))
   | exact ih0 _ _ _
   | exact ih1 _ _ _ _
   | exact LeO.none _
   | refine LeO.ite ?_ ?_
   | refine LeO.bind ?_ (fun _ => ?_)
set_option maxHeartbeats 8000000 in
set_option maxRecDepth 100000 in
theorem spec_tiSet.calls (k : Nat) (a0 : Int) (r : List (S67)) (w : World) (h : spec_tiSet.f k a0 = some r) :
  Calls Tryz.prog 103 #[.int .i64 a0] w fun e w' => ∃ v0_ : Value, e = .returned (v0_) ∧ Kd.R k67 67 w' w.heap.size (fun _ => True) v0_ r ∧ Below w.heap.size w w' := by
 have hu67 := Tryz.underlying67
 have HB := Aside0.mk (Below.refl w.heap.size w)
 have H : (spec_tiSet.l0 k a0 ([] : List (S67)) 0) = some r := h
 clear h
 have H' := Aside0.mk H
 clear H
 go_enter Tryz.func103, Tryz.ntmps103
 go_wp2
 go_loopg [3, 4] k (fun kq v3 v4 w' => ∃ (x3_1 : List (S67)) (x4_1 : Int), v4 = .int .i64 x4_1 ∧ Aside0 (spec_tiSet.l0 kq a0 x3_1 x4_1 = some r) ∧ Aside0 (kq ≤ k) ∧ Aside0 (Kd.R k67 67 w' w.heap.size (fun _ => True) v3 x3_1) ∧ Aside0 (Below w.heap.size w w'))
 case atStart => exact ⟨(([] : List (S67))), (0), (by first | rfl | (simp; done) | (simp [*]; done)), H', ⟨Nat.le_refl _⟩, ⟨by first | exact Kd.R_nil _ _ _ _ _ | exact Kd.N_nil _ _ _ _ _ | exact Kd.V_nil _ _ _ _ _ | exact Kd.Q_nil _ _ _ _ _ | exact Kd.S_nil _ _ _ _ _⟩, ⟨by repeat (first | (with_reducible first | exact HB.out | apply below_alloc | apply pw_below_drewN | apply below_drew1) | exact HB.out)⟩⟩
 case round =>
  clear H'
  try clear c1
  obtain ⟨x3_1, x4_1, rfl, HA, HK1, HO_3, HB⟩ := hrel
  cases gk with
  | zero => exact absurd HA.out (by simp [spec_tiSet.l0])
  | succ k1 =>
   have H := HA.out
   clear HA
   simp only [spec_tiSet.l0] at H
   by_cases c2 : x4_1 ≤ a0
   ·rw [if_pos c2] at H
    have c2b0 : decide (x4_1 ≤ a0) = true := decide_eq_true c2
    clear c2
    have H' := Aside0.mk H
    clear H
    go_wp2
    go_loopg [3, 5] k1 (fun kq v3 v5 w' => ∃ (x3_2 : List (S67)) (x5_2 : Int), v5 = .int .i64 x5_2 ∧ Aside0 (spec_tiSet.l1 kq a0 x3_2 x4_1 x5_2 = some r) ∧ Aside0 (kq ≤ k1) ∧ Aside0 (Kd.R k67 67 w' w.heap.size (fun _ => True) v3 x3_2) ∧ Aside0 (Below w.heap.size w w'))
    case atStart => exact ⟨(x3_1), (x4_1), (by first | rfl | (simp; done) | (simp [*]; done)), H', ⟨Nat.le_refl _⟩, ⟨by (with_reducible repeat (first | apply Kd.R_alloc | apply Kd.R_drewN | apply Kd.R_drew)); exact HO_3.out⟩, ⟨by repeat (first | (with_reducible first | exact HB.out | apply below_alloc | apply pw_below_drewN | apply below_drew1) | exact HB.out)⟩⟩
    case round =>
     clear H'
     try clear c1
     try clear c2
     try clear c2b0
     try clear p2
     obtain ⟨x3_2, x5_2, rfl, HA, HK2, HO_3, HB⟩ := hrel
     cases gk with
     | zero => exact absurd HA.out (by simp [spec_tiSet.l1])
     | succ k2 =>
      have H := HA.out
      clear HA
      simp only [spec_tiSet.l1] at H
      by_cases c3 : x5_2 ≤ a0
      ·rw [if_pos c3] at H
       have c3b0 : decide (x5_2 ≤ a0) = true := decide_eq_true c3
       clear c3
       by_cases c4 : x3_2.length < 8796093022208
       ·rw [if_pos c4] at H
        have LMc4 := Aside0.mk c4
        clear c4
        obtain ⟨y248, hy248⟩ : ∃ y_ : List (S67), y_ = (x3_2 ++ [(⟨x4_1, x5_2⟩ : S67)]) := ⟨_, rfl⟩
        replace H : (spec_tiSet.l1 k2 a0 y248 x4_1 (wrap64 (x5_2 + 1))) = some r := by first | (rw [hy248]; with_reducible exact H) | (have H2_ := (Option.bind_some _ _).symm.trans H; rw [hy248]; with_reducible exact H2_) | (have H2_ := (Option.bind_some _ _).symm.trans H; with_reducible exact H2_) | with_reducible exact H | (rw [hy248]; exact H) | exact H
        have Ny248 := Aside0.mk hy248
        clear hy248
        have H' := Aside0.mk H
        clear H
        go_wp2_with (first | ((with_reducible refine gate_builtin (b := .append) (xs := #[.tmp 17, .tmp 21]) rfl ?_); at_builtin; refine Kd.R_append k67 (w0 := w) w.heap.size rfl (.tmp 17) (.tmp 21) 27 67 (.agg #[(.int .i64 0), (.int .i64 0)]) 16 rfl Tryz.underlying27 info67 rfl (by decide) (by omega) u3 x3_2 (⟨x4_1, x5_2⟩ : S67) [.int .i64 x4_1, .int .i64 x5_2] (fun _ => True) (fun _ => False) rfl rfl ?aP (fun _ hk => hk.elim) ?aF ?aO ?aB ?aS ?aL ?_; (case aP => exact k67_mkM _ _ _ (⟨x4_1, x5_2⟩ : S67)); (case aB => exact (by repeat (first | (with_reducible first | exact HB.out | apply below_alloc | apply pw_below_drewN | apply below_drew1) | exact HB.out))); (case aF => exact (fun _ _ => trivial)); (case aO => exact (by (with_reducible repeat (first | apply Kd.R_alloc | apply Kd.R_drewN | apply Kd.R_drew)); exact HO_3.out)); (case aS => exact (below_size (by repeat (first | (with_reducible first | exact HB.out | apply below_alloc | apply pw_below_drewN | apply below_drew1) | exact HB.out)))); (case aL => have := LMc4.out; omega); intro v249 w5 ho hb hg hat; rw [← Ny248.out] at ho; replace HB := Aside0.mk (hb); have HO250 := Aside0.mk (ho); clear HO_3; clear ho hb hg hat))
        go_roundg k2
        case measure => have := HK1.out; have := HK2.out; omega
        case rel => exact ⟨(y248), (wrap64 (x5_2 + 1)), (by first | rfl | (simp; done) | (simp [*]; done)), H', ⟨by have := HK1.out; have := HK2.out; omega⟩, ⟨by (with_reducible repeat (first | apply Kd.R_alloc | apply Kd.R_drewN | apply Kd.R_drew)); exact HO250.out⟩, ⟨by repeat (first | (with_reducible first | exact HB.out | apply below_alloc | apply pw_below_drewN | apply below_drew1) | exact HB.out)⟩⟩
       ·rw [if_neg c4] at H
        exact absurd H (by simp)
      ·rw [if_neg c3] at H
       have c3b0 : decide (x5_2 ≤ a0) = false := decide_eq_false c3
       clear c3
       have H' := Aside0.mk H
       clear H
       go_wp2
       go_roundg k2
       case measure => have := HK1.out; have := HK2.out; omega
       case rel => exact ⟨(x3_2), (wrap64 (x4_1 + 1)), (by first | rfl | (simp; done) | (simp [*]; done)), H', ⟨by have := HK1.out; have := HK2.out; omega⟩, ⟨by (with_reducible repeat (first | apply Kd.R_alloc | apply Kd.R_drewN | apply Kd.R_drew)); exact HO_3.out⟩, ⟨by repeat (first | (with_reducible first | exact HB.out | apply below_alloc | apply pw_below_drewN | apply below_drew1) | exact HB.out)⟩⟩
   ·rw [if_neg c2] at H
    have c2b0 : decide (x4_1 ≤ a0) = false := decide_eq_false c2
    clear c2
    obtain rfl := Option.some.inj H
    go_wp2
    go_ret
    exact ⟨_, by first | rfl | (simp [errW_none, errW_some] <;> rfl) | (simp [*, errW_none, errW_some] <;> rfl), by (with_reducible repeat (first | apply Kd.R_alloc | apply Kd.R_drewN | apply Kd.R_drew)); exact HO_3.out, by repeat (first | (with_reducible first | exact HB.out | apply below_alloc | apply pw_below_drewN | apply below_drew1) | exact HB.out)⟩

end Go.Proofs.YtfkonhamjnembaaGreat.QFnPuzzlesMade
