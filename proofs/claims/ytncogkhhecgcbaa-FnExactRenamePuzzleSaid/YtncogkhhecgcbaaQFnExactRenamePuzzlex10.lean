-- WRITTEN BY A PROGRAM OF THIS CLAIM'S AUTHOR (wprint.py)
import Derived.Test.YtncogkhhecgcbaaQFnExactRenamePuzzlex0
import Derived.Test.YtncogkhhecgcbaaQFnExactRenamePuzzlex9
namespace Go.Proofs.Ytncogkhhecgcbaa.QFnExactRenamePuzzle
open Go.RowKit Go.Proofs.YtncogkhhecgcbaaW.PrintWords Go.Proofs.YtncogkhhecgcbaaW.PrintLast Go.Proofs.YtncogkhhecgcbaaW.PrintMore
attribute [local go_sem] max2_int min2_int max_two min_two max_three min_three max_four min_four   -- for this text's walks alone
set_option linter.unusedVariables false
set_option linter.unusedSimpArgs false

/-! ### impl_sorted: function 29, by hand -/
/-! ### Sorting tiles: the shelf's contract of slices.SortFunc, told of rows of the call's own -/
section
open Go.Shelf Go.Sort Go.Lib
def smallT (x : S55) : Bool := decide (-1000000000 ≤ x.f0 ∧ x.f0 ≤ 1000000000 ∧ -1000000000 ≤ x.f1 ∧ x.f1 ≤ 1000000000)
abbrev SmT := {x : S55 // smallT x = true}
instance : Inhabited SmT := ⟨⟨⟨0, 0⟩, by decide⟩⟩
/-- Is one ahead of the other? -/
def ltT (x y : S55) : Bool := decide (x.f0 < y.f0 ∨ (x.f0 = y.f0 ∧ x.f1 < y.f1))
def encT (x : SmT) : List Value := [.int .i64 x.1.f0, .int .i64 x.1.f1]
def cfT (x y : SmT) : Int := cmpT x.1 y.1
theorem smallT_iff (x : S55) : smallT x = true ↔ -1000000000 ≤ x.f0 ∧ x.f0 ≤ 1000000000 ∧ -1000000000 ≤ x.f1 ∧ x.f1 ≤ 1000000000 := by
 unfold smallT
 simp
theorem cfT_lt (x y : SmT) : ltOf cfT x y = ltT x.1 y.1 := by
 have hx := (smallT_iff _).1 x.2
 have hy := (smallT_iff _).1 y.2
 unfold ltOf cfT cmpT ltT
 have w : ∀ n : Int, -2000000000 ≤ n → n ≤ 2000000000 → wrap64 n = n := fun n h h' => by unfold wrap64; omega
 by_cases h : x.1.f0 = y.1.f0
 ·rw [if_pos h, w _ (by omega) (by omega)]
  simp only [decide_eq_decide]
  omega
 ·rw [if_neg h, w _ (by omega) (by omega)]
  simp only [decide_eq_decide]
  omega
theorem ltT_iff (x y : S55) : ltT x y = true ↔ (x.f0 < y.f0 ∨ (x.f0 = y.f0 ∧ x.f1 < y.f1)) := by
 unfold ltT
 simp
theorem ltT_no (x y : S55) : ltT x y = false ↔ ¬ (x.f0 < y.f0 ∨ (x.f0 = y.f0 ∧ x.f1 < y.f1)) := by
 unfold ltT
 exact decide_eq_false_iff_not
theorem swoT : SWO (ltOf cfT) where
 irrefl x := by
  rw [cfT_lt, ltT_no]
  omega
 trans x y z h k := by
  rw [cfT_lt, ltT_iff] at *
  omega
 ntrans x y z h k := by
  rw [cfT_lt, ltT_no] at *
  omega
theorem totT (x y : SmT) (h : ltOf cfT x y = false) (k : ltOf cfT y x = false) : x = y := by
 rw [cfT_lt, ltT_no] at h k
 have h0 : x.1.f0 = y.1.f0 := by omega
 have h1 : x.1.f1 = y.1.f1 := by omega
 obtain ⟨⟨a, b⟩, _⟩ := x
 obtain ⟨⟨c, d⟩, _⟩ := y
 simp only at h0 h1
 subst h0 h1
 rfl
/-- The small tiles of a list of small tiles. -/
def smalls (l : List S55) (h : l.all smallT = true) : Array SmT := (l.pmap (fun x hx => (⟨x, hx⟩ : SmT)) (fun x hx => List.all_eq_true.1 h x hx)).toArray
theorem smalls_val (l : List S55) (h : l.all smallT = true) : (smalls l h).toList.map (·.1) = l := by
 unfold smalls
 rw [List.map_pmap]
 simp
theorem smalls_size (l : List S55) (h : l.all smallT = true) : (smalls l h).size = l.length := by
 unfold smalls
 simp
/-- A list of tiles in order. -/
def msort (l : List S55) : List S55 := l.mergeSort fun x y => !ltT y x
theorem smalls_sort (l : List S55) (h : l.all smallT = true) : (((smalls l h).toList.mergeSort fun x y => !(ltOf cfT) y x).map (·.1)) = msort l := by
 rw [List.map_mergeSort (s := fun x y => !ltT y x) (fun a _ b _ => by rw [cfT_lt]), smalls_val]
 rfl
/-- What a block holds once the sort has written its row. -/
theorem row_put (cur : Array Value) (d : Array SmT) (n : Nat) (hs : cur.size = n * 2) (hd : d.size ≤ n) (j : Nat) (hj : j < d.size) :
  (((putCells id 0 (flatK encT 2 d) cur).toList.drop (j * 2)).take 2) = encT d[j]! := by
 have h0 : ∀ t, t < d.size * 2 → (putCells id 0 (flatK encT 2 d) cur).toList[t]? = some ((encT d[t / 2]!)[t % 2]!) := by
  intro t ht
  rw [Array.getElem?_toList]
  unfold putCells
  rw [Array.getElem?_mapIdx, Array.getElem?_eq_getElem (by omega)]
  simp only [Option.map_some]
  rw [if_pos ⟨by omega, by rw [size_flatK]; omega⟩, Nat.sub_zero, get_flatK _ _ _ _ ht]
  rfl
 have e0 := h0 (j * 2) (by omega)
 have e1 := h0 (j * 2 + 1) (by omega)
 rw [show j * 2 / 2 = j from by omega, show j * 2 % 2 = 0 from by omega] at e0
 rw [show (j * 2 + 1) / 2 = j from by omega, show (j * 2 + 1) % 2 = 1 from by omega] at e1
 apply List.ext_getElem?
 intro i
 rw [List.getElem?_take]
 by_cases hi : i < 2
 ·rw [if_pos hi, List.getElem?_drop]
  rcases (show i = 0 ∨ i = 1 from by omega) with rfl | rfl
  ·rw [Nat.add_zero, e0]
   rfl
  ·rw [e1]
   rfl
 ·rw [if_neg hi, List.getElem?_eq_none (by simp [encT]; omega)]
/-- A row of the call's own, taken apart. -/
theorem row_open (w1 : World) (base g cap : Nat) (ok : Nat → Prop) (l : List S55) (hR : Kd.R k55 55 w1 base ok (.slice (some ⟨g, 0, none⟩) l.length cap) l) :
  ∃ cur, (∀ k, some g = some k → ok k) ∧ base ≤ g ∧ w1.heap[g]? = some (.cells cur 55 (0, 0)) ∧ l.length ≤ cap ∧ cap ≤ maxLen ∧ cur.size = cap * 2 ∧ ∀ j x, l[j]? = some x → ((cur.toList.drop (j * 2)).take 2) = [.int .i64 x.f0, .int .i64 x.f1] := by
 obtain ⟨hok, inner, ⟨hlen, hown⟩, hrep⟩ := hR
 rcases hown with ⟨hv, _⟩ | ⟨g', cap', cur, hv, hb, hh, hn, hm, hs, ht⟩
 ·cases hv
 ·injection hv with h1 h2 h3
  injection h1 with h1
  injection h1 with h1
  subst h1
  subst h3
  refine ⟨cur, hok, hb, hh, hn, hm, hs, fun j x hj => ?_⟩
  have hjl : j < l.length := (List.getElem?_eq_some_iff.1 hj).1
  obtain ⟨c0, c1, hc, e0, e1⟩ := hrep.2 j x hj
  have e0' : c0 = [.int .i64 x.f0] := e0
  have e1' : c1 = [.int .i64 x.f1] := e1
  have hc' : (inner.drop (j * 2)).take 2 = c0 ++ c1 := hc
  rw [e0', e1', ← ht] at hc'
  have hk : l.length * (k55 : Kd S55).sz = l.length * 2 := rfl
  rw [hk, List.drop_take, List.take_take, Nat.min_eq_left (by omega)] at hc'
  exact hc'
/-- The sort's row: held ahead, and the call's own still behind it. -/
theorem sort_holds (w1 : World) (base g cap : Nat) (ok : Nat → Prop) (l : List S55) (hR : Kd.R k55 55 w1 base ok (.slice (some ⟨g, 0, none⟩) l.length cap) l) (d : Array SmT) (hd : d.toList.map (·.1) = l) :
  HoldsK encT 2 w1 g 0 d ∧ g < w1.heap.size := by
 obtain ⟨cur, _, _, hh, hn, _, hs, hc⟩ := row_open w1 base g cap ok l hR
 have hds : d.size = l.length := by rw [← hd]; simp
 refine ⟨fun t ht => ?_, ?_⟩
 ·rw [size_flatK] at ht
  rw [get_flatK _ _ _ _ ht]
  have hj : t / 2 < d.size := by omega
  have hx : l[t / 2]? = some (d[t / 2]!).1 := by
   rw [← hd, List.getElem?_map, Array.getElem?_toList, Array.getElem?_eq_getElem hj]
   simp only [Option.map_some]
   rw [getElem!_pos d (t / 2) hj]
  have h2 := hc (t / 2) _ hx
  have h3 : cur.toList[t]? = (encT d[t / 2]!)[t % 2]? := by
   have := congrArg (fun z => z[t % 2]?) h2
   simp only [List.getElem?_take, List.getElem?_drop, if_pos (show t % 2 < 2 from by omega), show t / 2 * 2 + t % 2 = t from by omega] at this
   exact this
  have h4 : (encT d[t / 2]!)[t % 2]? = some ((encT d[t / 2]!)[t % 2]!) := by
   rcases (show t % 2 = 0 ∨ t % 2 = 1 from by omega) with e | e <;> rw [e] <;> rfl
  constructor
  ·show w1.cell? ⟨g, 0 + t, none⟩ = some (id ((encT d[t / 2]!)[t % 2]!))
   rw [Nat.zero_add]
   unfold World.cell?
   rw [hh]
   show cur[t]? = _
   rw [← Array.getElem?_toList, h3, h4]
   rfl
  ·show w1.frozen? ⟨g, 0 + t, none⟩ = false
   unfold World.frozen?
   rw [hh]
   simp
 ·exact (Array.getElem?_eq_some_iff.1 hh).1
theorem sort_row (w1 : World) (base g cap : Nat) (ok : Nat → Prop) (l : List S55) (hR : Kd.R k55 55 w1 base ok (.slice (some ⟨g, 0, none⟩) l.length cap) l) (d : Array SmT) (hd : d.size = l.length) (n : Nat) (os : Array Obj) :
  Kd.R k55 55 (sortWorldK encT 2 w1 g 0 n d os) base ok (.slice (some ⟨g, 0, none⟩) l.length cap) (d.toList.map (·.1)) ∧ Go.RowKit.Below base w1 (sortWorldK encT 2 w1 g 0 n d os) := by
 obtain ⟨cur, hok, hb, hh, hn, hm, hs, hc⟩ := row_open w1 base g cap ok l hR
 have hg : g < w1.heap.size := (Array.getElem?_eq_some_iff.1 hh).1
 have hhp : (sortWorldK encT 2 w1 g 0 n d os).heap = w1.heap.modify g (onCells (putCells id 0 (flatK encT 2 d))) ++ os := rfl
 have hblk : (sortWorldK encT 2 w1 g 0 n d os).heap[g]? = some (.cells (putCells id 0 (flatK encT 2 d) cur) 55 (0, 0)) := by
  rw [hhp, Array.getElem?_append_left (by simpa using hg), Array.getElem?_modify, if_pos rfl, hh]
  rfl
 have hsz : (putCells id 0 (flatK encT 2 d) cur).size = cap * 2 := by
  unfold putCells
  rw [Array.size_mapIdx, hs]
 have hl2 : (d.toList.map (·.1)).length = l.length := by simp [hd]
 refine ⟨⟨hok, (putCells id 0 (flatK encT 2 d) cur).toList.take (l.length * 2), ⟨?_, .inr ⟨g, cap, _, by rw [hl2], hb, hblk, by rw [hl2]; exact hn, hm, hsz, by rw [hl2]; rfl⟩⟩, ?_, ?_⟩, rfl, rfl, rfl, ?_, ?_⟩
 ·rw [hl2]
  show (List.take (l.length * 2) _).length = l.length * 2
  have hz : (putCells id 0 (flatK encT 2 d) cur).toList.length = cap * 2 := hsz
  rw [List.length_take, hz]
  omega
 ·rw [hl2]
  show (List.take (l.length * 2) _).length = l.length * 2
  have hz : (putCells id 0 (flatK encT 2 d) cur).toList.length = cap * 2 := hsz
  rw [List.length_take, hz]
  omega
 ·intro j x hj
  have hjl : j < d.size := by
   have := (List.getElem?_eq_some_iff.1 hj).1
   simpa using this
  rw [List.getElem?_map, Array.getElem?_toList, Array.getElem?_eq_getElem hjl] at hj
  simp only [Option.map_some, Option.some.injEq] at hj
  have h2 := row_put cur d cap hs (by omega) j hjl
  show ∃ c0 c1, ((List.take (l.length * 2) _).drop (j * 2)).take 2 = c0 ++ c1 ∧ c0 = [Value.int .i64 x.f0] ∧ c1 = [Value.int .i64 x.f1]
  rw [List.drop_take, List.take_take, Nat.min_eq_left (by omega), h2]
  refine ⟨_, _, ?_, rfl, rfl⟩
  rw [getElem!_pos d j hjl, ← hj]
  rfl
 ·rw [hhp]
  simp
 ·intro k hk
  rw [hhp, Array.getElem?_append_left (by simp; omega), Array.getElem?_modify, if_neg (by omega)]
set_option maxHeartbeats 1000000 in
/-- compareTiles, in whatever world: it may lay blocks. -/
theorem cmpT_lays (x y : S55) (W : World) : Calls Try.prog 62 #[.agg #[.int .i64 x.f0, .int .i64 x.f1], .agg #[.int .i64 y.f0, .int .i64 y.f1]] W fun e w' => e = .returned (.int .i64 (cmpT x y)) ∧ ∃ q os', w' = grow (W.drewN q) os' := by
 unfold cmpT
 by_cases h : x.f0 = y.f0
 ·rw [if_pos h]
  go_enter Try.func62, Try.ntmps62
  go_wp2
  go_ret
  exact ⟨rfl, 0, _, by rw [alloc_eq_grow, alloc_eq_grow, grow_grow]; rfl⟩
 ·rw [if_neg h]
  go_enter Try.func62, Try.ntmps62
  go_wp2
  go_ret
  exact ⟨rfl, 0, _, by rw [alloc_eq_grow, alloc_eq_grow, grow_grow]; rfl⟩
theorem msort_nil : msort [] = [] := by
 unfold msort
 simp
/-- slices.SortFunc at a row of the call's own: it stays the call's own, and is in order. -/
theorem sortT (w : World) (base : Nat) (ok : Nat → Prop) (v : Value) (l : List S55) (hs : l.all smallT = true) (hl : l.length < 4611686018427387904) (hR : Kd.R k55 55 w base ok v l) :
  Calls Try.prog 61 #[v, .func (.func 62) #[] #[]] w fun e w' => e = .returned (.tuple #[]) ∧ Kd.R k55 55 w' base ok v (msort l) ∧ Go.RowKit.Below base w w' := by
 have hv : ∃ p cap, v = .slice p l.length cap ∧ (0 < l.length → ∃ g, p = some ⟨g, 0, none⟩) := by
  obtain ⟨_, inner, ⟨_, hown⟩, _⟩ := hR
  rcases hown with ⟨hv, hn⟩ | ⟨g, cap, cur, hv, _⟩
  ·exact ⟨none, 0, by rw [hv, hn], fun h => by omega⟩
  ·exact ⟨_, cap, hv, fun _ => ⟨g, rfl⟩⟩
 obtain ⟨p, cap, rfl, hp⟩ := hv
 by_cases h0 : l = []
 ·subst h0
  refine (Try.slices_SortFunc_none (α := Nat) p cap (.func (.func 62) #[] #[]) w).mono ?_
  rintro e w' ⟨he, rfl⟩
  exact ⟨he, by rw [msort_nil]; exact hR, Go.RowKit.Below.refl _ _⟩
 ·have hpos : 0 < l.length := List.length_pos_iff.2 h0
  obtain ⟨g, rfl⟩ := hp hpos
  obtain ⟨hH, hg⟩ := sort_holds w base g cap ok l hR (smalls l hs) (smalls_val l hs)
  have hsz := smalls_size l hs
  have hcmp : CmpLays Try.prog 62 #[] encT 2 cfT g 0 (smalls l hs).size w := fun _ _ _ _ x y => cmpT_lays x.1 y.1 _
  have hcon := Try.slices_SortFunc_total 2 Try.isAgg55 Try.sizeOf55 encT (fun _ => rfl) (fun x u hu => by simp [encT] at hu; rcases hu with rfl | rfl <;> rfl) cfT swoT 62 #[] g 0 cap (smalls l hs) w (enters_of Try.func62 (by kernel_rfl) rfl) hcmp hH hg (by omega) totT
  rw [hsz] at hcon
  refine hcon.mono ?_
  rintro e w' ⟨he, n, os, rfl⟩
  have hq : ((smalls l hs).toList.mergeSort fun x y => !(ltOf cfT) y x).toArray.size = l.length := by simp [hsz]
  obtain ⟨r1, r2⟩ := sort_row w base g cap ok l hR _ hq n os
  rw [List.toList_toArray, smalls_sort] at r1
  exact ⟨he, r1, r2⟩
end
/-- A list of tiles, sorted, in memory of its own. -/
def impl_sorted.f (l0 : List S55) : Option (List S55) := (slices_Clone_impl_Tile_impl_Tile.f l0).bind fun _ => if l0.all smallT = true then some (msort l0) else none
set_option maxHeartbeats 1000000 in
theorem impl_sorted.calls (A0 : Option Addr) (c0 : Nat) (l0 : List S55) (r : List S55) (w : World) (hr0 : Kd.C k55 w A0 l0.length l0) (hc0 : l0.length ≤ c0) (h : impl_sorted.f l0 = some r) :
  Calls Try.prog 29 #[.slice A0 l0.length c0] w fun e w' => ∃ v0_ : Value, e = .returned (v0_) ∧ Kd.R k55 55 w' w.heap.size (fun _ => True) v0_ r ∧ Below w.heap.size w w' := by
 unfold impl_sorted.f at h
 obtain ⟨t, ht, h⟩ := Option.bind_eq_some_iff.1 h
 have hl : l0.length < 8796093022208 := by
  unfold slices_Clone_impl_Tile_impl_Tile.f at ht
  by_cases hl : l0.length < 8796093022208
  ·exact hl
  ·rw [if_neg hl] at ht
   cases ht
 obtain rfl : l0 = t := by
  unfold slices_Clone_impl_Tile_impl_Tile.f at ht
  rw [if_pos hl] at ht
  exact Option.some.inj ht
 by_cases hs : l0.all smallT = true
 ·rw [if_pos hs] at h
  obtain rfl := Option.some.inj h
  have hcl := slices_Clone_impl_Tile_impl_Tile.calls A0 c0 l0 l0 w hr0 hc0 ht
  have hso := fun (W : World) (v : Value) (hR : Kd.R k55 55 W w.heap.size (fun _ => True) v l0) => sortT W w.heap.size (fun _ => True) v l0 hs (by omega) hR
  have HR := Lib.hid hr0
  clear hr0 h ht
  go_enter Try.func29, Try.ntmps29
  go_wp2_with (first
   | (go_at_call 55; refine hcl.mono ?_; rintro e w1 ⟨v1, rfl, ho1, hb1⟩)
   | (go_at_call 61; refine (hso _ _ ho1).mono ?_; rintro e w2 ⟨rfl, ho2, hb2⟩))
  go_ret
  exact ⟨_, rfl, ho2, hb1.trans hb2⟩
 ·rw [if_neg hs] at h
  cases h


/-! ### impl_tile: function 63 -/
def impl_tile.f (a0 : Int) (a1 : Int) : Option (Int × Int) := some (mn a0 a1, mx a0 a1)
set_option maxHeartbeats 8000000 in
set_option maxRecDepth 100000 in
theorem impl_tile.calls (a0 : Int) (a1 : Int) (r1 : Int) (r2 : Int) (w : World) (h : impl_tile.f a0 a1 = some (r1, r2)) :
  Calls Try.prog 63 #[.int .i64 a0, .int .i64 a1] w fun e w' => e = .returned (.agg #[.int .i64 r1, .int .i64 r2]) ∧ Below w.heap.size w w' := by
 have hu55 := Try.underlying55
 have HB := Aside0.mk (Below.refl w.heap.size w)
 have H : (some (mn a0 a1, mx a0 a1)) = some (r1, r2) := h
 clear h
 obtain ⟨ji3, hji3⟩ : ∃ j_ : Int, (mn a0 a1) = j_ := ⟨_, rfl⟩
 replace H : (some (ji3, mx a0 a1)) = some (r1, r2) := by first | (rw [hji3] at H; exact H) | (simp only [hji3] at H ⊢; exact H)
 have hji3_ : (if a1 < a0 then a1 else a0) = ji3 := hji3
 obtain ⟨ji4, hji4⟩ : ∃ j_ : Int, (mx a0 a1) = j_ := ⟨_, rfl⟩
 replace H : (some (ji3, ji4)) = some (r1, r2) := by first | (rw [hji4] at H; exact H) | (simp only [hji4] at H ⊢; exact H)
 have hji4_ : (if a0 < a1 then a1 else a0) = ji4 := hji4
 simp only [Option.some.injEq, Prod.mk.injEq] at H
 obtain ⟨rfl, rfl⟩ := H
 go_enter Try.func63, Try.ntmps63
 go_wp2_with (first | ((with_reducible refine gate_dst (N := 4) rfl ?_); refine box_event ?hg (N := 4) ?hd (cs := #[.int .i64 0, .int .i64 0]) (t := 55) ?hr ?_; (case hd => rfl); (case hg => rfl); (case hr => first | (go_simp; done) | (go_simp; rfl)); intro gb249 hg w5 hbox hb; have BK249 := Aside0.mk (hbox); have GW249 := Aside0.mk ((by rw [hg]; exact (below_size (by repeat (first | (with_reducible first | exact HB.out | apply below_alloc | apply pw_below_drewN | apply below_drew1) | exact HB.out))) : w.heap.size ≤ gb249)); have GE249 := Aside0.mk ((by rw [hg]; exact (below_size (by repeat (first | (with_reducible first | exact HB.out | apply below_alloc | apply pw_below_drewN | apply below_drew1) | exact HB.out))) : w.heap.size ≤ gb249)); replace HB := Aside0.mk (below_step (by repeat (first | (with_reducible first | exact HB.out | apply below_alloc | apply pw_below_drewN | apply below_drew1) | exact HB.out)) hb); clear hb hbox hg; have hcz6_0 : w5.cell? ⟨gb249, 0, none⟩ = some (.int .i64 0) := (blk_cell BK249.out 0).trans rfl; have hcz6_1 : w5.cell? ⟨gb249, 1, none⟩ = some (.int .i64 0) := (blk_cell BK249.out 1).trans rfl; have hfz6_0 := blk_frozen BK249.out 0; have hfz6_1 := blk_frozen BK249.out 1))
 refine bodyPost_ret (results_cell_row rfl _ _ gb249 55 #[.int .i64 ji3, .int .i64 ji4] (0, 0) _ rfl (by (with_reducible repeat (first | refine blk_drewN ?_ _ | refine blk_drew ?_ | refine blk_alloc ?_ _)); refine blk_put (cs := #[.int .i64 ji3, .int .i64 0]) ?_ 1 _ rfl; (with_reducible repeat (first | refine blk_drewN ?_ _ | refine blk_drew ?_ | refine blk_alloc ?_ _)); refine blk_put (cs := #[.int .i64 0, .int .i64 0]) ?_ 0 _ rfl; (with_reducible repeat (first | refine blk_drewN ?_ _ | refine blk_drew ?_ | refine blk_alloc ?_ _)); exact BK249.out) Try.underlying55 rfl (by kernel_rfl)) rfl ?_
 exact ⟨by first | rfl | (simp [errW_none, errW_some] <;> rfl) | (simp only [← hji3, ← hji4]; first | rfl | (simp [errW_none, errW_some] <;> rfl)) | (simp [*, errW_none, errW_some] <;> rfl), by repeat (first | (with_reducible first | exact HB.out | apply below_alloc | apply pw_below_drewN | apply below_drew1 | refine below_set ?_ GE249.out) | exact HB.out)⟩

/-! ### impl_Tile_renamed: function 71 -/
def impl_Tile_renamed.f (a0_0 : Int) (a0_1 : Int) (l1 : List Int) : Option (Int × Int) := if 0 ≤ a0_0 then (if a0_0 < (l1.length : Int) then (if 0 ≤ a0_1 then (if a0_1 < (l1.length : Int) then ((impl_tile.f (rd l1 a0_0) (rd l1 a0_1)).bind fun bt254 => (some (bt254.1, bt254.2))) else (none)) else (none)) else (none)) else (none)
def impl_Tile_renamed.T1 : Bool × List (List Nat × List Nat) := (true, [([], []), ([], []), ([1], [1]), ([0, 2], [0, 2]), ([3], [3]), ([], []), ([], []), ([6], [6]), ([5, 7], [5, 7]), ([8], [8]), ([4, 9], [4, 9]), ([10, 10, 0, 1, 2, 3, 4, 5, 6, 7, 8, 9, 10], [10])])
def impl_Tile_renamed.B1 : List Nat := [0, 0, 2, 7, 15, 0, 0, 64, 224, 480, 1023, 2047]
theorem impl_Tile_renamed.tab1 : rtab .any (opsOf Try.f71 1) = impl_Tile_renamed.T1 := by kernel_rfl
theorem impl_Tile_renamed.bits1 : waitsOk impl_Tile_renamed.T1.2 impl_Tile_renamed.B1 = true := by kernel_rfl
set_option maxHeartbeats 8000000 in
set_option maxRecDepth 100000 in
theorem impl_Tile_renamed.calls (a0_0 : Int) (a0_1 : Int) (A1 : Option Addr) (c1 : Nat) (l1 : List Int) (r1 : Int) (r2 : Int) (w : World) (hr1 : Kd.C (Kd.int .i64) w A1 l1.length l1) (hc1 : l1.length ≤ c1) (h : impl_Tile_renamed.f a0_0 a0_1 l1 = some (r1, r2)) :
  Calls Try.prog 71 #[.agg #[.int .i64 a0_0, .int .i64 a0_1], .slice A1 l1.length c1] w fun e w' => e = .returned (.agg #[.int .i64 r1, .int .i64 r2]) ∧ Below w.heap.size w w' := by
 have hu55 := Try.underlying55
 have HR1 := Aside0.mk hr1
 have HC1 := Aside0.mk hc1
 clear hr1 hc1
 have HB := Aside0.mk (Below.refl w.heap.size w)
 have H : (if 0 ≤ a0_0 then (if a0_0 < (l1.length : Int) then (if 0 ≤ a0_1 then (if a0_1 < (l1.length : Int) then ((impl_tile.f (rd l1 a0_0) (rd l1 a0_1)).bind fun bt254 => (some (bt254.1, bt254.2))) else (none)) else (none)) else (none)) else (none)) = some (r1, r2) := h
 clear h
 by_cases c3 : 0 ≤ a0_0
 ·rw [if_pos c3] at H
  have c3b0 : decide (0 ≤ a0_0) = true := decide_eq_true c3
  clear c3
  by_cases c4 : a0_0 < (l1.length : Int)
  ·rw [if_pos c4] at H
   have c4b0 : decide (a0_0 < (l1.length : Int)) = true := decide_eq_true c4
   clear c4
   by_cases c5 : 0 ≤ a0_1
   ·rw [if_pos c5] at H
    have c5b0 : decide (0 ≤ a0_1) = true := decide_eq_true c5
    clear c5
    by_cases c6 : a0_1 < (l1.length : Int)
    ·rw [if_pos c6] at H
     have c6b0 : decide (a0_1 < (l1.length : Int)) = true := decide_eq_true c6
     clear c6
     replace H := Option.bind_eq_some_iff.mp H
     obtain ⟨⟨t254, t255⟩, A70, H⟩ := H
     replace H : (some (t254, t255)) = some (r1, r2) := H
     have A7 := Aside0.mk A70
     clear A70
     simp only [Option.some.injEq, Prod.mk.injEq] at H
     obtain ⟨rfl, rfl⟩ := H
     go_enter Try.func71, Try.ntmps71
     try go_wp2_with (first | ((with_reducible refine gate_dst (N := 2) rfl ?_); refine box_event ?hg (N := 2) ?hd (cs := #[.int .i64 a0_0, .int .i64 a0_1]) (t := 55) ?hr ?_; (case hd => rfl); (case hg => rfl); (case hr => first | (go_simp; done) | (go_simp; rfl)); intro gb250 hg w8 hbox hb; have BK250 := Aside0.mk (hbox); have GW250 := Aside0.mk ((by rw [hg]; exact (below_size (by repeat (first | (with_reducible first | exact HB.out | apply below_alloc | apply pw_below_drewN | apply below_drew1) | exact HB.out))) : w.heap.size ≤ gb250)); have GE250 := Aside0.mk ((by rw [hg]; exact (below_size (by repeat (first | (with_reducible first | exact HB.out | apply below_alloc | apply pw_below_drewN | apply below_drew1) | exact HB.out))) : w.heap.size ≤ gb250)); replace HB := Aside0.mk (below_step (by repeat (first | (with_reducible first | exact HB.out | apply below_alloc | apply pw_below_drewN | apply below_drew1) | exact HB.out)) hb); clear hb hbox hg) | ((with_reducible refine gate_dst (N := 4) rfl ?_); refine box_event ?hg (N := 4) ?hd (cs := #[.int .i64 0, .int .i64 0]) (t := 55) ?hr ?_; (case hd => rfl); (case hg => rfl); (case hr => first | (go_simp; done) | (go_simp; rfl)); intro gb251 hg w9 hbox hb; have BK251 := Aside0.mk (hbox); have GW251 := Aside0.mk ((by rw [hg]; exact (below_size (by repeat (first | (with_reducible first | exact HB.out | apply below_alloc | apply pw_below_drewN | apply below_drew1 | refine below_set ?_ GE250.out) | exact HB.out))) : w.heap.size ≤ gb251)); have GE251 := Aside0.mk ((by rw [hg]; exact (below_size (by repeat (first | (with_reducible first | exact HB.out | apply below_alloc | apply pw_below_drewN | apply below_drew1 | refine below_set ?_ GE250.out) | exact HB.out))) : w.heap.size ≤ gb251)); replace HB := Aside0.mk (below_step (by repeat (first | (with_reducible first | exact HB.out | apply below_alloc | apply pw_below_drewN | apply below_drew1 | refine below_set ?_ GE250.out) | exact HB.out)) hb); have NB250_251 := Aside0.mk ((by rw [hg]; exact Nat.ne_of_lt (blk_lt (g := gb250) (o := .cells #[.int .i64 a0_0, .int .i64 a0_1] 55 (0, 0)) (by (with_reducible repeat (first | refine blk_drewN ?_ _ | refine blk_drew ?_ | refine blk_alloc ?_ _)); exact BK250.out)) : gb250 ≠ gb251)); have NB251_250 := Aside0.mk ((by rw [hg]; exact Nat.ne_of_gt (blk_lt (g := gb250) (o := .cells #[.int .i64 a0_0, .int .i64 a0_1] 55 (0, 0)) (by (with_reducible repeat (first | refine blk_drewN ?_ _ | refine blk_drew ?_ | refine blk_alloc ?_ _)); exact BK250.out)) : gb251 ≠ gb250)); replace BK250 := Aside0.mk (blk_below (g := gb250) (o := .cells #[.int .i64 a0_0, .int .i64 a0_1] 55 (0, 0)) (by (with_reducible repeat (first | refine blk_drewN ?_ _ | refine blk_drew ?_ | refine blk_alloc ?_ _)); exact BK250.out) hb); clear hb hbox hg))
     replace BK250 := Aside0.mk (blk_drew BK250.out)
     replace BK251 := Aside0.mk (blk_drew BK251.out)
     replace HB := Aside0.mk (below_drew1 HB.out)
     have p252 : 0 ≤ (a0_0 : Int) := of_decide_eq_true (by first | (with_reducible assumption) | assumption)
     have q252 : a0_0 < (l1.length : Int) := of_decide_eq_true (by first | (with_reducible assumption) | assumption)
     obtain ⟨ad252, e252, hx252_0⟩ := Kd.at_int HR1.out a0_0 p252 q252
     have hw252_0 := hx252_0
     cases e252
     replace hx252_0 := (HB.out.cell (World.block_lt_of_cell? w _ hx252_0)).trans hx252_0
     replace p252 := eq_true p252
     replace q252 := eq_true q252
     have p253 : 0 ≤ (a0_1 : Int) := of_decide_eq_true (by first | (with_reducible assumption) | assumption)
     have q253 : a0_1 < (l1.length : Int) := of_decide_eq_true (by first | (with_reducible assumption) | assumption)
     obtain ⟨ad253, e253, hx253_0⟩ := Kd.at_int HR1.out a0_1 p253 q253
     have hw253_0 := hx253_0
     obtain rfl : ad252 = ad253 := (by injection e253)
     replace hx253_0 := (HB.out.cell (World.block_lt_of_cell? w _ hx253_0)).trans hx253_0
     replace p253 := eq_true p253
     replace q253 := eq_true q253
     refine start_ (n := 12) (S := fun w' => w'.cell? ⟨gb250, 0, none⟩ = some (.int .i64 a0_0) ∧ w'.cell? ⟨gb250, 1, none⟩ = some (.int .i64 a0_1) ∧ w'.cell? (ad252.add (a0_0).toNat) = some (.int .i64 (rd l1 a0_0)) ∧ w'.cell? (ad252.add (a0_1).toNat) = some (.int .i64 (rd l1 a0_1))) (ds := []) #[false, false, false, false, false, false, false, false, false, false, false, false] (by kernel_rfl) rfl rfl ⟨(blk_cell BK250.out 0).trans rfl, (blk_cell BK250.out 1).trans rfl, ((HB.out.cell (World.block_lt_of_cell? w _ hw252_0)).trans hw252_0), ((HB.out.cell (World.block_lt_of_cell? w _ hw253_0)).trans hw253_0)⟩ (fun hHeld => ?_); refine with_tabW impl_Tile_renamed.tab1 impl_Tile_renamed.bits1 (fun HT_ HW_ => ?_)
     generalize w9.drew = w10 at BK250 BK251 HB hx252_0 hx253_0 hHeld ⊢
     refine pure_ (i := 0) (N := some 5) (v := ?_) (a' := ?_) #[true, false, false, false, false, false, false, false, false, false, false, false] rfl rfl (any_of HT_.out (by kernel_rfl)) (fun _ _ _ h => h) (Or.inl ⟨by rfl, ?_⟩) ?_ ?_
     rotate_left
     ·intro w'
      go_simp
      with_reducible rfl
     rotate_left
     ·simp only [Act.put, List.setIfInBounds_toArray, List.set_cons_zero, List.set_cons_succ, i64_w, i32_w]
      rfl
     refine pure_ (i := 1) (N := some 6) (v := ?_) (a' := ?_) #[true, true, false, false, false, false, false, false, false, false, false, false] rfl rfl (any_of HT_.out (by kernel_rfl)) (fun _ _ _ h => h) (Or.inl ⟨by rfl, ?_⟩) ?_ ?_
     rotate_left
     ·intro w'
      go_simp
      with_reducible rfl
     rotate_left
     ·simp only [Act.put, List.setIfInBounds_toArray, List.set_cons_zero, List.set_cons_succ, i64_w, i32_w]
      rfl
     refine pure_ (i := 5) (N := some 10) (v := ?_) (a' := ?_) #[true, true, false, false, false, true, false, false, false, false, false, false] rfl rfl (any_of HT_.out (by kernel_rfl)) (fun _ _ _ h => h) (Or.inl ⟨by rfl, ?_⟩) ?_ ?_
     rotate_left
     ·intro w'
      go_simp
      with_reducible rfl
     rotate_left
     ·simp only [Act.put, List.setIfInBounds_toArray, List.set_cons_zero, List.set_cons_succ, i64_w, i32_w]
      rfl
     refine pure_ (i := 6) (N := some 11) (v := ?_) (a' := ?_) #[true, true, false, false, false, true, true, false, false, false, false, false] rfl rfl (any_of HT_.out (by kernel_rfl)) (fun _ _ _ h => h) (Or.inl ⟨by rfl, ?_⟩) ?_ ?_
     rotate_left
     ·intro w'
      go_simp
      with_reducible rfl
     rotate_left
     ·simp only [Act.put, List.setIfInBounds_toArray, List.set_cons_zero, List.set_cons_succ, i64_w, i32_w]
      rfl
     refine take_ (i := 2) (N := some 7) (v := ?_) (a' := ?_) #[true, true, true, false, false, true, true, false, false, false, false, false] rfl rfl (take_ofW HT_.out HW_.out (by kernel_rfl)) (fun _ _ _ h => h) (Or.inl ⟨by rfl, ?_⟩) hHeld ?_ ?_
     rotate_left
     ·rintro w' ⟨s0, s1, s2, s3⟩
      go_simp
      with_reducible rfl
     rotate_left
     ·simp only [Act.put, List.setIfInBounds_toArray, List.set_cons_zero, List.set_cons_succ, i64_w, i32_w]
      rfl
     refine pure_ (i := 3) (N := some 8) (v := ?_) (a' := ?_) #[true, true, true, true, false, true, true, false, false, false, false, false] rfl rfl (any_of HT_.out (by kernel_rfl)) (fun _ _ _ h => h) (Or.inl ⟨by rfl, ?_⟩) ?_ ?_
     rotate_left
     ·intro w'
      go_simp
      with_reducible rfl
     rotate_left
     ·simp only [Act.put, List.setIfInBounds_toArray, List.set_cons_zero, List.set_cons_succ, i64_w, i32_w]
      rfl
     refine take_ (i := 4) (N := some 9) (v := ?_) (a' := ?_) #[true, true, true, true, true, true, true, false, false, false, false, false] rfl rfl (take_ofW HT_.out HW_.out (by kernel_rfl)) (fun _ _ _ h => h) (Or.inl ⟨by rfl, ?_⟩) hHeld ?_ ?_
     rotate_left
     ·rintro w' ⟨s0, s1, s2, s3⟩
      go_simp
      with_reducible rfl
     rotate_left
     ·simp only [Act.put, List.setIfInBounds_toArray, List.set_cons_zero, List.set_cons_succ, i64_w, i32_w]
      rfl
     refine take_ (i := 7) (N := some 12) (v := ?_) (a' := ?_) #[true, true, true, true, true, true, true, true, false, false, false, false] rfl rfl (take_ofW HT_.out HW_.out (by kernel_rfl)) (fun _ _ _ h => h) (Or.inl ⟨by rfl, ?_⟩) hHeld ?_ ?_
     rotate_left
     ·rintro w' ⟨s0, s1, s2, s3⟩
      go_simp
      with_reducible rfl
     rotate_left
     ·simp only [Act.put, List.setIfInBounds_toArray, List.set_cons_zero, List.set_cons_succ, i64_w, i32_w]
      rfl
     refine pure_ (i := 8) (N := some 13) (v := ?_) (a' := ?_) #[true, true, true, true, true, true, true, true, true, false, false, false] rfl rfl (any_of HT_.out (by kernel_rfl)) (fun _ _ _ h => h) (Or.inl ⟨by rfl, ?_⟩) ?_ ?_
     rotate_left
     ·intro w'
      go_simp
      with_reducible rfl
     rotate_left
     ·simp only [Act.put, List.setIfInBounds_toArray, List.set_cons_zero, List.set_cons_succ, i64_w, i32_w]
      rfl
     refine take_ (i := 9) (N := some 14) (v := ?_) (a' := ?_) #[true, true, true, true, true, true, true, true, true, true, false, false] rfl rfl (take_ofW HT_.out HW_.out (by kernel_rfl)) (fun _ _ _ h => h) (Or.inl ⟨by rfl, ?_⟩) hHeld ?_ ?_
     rotate_left
     ·rintro w' ⟨s0, s1, s2, s3⟩
      go_simp
      with_reducible rfl
     rotate_left
     ·simp only [Act.put, List.setIfInBounds_toArray, List.set_cons_zero, List.set_cons_succ, i64_w, i32_w]
      rfl
     refine one_ (i := 10) (N := some 15) #[true, true, true, true, true, true, true, true, true, true, true, false] rfl rfl (one_of HT_.out (by kernel_rfl)) (by decide) (fun K hK => ?_)
     refine goes_ Try.func63 (by kernel_rfl) rfl #[.int .i64 (rd l1 a0_0), .int .i64 (rd l1 a0_1)] (by rfl) rfl rfl (by (try simp only [List.map_toArray, List.map_cons, List.map_nil]); first | done | rfl | (simp only [List.length_drop, List.length_take]; rfl)) ?_
     with_reducible refine (impl_tile.calls (rd l1 a0_0) (rd l1 a0_1) t254 t255 _ A7.out).mono ?_
     rintro e w11 ⟨rfl, hb⟩
     refine ⟨_, rfl, ?_⟩
     replace BK250 := Aside0.mk (blk_below (g := gb250) (o := .cells #[.int .i64 a0_0, .int .i64 a0_1] 55 (0, 0)) (by (with_reducible repeat (first | refine blk_drewN ?_ _ | refine blk_drew ?_ | refine blk_alloc ?_ _)); exact BK250.out) hb)
     replace BK251 := Aside0.mk (blk_below (g := gb251) (o := .cells #[.int .i64 0, .int .i64 0] 55 (0, 0)) (by (with_reducible repeat (first | refine blk_drewN ?_ _ | refine blk_drew ?_ | refine blk_alloc ?_ _)); exact BK251.out) hb)
     replace HB := Aside0.mk (below_step (by repeat (first | (with_reducible first | exact HB.out | apply below_alloc | apply pw_below_drewN | apply below_drew1 | refine below_set ?_ GE250.out | refine below_set ?_ GE251.out) | exact HB.out)) hb)
     (try clear hb)
     (try clear hb2)
     (try clear hk)
     (try clear hi)
     refine hK.out _ _ ⟨(blk_cell BK250.out 0).trans rfl, (blk_cell BK250.out 1).trans rfl, ((HB.out.cell (World.block_lt_of_cell? w _ hw252_0)).trans hw252_0), ((HB.out.cell (World.block_lt_of_cell? w _ hw253_0)).trans hw253_0)⟩ (fun hHeld => ?_)
     clear hK K
     refine norm_ (a' := ?_) ?_ ?_
     rotate_left
     ·show Act.put _ (some 15) _ = _
      simp only [Act.put, List.setIfInBounds_toArray, List.set_cons_zero, List.set_cons_succ, i64_w, i32_w]
      rfl
     refine one_ (i := 11) (N := none) #[true, true, true, true, true, true, true, true, true, true, true, true] rfl rfl (one_of HT_.out (by kernel_rfl)) (by decide) (fun K hK => ?_)
     have hs12 : w11.cell? ⟨gb251, 0, none⟩ = some (.int .i64 0) := (blk_cell BK251.out 0).trans rfl
     have hfs12 := blk_frozen BK251.out 0
     have hns12_0 := NB250_251.out
     have hms12_0 := NB251_250.out
     have hs13 : w11.cell? ⟨gb251, 1, none⟩ = some (.int .i64 0) := (blk_cell BK251.out 1).trans rfl
     have hfs13 := blk_frozen BK251.out 1
     have hns13_0 := NB250_251.out
     have hms13_0 := NB251_250.out
     refine skip_ (w1 := ?_) (by rfl) rfl ?_ ?_
     rotate_left
     ·go_simp
      rfl
     refine hK.out _ _ ⟨((cell_far (p := ⟨gb251, _, none⟩) NB250_251.out _).trans (((cell_far (p := ⟨gb251, _, none⟩) NB250_251.out _).trans (hHeld.1)))), ((cell_far (p := ⟨gb251, _, none⟩) NB250_251.out _).trans (((cell_far (p := ⟨gb251, _, none⟩) NB250_251.out _).trans (hHeld.2.1)))), ((cell_far (p := ⟨gb251, _, none⟩) (by first | exact Nat.ne_of_lt (Nat.lt_of_lt_of_le (by have := World.block_lt_of_cell? _ _ hw252_0; first | rwa [add_block] at this | exact this) GW251.out) | (rw [add_block]; exact Nat.ne_of_lt (Nat.lt_of_lt_of_le (by have := World.block_lt_of_cell? _ _ hw252_0; first | rwa [add_block] at this | exact this) GW251.out)) | (show (Addr.add _ _).block ≠ _; rw [add_block]; exact Nat.ne_of_lt (Nat.lt_of_lt_of_le (by have := World.block_lt_of_cell? _ _ hw252_0; first | rwa [add_block] at this | exact this) GW251.out)) | (dsimp only; exact Nat.ne_of_lt (Nat.lt_of_lt_of_le (by have := World.block_lt_of_cell? _ _ hw252_0; first | rwa [add_block] at this | exact this) GW251.out))) _).trans (((cell_far (p := ⟨gb251, _, none⟩) (by first | exact Nat.ne_of_lt (Nat.lt_of_lt_of_le (by have := World.block_lt_of_cell? _ _ hw252_0; first | rwa [add_block] at this | exact this) GW251.out) | (rw [add_block]; exact Nat.ne_of_lt (Nat.lt_of_lt_of_le (by have := World.block_lt_of_cell? _ _ hw252_0; first | rwa [add_block] at this | exact this) GW251.out)) | (show (Addr.add _ _).block ≠ _; rw [add_block]; exact Nat.ne_of_lt (Nat.lt_of_lt_of_le (by have := World.block_lt_of_cell? _ _ hw252_0; first | rwa [add_block] at this | exact this) GW251.out)) | (dsimp only; exact Nat.ne_of_lt (Nat.lt_of_lt_of_le (by have := World.block_lt_of_cell? _ _ hw252_0; first | rwa [add_block] at this | exact this) GW251.out))) _).trans (hHeld.2.2.1)))), ((cell_far (p := ⟨gb251, _, none⟩) (by first | exact Nat.ne_of_lt (Nat.lt_of_lt_of_le (by have := World.block_lt_of_cell? _ _ hw253_0; first | rwa [add_block] at this | exact this) GW251.out) | (rw [add_block]; exact Nat.ne_of_lt (Nat.lt_of_lt_of_le (by have := World.block_lt_of_cell? _ _ hw253_0; first | rwa [add_block] at this | exact this) GW251.out)) | (show (Addr.add _ _).block ≠ _; rw [add_block]; exact Nat.ne_of_lt (Nat.lt_of_lt_of_le (by have := World.block_lt_of_cell? _ _ hw253_0; first | rwa [add_block] at this | exact this) GW251.out)) | (dsimp only; exact Nat.ne_of_lt (Nat.lt_of_lt_of_le (by have := World.block_lt_of_cell? _ _ hw253_0; first | rwa [add_block] at this | exact this) GW251.out))) _).trans (((cell_far (p := ⟨gb251, _, none⟩) (by first | exact Nat.ne_of_lt (Nat.lt_of_lt_of_le (by have := World.block_lt_of_cell? _ _ hw253_0; first | rwa [add_block] at this | exact this) GW251.out) | (rw [add_block]; exact Nat.ne_of_lt (Nat.lt_of_lt_of_le (by have := World.block_lt_of_cell? _ _ hw253_0; first | rwa [add_block] at this | exact this) GW251.out)) | (show (Addr.add _ _).block ≠ _; rw [add_block]; exact Nat.ne_of_lt (Nat.lt_of_lt_of_le (by have := World.block_lt_of_cell? _ _ hw253_0; first | rwa [add_block] at this | exact this) GW251.out)) | (dsimp only; exact Nat.ne_of_lt (Nat.lt_of_lt_of_le (by have := World.block_lt_of_cell? _ _ hw253_0; first | rwa [add_block] at this | exact this) GW251.out))) _).trans (hHeld.2.2.2))))⟩ (fun hHeld => ?_)
     clear hK K
     refine done_ (done_of HT_.out (by kernel_rfl)) ?_
     try go_wp2
     refine bodyPost_ret (results_cell_row rfl _ _ gb251 55 #[.int .i64 t254, .int .i64 t255] (0, 0) _ rfl (by (with_reducible repeat (first | refine blk_drewN ?_ _ | refine blk_drew ?_ | refine blk_alloc ?_ _)); refine blk_put (cs := #[.int .i64 t254, .int .i64 0]) ?_ 1 _ rfl; (with_reducible repeat (first | refine blk_drewN ?_ _ | refine blk_drew ?_ | refine blk_alloc ?_ _)); refine blk_put (cs := #[.int .i64 0, .int .i64 0]) ?_ 0 _ rfl; (with_reducible repeat (first | refine blk_drewN ?_ _ | refine blk_drew ?_ | refine blk_alloc ?_ _)); exact BK251.out) Try.underlying55 rfl (by kernel_rfl)) rfl ?_
     exact ⟨by first | rfl | (simp [errW_none, errW_some] <;> rfl) | (simp [*, errW_none, errW_some] <;> rfl), by repeat (first | (with_reducible first | exact HB.out | apply below_alloc | apply pw_below_drewN | apply below_drew1 | refine below_set ?_ GE250.out | refine below_set ?_ GE251.out) | exact HB.out)⟩
    ·rw [if_neg c6] at H
     exact absurd H (by simp)
   ·rw [if_neg c5] at H
    exact absurd H (by simp)
  ·rw [if_neg c4] at H
   exact absurd H (by simp)
 ·rw [if_neg c3] at H
  exact absurd H (by simp)

/-! ### impl_renamedHand: function 49 -/
def impl_renamedHand.l0 : Nat → List Int → List (S55) → List (S55) → Int → Int → Option ((List (S55)))
 | 0, _, _, _, _, _ => none
 | k + 1, x1, x5, x9, x10, x11 => if x11 < x10 then (if 0 ≤ x11 then (if x11 < (x9.length : Int) then ((impl_Tile_renamed.f ((rd_T55 x9 x11).f0) ((rd_T55 x9 x11).f1) x1).bind fun bt261 => (if x5.length < 8796093022208 then (impl_renamedHand.l0 k x1 (x5 ++ [(⟨bt261.1, bt261.2⟩ : S55)]) x9 x10 (wrap64 (x11 + 1))) else (none))) else (none)) else (none)) else ((impl_sorted.f x5).bind fun t266 => (some t266))
def impl_renamedHand.f (k : Nat) (l0 : List (S55)) (l1 : List Int) : Option ((List (S55))) := impl_renamedHand.l0 k l1 (([] : List (S55))) l0 (l0.length : Int) 0
theorem impl_renamedHand.mono_l : ∀ k, (∀ y0 y1 y2 y3 y4, LeO (impl_renamedHand.l0 k y0 y1 y2 y3 y4) (impl_renamedHand.l0 (k + 1) y0 y1 y2 y3 y4))
 | 0 => fun _ _ _ _ _ r h => by simp [impl_renamedHand.l0] at h
 | k + 1 => by
  have ih0 := impl_renamedHand.mono_l k
  ·intro y0 y1 y2 y3 y4
   unfold impl_renamedHand.l0
   repeat' first
   | (with_reducible exact ih0 _ _ _ _ _)
   | (with_reducible exact LeO.refl _)
   | (with_reducible exact LeO.none _)
   | (with_reducible refine LeO.ite ?_ ?_)
   | (with_reducible refine LeO.bind ?_ (fun _ => ?_))
   | exact ih0 _ _ _ _ _
   | exact LeO.none _
   | refine LeO.ite ?_ ?_
   | refine LeO.bind ?_ (fun _ => ?_)
theorem impl_renamedHand.mono : ∀ a0 a1 k, LeO (impl_renamedHand.f k a0 a1) (impl_renamedHand.f (k + 1) a0 a1) := by
 intro a0 a1 k
 have ih0 := impl_renamedHand.mono_l k
 unfold impl_renamedHand.f
 repeat' first
   | (with_reducible exact ih0 _ _ _ _ _)
   | (with_reducible exact LeO.refl _)
   | (with_reducible exact LeO.none _)
   | (with_reducible refine LeO.ite ?_ ?_)
   | (with_reducible refine LeO.bind ?_ (fun _ => ?_))
   | exact ih0 _ _ _ _ _
   | exact LeO.none _
   | refine LeO.ite ?_ ?_
   | refine LeO.bind ?_ (fun _ => ?_)
set_option maxHeartbeats 8000000 in
set_option maxRecDepth 100000 in
theorem impl_renamedHand.calls (k : Nat) (A0 : Option Addr) (c0 : Nat) (l0 : List (S55)) (A1 : Option Addr) (c1 : Nat) (l1 : List Int) (r : List (S55)) (w : World) (hr0 : Kd.C k55 w A0 l0.length l0) (hc0 : l0.length ≤ c0) (hr1 : Kd.C (Kd.int .i64) w A1 l1.length l1) (hc1 : l1.length ≤ c1) (h : impl_renamedHand.f k l0 l1 = some r) :
  Calls Try.prog 49 #[.slice A0 l0.length c0, .slice A1 l1.length c1] w fun e w' => ∃ v0_ : Value, e = .returned (v0_) ∧ Kd.R k55 55 w' w.heap.size (fun _ => True) v0_ r ∧ Below w.heap.size w w' := by
 have hu55 := Try.underlying55
 have HR0 := Aside0.mk hr0
 have HC0 := Aside0.mk hc0
 clear hr0 hc0
 have HR1 := Aside0.mk hr1
 have HC1 := Aside0.mk hc1
 clear hr1 hc1
 have HB := Aside0.mk (Below.refl w.heap.size w)
 have H : (impl_renamedHand.l0 k l1 (([] : List (S55))) l0 (l0.length : Int) 0) = some r := h
 clear h
 obtain ⟨y256, hy256⟩ : ∃ y_ : List (S55), y_ = (([] : List (S55))) := ⟨_, rfl⟩
 replace H : (impl_renamedHand.l0 k l1 y256 l0 (l0.length : Int) 0) = some r := by first | (rw [hy256]; with_reducible exact H) | (have H2_ := (Option.bind_some _ _).symm.trans H; rw [hy256]; with_reducible exact H2_) | (have H2_ := (Option.bind_some _ _).symm.trans H; with_reducible exact H2_) | with_reducible exact H | (rw [hy256]; exact H) | exact H
 have Ny256 := Aside0.mk hy256
 clear hy256
 have H' := Aside0.mk H
 clear H
 go_enter Try.func49, Try.ntmps49
 go_wp2_with (first | ((with_reducible refine gate_dst (N := 8) rfl ?_); refine Kd.R_lit k55 _ 55 ?hg (N := 8) ?hd (xs := ([] : List (S55))) (inner := []) (ok := fun _ => True) (okp := fun _ => True) ?hr ?hp (fun _ hk => hk) trivial (Below.refl _ _) (Nat.le_refl _) (by simp) ?_; (case hd => rfl); (case hg => rfl); (case hr => first | (go_simp; done) | (go_simp; rfl)); (case hp => exact (Reps.none _ _)); intro v257 w3 ho4 hb hg_ hnew_; clear hg_ hnew_; (first | rw [← Ny256.out] at ho4 | (simp only [Int.reduceToNat] at ho4; rw [← Ny256.out] at ho4)); have HO258 := Aside0.mk (Kd.R_lower ho4 (below_size (by repeat (first | (with_reducible first | exact HB.out | apply below_alloc | apply pw_below_drewN | apply below_drew1) | exact HB.out)))); replace HB := Aside0.mk (below_step (by repeat (first | (with_reducible first | exact HB.out | apply below_alloc | apply pw_below_drewN | apply below_drew1) | exact HB.out)) hb); clear hb ho4))
 go_loopg [5, 11] k (fun kq v5 v11 w' => ∃ (x5_1 : List (S55)) (x11_1 : Int), v11 = .int .i64 x11_1 ∧ Aside0 (impl_renamedHand.l0 kq l1 x5_1 l0 (l0.length : Int) x11_1 = some r) ∧ Aside0 (kq ≤ k) ∧ Aside0 (Kd.R k55 55 w' w.heap.size (fun _ => True) v5 x5_1) ∧ Aside0 (Below w.heap.size w w'))
 case atStart => exact ⟨(y256), (0), (by first | rfl | (simp; done) | (simp [*]; done)), H', ⟨Nat.le_refl _⟩, ⟨by (with_reducible repeat (first | apply Kd.R_alloc | apply Kd.R_drewN | apply Kd.R_drew)); exact HO258.out⟩, ⟨by repeat (first | (with_reducible first | exact HB.out | apply below_alloc | apply pw_below_drewN | apply below_drew1) | exact HB.out)⟩⟩
 case round =>
  clear H'
  try clear c1
  try clear p2
  try clear c4
  obtain ⟨x5_1, x11_1, rfl, HA, HK1, HO_5, HB⟩ := hrel
  cases gk with
  | zero => exact absurd HA.out (by simp [impl_renamedHand.l0])
  | succ k1 =>
   have H := HA.out
   clear HA
   simp only [impl_renamedHand.l0] at H
   by_cases c5 : x11_1 < (l0.length : Int)
   ·rw [if_pos c5] at H
    have c5b0 : decide (x11_1 < (l0.length : Int)) = true := decide_eq_true c5
    clear c5
    by_cases c6 : 0 ≤ x11_1
    ·rw [if_pos c6] at H
     have c6b0 : decide (0 ≤ x11_1) = true := decide_eq_true c6
     clear c6
     by_cases c7 : x11_1 < (l0.length : Int)
     ·rw [if_pos c7] at H
      have c7b0 : decide (x11_1 < (l0.length : Int)) = true := decide_eq_true c7
      clear c7
      replace H := Option.bind_eq_some_iff.mp H
      obtain ⟨⟨t261, t262⟩, A80, H⟩ := H
      replace H : (if x5_1.length < 8796093022208 then (impl_renamedHand.l0 k1 l1 (x5_1 ++ [(⟨t261, t262⟩ : S55)]) l0 (l0.length : Int) (wrap64 (x11_1 + 1))) else (none)) = some r := H
      have A8 := Aside0.mk A80
      clear A80
      by_cases c9 : x5_1.length < 8796093022208
      ·rw [if_pos c9] at H
       have LMc9 := Aside0.mk c9
       clear c9
       obtain ⟨y263, hy263⟩ : ∃ y_ : List (S55), y_ = (x5_1 ++ [(⟨t261, t262⟩ : S55)]) := ⟨_, rfl⟩
       replace H : (impl_renamedHand.l0 k1 l1 y263 l0 (l0.length : Int) (wrap64 (x11_1 + 1))) = some r := by first | (rw [hy263]; with_reducible exact H) | (have H2_ := (Option.bind_some _ _).symm.trans H; rw [hy263]; with_reducible exact H2_) | (have H2_ := (Option.bind_some _ _).symm.trans H; with_reducible exact H2_) | with_reducible exact H | (rw [hy263]; exact H) | exact H
       have Ny263 := Aside0.mk hy263
       clear hy263
       have H' := Aside0.mk H
       clear H
       have p259 : 0 ≤ (x11_1 : Int) := of_decide_eq_true (by first | (with_reducible assumption) | assumption)
       have q259 : x11_1 < (l0.length : Int) := of_decide_eq_true (by first | (with_reducible assumption) | assumption)
       obtain ⟨ad259, e259, hx259_0, hx259_1⟩ := at_T55 HR0.out x11_1 p259 q259
       cases e259
       replace hx259_0 := (HB.out.cell (World.block_lt_of_cell? w _ hx259_0)).trans hx259_0
       replace hx259_1 := (HB.out.cell (World.block_lt_of_cell? w _ hx259_1)).trans hx259_1
       replace p259 := eq_true p259
       replace q259 := eq_true q259
       go_wp2_with (first | ((with_reducible refine gate_dst (N := 7) rfl ?_); refine box_event ?hg (N := 7) ?hd (cs := #[.int .i64 0, .int .i64 0]) (t := 55) ?hr ?_; (case hd => rfl); (case hg => rfl); (case hr => first | (go_simp; done) | (go_simp; rfl)); intro gb260 hg w10 hbox hb; replace HO_5 := Aside0.mk (Kd.R_below (Kd.R_elderB (by (with_reducible repeat (first | apply Kd.R_alloc | apply Kd.R_drewN | apply Kd.R_drew)); exact HO_5.out) gb260 (Nat.le_of_eq hg.symm)) hb); have BK260 := Aside0.mk (hbox); have GW260 := Aside0.mk ((by rw [hg]; exact (below_size (by repeat (first | (with_reducible first | exact HB.out | apply below_alloc | apply pw_below_drewN | apply below_drew1) | exact HB.out))) : w.heap.size ≤ gb260)); have GE260 := Aside0.mk ((by rw [hg]; exact (below_size (by repeat (first | (with_reducible first | exact HB.out | apply below_alloc | apply pw_below_drewN | apply below_drew1) | exact HB.out))) : w.heap.size ≤ gb260)); replace HB := Aside0.mk (below_step (by repeat (first | (with_reducible first | exact HB.out | apply below_alloc | apply pw_below_drewN | apply below_drew1) | exact HB.out)) hb); clear hb hbox hg; have hcz11_0 : w10.cell? ⟨gb260, 0, none⟩ = some (.int .i64 0) := (blk_cell BK260.out 0).trans rfl; have hcz11_1 : w10.cell? ⟨gb260, 1, none⟩ = some (.int .i64 0) := (blk_cell BK260.out 1).trans rfl; have hfz11_0 := blk_frozen BK260.out 0; have hfz11_1 := blk_frozen BK260.out 1) | ((with_reducible refine gate_callee (f := 71) rfl ?_); refine goesL_ (some 18) rfl rfl Try.func71 (by kernel_rfl) rfl #[.agg #[.int .i64 ((rd_T55 l0 x11_1).f0), .int .i64 ((rd_T55 l0 x11_1).f1)], .slice A1 l1.length c1] rfl (by (try simp only [List.map_toArray, List.map_cons, List.map_nil]); first | done | rfl | (simp only [List.length_drop, List.length_take]; rfl)) ?_; (with_reducible refine (impl_Tile_renamed.calls ((rd_T55 l0 x11_1).f0) ((rd_T55 l0 x11_1).f1) _ _ l1 t261 t262 _ ?side1 ?side2 A8.out).mono ?_); (case side1 => exact Kd.C_below HR1.out (by repeat (first | (with_reducible first | exact HB.out | apply below_alloc | apply pw_below_drewN | apply below_drew1 | refine below_set ?_ GE260.out) | exact HB.out))); (case side2 => exact HC1.out); rintro e w12 ⟨rfl, hb⟩; refine ⟨_, rfl, ?_⟩; replace HO_5 := Aside0.mk (Kd.R_below (by (with_reducible repeat (first | apply Kd.R_alloc | apply Kd.R_drewN | apply Kd.R_drew)); exact (Kd.R_mono (Kd.R_far (p := ⟨gb260, 1, none⟩) (Kd.R_far (p := ⟨gb260, 0, none⟩) (Kd.R_mono HO_5.out (fun k_ hk => (⟨hk, hk.2⟩ : _ ∧ k_ ≠ gb260))) (fun _ hk => hk.2) (.int .i64 ((rd_T55 l0 x11_1).f0))) (fun _ hk => hk.2) (.int .i64 ((rd_T55 l0 x11_1).f1))) (fun _ h_ => h_.1))) hb); replace BK260 := Aside0.mk (blk_below (g := gb260) (o := .cells #[.int .i64 ((rd_T55 l0 x11_1).f0), .int .i64 ((rd_T55 l0 x11_1).f1)] 55 (0, 0)) (by (with_reducible repeat (first | refine blk_drewN ?_ _ | refine blk_drew ?_ | refine blk_alloc ?_ _)); refine blk_put (cs := #[.int .i64 ((rd_T55 l0 x11_1).f0), .int .i64 0]) ?_ 1 _ rfl; (with_reducible repeat (first | refine blk_drewN ?_ _ | refine blk_drew ?_ | refine blk_alloc ?_ _)); refine blk_put (cs := #[.int .i64 0, .int .i64 0]) ?_ 0 _ rfl; (with_reducible repeat (first | refine blk_drewN ?_ _ | refine blk_drew ?_ | refine blk_alloc ?_ _)); exact BK260.out) hb); replace HB := Aside0.mk (below_step (by repeat (first | (with_reducible first | exact HB.out | apply below_alloc | apply pw_below_drewN | apply below_drew1 | refine below_set ?_ GE260.out) | exact HB.out)) hb); (try clear hb); (try clear hb2); (try clear hk); (try clear hi)) | ((with_reducible refine gate_builtin (b := .append) (xs := #[.tmp 15, .tmp 19]) rfl ?_); at_builtin; refine Kd.R_append k55 (w0 := w) w.heap.size rfl (.tmp 15) (.tmp 19) 23 55 (.agg #[(.int .i64 0), (.int .i64 0)]) 16 rfl Try.underlying23 info55 rfl (by decide) (by omega) u5 x5_1 (⟨t261, t262⟩ : S55) [.int .i64 t261, .int .i64 t262] (fun k_ => k_ ≠ gb260) (fun _ => False) rfl rfl ?aP (fun _ hk => hk.elim) ?aF ?aO ?aB ?aS ?aL ?_; (case aP => exact k55_mkM _ _ _ (⟨t261, t262⟩ : S55)); (case aB => exact (by repeat (first | (with_reducible first | exact HB.out | apply below_alloc | apply pw_below_drewN | apply below_drew1 | refine below_set ?_ GE260.out) | exact HB.out))); (case aF => exact (fun k_ hk => Kd.freshB (g := gb260) (o := .cells #[.int .i64 ((rd_T55 l0 x11_1).f0), .int .i64 ((rd_T55 l0 x11_1).f1)] 55 (0, 0)) (by (with_reducible repeat (first | refine blk_drewN ?_ _ | refine blk_drew ?_ | refine blk_alloc ?_ _)); exact BK260.out) k_ hk)); (case aO => exact (by (with_reducible repeat (first | apply Kd.R_alloc | apply Kd.R_drewN | apply Kd.R_drew)); exact Kd.R_mono HO_5.out (fun _ hk => hk.2))); (case aS => exact (below_size (by repeat (first | (with_reducible first | exact HB.out | apply below_alloc | apply pw_below_drewN | apply below_drew1 | refine below_set ?_ GE260.out) | exact HB.out)))); (case aL => have := LMc9.out; omega); intro v264 w13 ho hb hg hat; rw [← Ny263.out] at ho; replace BK260 := Aside0.mk (blk_grown (g := gb260) (o := .cells #[.int .i64 ((rd_T55 l0 x11_1).f0), .int .i64 ((rd_T55 l0 x11_1).f1)] 55 (0, 0)) (by (with_reducible repeat (first | refine blk_drewN ?_ _ | refine blk_drew ?_ | refine blk_alloc ?_ _)); exact BK260.out) hg (Kd.R_away HO_5.out (fun _ hk => hk.2))); replace HB := Aside0.mk (hb); have HO265 := Aside0.mk (ho); clear HO_5; clear ho hb hg hat))
       go_roundg k1
       case measure => have := HK1.out; omega
       case rel => exact ⟨(y263), (wrap64 (x11_1 + 1)), (by first | rfl | (simp; done) | (simp [*]; done)), H', ⟨by have := HK1.out; omega⟩, ⟨by (with_reducible repeat (first | apply Kd.R_alloc | apply Kd.R_drewN | apply Kd.R_drew)); exact Kd.R_mono HO265.out (fun _ hk => trivial)⟩, ⟨by repeat (first | (with_reducible first | exact HB.out | apply below_alloc | apply pw_below_drewN | apply below_drew1 | refine below_set ?_ GE260.out) | exact HB.out)⟩⟩
      ·rw [if_neg c9] at H
       exact absurd H (by simp)
     ·rw [if_neg c7] at H
      exact absurd H (by simp)
    ·rw [if_neg c6] at H
     exact absurd H (by simp)
   ·rw [if_neg c5] at H
    have c5b0 : decide (x11_1 < (l0.length : Int)) = false := decide_eq_false c5
    clear c5
    replace H := Option.bind_eq_some_iff.mp H
    obtain ⟨t266, A140, H⟩ := H
    replace H : (some t266) = some r := H
    have A14 := Aside0.mk A140
    clear A140
    obtain rfl := Option.some.inj H
    obtain ⟨Ao15, co15, eo15⟩ := Kd.R_slice HO_5.out
    subst eo15
    go_wp2_with (first | ((with_reducible refine gate_callee (f := 29) rfl ?_); refine goesL_ (some 23) rfl rfl Try.func29 (by kernel_rfl) rfl #[.slice Ao15 x5_1.length co15] rfl (by (try simp only [List.map_toArray, List.map_cons, List.map_nil]); first | done | rfl | (simp only [List.length_drop, List.length_take]; rfl)) ?_; (with_reducible refine (impl_sorted.calls _ _ x5_1 t266 _ ?side1 ?side2 A14.out).mono ?_); (case side1 => repeat (first | exact (Kd.R_reads' HO_5.out).2.2 | (with_reducible refine Kd.C_alloc ?_ _) | (with_reducible refine Kd.C_drewN ?_ _) | (with_reducible refine Kd.C_drew ?_))); (case side2 => exact (Kd.R_reads' HO_5.out).2.1); rintro e w16 ⟨v267, rfl, ho0, hb⟩; refine ⟨_, rfl, ?_⟩; have HO268 := Aside0.mk (Kd.R_lower (Kd.R_new' ho0 (Kd.R_lt (by (with_reducible repeat (first | apply Kd.R_alloc | apply Kd.R_drewN | apply Kd.R_drew)); exact HO_5.out))) (below_size (by repeat (first | (with_reducible first | exact HB.out | apply below_alloc | apply pw_below_drewN | apply below_drew1) | exact HB.out)))); replace HO_5 := Aside0.mk (Kd.R_elder' (by (with_reducible repeat (first | apply Kd.R_alloc | apply Kd.R_drewN | apply Kd.R_drew)); exact HO_5.out) (Kd.R_base ho0) hb); replace HB := Aside0.mk (below_step (by repeat (first | (with_reducible first | exact HB.out | apply below_alloc | apply pw_below_drewN | apply below_drew1) | exact HB.out)) hb); (try clear hb); (try clear hb2); (try clear hk); (try clear hi); (try clear ho0)))
    go_ret
    exact ⟨_, by first | rfl | (simp [errW_none, errW_some] <;> rfl) | (simp [*, errW_none, errW_some] <;> rfl), by (with_reducible repeat (first | apply Kd.R_alloc | apply Kd.R_drewN | apply Kd.R_drew)); exact Kd.R_mono HO268.out (fun _ hk => trivial), by repeat (first | (with_reducible first | exact HB.out | apply below_alloc | apply pw_below_drewN | apply below_drew1) | exact HB.out)⟩

end Go.Proofs.Ytncogkhhecgcbaa.QFnExactRenamePuzzle
