-- WRITTEN BY A PROGRAM OF THIS CLAIM'S AUTHOR (wprint.py)
import Derived.Test.YtgdefohillhdoaaGreatDoorQFnPuzzlesFilledx0
import Derived.Test.YtgdefohillhdoaaGreatDoorQFnPuzzlesFilledx1
import Derived.Test.YtgdefohillhdoaaGreatDoorQFnPuzzlesFilledx7
import Derived.Test.YtgdefohillhdoaaGreatDoorQFnPuzzlesFilledx8
namespace Go.Proofs.YtgdefohillhdoaaGreatDoor.QFnPuzzlesFilled
open Go.RowKit Go.Proofs.YtgdefohillhdoaaGreatDoorW.PrintWords Go.Proofs.YtgdefohillhdoaaGreatDoorW.PrintLast Go.Proofs.YtgdefohillhdoaaGreatDoorW.PrintMore
attribute [local go_sem] max2_int min2_int max_two min_two max_three min_three max_four min_four   -- for this text's walks alone
set_option linter.unusedVariables false
set_option linter.unusedSimpArgs false

attribute [local go_sem high] eqA64
/-! ### impl_tilesOf: function 52 -/
def impl_tilesOf.l0 : Nat → List Int → List (S64) → Int → Option ((List (S64)))
 | 0, _, _, _ => none
 | k + 1, x0, x3, x4 => if x4 < (x0.length : Int) then (if 0 ≤ (wrap64 (x4 - 1)) then (if (wrap64 (x4 - 1)) < (x0.length : Int) then (if 0 ≤ x4 then ((impl_tile.f (rd x0 (wrap64 (x4 - 1))) (rd x0 x4)).bind fun bt531 => (if x3.length < 8796093022208 then (impl_tilesOf.l0 k x0 (x3 ++ [(⟨bt531.1, bt531.2⟩ : S64)]) (wrap64 (x4 + 1))) else (none))) else (none)) else (none)) else (none)) else (some x3)
def impl_tilesOf.f (k : Nat) (l0 : List Int) : Option ((List (S64))) := impl_tilesOf.l0 k l0 (([] : List (S64))) 1
/-! ### impl_IsChain: function 49 -/
def impl_IsChain.f (k : Nat) (l0 : List Int) : Option (Bool) := if (l0.length : Int) > 0 then ((impl_areWithin.f l0 0 9).bind fun t536 => (if t536 = true then ((impl_tilesOf.f k l0).bind fun t537 => ((impl_areDifferent_impl_Tile.f k t537).bind fun t540 => (some t540))) else (some false))) else (some false)
/-! ### slices_Equal_impl_Tile_impl_Tile: function 50 -/
def slices_Equal_impl_Tile_impl_Tile.l0 : Nat → List (S64) → List (S64) → Int → Int → Option (Bool)
 | 0, _, _, _, _ => none
 | k + 1, x0, x1, x12, x13 => if x13 < x12 then (if 0 ≤ x13 then (if x13 < (x0.length : Int) then (if x13 < (x1.length : Int) then (if (!(((rd_T64 x0 x13).f0) == ((rd_T64 x1 x13).f0)) || (!(((rd_T64 x0 x13).f1) == ((rd_T64 x1 x13).f1)))) = true then (some false) else (slices_Equal_impl_Tile_impl_Tile.l0 k x0 x1 x12 (wrap64 (x13 + 1)))) else (none)) else (none)) else (none)) else (some true)
def slices_Equal_impl_Tile_impl_Tile.f (k : Nat) (l0 : List (S64)) (l1 : List (S64)) : Option (Bool) := if (l0.length : Int) = (l1.length : Int) then (slices_Equal_impl_Tile_impl_Tile.l0 k l0 l1 (l0.length : Int) 0) else (some false)
/-! ### impl_sorted: function 51, by hand -/
/-! ### Sorting tiles: the shelf's contract of slices.SortFunc, told of rows of the call's own -/
section
open Go.Shelf Go.Sort Go.Lib
def smallT (x : S64) : Bool := decide (-1000000000 ≤ x.f0 ∧ x.f0 ≤ 1000000000 ∧ -1000000000 ≤ x.f1 ∧ x.f1 ≤ 1000000000)
abbrev SmT := {x : S64 // smallT x = true}
instance : Inhabited SmT := ⟨⟨⟨0, 0⟩, by decide⟩⟩
/-- Is one ahead of the other? -/
def ltT (x y : S64) : Bool := decide (x.f0 < y.f0 ∨ (x.f0 = y.f0 ∧ x.f1 < y.f1))
def encT (x : SmT) : List Value := [.int .i64 x.1.f0, .int .i64 x.1.f1]
def cfT (x y : SmT) : Int := cmpT x.1 y.1
theorem smallT_iff (x : S64) : smallT x = true ↔ -1000000000 ≤ x.f0 ∧ x.f0 ≤ 1000000000 ∧ -1000000000 ≤ x.f1 ∧ x.f1 ≤ 1000000000 := by
 unfold smallT
 simp
theorem cfT_lt (x y : SmT) : ltOf cfT x y = ltT x.1 y.1 := by
 have hx := (smallT_iff _).1 x.2
 have hy := (smallT_iff _).1 y.2
 unfold ltOf cfT cmpT ltT
 have w : ∀ n : Int, -2000000000 ≤ n → n ≤ 2000000000 → wrap64 n = n := fun n h h' => by unfold wrap64; omega
 by_cases h : x.1.f0 = y.1.f0
 ·rw [if_pos h, w _ (by omega) (by omega)]
  simp only [decide_eq_decide]
  omega
 ·rw [if_neg h, w _ (by omega) (by omega)]
  simp only [decide_eq_decide]
  omega
theorem ltT_iff (x y : S64) : ltT x y = true ↔ (x.f0 < y.f0 ∨ (x.f0 = y.f0 ∧ x.f1 < y.f1)) := by
 unfold ltT
 simp
theorem ltT_no (x y : S64) : ltT x y = false ↔ ¬ (x.f0 < y.f0 ∨ (x.f0 = y.f0 ∧ x.f1 < y.f1)) := by
 unfold ltT
 exact decide_eq_false_iff_not
theorem swoT : SWO (ltOf cfT) where
 irrefl x := by
  rw [cfT_lt, ltT_no]
  omega
 trans x y z h k := by
  rw [cfT_lt, ltT_iff] at *
  omega
 ntrans x y z h k := by
  rw [cfT_lt, ltT_no] at *
  omega
theorem totT (x y : SmT) (h : ltOf cfT x y = false) (k : ltOf cfT y x = false) : x = y := by
 rw [cfT_lt, ltT_no] at h k
 have h0 : x.1.f0 = y.1.f0 := by omega
 have h1 : x.1.f1 = y.1.f1 := by omega
 obtain ⟨⟨a, b⟩, _⟩ := x
 obtain ⟨⟨c, d⟩, _⟩ := y
 simp only at h0 h1
 subst h0 h1
 rfl
/-- The small tiles of a list of small tiles. -/
def smalls (l : List S64) (h : l.all smallT = true) : Array SmT := (l.pmap (fun x hx => (⟨x, hx⟩ : SmT)) (fun x hx => List.all_eq_true.1 h x hx)).toArray
theorem smalls_val (l : List S64) (h : l.all smallT = true) : (smalls l h).toList.map (·.1) = l := by
 unfold smalls
 rw [List.map_pmap]
 simp
theorem smalls_size (l : List S64) (h : l.all smallT = true) : (smalls l h).size = l.length := by
 unfold smalls
 simp
/-- A list of tiles in order. -/
def msort (l : List S64) : List S64 := l.mergeSort fun x y => !ltT y x
theorem smalls_sort (l : List S64) (h : l.all smallT = true) : (((smalls l h).toList.mergeSort fun x y => !(ltOf cfT) y x).map (·.1)) = msort l := by
 rw [List.map_mergeSort (s := fun x y => !ltT y x) (fun a _ b _ => by rw [cfT_lt]), smalls_val]
 rfl
/-- What a block holds once the sort has written its row. -/
theorem row_put (cur : Array Value) (d : Array SmT) (n : Nat) (hs : cur.size = n * 2) (hd : d.size ≤ n) (j : Nat) (hj : j < d.size) :
  (((putCells id 0 (flatK encT 2 d) cur).toList.drop (j * 2)).take 2) = encT d[j]! := by
 have h0 : ∀ t, t < d.size * 2 → (putCells id 0 (flatK encT 2 d) cur).toList[t]? = some ((encT d[t / 2]!)[t % 2]!) := by
  intro t ht
  rw [Array.getElem?_toList]
  unfold putCells
  rw [Array.getElem?_mapIdx, Array.getElem?_eq_getElem (by omega)]
  simp only [Option.map_some]
  rw [if_pos ⟨by omega, by rw [size_flatK]; omega⟩, Nat.sub_zero, get_flatK _ _ _ _ ht]
  rfl
 have e0 := h0 (j * 2) (by omega)
 have e1 := h0 (j * 2 + 1) (by omega)
 rw [show j * 2 / 2 = j from by omega, show j * 2 % 2 = 0 from by omega] at e0
 rw [show (j * 2 + 1) / 2 = j from by omega, show (j * 2 + 1) % 2 = 1 from by omega] at e1
 apply List.ext_getElem?
 intro i
 rw [List.getElem?_take]
 by_cases hi : i < 2
 ·rw [if_pos hi, List.getElem?_drop]
  rcases (show i = 0 ∨ i = 1 from by omega) with rfl | rfl
  ·rw [Nat.add_zero, e0]
   rfl
  ·rw [e1]
   rfl
 ·rw [if_neg hi, List.getElem?_eq_none (by simp [encT]; omega)]
/-- A row of the call's own, taken apart. -/
theorem row_open (w1 : World) (base g cap : Nat) (ok : Nat → Prop) (l : List S64) (hR : Kd.R k64 64 w1 base ok (.slice (some ⟨g, 0, none⟩) l.length cap) l) :
  ∃ cur, (∀ k, some g = some k → ok k) ∧ base ≤ g ∧ w1.heap[g]? = some (.cells cur 64 (0, 0)) ∧ l.length ≤ cap ∧ cap ≤ maxLen ∧ cur.size = cap * 2 ∧ ∀ j x, l[j]? = some x → ((cur.toList.drop (j * 2)).take 2) = [.int .i64 x.f0, .int .i64 x.f1] := by
 obtain ⟨hok, inner, ⟨hlen, hown⟩, hrep⟩ := hR
 rcases hown with ⟨hv, _⟩ | ⟨g', cap', cur, hv, hb, hh, hn, hm, hs, ht⟩
 ·cases hv
 ·injection hv with h1 h2 h3
  injection h1 with h1
  injection h1 with h1
  subst h1
  subst h3
  refine ⟨cur, hok, hb, hh, hn, hm, hs, fun j x hj => ?_⟩
  have hjl : j < l.length := (List.getElem?_eq_some_iff.1 hj).1
  obtain ⟨c0, c1, hc, e0, e1⟩ := hrep.2 j x hj
  have e0' : c0 = [.int .i64 x.f0] := e0
  have e1' : c1 = [.int .i64 x.f1] := e1
  have hc' : (inner.drop (j * 2)).take 2 = c0 ++ c1 := hc
  rw [e0', e1', ← ht] at hc'
  have hk : l.length * (k64 : Kd S64).sz = l.length * 2 := rfl
  rw [hk, List.drop_take, List.take_take, Nat.min_eq_left (by omega)] at hc'
  exact hc'
/-- The sort's row: held ahead, and the call's own still behind it. -/
theorem sort_holds (w1 : World) (base g cap : Nat) (ok : Nat → Prop) (l : List S64) (hR : Kd.R k64 64 w1 base ok (.slice (some ⟨g, 0, none⟩) l.length cap) l) (d : Array SmT) (hd : d.toList.map (·.1) = l) :
  HoldsK encT 2 w1 g 0 d ∧ g < w1.heap.size := by
 obtain ⟨cur, _, _, hh, hn, _, hs, hc⟩ := row_open w1 base g cap ok l hR
 have hds : d.size = l.length := by rw [← hd]; simp
 refine ⟨fun t ht => ?_, ?_⟩
 ·rw [size_flatK] at ht
  rw [get_flatK _ _ _ _ ht]
  have hj : t / 2 < d.size := by omega
  have hx : l[t / 2]? = some (d[t / 2]!).1 := by
   rw [← hd, List.getElem?_map, Array.getElem?_toList, Array.getElem?_eq_getElem hj]
   simp only [Option.map_some]
   rw [getElem!_pos d (t / 2) hj]
  have h2 := hc (t / 2) _ hx
  have h3 : cur.toList[t]? = (encT d[t / 2]!)[t % 2]? := by
   have := congrArg (fun z => z[t % 2]?) h2
   simp only [List.getElem?_take, List.getElem?_drop, if_pos (show t % 2 < 2 from by omega), show t / 2 * 2 + t % 2 = t from by omega] at this
   exact this
  have h4 : (encT d[t / 2]!)[t % 2]? = some ((encT d[t / 2]!)[t % 2]!) := by
   rcases (show t % 2 = 0 ∨ t % 2 = 1 from by omega) with e | e <;> rw [e] <;> rfl
  constructor
  ·show w1.cell? ⟨g, 0 + t, none⟩ = some (id ((encT d[t / 2]!)[t % 2]!))
   rw [Nat.zero_add]
   unfold World.cell?
   rw [hh]
   show cur[t]? = _
   rw [← Array.getElem?_toList, h3, h4]
   rfl
  ·show w1.frozen? ⟨g, 0 + t, none⟩ = false
   unfold World.frozen?
   rw [hh]
   simp
 ·exact (Array.getElem?_eq_some_iff.1 hh).1
theorem sort_row (w1 : World) (base g cap : Nat) (ok : Nat → Prop) (l : List S64) (hR : Kd.R k64 64 w1 base ok (.slice (some ⟨g, 0, none⟩) l.length cap) l) (d : Array SmT) (hd : d.size = l.length) (n : Nat) (os : Array Obj) :
  Kd.R k64 64 (sortWorldK encT 2 w1 g 0 n d os) base ok (.slice (some ⟨g, 0, none⟩) l.length cap) (d.toList.map (·.1)) ∧ Go.RowKit.Below base w1 (sortWorldK encT 2 w1 g 0 n d os) := by
 obtain ⟨cur, hok, hb, hh, hn, hm, hs, hc⟩ := row_open w1 base g cap ok l hR
 have hg : g < w1.heap.size := (Array.getElem?_eq_some_iff.1 hh).1
 have hhp : (sortWorldK encT 2 w1 g 0 n d os).heap = w1.heap.modify g (onCells (putCells id 0 (flatK encT 2 d))) ++ os := rfl
 have hblk : (sortWorldK encT 2 w1 g 0 n d os).heap[g]? = some (.cells (putCells id 0 (flatK encT 2 d) cur) 64 (0, 0)) := by
  rw [hhp, Array.getElem?_append_left (by simpa using hg), Array.getElem?_modify, if_pos rfl, hh]
  rfl
 have hsz : (putCells id 0 (flatK encT 2 d) cur).size = cap * 2 := by
  unfold putCells
  rw [Array.size_mapIdx, hs]
 have hl2 : (d.toList.map (·.1)).length = l.length := by simp [hd]
 refine ⟨⟨hok, (putCells id 0 (flatK encT 2 d) cur).toList.take (l.length * 2), ⟨?_, .inr ⟨g, cap, _, by rw [hl2], hb, hblk, by rw [hl2]; exact hn, hm, hsz, by rw [hl2]; rfl⟩⟩, ?_, ?_⟩, rfl, rfl, rfl, ?_, ?_⟩
 ·rw [hl2]
  show (List.take (l.length * 2) _).length = l.length * 2
  have hz : (putCells id 0 (flatK encT 2 d) cur).toList.length = cap * 2 := hsz
  rw [List.length_take, hz]
  omega
 ·rw [hl2]
  show (List.take (l.length * 2) _).length = l.length * 2
  have hz : (putCells id 0 (flatK encT 2 d) cur).toList.length = cap * 2 := hsz
  rw [List.length_take, hz]
  omega
 ·intro j x hj
  have hjl : j < d.size := by
   have := (List.getElem?_eq_some_iff.1 hj).1
   simpa using this
  rw [List.getElem?_map, Array.getElem?_toList, Array.getElem?_eq_getElem hjl] at hj
  simp only [Option.map_some, Option.some.injEq] at hj
  have h2 := row_put cur d cap hs (by omega) j hjl
  show ∃ c0 c1, ((List.take (l.length * 2) _).drop (j * 2)).take 2 = c0 ++ c1 ∧ c0 = [Value.int .i64 x.f0] ∧ c1 = [Value.int .i64 x.f1]
  rw [List.drop_take, List.take_take, Nat.min_eq_left (by omega), h2]
  refine ⟨_, _, ?_, rfl, rfl⟩
  rw [getElem!_pos d j hjl, ← hj]
  rfl
 ·rw [hhp]
  simp
 ·intro k hk
  rw [hhp, Array.getElem?_append_left (by simp; omega), Array.getElem?_modify, if_neg (by omega)]
set_option maxHeartbeats 1000000 in
/-- compareTiles, in whatever world: it may lay blocks. -/
theorem cmpT_lays (x y : S64) (W : World) : Calls Tryz.prog 47 #[.agg #[.int .i64 x.f0, .int .i64 x.f1], .agg #[.int .i64 y.f0, .int .i64 y.f1]] W fun e w' => e = .returned (.int .i64 (cmpT x y)) ∧ ∃ q os', w' = grow (W.drewN q) os' := by
 unfold cmpT
 by_cases h : x.f0 = y.f0
 ·rw [if_pos h]
  go_enter Tryz.func47, Tryz.ntmps47
  go_wp2
  go_ret
  exact ⟨rfl, 0, _, by rw [alloc_eq_grow, alloc_eq_grow, grow_grow]; rfl⟩
 ·rw [if_neg h]
  go_enter Tryz.func47, Tryz.ntmps47
  go_wp2
  go_ret
  exact ⟨rfl, 0, _, by rw [alloc_eq_grow, alloc_eq_grow, grow_grow]; rfl⟩
theorem msort_nil : msort [] = [] := by
 unfold msort
 simp
/-- slices.SortFunc at a row of the call's own: it stays the call's own, and is in order. -/
theorem sortT (w : World) (base : Nat) (ok : Nat → Prop) (v : Value) (l : List S64) (hs : l.all smallT = true) (hl : l.length < 4611686018427387904) (hR : Kd.R k64 64 w base ok v l) :
  Calls Tryz.prog 94 #[v, .func (.func 47) #[] #[]] w fun e w' => e = .returned (.tuple #[]) ∧ Kd.R k64 64 w' base ok v (msort l) ∧ Go.RowKit.Below base w w' := by
 have hv : ∃ p cap, v = .slice p l.length cap ∧ (0 < l.length → ∃ g, p = some ⟨g, 0, none⟩) := by
  obtain ⟨_, inner, ⟨_, hown⟩, _⟩ := hR
  rcases hown with ⟨hv, hn⟩ | ⟨g, cap, cur, hv, _⟩
  ·exact ⟨none, 0, by rw [hv, hn], fun h => by omega⟩
  ·exact ⟨_, cap, hv, fun _ => ⟨g, rfl⟩⟩
 obtain ⟨p, cap, rfl, hp⟩ := hv
 by_cases h0 : l = []
 ·subst h0
  refine (Tryz.slices_SortFunc_none (α := Nat) p cap (.func (.func 47) #[] #[]) w).mono ?_
  rintro e w' ⟨he, rfl⟩
  exact ⟨he, by rw [msort_nil]; exact hR, Go.RowKit.Below.refl _ _⟩
 ·have hpos : 0 < l.length := List.length_pos_iff.2 h0
  obtain ⟨g, rfl⟩ := hp hpos
  obtain ⟨hH, hg⟩ := sort_holds w base g cap ok l hR (smalls l hs) (smalls_val l hs)
  have hsz := smalls_size l hs
  have hcmp : CmpLays Tryz.prog 47 #[] encT 2 cfT g 0 (smalls l hs).size w := fun _ _ _ _ x y => cmpT_lays x.1 y.1 _
  have hcon := Tryz.slices_SortFunc_total 2 Tryz.isAgg64 Tryz.sizeOf64 encT (fun _ => rfl) (fun x u hu => by simp [encT] at hu; rcases hu with rfl | rfl <;> rfl) cfT swoT 47 #[] g 0 cap (smalls l hs) w (enters_of Tryz.func47 (by kernel_rfl) rfl) hcmp hH hg (by omega) totT
  rw [hsz] at hcon
  refine hcon.mono ?_
  rintro e w' ⟨he, n, os, rfl⟩
  have hq : ((smalls l hs).toList.mergeSort fun x y => !(ltOf cfT) y x).toArray.size = l.length := by simp [hsz]
  obtain ⟨r1, r2⟩ := sort_row w base g cap ok l hR _ hq n os
  rw [List.toList_toArray, smalls_sort] at r1
  exact ⟨he, r1, r2⟩
end
/-- A list of tiles, sorted, in memory of its own. -/
def impl_sorted.f (l0 : List S64) : Option (List S64) := (slices_Clone_impl_Tile_impl_Tile.f l0).bind fun _ => if l0.all smallT = true then some (msort l0) else none
set_option maxHeartbeats 1000000 in
theorem impl_sorted.calls (A0 : Option Addr) (c0 : Nat) (l0 : List S64) (r : List S64) (w : World) (hr0 : Kd.C k64 w A0 l0.length l0) (hc0 : l0.length ≤ c0) (h : impl_sorted.f l0 = some r) :
  Calls Tryz.prog 51 #[.slice A0 l0.length c0] w fun e w' => ∃ v0_ : Value, e = .returned (v0_) ∧ Kd.R k64 64 w' w.heap.size (fun _ => True) v0_ r ∧ Below w.heap.size w w' := by
 unfold impl_sorted.f at h
 obtain ⟨t, ht, h⟩ := Option.bind_eq_some_iff.1 h
 have hl : l0.length < 8796093022208 := by
  unfold slices_Clone_impl_Tile_impl_Tile.f at ht
  by_cases hl : l0.length < 8796093022208
  ·exact hl
  ·rw [if_neg hl] at ht
   cases ht
 obtain rfl : l0 = t := by
  unfold slices_Clone_impl_Tile_impl_Tile.f at ht
  rw [if_pos hl] at ht
  exact Option.some.inj ht
 by_cases hs : l0.all smallT = true
 ·rw [if_pos hs] at h
  obtain rfl := Option.some.inj h
  have hcl := slices_Clone_impl_Tile_impl_Tile.calls A0 c0 l0 l0 w hr0 hc0 ht
  have hso := fun (W : World) (v : Value) (hR : Kd.R k64 64 W w.heap.size (fun _ => True) v l0) => sortT W w.heap.size (fun _ => True) v l0 hs (by omega) hR
  have HR := Lib.hid hr0
  clear hr0 h ht
  go_enter Tryz.func51, Tryz.ntmps51
  go_wp2_with (first
   | (go_at_call 54; refine hcl.mono ?_; rintro e w1 ⟨v1, rfl, ho1, hb1⟩)
   | (go_at_call 94; refine (hso _ _ ho1).mono ?_; rintro e w2 ⟨rfl, ho2, hb2⟩))
  go_ret
  exact ⟨_, rfl, ho2, hb1.trans hb2⟩
 ·rw [if_neg hs] at h
  cases h


end Go.Proofs.YtgdefohillhdoaaGreatDoor.QFnPuzzlesFilled
