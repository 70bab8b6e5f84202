-- WRITTEN BY A PROGRAM OF THIS CLAIM'S AUTHOR (wprint.py)
import Derived.Test.YtgdefohillhdoaaGreatDoorQFnPuzzlesFilledx0
import Derived.Test.YtgdefohillhdoaaGreatDoorQFnPuzzlesFilledx7
import Derived.Test.YtgdefohillhdoaaGreatDoorQFnPuzzlesFilledx8
namespace Go.Proofs.YtgdefohillhdoaaGreatDoor.QFnPuzzlesFilled
open Go.RowKit Go.Proofs.YtgdefohillhdoaaGreatDoorW.PrintWords Go.Proofs.YtgdefohillhdoaaGreatDoorW.PrintLast Go.Proofs.YtgdefohillhdoaaGreatDoorW.PrintMore
attribute [local go_sem] max2_int min2_int max_two min_two max_three min_three max_four min_four   -- for this text's walks alone
set_option linter.unusedVariables false
set_option linter.unusedSimpArgs false

/-! ### impl_Puzzle_solutions: function 35, by hand -/
/-! ### Blocks of two types alone are written: all others stay -/
def KeepT (ta tb : Nat) (W W' : World) : Prop := W.heap.size ≤ W'.heap.size ∧ ∀ i, i < W.heap.size → (∀ cells t, W.heap[i]? = some (.cells cells t (0, 0)) → t ≠ ta ∧ t ≠ tb) → W'.heap[i]? = W.heap[i]?
theorem KeepT.refl (ta tb : Nat) (W : World) : KeepT ta tb W W := ⟨Nat.le_refl _, fun _ _ _ => rfl⟩
theorem KeepT.trans {ta tb : Nat} {W W1 W2 : World} (h : KeepT ta tb W W1) (k : KeepT ta tb W1 W2) : KeepT ta tb W W2 :=
 ⟨Nat.le_trans h.1 k.1, fun i hi ht => by
  have e := h.2 i hi ht
  exact (k.2 i (Nat.lt_of_lt_of_le hi h.1) (fun cells t hc => ht cells t (by rw [← e]; exact hc))).trans e⟩
theorem KeepT.below {ta tb : Nat} {W W' : World} (h : Below W.heap.size W W') : KeepT ta tb W W' := ⟨h.size, fun i hi _ => h.block i hi⟩
theorem KeepT.grown {ta tb : Nat} {W W' : World} {row : Option Nat} (h : W.grownBy W' row) (hr : ∀ k, row = some k → ∃ cells t, W.heap[k]? = some (.cells cells t (0, 0)) ∧ (t = ta ∨ t = tb)) : KeepT ta tb W W' :=
 ⟨h.size, fun i hi ht => h.block i hi (fun e => by
  obtain ⟨cells, t, hc, h1⟩ := hr i e.symm
  have := ht cells t hc
  rcases h1 with h1 | h1
  ·exact this.1 h1
  ·exact this.2 h1)⟩
theorem KeepT.set {ta tb : Nat} {W : World} {g : Nat} {cs : Array Value} {t : Nat} (hc : W.heap[g]? = some (.cells cs t (0, 0))) (h1 : t = ta ∨ t = tb) (j : Nat) (u : Value) : KeepT ta tb W (W.setCell ⟨g, j, none⟩ u) :=
 ⟨by rw [World.size_setCell]; exact Nat.le_refl _, fun i hi ht => Below.heap_setCell W ⟨g, j, none⟩ u i (fun e => by
  have e2 : i = g := e
  subst e2
  have := ht cs t hc
  rcases h1 with h1 | h1
  ·exact this.1 h1
  ·exact this.2 h1)⟩
theorem KeepT.row {ta tb : Nat} {α : Type} {d : Kd α} {e base : Nat} {ok : Nat → Prop} {W W' : World} {v : Value} {xs : List α} (h : KeepT ta tb W W') (hR : d.R e W base ok v xs) (ht : ∀ q, q ∈ e :: d.E → q ≠ ta ∧ q ≠ tb) : d.R e W' base ok v xs :=
 Kd.R_mono (Kd.R_move (Kd.R_bound hR) (fun k hk => h.2 k hk.2.2.1 (fun cells t hc => by
  obtain ⟨q, hq, cells', hc'⟩ := hk.2.2.2
  rw [hc'] at hc
  injection hc with hc
  injection hc with _ e
  subst e
  exact ht _ hq))) (fun _ hk => hk.1)
theorem KeepT.row_of {ta tb : Nat} {α : Type} {d : Kd α} {e base : Nat} {ok : Nat → Prop} {W W' : World} {v : Value} {xs : List α} (hR : d.R e W base ok v xs) (hg : W.grownBy W' v.ownBlock) (he : e = ta ∨ e = tb) : KeepT ta tb W W' :=
 KeepT.grown hg (fun k hk => by
  obtain ⟨cells, hc⟩ := Kd.R_typed hR k hk
  exact ⟨cells, e, hc, he⟩)
/-! ### the search for solutions: the literal that calls itself -/
structure impl_Puzzle_solutions_1.At (w : World) (Bp Bo Ba : Nat) (Ah : Option Addr) (ch : Nat) (hand : List S64) (Ac : Option Addr) (cc : Nat) (pch : List Int) (W : World) : Prop where
 below : Below w.heap.size w W
 hands : Kd.C k64 w Ah hand.length hand
 handc : hand.length ≤ ch
 pchs : Kd.C (Kd.int .i64) w Ac pch.length pch
 pchc : pch.length ≤ cc
 bp : W.heap[Bp]? = some (.cells #[.slice Ah hand.length ch, .slice Ac pch.length cc] 27 (0, 0))
 ba : W.heap[Ba]? = some (.cells #[.func (.func 75) #[] #[.pointer (some ⟨Bo, 0, none⟩), .pointer (some ⟨Bp, 0, none⟩), .pointer (some ⟨Ba, 0, none⟩)]] 89 (0, 0))
 bo : w.heap.size ≤ Bo
structure impl_Puzzle_solutions_1.Loop (w : World) (Bo : Nat) (ok : Nat → Prop) (vch : Value) (W wr : World) (vo : Value) (out : List (List Int)) : Prop where
 below : Below w.heap.size w wr
 keep : KeepT 29 25 W wr
 cell : wr.heap[Bo]? = some (.cells #[vo] 29 (0, 0))
 rows : Kd.S (Kd.slice 3 (Kd.int .i64)) 25 wr w.heap.size (fun k => ok k ∧ some k ≠ vch.ownBlock) vo out
/-! ### all solutions -/
def slices_Delete_impl_Tile.f (l : List S64) (a1 a2 : Int) : Option (List S64) := if 0 ≤ a1 ∧ a1 < l.length ∧ a2 = a1 + 1 then some (l.eraseIdx a1.toNat) else none
mutual
def g75_impl_Puzzle_solutions_1.l0 : Nat → List Int → List (S64) → List (S64) → List Int → List (List Int) → Int → Option (Bool × List (List Int))
 | 0, _, _, _, _, _, _ => none
 | k + 1, x0, x1, l3, l4, y0, x20 => if x20 < 10 then ((impl_Puzzle_fits.f l3 l4 (x0.length : Int) x20).bind fun b1 => (if b1 = true then (if 0 ≤ (wrap64 ((x0.length : Int) - 1)) then (if (wrap64 ((x0.length : Int) - 1)) < (x0.length : Int) then ((impl_tile.f (rd x0 (wrap64 ((x0.length : Int) - 1))) x20).bind fun b2 => ((slices_Index_impl_Tile_impl_Tile.f k x1 b2.1 b2.2).bind fun b3 => (if b3 ≥ 0 then ((slices_Clone_int_int.f x0).bind fun b4 => (if b4.length < 17592186044416 then ((slices_Clone_impl_Tile_impl_Tile.f x1).bind fun b5 => ((slices_Delete_impl_Tile.f b5 b3 (wrap64 (b3 + 1))).bind fun b6 => ((g75_impl_Puzzle_solutions_1.f k (b4 ++ ([x20])) b6 y0 l3 l4).bind fun b7 => (if b7.1 = true then (g75_impl_Puzzle_solutions_1.l0 k x0 x1 l3 l4 b7.2 (wrap64 (x20 + 1))) else (some (false, b7.2)))))) else (none))) else (g75_impl_Puzzle_solutions_1.l0 k x0 x1 l3 l4 y0 (wrap64 (x20 + 1)))))) else (none)) else (none)) else (g75_impl_Puzzle_solutions_1.l0 k x0 x1 l3 l4 y0 (wrap64 (x20 + 1))))) else (some (true, y0))
def g75_impl_Puzzle_solutions_1.f : Nat → List Int → List (S64) → List (List Int) → List (S64) → List Int → Option (Bool × List (List Int))
 | 0, _, _, _, _, _ => none
 | k + 1, l0, l1, l2, l3, l4 => if (l1.length : Int) = 0 then (if l2.length < 5864062014805 then (some ((decide (((l2 ++ ([l0])).length : Int) ≤ 200)), (l2 ++ ([l0])))) else (none)) else (g75_impl_Puzzle_solutions_1.l0 k l0 l1 l3 l4 l2 0)
end
mutual
def impl_Puzzle_solutions.l0 : Nat → List (S64) → List Int → List (List Int) → Int → Option (List (List Int) × Bool)
 | 0, _, _, _, _ => none
 | k + 1, y0, y1, y2, x9 => if x9 < 10 then ((impl_Puzzle_fits.f y0 y1 0 x9).bind fun b1 => (if b1 = true then ((g75_impl_Puzzle_solutions_1.f k ([x9]) y0 y2 y0 y1).bind fun b2 => (if b2.1 = true then (impl_Puzzle_solutions.l0 k y0 y1 b2.2 (wrap64 (x9 + 1))) else (some ([], false)))) else (impl_Puzzle_solutions.l0 k y0 y1 y2 (wrap64 (x9 + 1))))) else (some (y2, true))
end
def impl_Puzzle_solutions.f (k : Nat) (l0 : List (S64)) (l1 : List Int) : Option (List (List Int) × Bool) := impl_Puzzle_solutions.l0 k l0 l1 ([] : List (List Int)) 0


/-! ### impl_Solutions: function 6 -/
def impl_Solutions.f (k : Nat) (l0_0 : List (S64)) (l0_1 : List Int) : Option ((List (List Int)) × Bool) := (impl_IsPuzzle.f k l0_0 l0_1).bind fun t358 => (if t358 = true then ((impl_Puzzle_solutions.f k l0_0 l0_1).bind fun bt359 => (some (bt359.1, bt359.2))) else (some (([] : List (List Int)), false)))
end Go.Proofs.YtgdefohillhdoaaGreatDoor.QFnPuzzlesFilled
