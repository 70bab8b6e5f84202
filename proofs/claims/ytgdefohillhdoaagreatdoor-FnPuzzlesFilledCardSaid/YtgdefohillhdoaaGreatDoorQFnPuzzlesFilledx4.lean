-- WRITTEN BY A PROGRAM OF THIS CLAIM'S AUTHOR (wprint.py)
import Derived.Test.YtgdefohillhdoaaGreatDoorQFnPuzzlesFilledx0
import Derived.Test.YtgdefohillhdoaaGreatDoorQFnPuzzlesFilledx2
import Derived.Test.YtgdefohillhdoaaGreatDoorQFnPuzzlesFilledx3
namespace Go.Proofs.YtgdefohillhdoaaGreatDoor.QFnPuzzlesFilled
open Go.RowKit Go.Proofs.YtgdefohillhdoaaGreatDoorW.PrintWords Go.Proofs.YtgdefohillhdoaaGreatDoorW.PrintLast Go.Proofs.YtgdefohillhdoaaGreatDoorW.PrintMore
attribute [local go_sem] max2_int min2_int max_two min_two max_three min_three max_four min_four   -- for this text's walks alone
set_option linter.unusedVariables false
set_option linter.unusedSimpArgs false

/-! ### spec_l1Cur_sureChain: function 67 -/
def spec_l1Cur_sureChain.l0 : Nat → Int → List Int → Int → List Int → Int → Int → Option (List Int × Int × Int)
 | 0, _, _, _, _, _, _ => none
 | k + 1, x2, x7, x8, x1000, x1001, x1002 => if x8 > 0 then ((spec_l1Own.f x7).bind fun t157 => ((spec_l1Cur_pick.f x1000 x1001 x1002 (wrap64 (x2 + 1))).bind fun bt160 => (if t157.length < 17592186044416 then ((some (t157 ++ [bt160.1] : List Int)).bind fun y163 => ((spec_haGood.f k y163).bind fun t166 => (if t166 = true then (spec_l1Cur_sureChain.l0 k x2 y163 (wrap64 (x8 - 1)) x1000 bt160.2.1 bt160.2.2) else (spec_l1Cur_sureChain.l0 k x2 x7 (wrap64 (x8 - 1)) x1000 bt160.2.1 bt160.2.2)))) else (none)))) else (some (x7, x1001, x1002))
def spec_l1Cur_sureChain.f (k : Nat) (s0_0 : List Int) (s0_1 : Int) (s0_2 : Int) (a1 : Int) (a2 : Int) : Option (List Int × Int × Int) := (spec_l1Cur_pick.f s0_0 s0_1 s0_2 (wrap64 (a2 + 1))).bind fun bt148 => ((spec_l1Cur_pick.f s0_0 bt148.2.1 bt148.2.2 (wrap64 (a1 + 1))).bind fun bt154 => (spec_l1Cur_sureChain.l0 k a2 (([bt148.1] : List Int)) bt154.1 s0_0 bt154.2.1 bt154.2.2))
/-! ### spec_tiSet: function 129 -/
mutual
def spec_tiSet.l0 : Nat → Int → List (S64) → Int → Option ((List (S64)))
 | 0, _, _, _ => none
 | k + 1, x0, x3, x4 => if x4 ≤ x0 then (spec_tiSet.l1 k x0 x3 x4 x4) else (some x3)
def spec_tiSet.l1 : Nat → Int → List (S64) → Int → Int → Option ((List (S64)))
 | 0, _, _, _, _ => none
 | k + 1, x0, x3, x4, x5 => if x5 ≤ x0 then (if x3.length < 8796093022208 then (spec_tiSet.l1 k x0 (x3 ++ [(⟨x4, x5⟩ : S64)]) x4 (wrap64 (x5 + 1))) else (none)) else (spec_tiSet.l0 k x0 x3 (wrap64 (x4 + 1)))
end
def spec_tiSet.f (k : Nat) (a0 : Int) : Option ((List (S64))) := spec_tiSet.l0 k a0 ([] : List (S64)) 0
theorem spec_tiSet.mono_l : ∀ k, (∀ y0 y1 y2, LeO (spec_tiSet.l0 k y0 y1 y2) (spec_tiSet.l0 (k + 1) y0 y1 y2)) ∧ (∀ y0 y1 y2 y3, LeO (spec_tiSet.l1 k y0 y1 y2 y3) (spec_tiSet.l1 (k + 1) y0 y1 y2 y3))
 | 0 => ⟨fun _ _ _ r h => by simp [spec_tiSet.l0] at h, fun _ _ _ _ r h => by simp [spec_tiSet.l1] at h⟩
 | k + 1 => by
  obtain ⟨ih0, ih1⟩ := spec_tiSet.mono_l k
  refine ⟨?_, ?_⟩
  ·intro y0 y1 y2
   unfold spec_tiSet.l0
   repeat' first
   | (with_reducible exact ih0 _ _ _)
   | (with_reducible exact ih1 _ _ _ _)
   | (with_reducible exact LeO.refl _)
   | (with_reducible exact LeO.none _)
   | (with_reducible refine LeO.ite ?_ ?_)
   | (with_reducible refine LeO.bind ?_ (fun _ => ?_))
   | exact ih0 _ _ _
   | exact ih1 _ _ _ _
   | exact LeO.none _
   | refine LeO.ite ?_ ?_
   | refine LeO.bind ?_ (fun _ => ?_)
  ·intro y0 y1 y2 y3
   unfold spec_tiSet.l1
   repeat' first
   | (with_reducible exact ih0 _ _ _)
   | (with_reducible exact ih1 _ _ _ _)
   | (with_reducible exact LeO.refl _)
   | (with_reducible exact LeO.none _)
   | (with_reducible refine LeO.ite ?_ ?_)
   | (with_reducible refine LeO.bind ?_ (fun _ => ?_))
   | exact ih0 _ _ _
   | exact ih1 _ _ _ _
   | exact LeO.none _
   | refine LeO.ite ?_ ?_
   | refine LeO.bind ?_ (fun _ => ?_)
theorem spec_tiSet.mono : ∀ a0 k, LeO (spec_tiSet.f k a0) (spec_tiSet.f (k + 1) a0) := by
 intro a0 k
 obtain ⟨ih0, ih1⟩ := spec_tiSet.mono_l k
 unfold spec_tiSet.f
 repeat' first
   | (with_reducible exact ih0 _ _ _)
   | (with_reducible exact ih1 _ _ _ _)
   | (with_reducible exact LeO.refl _)
   | (with_reducible exact LeO.none _)
   | (with_reducible refine LeO.ite ?_ ?_)
   | (with_reducible refine LeO.bind ?_ (fun _ => ?_))
   | exact ih0 _ _ _
   | exact ih1 _ _ _ _
   | exact LeO.none _
   | refine LeO.ite ?_ ?_
   | refine LeO.bind ?_ (fun _ => ?_)
/-! ### spec_tiPick: function 112 -/
def spec_tiPick.l0 : Nat → List (S64) → Bool → List (S64) → List (S64) → Int → Int → Option ((List (S64)))
 | 0, _, _, _, _, _, _ => none
 | k + 1, x1, x2, x7, x11, x12, x13 => if x13 < x12 then (if 0 ≤ x13 then (if x13 < (x11.length : Int) then ((spec_tiPlace.f k x1 ((rd_T64 x11 x13).f0) ((rd_T64 x11 x13).f1)).bind fun t175 => (if ((decide (t175 ≥ 0)) == x2) = true then (if x7.length < 8796093022208 then (spec_tiPick.l0 k x1 x2 (x7 ++ [(⟨(rd_T64 x11 x13).f0, (rd_T64 x11 x13).f1⟩ : S64)]) x11 x12 (wrap64 (x13 + 1))) else (none)) else (spec_tiPick.l0 k x1 x2 x7 x11 x12 (wrap64 (x13 + 1))))) else (none)) else (none)) else (some x7)
def spec_tiPick.f (k : Nat) (a0 : Int) (l1 : List (S64)) (a2 : Bool) : Option ((List (S64))) := (spec_tiSet.f k a0).bind fun t170 => (spec_tiPick.l0 k l1 a2 ([] : List (S64)) t170 (t170.length : Int) 0)
/-! ### spec_tiSort: function 83 -/
def spec_tiSort.f (k : Nat) (l0 : List (S64)) : Option ((List (S64))) := (spec_tiPick.f k 9 l0 true).bind fun t179 => (some t179)
/-! ### spec_l1Cur_surePuzzle: function 72 -/
mutual
def spec_l1Cur_surePuzzle.j0 : Nat → List Int → List Int → Int → Int → Option ((List (S64)) × List Int × Int × Int)
 | 0, _, _, _, _ => none
 | k + 1, x7, x1000, x1001, x1002 => (spec_haTiles.f k x7).bind fun t191 => ((spec_tiSort.f k t191).bind fun t194 => (spec_l1Cur_surePuzzle.l0 k x7 (x7.length : Int) 0 x1000 x1001 x1002 t194 ([] : List Int)))
def spec_l1Cur_surePuzzle.l0 : Nat → List Int → Int → Int → List Int → Int → Int → List (S64) → List Int → Option ((List (S64)) × List Int × Int × Int)
 | 0, _, _, _, _, _, _, _, _ => none
 | k + 1, x23, x24, x25, x1000, x1001, x1002, x198000, x198001 => if x25 < x24 then (if 0 ≤ x25 then (if x25 < (x23.length : Int) then ((spec_l1Cur_one.f x1000 x1001 x1002 2).bind fun bt199 => (if bt199.1 = true then (if x198001.length < 17592186044416 then (spec_l1Cur_surePuzzle.l0 k x23 x24 (wrap64 (x25 + 1)) x1000 bt199.2.1 bt199.2.2 x198000 (x198001 ++ [(-1)])) else (none)) else (if x198001.length < 17592186044416 then (spec_l1Cur_surePuzzle.l0 k x23 x24 (wrap64 (x25 + 1)) x1000 bt199.2.1 bt199.2.2 x198000 (x198001 ++ [rd x23 x25])) else (none)))) else (none)) else (none)) else (some (x198000, x198001, x1001, x1002))
end
def spec_l1Cur_surePuzzle.f (k : Nat) (s0_0 : List Int) (s0_1 : Int) (s0_2 : Int) (a1 : Int) (a2 : Int) : Option ((List (S64)) × List Int × Int × Int) := (spec_l1Cur_sureChain.f k s0_0 s0_1 s0_2 a1 a2).bind fun bt183 => (if (bt183.1.length : Int) < 2 then (spec_l1Cur_surePuzzle.j0 k (([0, 1] : List Int)) s0_0 bt183.2.1 bt183.2.2) else (spec_l1Cur_surePuzzle.j0 k bt183.1 s0_0 bt183.2.1 bt183.2.2))
/-! ### spec_l1Cur_among: function 105 -/
def spec_l1Cur_among.f (s0_0 : List Int) (s0_1 : Int) (s0_2 : Int) (l1 : List Int) : Option (Int × Int × Int) := (spec_l1Cur_pick.f s0_0 s0_1 s0_2 (l1.length : Int)).bind fun bt208 => (if 0 ≤ bt208.1 then (if bt208.1 < (l1.length : Int) then (some (rd l1 bt208.1, bt208.2.1, bt208.2.2)) else (none)) else (none))
end Go.Proofs.YtgdefohillhdoaaGreatDoor.QFnPuzzlesFilled
