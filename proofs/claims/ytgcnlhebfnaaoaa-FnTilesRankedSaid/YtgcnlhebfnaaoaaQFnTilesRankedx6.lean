-- WRITTEN BY A PROGRAM OF THIS CLAIM'S AUTHOR (wprint.py)
import Derived.Test.YtgcnlhebfnaaoaaQFnTilesRankedx0
import Derived.Test.YtgcnlhebfnaaoaaQFnTilesRankedx1
import Derived.Test.YtgcnlhebfnaaoaaQFnTilesRankedx2
import Derived.Test.YtgcnlhebfnaaoaaQFnTilesRankedx3
import Derived.Test.YtgcnlhebfnaaoaaQFnTilesRankedx4
import Derived.Test.YtgcnlhebfnaaoaaQFnTilesRankedx5
namespace Go.Proofs.Ytgcnlhebfnaaoaa.QFnTilesRanked
open Go.RowKit Go.Proofs.YtgcnlhebfnaaoaaW.PrintWords Go.Proofs.YtgcnlhebfnaaoaaW.PrintLast Go.Proofs.YtgcnlhebfnaaoaaW.PrintMore
attribute [local go_sem] max2_int min2_int max_two min_two max_three min_three max_four min_four   -- for this text's walks alone
set_option linter.unusedVariables false
set_option linter.unusedSimpArgs false

attribute [local go_sem high] eqA25
/-! ### laws_FnTilesRanked: function 3 -/
mutual
def laws_FnTilesRanked.j0 : Nat → List Int → Int → Bool → Bool → Int → Int → Option (Bool)
  | 0, _, _, _, _, _, _ => none
  | k + 1, x1, x6, x7, x75, x280000, x280001 => if x75 = true then (none) else (if x7 = true then ((impl_TileOfRank.f k x6).bind fun bt287 => ((impl_TileOf.f x280001 x280000).bind fun bt291 => (if bt287.2.2 = true then (if (!(bt287.1 == x280000) || (!(bt287.2.1 == x280001))) = true then (none) else (if bt291.2.2 = true then (if (!(bt291.1 == x280000) || (!(bt291.2.1 == x280001))) = true then (none) else (laws_FnTilesRanked.j1 k x1)) else (none))) else (none)))) else (laws_FnTilesRanked.j1 k x1))
def laws_FnTilesRanked.j1 : Nat → List Int → Option (Bool)
  | 0, _ => none
  | k + 1, x1 => (spec_DrawTileOfRank.f x1).bind fun t295 => ((impl_TileOfRank.f k t295).bind fun bt296 => ((spec_TileOfRank.f k t295).bind fun bt300 => ((spec_DrawTileOf.f x1).bind fun bt304 => ((impl_TileOf.f bt304.1 bt304.2).bind fun bt306 => ((spec_TileOf.f bt304.1 bt304.2).bind fun bt310 => ((spec_DrawSetOf.f x1).bind fun t314 => ((impl_SetOf.f k t314).bind fun bt315 => ((spec_SetOf.f k t314).bind fun bt319 => ((impl_CountSet.f k t314).bind fun bt323 => ((spec_CountSet.f t314).bind fun bt325 => (if (bt296.2.2 != bt300.2.2) = true then (laws_FnTilesRanked.j2 k t295 bt296.2.2 t314 bt315.1 bt315.2 bt323.1 true bt296.1 bt296.2.1) else (if (!(bt296.1 == bt300.1) || (!(bt296.2.1 == bt300.2.1))) = true then (laws_FnTilesRanked.j2 k t295 bt296.2.2 t314 bt315.1 bt315.2 bt323.1 true bt296.1 bt296.2.1) else (if (bt306.2.2 != bt310.2.2) = true then (laws_FnTilesRanked.j2 k t295 bt296.2.2 t314 bt315.1 bt315.2 bt323.1 true bt296.1 bt296.2.1) else (if (!(bt306.1 == bt310.1) || (!(bt306.2.1 == bt310.2.1))) = true then (laws_FnTilesRanked.j2 k t295 bt296.2.2 t314 bt315.1 bt315.2 bt323.1 true bt296.1 bt296.2.1) else (if (bt315.2 != bt319.2) = true then (laws_FnTilesRanked.j2 k t295 bt296.2.2 t314 bt315.1 bt315.2 bt323.1 true bt296.1 bt296.2.1) else ((laws_mTiles.f k bt315.1 bt319.1).bind fun t327 => (if t327 = true then (if (bt323.2 != bt325.2) = true then (laws_FnTilesRanked.j2 k t295 bt296.2.2 t314 bt315.1 bt315.2 bt323.1 true bt296.1 bt296.2.1) else (if bt323.1 = bt325.1 then (laws_FnTilesRanked.j2 k t295 bt296.2.2 t314 bt315.1 bt315.2 bt323.1 (bt323.2 != bt315.2) bt296.1 bt296.2.1) else (laws_FnTilesRanked.j2 k t295 bt296.2.2 t314 bt315.1 bt315.2 bt323.1 true bt296.1 bt296.2.1))) else (laws_FnTilesRanked.j2 k t295 bt296.2.2 t314 bt315.1 bt315.2 bt323.1 true bt296.1 bt296.2.1))))))))))))))))))
def laws_FnTilesRanked.j2 : Nat → Int → Bool → Int → List (S25) → Bool → Int → Bool → Int → Int → Option (Bool)
  | 0, _, _, _, _, _, _, _, _, _ => none
  | k + 1, x14, x16, x25, x26, x27, x30, x200, x300000, x300001 => if x200 = true then (none) else (if x27 = true then ((impl_PipsOf.f k x26).bind fun bt328 => (if (x26.length : Int) = x30 then (if bt328.2 = true then (laws_FnTilesRanked.j3 k x14 x16 x25 x26 (bt328.1 != (wrap64 ((wrap64 (Int.tdiv (wrap64 (x25 * (wrap64 (x25 + 1)))) 2)) * (wrap64 (x25 + 2))))) x300000 x300001) else (laws_FnTilesRanked.j3 k x14 x16 x25 x26 true x300000 x300001)) else (laws_FnTilesRanked.j3 k x14 x16 x25 x26 true x300000 x300001))) else (if x16 = true then ((impl_RankOf.f k x300000 x300001).bind fun bt335 => (if bt335.2 = true then (some (bt335.1 == x14)) else (none))) else (some true)))
def laws_FnTilesRanked.j3 : Nat → Int → Bool → Int → List (S25) → Bool → Int → Int → Option (Bool)
  | 0, _, _, _, _, _, _, _ => none
  | k + 1, x14, x16, x25, x26, x226, x300000, x300001 => if x226 = true then (none) else (laws_FnTilesRanked.l0 k x14 x16 x25 x26 (x26.length : Int) 0 x300000 x300001)
def laws_FnTilesRanked.l0 : Nat → Int → Bool → Int → List (S25) → Int → Int → Int → Int → Option (Bool)
  | 0, _, _, _, _, _, _, _, _ => none
  | k + 1, x14, x16, x25, x227, x228, x229, x300000, x300001 => if x229 < x228 then (if 0 ≤ x229 then (if x229 < (x227.length : Int) then (if ((rd_T25 x227 x229).f1) > x25 then (none) else ((impl_IsTile.f ((rd_T25 x227 x229).f0) ((rd_T25 x227 x229).f1)).bind fun t332 => (if t332 = true then (laws_FnTilesRanked.l0 k x14 x16 x25 x227 x228 (wrap64 (x229 + 1)) x300000 x300001) else (none)))) else (none)) else (none)) else (if x16 = true then ((impl_RankOf.f k x300000 x300001).bind fun bt333 => (if bt333.2 = true then (some (bt333.1 == x14)) else (none))) else (some true))
end
def laws_FnTilesRanked.f (k : Nat) (l0 : List Int) (l1 : List Int) : Option (Bool) := (laws_big.f l0 l1).bind fun t276 => (if t276 = true then (some true) else ((spec_DrawRankOf.f l0).bind fun bt277 => ((impl_RankOf.f k bt277.1 bt277.2).bind fun bt280 => ((spec_RankOf.f k bt277.1 bt277.2).bind fun bt282 => (if (bt280.2 != bt282.2) = true then (laws_FnTilesRanked.j0 k l1 bt280.1 bt280.2 true bt277.1 bt277.2) else (if bt280.1 = bt282.1 then ((impl_IsTile.f bt277.1 bt277.2).bind fun t284 => (if (bt280.2 != t284) = true then (laws_FnTilesRanked.j0 k l1 bt280.1 bt280.2 true bt277.1 bt277.2) else ((impl_IsTile.f bt277.1 bt277.2).bind fun t285 => ((spec_IsTile.f bt277.1 bt277.2).bind fun t286 => (laws_FnTilesRanked.j0 k l1 bt280.1 bt280.2 (t285 != t286) bt277.1 bt277.2))))) else (laws_FnTilesRanked.j0 k l1 bt280.1 bt280.2 true bt277.1 bt277.2)))))))
theorem laws_FnTilesRanked.mono_l : ∀ k, (∀ y0 y1 y2 y3 y4 y5, LeO (laws_FnTilesRanked.j0 k y0 y1 y2 y3 y4 y5) (laws_FnTilesRanked.j0 (k + 1) y0 y1 y2 y3 y4 y5)) ∧ (∀ y0, LeO (laws_FnTilesRanked.j1 k y0) (laws_FnTilesRanked.j1 (k + 1) y0)) ∧ (∀ y0 y1 y2 y3 y4 y5 y6 y7 y8, LeO (laws_FnTilesRanked.j2 k y0 y1 y2 y3 y4 y5 y6 y7 y8) (laws_FnTilesRanked.j2 (k + 1) y0 y1 y2 y3 y4 y5 y6 y7 y8)) ∧ (∀ y0 y1 y2 y3 y4 y5 y6, LeO (laws_FnTilesRanked.j3 k y0 y1 y2 y3 y4 y5 y6) (laws_FnTilesRanked.j3 (k + 1) y0 y1 y2 y3 y4 y5 y6)) ∧ (∀ y0 y1 y2 y3 y4 y5 y6 y7, LeO (laws_FnTilesRanked.l0 k y0 y1 y2 y3 y4 y5 y6 y7) (laws_FnTilesRanked.l0 (k + 1) y0 y1 y2 y3 y4 y5 y6 y7))
  | 0 => ⟨fun _ _ _ _ _ _ r h => by simp [laws_FnTilesRanked.j0] at h, fun _ r h => by simp [laws_FnTilesRanked.j1] at h, fun _ _ _ _ _ _ _ _ _ r h => by simp [laws_FnTilesRanked.j2] at h, fun _ _ _ _ _ _ _ r h => by simp [laws_FnTilesRanked.j3] at h, fun _ _ _ _ _ _ _ _ r h => by simp [laws_FnTilesRanked.l0] at h⟩
  | k + 1 => by
    obtain ⟨ih0, ih1, ih2, ih3, ih4⟩ := laws_FnTilesRanked.mono_l k
    refine ⟨?_, ?_, ?_, ?_, ?_⟩
    · intro y0 y1 y2 y3 y4 y5
      unfold laws_FnTilesRanked.j0
      repeat' first
      | (with_reducible exact ih0 _ _ _ _ _ _)
      | (with_reducible exact ih1 _)
      | (with_reducible exact ih2 _ _ _ _ _ _ _ _ _)
      | (with_reducible exact ih3 _ _ _ _ _ _ _)
      | (with_reducible exact ih4 _ _ _ _ _ _ _ _)
      | (with_reducible exact impl_CountSet.mono _ _)
      | (with_reducible exact impl_PipsOf.mono _ _)
      | (with_reducible exact impl_RankOf.mono _ _ _)
      | (with_reducible exact impl_SetOf.mono _ _)
      | (with_reducible exact impl_TileOfRank.mono _ _)
      | (with_reducible exact laws_mTiles.mono _ _ _)
      | (with_reducible exact spec_RankOf.mono _ _ _)
      | (with_reducible exact spec_SetOf.mono _ _)
      | (with_reducible exact spec_TileOfRank.mono _ _)
      | (with_reducible exact LeO.refl _)
      | (with_reducible exact LeO.none _)
      | (with_reducible refine LeO.ite ?_ ?_)
      | (with_reducible refine LeO.bind ?_ (fun _ => ?_))
      | exact ih0 _ _ _ _ _ _
      | exact ih1 _
      | exact ih2 _ _ _ _ _ _ _ _ _
      | exact ih3 _ _ _ _ _ _ _
      | exact ih4 _ _ _ _ _ _ _ _
      | exact impl_CountSet.mono _ _
      | exact impl_PipsOf.mono _ _
      | exact impl_RankOf.mono _ _ _
      | exact impl_SetOf.mono _ _
      | exact impl_TileOfRank.mono _ _
      | exact laws_mTiles.mono _ _ _
      | exact spec_RankOf.mono _ _ _
      | exact spec_SetOf.mono _ _
      | exact spec_TileOfRank.mono _ _
      | exact LeO.none _
      | refine LeO.ite ?_ ?_
      | refine LeO.bind ?_ (fun _ => ?_)
    · intro y0
      unfold laws_FnTilesRanked.j1
      repeat' first
      | (with_reducible exact ih0 _ _ _ _ _ _)
      | (with_reducible exact ih1 _)
      | (with_reducible exact ih2 _ _ _ _ _ _ _ _ _)
      | (with_reducible exact ih3 _ _ _ _ _ _ _)
      | (with_reducible exact ih4 _ _ _ _ _ _ _ _)
      | (with_reducible exact impl_CountSet.mono _ _)
      | (with_reducible exact impl_PipsOf.mono _ _)
      | (with_reducible exact impl_RankOf.mono _ _ _)
      | (with_reducible exact impl_SetOf.mono _ _)
      | (with_reducible exact impl_TileOfRank.mono _ _)
      | (with_reducible exact laws_mTiles.mono _ _ _)
      | (with_reducible exact spec_RankOf.mono _ _ _)
      | (with_reducible exact spec_SetOf.mono _ _)
      | (with_reducible exact spec_TileOfRank.mono _ _)
      | (with_reducible exact LeO.refl _)
      | (with_reducible exact LeO.none _)
      | (with_reducible refine LeO.ite ?_ ?_)
      | (with_reducible refine LeO.bind ?_ (fun _ => ?_))
      | exact ih0 _ _ _ _ _ _
      | exact ih1 _
      | exact ih2 _ _ _ _ _ _ _ _ _
      | exact ih3 _ _ _ _ _ _ _
      | exact ih4 _ _ _ _ _ _ _ _
      | exact impl_CountSet.mono _ _
      | exact impl_PipsOf.mono _ _
      | exact impl_RankOf.mono _ _ _
      | exact impl_SetOf.mono _ _
      | exact impl_TileOfRank.mono _ _
      | exact laws_mTiles.mono _ _ _
      | exact spec_RankOf.mono _ _ _
      | exact spec_SetOf.mono _ _
      | exact spec_TileOfRank.mono _ _
      | exact LeO.none _
      | refine LeO.ite ?_ ?_
      | refine LeO.bind ?_ (fun _ => ?_)
    · intro y0 y1 y2 y3 y4 y5 y6 y7 y8
      unfold laws_FnTilesRanked.j2
      repeat' first
      | (with_reducible exact ih0 _ _ _ _ _ _)
      | (with_reducible exact ih1 _)
      | (with_reducible exact ih2 _ _ _ _ _ _ _ _ _)
      | (with_reducible exact ih3 _ _ _ _ _ _ _)
      | (with_reducible exact ih4 _ _ _ _ _ _ _ _)
      | (with_reducible exact impl_CountSet.mono _ _)
      | (with_reducible exact impl_PipsOf.mono _ _)
      | (with_reducible exact impl_RankOf.mono _ _ _)
      | (with_reducible exact impl_SetOf.mono _ _)
      | (with_reducible exact impl_TileOfRank.mono _ _)
      | (with_reducible exact laws_mTiles.mono _ _ _)
      | (with_reducible exact spec_RankOf.mono _ _ _)
      | (with_reducible exact spec_SetOf.mono _ _)
      | (with_reducible exact spec_TileOfRank.mono _ _)
      | (with_reducible exact LeO.refl _)
      | (with_reducible exact LeO.none _)
      | (with_reducible refine LeO.ite ?_ ?_)
      | (with_reducible refine LeO.bind ?_ (fun _ => ?_))
      | exact ih0 _ _ _ _ _ _
      | exact ih1 _
      | exact ih2 _ _ _ _ _ _ _ _ _
      | exact ih3 _ _ _ _ _ _ _
      | exact ih4 _ _ _ _ _ _ _ _
      | exact impl_CountSet.mono _ _
      | exact impl_PipsOf.mono _ _
      | exact impl_RankOf.mono _ _ _
      | exact impl_SetOf.mono _ _
      | exact impl_TileOfRank.mono _ _
      | exact laws_mTiles.mono _ _ _
      | exact spec_RankOf.mono _ _ _
      | exact spec_SetOf.mono _ _
      | exact spec_TileOfRank.mono _ _
      | exact LeO.none _
      | refine LeO.ite ?_ ?_
      | refine LeO.bind ?_ (fun _ => ?_)
    · intro y0 y1 y2 y3 y4 y5 y6
      unfold laws_FnTilesRanked.j3
      repeat' first
      | (with_reducible exact ih0 _ _ _ _ _ _)
      | (with_reducible exact ih1 _)
      | (with_reducible exact ih2 _ _ _ _ _ _ _ _ _)
      | (with_reducible exact ih3 _ _ _ _ _ _ _)
      | (with_reducible exact ih4 _ _ _ _ _ _ _ _)
      | (with_reducible exact impl_CountSet.mono _ _)
      | (with_reducible exact impl_PipsOf.mono _ _)
      | (with_reducible exact impl_RankOf.mono _ _ _)
      | (with_reducible exact impl_SetOf.mono _ _)
      | (with_reducible exact impl_TileOfRank.mono _ _)
      | (with_reducible exact laws_mTiles.mono _ _ _)
      | (with_reducible exact spec_RankOf.mono _ _ _)
      | (with_reducible exact spec_SetOf.mono _ _)
      | (with_reducible exact spec_TileOfRank.mono _ _)
      | (with_reducible exact LeO.refl _)
      | (with_reducible exact LeO.none _)
      | (with_reducible refine LeO.ite ?_ ?_)
      | (with_reducible refine LeO.bind ?_ (fun _ => ?_))
      | exact ih0 _ _ _ _ _ _
      | exact ih1 _
      | exact ih2 _ _ _ _ _ _ _ _ _
      | exact ih3 _ _ _ _ _ _ _
      | exact ih4 _ _ _ _ _ _ _ _
      | exact impl_CountSet.mono _ _
      | exact impl_PipsOf.mono _ _
      | exact impl_RankOf.mono _ _ _
      | exact impl_SetOf.mono _ _
      | exact impl_TileOfRank.mono _ _
      | exact laws_mTiles.mono _ _ _
      | exact spec_RankOf.mono _ _ _
      | exact spec_SetOf.mono _ _
      | exact spec_TileOfRank.mono _ _
      | exact LeO.none _
      | refine LeO.ite ?_ ?_
      | refine LeO.bind ?_ (fun _ => ?_)
    · intro y0 y1 y2 y3 y4 y5 y6 y7
      unfold laws_FnTilesRanked.l0
      repeat' first
      | (with_reducible exact ih0 _ _ _ _ _ _)
      | (with_reducible exact ih1 _)
      | (with_reducible exact ih2 _ _ _ _ _ _ _ _ _)
      | (with_reducible exact ih3 _ _ _ _ _ _ _)
      | (with_reducible exact ih4 _ _ _ _ _ _ _ _)
      | (with_reducible exact impl_CountSet.mono _ _)
      | (with_reducible exact impl_PipsOf.mono _ _)
      | (with_reducible exact impl_RankOf.mono _ _ _)
      | (with_reducible exact impl_SetOf.mono _ _)
      | (with_reducible exact impl_TileOfRank.mono _ _)
      | (with_reducible exact laws_mTiles.mono _ _ _)
      | (with_reducible exact spec_RankOf.mono _ _ _)
      | (with_reducible exact spec_SetOf.mono _ _)
      | (with_reducible exact spec_TileOfRank.mono _ _)
      | (with_reducible exact LeO.refl _)
      | (with_reducible exact LeO.none _)
      | (with_reducible refine LeO.ite ?_ ?_)
      | (with_reducible refine LeO.bind ?_ (fun _ => ?_))
      | exact ih0 _ _ _ _ _ _
      | exact ih1 _
      | exact ih2 _ _ _ _ _ _ _ _ _
      | exact ih3 _ _ _ _ _ _ _
      | exact ih4 _ _ _ _ _ _ _ _
      | exact impl_CountSet.mono _ _
      | exact impl_PipsOf.mono _ _
      | exact impl_RankOf.mono _ _ _
      | exact impl_SetOf.mono _ _
      | exact impl_TileOfRank.mono _ _
      | exact laws_mTiles.mono _ _ _
      | exact spec_RankOf.mono _ _ _
      | exact spec_SetOf.mono _ _
      | exact spec_TileOfRank.mono _ _
      | exact LeO.none _
      | refine LeO.ite ?_ ?_
      | refine LeO.bind ?_ (fun _ => ?_)
theorem laws_FnTilesRanked.mono : ∀ a0 a1 k, LeO (laws_FnTilesRanked.f k a0 a1) (laws_FnTilesRanked.f (k + 1) a0 a1) := by
  intro a0 a1 k
  obtain ⟨ih0, ih1, ih2, ih3, ih4⟩ := laws_FnTilesRanked.mono_l k
  unfold laws_FnTilesRanked.f
  repeat' first
      | (with_reducible exact ih0 _ _ _ _ _ _)
      | (with_reducible exact ih1 _)
      | (with_reducible exact ih2 _ _ _ _ _ _ _ _ _)
      | (with_reducible exact ih3 _ _ _ _ _ _ _)
      | (with_reducible exact ih4 _ _ _ _ _ _ _ _)
      | (with_reducible exact impl_CountSet.mono _ _)
      | (with_reducible exact impl_PipsOf.mono _ _)
      | (with_reducible exact impl_RankOf.mono _ _ _)
      | (with_reducible exact impl_SetOf.mono _ _)
      | (with_reducible exact impl_TileOfRank.mono _ _)
      | (with_reducible exact laws_mTiles.mono _ _ _)
      | (with_reducible exact spec_RankOf.mono _ _ _)
      | (with_reducible exact spec_SetOf.mono _ _)
      | (with_reducible exact spec_TileOfRank.mono _ _)
      | (with_reducible exact LeO.refl _)
      | (with_reducible exact LeO.none _)
      | (with_reducible refine LeO.ite ?_ ?_)
      | (with_reducible refine LeO.bind ?_ (fun _ => ?_))
      | exact ih0 _ _ _ _ _ _
      | exact ih1 _
      | exact ih2 _ _ _ _ _ _ _ _ _
      | exact ih3 _ _ _ _ _ _ _
      | exact ih4 _ _ _ _ _ _ _ _
      | exact impl_CountSet.mono _ _
      | exact impl_PipsOf.mono _ _
      | exact impl_RankOf.mono _ _ _
      | exact impl_SetOf.mono _ _
      | exact impl_TileOfRank.mono _ _
      | exact laws_mTiles.mono _ _ _
      | exact spec_RankOf.mono _ _ _
      | exact spec_SetOf.mono _ _
      | exact spec_TileOfRank.mono _ _
      | exact LeO.none _
      | refine LeO.ite ?_ ?_
      | refine LeO.bind ?_ (fun _ => ?_)
def laws_FnTilesRanked.T6 : Bool × List (List Nat × List Nat) := (true, [([], []), ([], []), ([0, 1], [0, 1]), ([2], [2]), ([3], [3]), ([3], [3]), ([4, 5, 3], [3, 4, 5]), ([3, 6], [3, 6]), ([7, 3], [7]), ([8], [8]), ([8], [8]), ([10, 8, 8], [8, 10]), ([9, 11, 8], [8, 9, 11]), ([8, 12], [8, 12]), ([13, 11], [13]), ([14], [14]), ([15, 14, 14], [14, 15]), ([14], [14]), ([17, 16, 14], [14, 17]), ([16, 18, 14], [14, 16, 18]), ([14, 19], [14, 19])])
def laws_FnTilesRanked.B6 : List Nat := [0, 0, 3, 7, 15, 15, 63, 127, 255, 511, 511, 1535, 4095, 8191, 16383, 32767, 65535, 32767, 262143, 524287, 1048575]
theorem laws_FnTilesRanked.tab6 : rtab .any (opsOf Try.f3 6) = laws_FnTilesRanked.T6 := by kernel_rfl
theorem laws_FnTilesRanked.bits6 : waitsOk laws_FnTilesRanked.T6.2 laws_FnTilesRanked.B6 = true := by kernel_rfl
set_option maxHeartbeats 8000000 in
set_option maxRecDepth 100000 in
theorem laws_FnTilesRanked.calls (k : Nat) (A0 : Option Addr) (c0 : Nat) (l0 : List Int) (A1 : Option Addr) (c1 : Nat) (l1 : List Int) (r : Bool) (w : World) (hr0 : Kd.C (Kd.int .u8) w A0 l0.length l0) (hc0 : l0.length ≤ c0) (hr1 : Kd.C (Kd.int .u8) w A1 l1.length l1) (hc1 : l1.length ≤ c1) (h : laws_FnTilesRanked.f k l0 l1 = some r) :
    Calls Try.prog 3 #[.slice A0 l0.length c0, .slice A1 l1.length c1] w fun e w' => e = .returned (.bool r) ∧ Below w.heap.size w w' := by
  have hu25 := Try.underlying25
  have HR0 := Aside0.mk hr0
  have HC0 := Aside0.mk hc0
  clear hr0 hc0
  have HR1 := Aside0.mk hr1
  have HC1 := Aside0.mk hc1
  clear hr1 hc1
  have HB := Aside0.mk (Below.refl w.heap.size w)
  have H : ((laws_big.f l0 l1).bind fun t276 => (if t276 = true then (some true) else ((spec_DrawRankOf.f l0).bind fun bt277 => ((impl_RankOf.f k bt277.1 bt277.2).bind fun bt280 => ((spec_RankOf.f k bt277.1 bt277.2).bind fun bt282 => (if (bt280.2 != bt282.2) = true then (laws_FnTilesRanked.j0 k l1 bt280.1 bt280.2 true bt277.1 bt277.2) else (if bt280.1 = bt282.1 then ((impl_IsTile.f bt277.1 bt277.2).bind fun t284 => (if (bt280.2 != t284) = true then (laws_FnTilesRanked.j0 k l1 bt280.1 bt280.2 true bt277.1 bt277.2) else ((impl_IsTile.f bt277.1 bt277.2).bind fun t285 => ((spec_IsTile.f bt277.1 bt277.2).bind fun t286 => (laws_FnTilesRanked.j0 k l1 bt280.1 bt280.2 (t285 != t286) bt277.1 bt277.2))))) else (laws_FnTilesRanked.j0 k l1 bt280.1 bt280.2 true bt277.1 bt277.2)))))))) = some r := h
  clear h
  replace H := Option.bind_eq_some_iff.mp H
  obtain ⟨t276, A30, H⟩ := H
  replace H : (if t276 = true then (some true) else ((spec_DrawRankOf.f l0).bind fun bt277 => ((impl_RankOf.f k bt277.1 bt277.2).bind fun bt280 => ((spec_RankOf.f k bt277.1 bt277.2).bind fun bt282 => (if (bt280.2 != bt282.2) = true then (laws_FnTilesRanked.j0 k l1 bt280.1 bt280.2 true bt277.1 bt277.2) else (if bt280.1 = bt282.1 then ((impl_IsTile.f bt277.1 bt277.2).bind fun t284 => (if (bt280.2 != t284) = true then (laws_FnTilesRanked.j0 k l1 bt280.1 bt280.2 true bt277.1 bt277.2) else ((impl_IsTile.f bt277.1 bt277.2).bind fun t285 => ((spec_IsTile.f bt277.1 bt277.2).bind fun t286 => (laws_FnTilesRanked.j0 k l1 bt280.1 bt280.2 (t285 != t286) bt277.1 bt277.2))))) else (laws_FnTilesRanked.j0 k l1 bt280.1 bt280.2 true bt277.1 bt277.2))))))) = some r := H
  have A3 := Aside0.mk A30
  clear A30
  by_cases c4 : t276 = true
  · subst c4
    have H1 : (some true) = some r := by rw [if_pos rfl] at H; exact H
    clear H
    have H := H1
    clear H1
    obtain rfl := Option.some.inj H
    go_enter Try.func3, Try.ntmps3
    go_wp2_with (first | ((with_reducible refine gate_callee (f := 15) rfl ?_); refine goesL_ (some 42) rfl rfl Try.func15 (by kernel_rfl) rfl #[.slice A0 l0.length c0, .slice A1 l1.length c1] rfl (by (try simp only [List.map_toArray, List.map_cons, List.map_nil]); first | done | rfl | (simp only [List.length_drop, List.length_take]; rfl)) ?_; (with_reducible refine (laws_big.calls _ _ l0 _ _ l1 true _ ?side1 ?side2 ?side3 ?side4 A3.out).mono ?_); (case side1 => repeat (first | exact HR0.out | (with_reducible refine Kd.C_alloc ?_ _) | (with_reducible refine Kd.C_drewN ?_ _) | (with_reducible refine Kd.C_drew ?_))); (case side2 => exact HC0.out); (case side3 => repeat (first | exact HR1.out | (with_reducible refine Kd.C_alloc ?_ _) | (with_reducible refine Kd.C_drewN ?_ _) | (with_reducible refine Kd.C_drew ?_))); (case side4 => exact HC1.out); rintro e w' ⟨rfl, ⟨nd, rfl⟩⟩; refine ⟨_, rfl, ?_⟩))
    go_ret
    exact ⟨by first | rfl | (simp [errW_none, errW_some] <;> rfl) | (simp [*, errW_none, errW_some] <;> rfl), by repeat (first | (with_reducible first | exact HB.out | apply below_alloc | apply pw_below_drewN | apply below_drew1) | exact HB.out)⟩
  · replace c4 := Bool.eq_false_iff.mpr c4
    subst c4
    have H1 : ((spec_DrawRankOf.f l0).bind fun bt277 => ((impl_RankOf.f k bt277.1 bt277.2).bind fun bt280 => ((spec_RankOf.f k bt277.1 bt277.2).bind fun bt282 => (if (bt280.2 != bt282.2) = true then (laws_FnTilesRanked.j0 k l1 bt280.1 bt280.2 true bt277.1 bt277.2) else (if bt280.1 = bt282.1 then ((impl_IsTile.f bt277.1 bt277.2).bind fun t284 => (if (bt280.2 != t284) = true then (laws_FnTilesRanked.j0 k l1 bt280.1 bt280.2 true bt277.1 bt277.2) else ((impl_IsTile.f bt277.1 bt277.2).bind fun t285 => ((spec_IsTile.f bt277.1 bt277.2).bind fun t286 => (laws_FnTilesRanked.j0 k l1 bt280.1 bt280.2 (t285 != t286) bt277.1 bt277.2))))) else (laws_FnTilesRanked.j0 k l1 bt280.1 bt280.2 true bt277.1 bt277.2)))))) = some r := by rw [if_neg (show ¬ (false = true) by decide)] at H; exact H
    clear H
    have H := H1
    clear H1
    replace H := Option.bind_eq_some_iff.mp H
    obtain ⟨⟨t277, t278⟩, A50, H⟩ := H
    replace H : ((impl_RankOf.f k t277 t278).bind fun bt280 => ((spec_RankOf.f k t277 t278).bind fun bt282 => (if (bt280.2 != bt282.2) = true then (laws_FnTilesRanked.j0 k l1 bt280.1 bt280.2 true t277 t278) else (if bt280.1 = bt282.1 then ((impl_IsTile.f t277 t278).bind fun t284 => (if (bt280.2 != t284) = true then (laws_FnTilesRanked.j0 k l1 bt280.1 bt280.2 true t277 t278) else ((impl_IsTile.f t277 t278).bind fun t285 => ((spec_IsTile.f t277 t278).bind fun t286 => (laws_FnTilesRanked.j0 k l1 bt280.1 bt280.2 (t285 != t286) t277 t278))))) else (laws_FnTilesRanked.j0 k l1 bt280.1 bt280.2 true t277 t278))))) = some r := H
    have A5 := Aside0.mk A50
    clear A50
    replace H := Option.bind_eq_some_iff.mp H
    obtain ⟨⟨t280, t281⟩, A60, H⟩ := H
    replace H : ((spec_RankOf.f k t277 t278).bind fun bt282 => (if (t281 != bt282.2) = true then (laws_FnTilesRanked.j0 k l1 t280 t281 true t277 t278) else (if t280 = bt282.1 then ((impl_IsTile.f t277 t278).bind fun t284 => (if (t281 != t284) = true then (laws_FnTilesRanked.j0 k l1 t280 t281 true t277 t278) else ((impl_IsTile.f t277 t278).bind fun t285 => ((spec_IsTile.f t277 t278).bind fun t286 => (laws_FnTilesRanked.j0 k l1 t280 t281 (t285 != t286) t277 t278))))) else (laws_FnTilesRanked.j0 k l1 t280 t281 true t277 t278)))) = some r := H
    have A6 := Aside0.mk A60
    clear A60
    replace H := Option.bind_eq_some_iff.mp H
    obtain ⟨⟨t282, t283⟩, A70, H⟩ := H
    replace H : (if (t281 != t283) = true then (laws_FnTilesRanked.j0 k l1 t280 t281 true t277 t278) else (if t280 = t282 then ((impl_IsTile.f t277 t278).bind fun t284 => (if (t281 != t284) = true then (laws_FnTilesRanked.j0 k l1 t280 t281 true t277 t278) else ((impl_IsTile.f t277 t278).bind fun t285 => ((spec_IsTile.f t277 t278).bind fun t286 => (laws_FnTilesRanked.j0 k l1 t280 t281 (t285 != t286) t277 t278))))) else (laws_FnTilesRanked.j0 k l1 t280 t281 true t277 t278))) = some r := H
    have A7 := Aside0.mk A70
    clear A70
    have HC8 := Aside0.mk H
    clear H
    go_enter Try.func3, Try.ntmps3
    go_upto_region 6 with (first | ((with_reducible refine gate_callee (f := 15) rfl ?_); refine goesL_ (some 42) rfl rfl Try.func15 (by kernel_rfl) rfl #[.slice A0 l0.length c0, .slice A1 l1.length c1] rfl (by (try simp only [List.map_toArray, List.map_cons, List.map_nil]); first | done | rfl | (simp only [List.length_drop, List.length_take]; rfl)) ?_; (with_reducible refine (laws_big.calls _ _ l0 _ _ l1 false _ ?side1 ?side2 ?side3 ?side4 A3.out).mono ?_); (case side1 => repeat (first | exact HR0.out | (with_reducible refine Kd.C_alloc ?_ _) | (with_reducible refine Kd.C_drewN ?_ _) | (with_reducible refine Kd.C_drew ?_))); (case side2 => exact HC0.out); (case side3 => repeat (first | exact HR1.out | (with_reducible refine Kd.C_alloc ?_ _) | (with_reducible refine Kd.C_drewN ?_ _) | (with_reducible refine Kd.C_drew ?_))); (case side4 => exact HC1.out); rintro e w' ⟨rfl, ⟨nd, rfl⟩⟩; refine ⟨_, rfl, ?_⟩) | ((with_reducible refine gate_callee (f := 16) rfl ?_); refine goesL_ (some 44) rfl rfl Try.func16 (by kernel_rfl) rfl #[.slice A0 l0.length c0] rfl (by (try simp only [List.map_toArray, List.map_cons, List.map_nil]); first | done | rfl | (simp only [List.length_drop, List.length_take]; rfl)) ?_; (with_reducible refine (spec_DrawRankOf.calls _ _ l0 t277 t278 _ ?side1 ?side2 A5.out).mono ?_); (case side1 => repeat (first | exact HR0.out | (with_reducible refine Kd.C_alloc ?_ _) | (with_reducible refine Kd.C_drewN ?_ _) | (with_reducible refine Kd.C_drew ?_))); (case side2 => exact HC0.out); rintro e w9 ⟨rfl, hb⟩; refine ⟨_, rfl, ?_⟩; replace HB := Aside0.mk (below_step (by repeat (first | (with_reducible first | exact HB.out | apply below_alloc | apply pw_below_drewN | apply below_drew1) | exact HB.out)) hb); (try clear hb); (try clear hb2); (try clear hk); (try clear hi)) | ((with_reducible refine gate_dst (N := 5) rfl ?_); refine box_event ?hg (N := 5) ?hd (cs := #[.int .i64 0, .int .i64 0]) (t := 25) ?hr ?_; (case hd => rfl); (case hg => rfl); (case hr => first | (go_simp; done) | (go_simp; rfl)); intro gb279 hg w10 hbox hb; have BK279 := Aside0.mk (hbox); have GW279 := Aside0.mk ((by rw [hg]; exact (below_size (by repeat (first | (with_reducible first | exact HB.out | apply below_alloc | apply pw_below_drewN | apply below_drew1) | exact HB.out))) : w.heap.size ≤ gb279)); have GE279 := Aside0.mk ((by rw [hg]; exact (below_size (by repeat (first | (with_reducible first | exact HB.out | apply below_alloc | apply pw_below_drewN | apply below_drew1) | exact HB.out))) : w.heap.size ≤ gb279)); replace HB := Aside0.mk (below_step (by repeat (first | (with_reducible first | exact HB.out | apply below_alloc | apply pw_below_drewN | apply below_drew1) | exact HB.out)) hb); clear hb hbox hg; have hcz11_0 : w10.cell? ⟨gb279, 0, none⟩ = some (.int .i64 0) := (blk_cell BK279.out 0).trans rfl; have hcz11_1 : w10.cell? ⟨gb279, 1, none⟩ = some (.int .i64 0) := (blk_cell BK279.out 1).trans rfl; have hfz11_0 := blk_frozen BK279.out 0; have hfz11_1 := blk_frozen BK279.out 1) | ((with_reducible refine gate_callee (f := 17) rfl ?_); refine goesL_ (some 47) rfl rfl Try.func17 (by kernel_rfl) rfl #[.agg #[.int .i64 t277, .int .i64 t278]] rfl (by (try simp only [List.map_toArray, List.map_cons, List.map_nil]); first | done | rfl | (simp only [List.length_drop, List.length_take]; rfl)) ?_; (with_reducible refine (impl_RankOf.calls k t277 t278 t280 t281 _ A6.out).mono ?_); rintro e w12 ⟨rfl, hb⟩; refine ⟨_, rfl, ?_⟩; replace BK279 := Aside0.mk (blk_below (g := gb279) (o := .cells #[.int .i64 t277, .int .i64 t278] 25 (0, 0)) (by (with_reducible repeat (first | refine blk_drewN ?_ _ | refine blk_drew ?_ | refine blk_alloc ?_ _)); refine blk_put (cs := #[.int .i64 t277, .int .i64 0]) ?_ 1 _ rfl; (with_reducible repeat (first | refine blk_drewN ?_ _ | refine blk_drew ?_ | refine blk_alloc ?_ _)); refine blk_put (cs := #[.int .i64 0, .int .i64 0]) ?_ 0 _ rfl; (with_reducible repeat (first | refine blk_drewN ?_ _ | refine blk_drew ?_ | refine blk_alloc ?_ _)); exact BK279.out) hb); replace HB := Aside0.mk (below_step (by repeat (first | (with_reducible first | exact HB.out | apply below_alloc | apply pw_below_drewN | apply below_drew1 | refine below_set ?_ GE279.out) | exact HB.out)) hb); (try clear hb); (try clear hb2); (try clear hk); (try clear hi); have hcz13_0 : w12.cell? ⟨gb279, 0, none⟩ = some (.int .i64 t277) := (blk_cell BK279.out 0).trans rfl; have hcz13_1 : w12.cell? ⟨gb279, 1, none⟩ = some (.int .i64 t278) := (blk_cell BK279.out 1).trans rfl; have hfz13_0 := blk_frozen BK279.out 0; have hfz13_1 := blk_frozen BK279.out 1) | ((with_reducible refine gate_callee (f := 18) rfl ?_); refine goesL_ (some 52) rfl rfl Try.func18 (by kernel_rfl) rfl #[.agg #[.int .i64 t277, .int .i64 t278]] rfl (by (try simp only [List.map_toArray, List.map_cons, List.map_nil]); first | done | rfl | (simp only [List.length_drop, List.length_take]; rfl)) ?_; (with_reducible refine (spec_RankOf.calls k t277 t278 t282 t283 _ A7.out).mono ?_); rintro e w14 ⟨rfl, hb⟩; refine ⟨_, rfl, ?_⟩; replace BK279 := Aside0.mk (blk_below (g := gb279) (o := .cells #[.int .i64 t277, .int .i64 t278] 25 (0, 0)) (by (with_reducible repeat (first | refine blk_drewN ?_ _ | refine blk_drew ?_ | refine blk_alloc ?_ _)); exact BK279.out) hb); replace HB := Aside0.mk (below_step (by repeat (first | (with_reducible first | exact HB.out | apply below_alloc | apply pw_below_drewN | apply below_drew1 | refine below_set ?_ GE279.out) | exact HB.out)) hb); (try clear hb); (try clear hb2); (try clear hk); (try clear hi)))
    (try simp only [Act.put, List.setIfInBounds_toArray, List.set_cons_zero, List.set_cons_succ])
    go_cut [75] (fun v75 wc => ∃ (kq : Nat) (x75_7 : Bool), v75 = .bool x75_7 ∧ Aside0 (laws_FnTilesRanked.j0 kq l1 t280 t281 x75_7 t277 t278 = some r) ∧ Aside0 (kq ≤ k) ∧ Aside0 (wc.heap[gb279]? = some (.cells #[.int .i64 t277, .int .i64 t278] 25 (0, 0))) ∧ Aside0 (Below w.heap.size w wc))
    case first => as_aux_lemma =>
      have H := HC8.out
      clear HC8
      by_cases c15 : (t281 != t283) = true
      · rw [if_pos c15] at H
        have c15b0 : (t281 != t283) = true := c15
        (try (have c15b1 : decide (t281 = t283) = false := by simpa using c15))
        (try (have c15b2 : (t281 == t283) = false := by simpa using c15))
        (try (have c15b3 : ¬ (t281 = t283) := by simpa using c15))
        clear c15
        (first | rw [c15b0] | (simp only [i64_w, i32_w]; rw [c15b0]) | skip)
        have H' := Aside0.mk H
        clear H
        try go_wp2
        replace BK279 := Aside0.mk (blk_drew BK279.out)
        replace HB := Aside0.mk (below_drew1 HB.out)
        refine start_ (n := 21) (S := fun w' => True) (ds := []) #[false, false, false, false, false, false, false, false, false, false, false, false, false, false, false, false, false, false, false, false, false] (by kernel_rfl) rfl rfl trivial (fun hHeld => ?_); refine with_tabW laws_FnTilesRanked.tab6 laws_FnTilesRanked.bits6 (fun HT_ HW_ => ?_)
        generalize w14.drew = w16 at BK279 HB hHeld ⊢
        refine pure_ (i := 0) (N := some 55) (v := ?_) (a' := ?_) #[true, false, false, false, false, false, false, false, false, false, false, false, false, false, false, false, false, false, false, false, false] rfl rfl (any_of HT_.out (by kernel_rfl)) (fun _ _ _ h => h) (Or.inl ⟨by rfl, ?_⟩) ?_ ?_
        rotate_left
        · intro w'
          go_simp
          with_reducible rfl
        rotate_left
        · simp only [Act.put, List.setIfInBounds_toArray, List.set_cons_zero, List.set_cons_succ, i64_w, i32_w]
          rfl
        refine pure_ (i := 1) (N := some 56) (v := ?_) (a' := ?_) #[true, true, false, false, false, false, false, false, false, false, false, false, false, false, false, false, false, false, false, false, false] rfl rfl (any_of HT_.out (by kernel_rfl)) (fun _ _ _ h => h) (Or.inl ⟨by rfl, ?_⟩) ?_ ?_
        rotate_left
        · intro w'
          go_simp
          with_reducible rfl
        rotate_left
        · simp only [Act.put, List.setIfInBounds_toArray, List.set_cons_zero, List.set_cons_succ, i64_w, i32_w]
          rfl
        refine pure_ (i := 2) (N := some 57) (v := ?_) (a' := ?_) #[true, true, true, false, false, false, false, false, false, false, false, false, false, false, false, false, false, false, false, false, false] rfl rfl (any_of HT_.out (by kernel_rfl)) (fun _ _ _ h => h) (Or.inl ⟨by rfl, ?_⟩) ?_ ?_
        rotate_left
        · intro w'
          go_simp
          with_reducible rfl
        rotate_left
        · simp only [Act.put, List.setIfInBounds_toArray, List.set_cons_zero, List.set_cons_succ, i64_w, i32_w]
          rfl
        refine pure_ (i := 3) (N := some 58) (v := ?_) (a' := ?_) #[true, true, true, true, false, false, false, false, false, false, false, false, false, false, false, false, false, false, false, false, false] rfl rfl (any_of HT_.out (by kernel_rfl)) (fun _ _ _ h => h) (Or.inl ⟨by rfl, ?_⟩) ?_ ?_
        rotate_left
        · intro w'
          go_simp
          with_reducible rfl
        rotate_left
        · simp only [Act.put, List.setIfInBounds_toArray, List.set_cons_zero, List.set_cons_succ, i64_w, i32_w]
          rfl
        refine pure_ (i := 4) (N := some 59) (v := undef) (a' := ?_) #[true, true, true, true, true, false, false, false, false, false, false, false, false, false, false, false, false, false, false, false, false] rfl rfl (any_of HT_.out (by kernel_rfl)) (fun _ _ _ h => h) (Or.inr ⟨by rfl, rfl⟩) ?_ ?_
        rotate_left
        · simp only [Act.put, List.setIfInBounds_toArray, List.set_cons_zero, List.set_cons_succ, i64_w, i32_w]
          rfl
        refine pure_ (i := 5) (N := some 60) (v := undef) (a' := ?_) #[true, true, true, true, true, true, false, false, false, false, false, false, false, false, false, false, false, false, false, false, false] rfl rfl (any_of HT_.out (by kernel_rfl)) (fun _ _ _ h => h) (Or.inr ⟨by rfl, rfl⟩) ?_ ?_
        rotate_left
        · simp only [Act.put, List.setIfInBounds_toArray, List.set_cons_zero, List.set_cons_succ, i64_w, i32_w]
          rfl
        refine pure_ (i := 6) (N := some 61) (v := undef) (a' := ?_) #[true, true, true, true, true, true, true, false, false, false, false, false, false, false, false, false, false, false, false, false, false] rfl rfl (any_of HT_.out (by kernel_rfl)) (fun _ _ _ h => h) (Or.inr ⟨by rfl, rfl⟩) ?_ ?_
        rotate_left
        · simp only [Act.put, List.setIfInBounds_toArray, List.set_cons_zero, List.set_cons_succ, i64_w, i32_w]
          rfl
        refine pure_ (i := 7) (N := some 62) (v := ?_) (a' := ?_) #[true, true, true, true, true, true, true, true, false, false, false, false, false, false, false, false, false, false, false, false, false] rfl rfl (any_of HT_.out (by kernel_rfl)) (fun _ _ _ h => h) (Or.inl ⟨by rfl, ?_⟩) ?_ ?_
        rotate_left
        · intro w'
          go_simp
          with_reducible rfl
        rotate_left
        · simp only [Act.put, List.setIfInBounds_toArray, List.set_cons_zero, List.set_cons_succ, i64_w, i32_w]
          rfl
        refine pure_ (i := 8) (N := some 63) (v := ?_) (a' := ?_) #[true, true, true, true, true, true, true, true, true, false, false, false, false, false, false, false, false, false, false, false, false] rfl rfl (any_of HT_.out (by kernel_rfl)) (fun _ _ _ h => h) (Or.inl ⟨by rfl, ?_⟩) ?_ ?_
        rotate_left
        · intro w'
          go_simp
          with_reducible rfl
        rotate_left
        · simp only [Act.put, List.setIfInBounds_toArray, List.set_cons_zero, List.set_cons_succ, i64_w, i32_w]
          rfl
        refine pure_ (i := 9) (N := some 64) (v := undef) (a' := ?_) #[true, true, true, true, true, true, true, true, true, true, false, false, false, false, false, false, false, false, false, false, false] rfl rfl (any_of HT_.out (by kernel_rfl)) (fun _ _ _ h => h) (Or.inr ⟨by rfl, rfl⟩) ?_ ?_
        rotate_left
        · simp only [Act.put, List.setIfInBounds_toArray, List.set_cons_zero, List.set_cons_succ, i64_w, i32_w]
          rfl
        refine pure_ (i := 10) (N := some 65) (v := undef) (a' := ?_) #[true, true, true, true, true, true, true, true, true, true, true, false, false, false, false, false, false, false, false, false, false] rfl rfl (any_of HT_.out (by kernel_rfl)) (fun _ _ _ h => h) (Or.inr ⟨by rfl, rfl⟩) ?_ ?_
        rotate_left
        · simp only [Act.put, List.setIfInBounds_toArray, List.set_cons_zero, List.set_cons_succ, i64_w, i32_w]
          rfl
        refine pure_ (i := 11) (N := some 66) (v := undef) (a' := ?_) #[true, true, true, true, true, true, true, true, true, true, true, true, false, false, false, false, false, false, false, false, false] rfl rfl (any_of HT_.out (by kernel_rfl)) (fun _ _ _ h => h) (Or.inr ⟨by rfl, rfl⟩) ?_ ?_
        rotate_left
        · simp only [Act.put, List.setIfInBounds_toArray, List.set_cons_zero, List.set_cons_succ, i64_w, i32_w]
          rfl
        refine pure_ (i := 12) (N := some 67) (v := undef) (a' := ?_) #[true, true, true, true, true, true, true, true, true, true, true, true, true, false, false, false, false, false, false, false, false] rfl rfl (any_of HT_.out (by kernel_rfl)) (fun _ _ _ h => h) (Or.inr ⟨by rfl, rfl⟩) ?_ ?_
        rotate_left
        · simp only [Act.put, List.setIfInBounds_toArray, List.set_cons_zero, List.set_cons_succ, i64_w, i32_w]
          rfl
        refine pure_ (i := 13) (N := some 68) (v := ?_) (a' := ?_) #[true, true, true, true, true, true, true, true, true, true, true, true, true, true, false, false, false, false, false, false, false] rfl rfl (any_of HT_.out (by kernel_rfl)) (fun _ _ _ h => h) (Or.inl ⟨by rfl, ?_⟩) ?_ ?_
        rotate_left
        · intro w'
          go_simp
          with_reducible rfl
        rotate_left
        · simp only [Act.put, List.setIfInBounds_toArray, List.set_cons_zero, List.set_cons_succ, i64_w, i32_w]
          rfl
        refine pure_ (i := 14) (N := some 69) (v := ?_) (a' := ?_) #[true, true, true, true, true, true, true, true, true, true, true, true, true, true, true, false, false, false, false, false, false] rfl rfl (any_of HT_.out (by kernel_rfl)) (fun _ _ _ h => h) (Or.inl ⟨by rfl, ?_⟩) ?_ ?_
        rotate_left
        · intro w'
          go_simp
          with_reducible rfl
        rotate_left
        · simp only [Act.put, List.setIfInBounds_toArray, List.set_cons_zero, List.set_cons_succ, i64_w, i32_w]
          rfl
        refine pure_ (i := 15) (N := some 70) (v := undef) (a' := ?_) #[true, true, true, true, true, true, true, true, true, true, true, true, true, true, true, true, false, false, false, false, false] rfl rfl (any_of HT_.out (by kernel_rfl)) (fun _ _ _ h => h) (Or.inr ⟨by rfl, rfl⟩) ?_ ?_
        rotate_left
        · simp only [Act.put, List.setIfInBounds_toArray, List.set_cons_zero, List.set_cons_succ, i64_w, i32_w]
          rfl
        refine pure_ (i := 16) (N := some 71) (v := undef) (a' := ?_) #[true, true, true, true, true, true, true, true, true, true, true, true, true, true, true, true, true, false, false, false, false] rfl rfl (any_of HT_.out (by kernel_rfl)) (fun _ _ _ h => h) (Or.inr ⟨by rfl, rfl⟩) ?_ ?_
        rotate_left
        · simp only [Act.put, List.setIfInBounds_toArray, List.set_cons_zero, List.set_cons_succ, i64_w, i32_w]
          rfl
        refine pure_ (i := 17) (N := some 72) (v := undef) (a' := ?_) #[true, true, true, true, true, true, true, true, true, true, true, true, true, true, true, true, true, true, false, false, false] rfl rfl (any_of HT_.out (by kernel_rfl)) (fun _ _ _ h => h) (Or.inr ⟨by rfl, rfl⟩) ?_ ?_
        rotate_left
        · simp only [Act.put, List.setIfInBounds_toArray, List.set_cons_zero, List.set_cons_succ, i64_w, i32_w]
          rfl
        refine pure_ (i := 18) (N := some 73) (v := undef) (a' := ?_) #[true, true, true, true, true, true, true, true, true, true, true, true, true, true, true, true, true, true, true, false, false] rfl rfl (any_of HT_.out (by kernel_rfl)) (fun _ _ _ h => h) (Or.inr ⟨by rfl, rfl⟩) ?_ ?_
        rotate_left
        · simp only [Act.put, List.setIfInBounds_toArray, List.set_cons_zero, List.set_cons_succ, i64_w, i32_w]
          rfl
        refine pure_ (i := 19) (N := some 74) (v := undef) (a' := ?_) #[true, true, true, true, true, true, true, true, true, true, true, true, true, true, true, true, true, true, true, true, false] rfl rfl (any_of HT_.out (by kernel_rfl)) (fun _ _ _ h => h) (Or.inr ⟨by rfl, rfl⟩) ?_ ?_
        rotate_left
        · simp only [Act.put, List.setIfInBounds_toArray, List.set_cons_zero, List.set_cons_succ, i64_w, i32_w]
          rfl
        refine pure_ (i := 20) (N := some 75) (v := ?_) (a' := ?_) #[true, true, true, true, true, true, true, true, true, true, true, true, true, true, true, true, true, true, true, true, true] rfl rfl (any_of HT_.out (by kernel_rfl)) (fun _ _ _ h => h) (Or.inl ⟨by rfl, ?_⟩) ?_ ?_
        rotate_left
        · intro w'
          go_simp
          with_reducible rfl
        rotate_left
        · simp only [Act.put, List.setIfInBounds_toArray, List.set_cons_zero, List.set_cons_succ, i64_w, i32_w]
          rfl
        refine done_ (done_of HT_.out (by kernel_rfl)) ?_
        try go_wp2
        go_meet
        case rel => exact ⟨_, (true), (by first | rfl | (simp; done) | (simp [*]; done)), H', ⟨by first | omega | exact Nat.le_refl _⟩, ⟨by (with_reducible repeat (first | refine blk_drewN ?_ _ | refine blk_drew ?_ | refine blk_alloc ?_ _)); exact BK279.out⟩, ⟨by repeat (first | (with_reducible first | exact HB.out | apply below_alloc | apply pw_below_drewN | apply below_drew1 | refine below_set ?_ GE279.out) | exact HB.out)⟩⟩
      · rw [if_neg c15] at H
        have c15b0 : (t281 != t283) = false := by simpa using c15
        (try (have c15b1 : decide (t281 = t283) = true := by simpa using c15))
        (try (have c15b2 : (t281 == t283) = true := by simpa using c15))
        clear c15
        (first | rw [c15b0] | (simp only [i64_w, i32_w]; rw [c15b0]) | skip)
        by_cases c17 : t280 = t282
        · rw [if_pos c17] at H
          have c17b0 : (t280 == t282) = true := beq_iff_eq.mpr c17
          have c17b1 : (t280 != t282) = false := bne_eq_false_iff_eq.mpr c17
          clear c17
          replace H := Option.bind_eq_some_iff.mp H
          obtain ⟨t284, A180, H⟩ := H
          replace H : (if (t281 != t284) = true then (laws_FnTilesRanked.j0 k l1 t280 t281 true t277 t278) else ((impl_IsTile.f t277 t278).bind fun t285 => ((spec_IsTile.f t277 t278).bind fun t286 => (laws_FnTilesRanked.j0 k l1 t280 t281 (t285 != t286) t277 t278)))) = some r := H
          have A18 := Aside0.mk A180
          clear A180
          by_cases c19 : (t281 != t284) = true
          · rw [if_pos c19] at H
            have c19b0 : (t281 != t284) = true := c19
            (try (have c19b1 : decide (t281 = t284) = false := by simpa using c19))
            (try (have c19b2 : (t281 == t284) = false := by simpa using c19))
            (try (have c19b3 : ¬ (t281 = t284) := by simpa using c19))
            clear c19
            have H' := Aside0.mk H
            clear H
            try go_wp2
            replace BK279 := Aside0.mk (blk_drew BK279.out)
            replace HB := Aside0.mk (below_drew1 HB.out)
            refine start_ (n := 21) (S := fun w' => w'.cell? ⟨gb279, 0, none⟩ = some (.int .i64 t277) ∧ w'.cell? ⟨gb279, 1, none⟩ = some (.int .i64 t278)) (ds := []) #[false, false, false, false, false, false, false, false, false, false, false, false, false, false, false, false, false, false, false, false, false] (by kernel_rfl) rfl rfl ⟨(blk_cell BK279.out 0).trans rfl, (blk_cell BK279.out 1).trans rfl⟩ (fun hHeld => ?_); refine with_tabW laws_FnTilesRanked.tab6 laws_FnTilesRanked.bits6 (fun HT_ HW_ => ?_)
            generalize w14.drew = w20 at BK279 HB hHeld ⊢
            refine pure_ (i := 0) (N := some 55) (v := ?_) (a' := ?_) #[true, false, false, false, false, false, false, false, false, false, false, false, false, false, false, false, false, false, false, false, false] rfl rfl (any_of HT_.out (by kernel_rfl)) (fun _ _ _ h => h) (Or.inl ⟨by rfl, ?_⟩) ?_ ?_
            rotate_left
            · intro w'
              go_simp
              with_reducible rfl
            rotate_left
            · simp only [Act.put, List.setIfInBounds_toArray, List.set_cons_zero, List.set_cons_succ, i64_w, i32_w]
              rfl
            refine pure_ (i := 1) (N := some 56) (v := ?_) (a' := ?_) #[true, true, false, false, false, false, false, false, false, false, false, false, false, false, false, false, false, false, false, false, false] rfl rfl (any_of HT_.out (by kernel_rfl)) (fun _ _ _ h => h) (Or.inl ⟨by rfl, ?_⟩) ?_ ?_
            rotate_left
            · intro w'
              go_simp
              with_reducible rfl
            rotate_left
            · simp only [Act.put, List.setIfInBounds_toArray, List.set_cons_zero, List.set_cons_succ, i64_w, i32_w]
              rfl
            refine pure_ (i := 2) (N := some 57) (v := ?_) (a' := ?_) #[true, true, true, false, false, false, false, false, false, false, false, false, false, false, false, false, false, false, false, false, false] rfl rfl (any_of HT_.out (by kernel_rfl)) (fun _ _ _ h => h) (Or.inl ⟨by rfl, ?_⟩) ?_ ?_
            rotate_left
            · intro w'
              go_simp
              with_reducible rfl
            rotate_left
            · simp only [Act.put, List.setIfInBounds_toArray, List.set_cons_zero, List.set_cons_succ, i64_w, i32_w]
              rfl
            refine pure_ (i := 3) (N := some 58) (v := ?_) (a' := ?_) #[true, true, true, true, false, false, false, false, false, false, false, false, false, false, false, false, false, false, false, false, false] rfl rfl (any_of HT_.out (by kernel_rfl)) (fun _ _ _ h => h) (Or.inl ⟨by rfl, ?_⟩) ?_ ?_
            rotate_left
            · intro w'
              go_simp
              with_reducible rfl
            rotate_left
            · simp only [Act.put, List.setIfInBounds_toArray, List.set_cons_zero, List.set_cons_succ, i64_w, i32_w]
              rfl
            refine pure_ (i := 4) (N := some 59) (v := ?_) (a' := ?_) #[true, true, true, true, true, false, false, false, false, false, false, false, false, false, false, false, false, false, false, false, false] rfl rfl (any_of HT_.out (by kernel_rfl)) (fun _ _ _ h => h) (Or.inl ⟨by rfl, ?_⟩) ?_ ?_
            rotate_left
            · intro w'
              go_simp
              with_reducible rfl
            rotate_left
            · simp only [Act.put, List.setIfInBounds_toArray, List.set_cons_zero, List.set_cons_succ, i64_w, i32_w]
              rfl
            refine pure_ (i := 5) (N := some 60) (v := ?_) (a' := ?_) #[true, true, true, true, true, true, false, false, false, false, false, false, false, false, false, false, false, false, false, false, false] rfl rfl (any_of HT_.out (by kernel_rfl)) (fun _ _ _ h => h) (Or.inl ⟨by rfl, ?_⟩) ?_ ?_
            rotate_left
            · intro w'
              go_simp
              with_reducible rfl
            rotate_left
            · simp only [Act.put, List.setIfInBounds_toArray, List.set_cons_zero, List.set_cons_succ, i64_w, i32_w]
              rfl
            refine pure_ (i := 6) (N := some 61) (v := ?_) (a' := ?_) #[true, true, true, true, true, true, true, false, false, false, false, false, false, false, false, false, false, false, false, false, false] rfl rfl (any_of HT_.out (by kernel_rfl)) (fun _ _ _ h => h) (Or.inl ⟨by rfl, ?_⟩) ?_ ?_
            rotate_left
            · intro w'
              go_simp
              with_reducible rfl
            rotate_left
            · simp only [Act.put, List.setIfInBounds_toArray, List.set_cons_zero, List.set_cons_succ, i64_w, i32_w]
              rfl
            refine pure_ (i := 7) (N := some 62) (v := ?_) (a' := ?_) #[true, true, true, true, true, true, true, true, false, false, false, false, false, false, false, false, false, false, false, false, false] rfl rfl (any_of HT_.out (by kernel_rfl)) (fun _ _ _ h => h) (Or.inl ⟨by rfl, ?_⟩) ?_ ?_
            rotate_left
            · intro w'
              go_simp
              with_reducible rfl
            rotate_left
            · simp only [Act.put, List.setIfInBounds_toArray, List.set_cons_zero, List.set_cons_succ, i64_w, i32_w]
              rfl
            refine pure_ (i := 8) (N := some 63) (v := ?_) (a' := ?_) #[true, true, true, true, true, true, true, true, true, false, false, false, false, false, false, false, false, false, false, false, false] rfl rfl (any_of HT_.out (by kernel_rfl)) (fun _ _ _ h => h) (Or.inl ⟨by rfl, ?_⟩) ?_ ?_
            rotate_left
            · intro w'
              go_simp
              with_reducible rfl
            rotate_left
            · simp only [Act.put, List.setIfInBounds_toArray, List.set_cons_zero, List.set_cons_succ, i64_w, i32_w]
              rfl
            refine pure_ (i := 9) (N := some 64) (v := ?_) (a' := ?_) #[true, true, true, true, true, true, true, true, true, true, false, false, false, false, false, false, false, false, false, false, false] rfl rfl (any_of HT_.out (by kernel_rfl)) (fun _ _ _ h => h) (Or.inl ⟨by rfl, ?_⟩) ?_ ?_
            rotate_left
            · intro w'
              go_simp
              with_reducible rfl
            rotate_left
            · simp only [Act.put, List.setIfInBounds_toArray, List.set_cons_zero, List.set_cons_succ, i64_w, i32_w]
              rfl
            refine take_ (i := 10) (N := some 65) (v := ?_) (a' := ?_) #[true, true, true, true, true, true, true, true, true, true, true, false, false, false, false, false, false, false, false, false, false] rfl rfl (take_ofW HT_.out HW_.out (by kernel_rfl)) (fun _ _ _ h => h) (Or.inl ⟨by rfl, ?_⟩) hHeld ?_ ?_
            rotate_left
            · rintro w' ⟨s0, s1⟩
              go_simp
              with_reducible rfl
            rotate_left
            · simp only [Act.put, List.setIfInBounds_toArray, List.set_cons_zero, List.set_cons_succ, i64_w, i32_w]
              rfl
            refine one_ (i := 11) (N := some 66) #[true, true, true, true, true, true, true, true, true, true, true, true, false, false, false, false, false, false, false, false, false] rfl rfl (one_of HT_.out (by kernel_rfl)) (by decide) (fun K hK => ?_)
            refine goes_ Try.func19 (by kernel_rfl) rfl #[.agg #[.int .i64 t277, .int .i64 t278]] (by rfl) rfl rfl (by (try simp only [List.map_toArray, List.map_cons, List.map_nil]); first | done | rfl | (simp only [List.length_drop, List.length_take]; rfl)) ?_
            with_reducible refine (impl_IsTile.calls t277 t278 t284 _ A18.out).mono ?_
            rintro e w21 ⟨rfl, hb⟩
            refine ⟨_, rfl, ?_⟩
            replace BK279 := Aside0.mk (blk_below (g := gb279) (o := .cells #[.int .i64 t277, .int .i64 t278] 25 (0, 0)) (by (with_reducible repeat (first | refine blk_drewN ?_ _ | refine blk_drew ?_ | refine blk_alloc ?_ _)); exact BK279.out) hb)
            replace HB := Aside0.mk (below_step (by repeat (first | (with_reducible first | exact HB.out | apply below_alloc | apply pw_below_drewN | apply below_drew1 | refine below_set ?_ GE279.out) | exact HB.out)) hb)
            (try clear hb)
            (try clear hb2)
            (try clear hk)
            (try clear hi)
            refine hK.out _ _ ⟨(blk_cell BK279.out 0).trans rfl, (blk_cell BK279.out 1).trans rfl⟩ (fun hHeld => ?_)
            clear hK K
            refine norm_ (a' := ?_) ?_ ?_
            rotate_left
            · show Act.put _ (some 66) _ = _
              simp only [Act.put, List.setIfInBounds_toArray, List.set_cons_zero, List.set_cons_succ, i64_w, i32_w]
              rfl
            refine pure_ (i := 12) (N := some 67) (v := ?_) (a' := ?_) #[true, true, true, true, true, true, true, true, true, true, true, true, true, false, false, false, false, false, false, false, false] rfl rfl (any_of HT_.out (by kernel_rfl)) (fun _ _ _ h => h) (Or.inl ⟨by rfl, ?_⟩) ?_ ?_
            rotate_left
            · intro w'
              go_simp
              with_reducible rfl
            rotate_left
            · simp only [Act.put, List.setIfInBounds_toArray, List.set_cons_zero, List.set_cons_succ, i64_w, i32_w]
              rfl
            refine pure_ (i := 13) (N := some 68) (v := ?_) (a' := ?_) #[true, true, true, true, true, true, true, true, true, true, true, true, true, true, false, false, false, false, false, false, false] rfl rfl (any_of HT_.out (by kernel_rfl)) (fun _ _ _ h => h) (Or.inl ⟨by rfl, ?_⟩) ?_ ?_
            rotate_left
            · intro w'
              go_simp
              with_reducible rfl
            rotate_left
            · simp only [Act.put, List.setIfInBounds_toArray, List.set_cons_zero, List.set_cons_succ, i64_w, i32_w]
              rfl
            refine pure_ (i := 14) (N := some 69) (v := ?_) (a' := ?_) #[true, true, true, true, true, true, true, true, true, true, true, true, true, true, true, false, false, false, false, false, false] rfl rfl (any_of HT_.out (by kernel_rfl)) (fun _ _ _ h => h) (Or.inl ⟨by rfl, ?_⟩) ?_ ?_
            rotate_left
            · intro w'
              go_simp
              with_reducible rfl
            rotate_left
            · simp only [Act.put, List.setIfInBounds_toArray, List.set_cons_zero, List.set_cons_succ, i64_w, i32_w]
              rfl
            refine pure_ (i := 15) (N := some 70) (v := undef) (a' := ?_) #[true, true, true, true, true, true, true, true, true, true, true, true, true, true, true, true, false, false, false, false, false] rfl rfl (any_of HT_.out (by kernel_rfl)) (fun _ _ _ h => h) (Or.inr ⟨by rfl, rfl⟩) ?_ ?_
            rotate_left
            · simp only [Act.put, List.setIfInBounds_toArray, List.set_cons_zero, List.set_cons_succ, i64_w, i32_w]
              rfl
            refine pure_ (i := 16) (N := some 71) (v := undef) (a' := ?_) #[true, true, true, true, true, true, true, true, true, true, true, true, true, true, true, true, true, false, false, false, false] rfl rfl (any_of HT_.out (by kernel_rfl)) (fun _ _ _ h => h) (Or.inr ⟨by rfl, rfl⟩) ?_ ?_
            rotate_left
            · simp only [Act.put, List.setIfInBounds_toArray, List.set_cons_zero, List.set_cons_succ, i64_w, i32_w]
              rfl
            refine pure_ (i := 17) (N := some 72) (v := undef) (a' := ?_) #[true, true, true, true, true, true, true, true, true, true, true, true, true, true, true, true, true, true, false, false, false] rfl rfl (any_of HT_.out (by kernel_rfl)) (fun _ _ _ h => h) (Or.inr ⟨by rfl, rfl⟩) ?_ ?_
            rotate_left
            · simp only [Act.put, List.setIfInBounds_toArray, List.set_cons_zero, List.set_cons_succ, i64_w, i32_w]
              rfl
            refine pure_ (i := 18) (N := some 73) (v := undef) (a' := ?_) #[true, true, true, true, true, true, true, true, true, true, true, true, true, true, true, true, true, true, true, false, false] rfl rfl (any_of HT_.out (by kernel_rfl)) (fun _ _ _ h => h) (Or.inr ⟨by rfl, rfl⟩) ?_ ?_
            rotate_left
            · simp only [Act.put, List.setIfInBounds_toArray, List.set_cons_zero, List.set_cons_succ, i64_w, i32_w]
              rfl
            refine pure_ (i := 19) (N := some 74) (v := undef) (a' := ?_) #[true, true, true, true, true, true, true, true, true, true, true, true, true, true, true, true, true, true, true, true, false] rfl rfl (any_of HT_.out (by kernel_rfl)) (fun _ _ _ h => h) (Or.inr ⟨by rfl, rfl⟩) ?_ ?_
            rotate_left
            · simp only [Act.put, List.setIfInBounds_toArray, List.set_cons_zero, List.set_cons_succ, i64_w, i32_w]
              rfl
            refine pure_ (i := 20) (N := some 75) (v := ?_) (a' := ?_) #[true, true, true, true, true, true, true, true, true, true, true, true, true, true, true, true, true, true, true, true, true] rfl rfl (any_of HT_.out (by kernel_rfl)) (fun _ _ _ h => h) (Or.inl ⟨by rfl, ?_⟩) ?_ ?_
            rotate_left
            · intro w'
              go_simp
              with_reducible rfl
            rotate_left
            · simp only [Act.put, List.setIfInBounds_toArray, List.set_cons_zero, List.set_cons_succ, i64_w, i32_w]
              rfl
            refine done_ (done_of HT_.out (by kernel_rfl)) ?_
            try go_wp2
            go_meet
            case rel => exact ⟨_, (true), (by first | rfl | (simp; done) | (simp [*]; done)), H', ⟨by first | omega | exact Nat.le_refl _⟩, ⟨by (with_reducible repeat (first | refine blk_drewN ?_ _ | refine blk_drew ?_ | refine blk_alloc ?_ _)); exact BK279.out⟩, ⟨by repeat (first | (with_reducible first | exact HB.out | apply below_alloc | apply pw_below_drewN | apply below_drew1 | refine below_set ?_ GE279.out) | exact HB.out)⟩⟩
          · rw [if_neg c19] at H
            have c19b0 : (t281 != t284) = false := by simpa using c19
            (try (have c19b1 : decide (t281 = t284) = true := by simpa using c19))
            (try (have c19b2 : (t281 == t284) = true := by simpa using c19))
            clear c19
            replace H := Option.bind_eq_some_iff.mp H
            obtain ⟨t285, A220, H⟩ := H
            replace H : ((spec_IsTile.f t277 t278).bind fun t286 => (laws_FnTilesRanked.j0 k l1 t280 t281 (t285 != t286) t277 t278)) = some r := H
            have A22 := Aside0.mk A220
            clear A220
            replace H := Option.bind_eq_some_iff.mp H
            obtain ⟨t286, A230, H⟩ := H
            replace H : (laws_FnTilesRanked.j0 k l1 t280 t281 (t285 != t286) t277 t278) = some r := H
            have A23 := Aside0.mk A230
            clear A230
            have H' := Aside0.mk H
            clear H
            try go_wp2
            replace BK279 := Aside0.mk (blk_drew BK279.out)
            replace HB := Aside0.mk (below_drew1 HB.out)
            refine start_ (n := 21) (S := fun w' => w'.cell? ⟨gb279, 0, none⟩ = some (.int .i64 t277) ∧ w'.cell? ⟨gb279, 1, none⟩ = some (.int .i64 t278)) (ds := []) #[false, false, false, false, false, false, false, false, false, false, false, false, false, false, false, false, false, false, false, false, false] (by kernel_rfl) rfl rfl ⟨(blk_cell BK279.out 0).trans rfl, (blk_cell BK279.out 1).trans rfl⟩ (fun hHeld => ?_); refine with_tabW laws_FnTilesRanked.tab6 laws_FnTilesRanked.bits6 (fun HT_ HW_ => ?_)
            generalize w14.drew = w24 at BK279 HB hHeld ⊢
            refine pure_ (i := 0) (N := some 55) (v := ?_) (a' := ?_) #[true, false, false, false, false, false, false, false, false, false, false, false, false, false, false, false, false, false, false, false, false] rfl rfl (any_of HT_.out (by kernel_rfl)) (fun _ _ _ h => h) (Or.inl ⟨by rfl, ?_⟩) ?_ ?_
            rotate_left
            · intro w'
              go_simp
              with_reducible rfl
            rotate_left
            · simp only [Act.put, List.setIfInBounds_toArray, List.set_cons_zero, List.set_cons_succ, i64_w, i32_w]
              rfl
            refine pure_ (i := 1) (N := some 56) (v := ?_) (a' := ?_) #[true, true, false, false, false, false, false, false, false, false, false, false, false, false, false, false, false, false, false, false, false] rfl rfl (any_of HT_.out (by kernel_rfl)) (fun _ _ _ h => h) (Or.inl ⟨by rfl, ?_⟩) ?_ ?_
            rotate_left
            · intro w'
              go_simp
              with_reducible rfl
            rotate_left
            · simp only [Act.put, List.setIfInBounds_toArray, List.set_cons_zero, List.set_cons_succ, i64_w, i32_w]
              rfl
            refine pure_ (i := 2) (N := some 57) (v := ?_) (a' := ?_) #[true, true, true, false, false, false, false, false, false, false, false, false, false, false, false, false, false, false, false, false, false] rfl rfl (any_of HT_.out (by kernel_rfl)) (fun _ _ _ h => h) (Or.inl ⟨by rfl, ?_⟩) ?_ ?_
            rotate_left
            · intro w'
              go_simp
              with_reducible rfl
            rotate_left
            · simp only [Act.put, List.setIfInBounds_toArray, List.set_cons_zero, List.set_cons_succ, i64_w, i32_w]
              rfl
            refine pure_ (i := 3) (N := some 58) (v := ?_) (a' := ?_) #[true, true, true, true, false, false, false, false, false, false, false, false, false, false, false, false, false, false, false, false, false] rfl rfl (any_of HT_.out (by kernel_rfl)) (fun _ _ _ h => h) (Or.inl ⟨by rfl, ?_⟩) ?_ ?_
            rotate_left
            · intro w'
              go_simp
              with_reducible rfl
            rotate_left
            · simp only [Act.put, List.setIfInBounds_toArray, List.set_cons_zero, List.set_cons_succ, i64_w, i32_w]
              rfl
            refine pure_ (i := 4) (N := some 59) (v := ?_) (a' := ?_) #[true, true, true, true, true, false, false, false, false, false, false, false, false, false, false, false, false, false, false, false, false] rfl rfl (any_of HT_.out (by kernel_rfl)) (fun _ _ _ h => h) (Or.inl ⟨by rfl, ?_⟩) ?_ ?_
            rotate_left
            · intro w'
              go_simp
              with_reducible rfl
            rotate_left
            · simp only [Act.put, List.setIfInBounds_toArray, List.set_cons_zero, List.set_cons_succ, i64_w, i32_w]
              rfl
            refine pure_ (i := 5) (N := some 60) (v := ?_) (a' := ?_) #[true, true, true, true, true, true, false, false, false, false, false, false, false, false, false, false, false, false, false, false, false] rfl rfl (any_of HT_.out (by kernel_rfl)) (fun _ _ _ h => h) (Or.inl ⟨by rfl, ?_⟩) ?_ ?_
            rotate_left
            · intro w'
              go_simp
              with_reducible rfl
            rotate_left
            · simp only [Act.put, List.setIfInBounds_toArray, List.set_cons_zero, List.set_cons_succ, i64_w, i32_w]
              rfl
            refine pure_ (i := 6) (N := some 61) (v := ?_) (a' := ?_) #[true, true, true, true, true, true, true, false, false, false, false, false, false, false, false, false, false, false, false, false, false] rfl rfl (any_of HT_.out (by kernel_rfl)) (fun _ _ _ h => h) (Or.inl ⟨by rfl, ?_⟩) ?_ ?_
            rotate_left
            · intro w'
              go_simp
              with_reducible rfl
            rotate_left
            · simp only [Act.put, List.setIfInBounds_toArray, List.set_cons_zero, List.set_cons_succ, i64_w, i32_w]
              rfl
            refine pure_ (i := 7) (N := some 62) (v := ?_) (a' := ?_) #[true, true, true, true, true, true, true, true, false, false, false, false, false, false, false, false, false, false, false, false, false] rfl rfl (any_of HT_.out (by kernel_rfl)) (fun _ _ _ h => h) (Or.inl ⟨by rfl, ?_⟩) ?_ ?_
            rotate_left
            · intro w'
              go_simp
              with_reducible rfl
            rotate_left
            · simp only [Act.put, List.setIfInBounds_toArray, List.set_cons_zero, List.set_cons_succ, i64_w, i32_w]
              rfl
            refine pure_ (i := 8) (N := some 63) (v := ?_) (a' := ?_) #[true, true, true, true, true, true, true, true, true, false, false, false, false, false, false, false, false, false, false, false, false] rfl rfl (any_of HT_.out (by kernel_rfl)) (fun _ _ _ h => h) (Or.inl ⟨by rfl, ?_⟩) ?_ ?_
            rotate_left
            · intro w'
              go_simp
              with_reducible rfl
            rotate_left
            · simp only [Act.put, List.setIfInBounds_toArray, List.set_cons_zero, List.set_cons_succ, i64_w, i32_w]
              rfl
            refine pure_ (i := 9) (N := some 64) (v := ?_) (a' := ?_) #[true, true, true, true, true, true, true, true, true, true, false, false, false, false, false, false, false, false, false, false, false] rfl rfl (any_of HT_.out (by kernel_rfl)) (fun _ _ _ h => h) (Or.inl ⟨by rfl, ?_⟩) ?_ ?_
            rotate_left
            · intro w'
              go_simp
              with_reducible rfl
            rotate_left
            · simp only [Act.put, List.setIfInBounds_toArray, List.set_cons_zero, List.set_cons_succ, i64_w, i32_w]
              rfl
            refine take_ (i := 10) (N := some 65) (v := ?_) (a' := ?_) #[true, true, true, true, true, true, true, true, true, true, true, false, false, false, false, false, false, false, false, false, false] rfl rfl (take_ofW HT_.out HW_.out (by kernel_rfl)) (fun _ _ _ h => h) (Or.inl ⟨by rfl, ?_⟩) hHeld ?_ ?_
            rotate_left
            · rintro w' ⟨s0, s1⟩
              go_simp
              with_reducible rfl
            rotate_left
            · simp only [Act.put, List.setIfInBounds_toArray, List.set_cons_zero, List.set_cons_succ, i64_w, i32_w]
              rfl
            refine one_ (i := 11) (N := some 66) #[true, true, true, true, true, true, true, true, true, true, true, true, false, false, false, false, false, false, false, false, false] rfl rfl (one_of HT_.out (by kernel_rfl)) (by decide) (fun K hK => ?_)
            refine goes_ Try.func19 (by kernel_rfl) rfl #[.agg #[.int .i64 t277, .int .i64 t278]] (by rfl) rfl rfl (by (try simp only [List.map_toArray, List.map_cons, List.map_nil]); first | done | rfl | (simp only [List.length_drop, List.length_take]; rfl)) ?_
            with_reducible refine (impl_IsTile.calls t277 t278 t284 _ A18.out).mono ?_
            rintro e w25 ⟨rfl, hb⟩
            refine ⟨_, rfl, ?_⟩
            replace BK279 := Aside0.mk (blk_below (g := gb279) (o := .cells #[.int .i64 t277, .int .i64 t278] 25 (0, 0)) (by (with_reducible repeat (first | refine blk_drewN ?_ _ | refine blk_drew ?_ | refine blk_alloc ?_ _)); exact BK279.out) hb)
            replace HB := Aside0.mk (below_step (by repeat (first | (with_reducible first | exact HB.out | apply below_alloc | apply pw_below_drewN | apply below_drew1 | refine below_set ?_ GE279.out) | exact HB.out)) hb)
            (try clear hb)
            (try clear hb2)
            (try clear hk)
            (try clear hi)
            refine hK.out _ _ ⟨(blk_cell BK279.out 0).trans rfl, (blk_cell BK279.out 1).trans rfl⟩ (fun hHeld => ?_)
            clear hK K
            refine norm_ (a' := ?_) ?_ ?_
            rotate_left
            · show Act.put _ (some 66) _ = _
              simp only [Act.put, List.setIfInBounds_toArray, List.set_cons_zero, List.set_cons_succ, i64_w, i32_w]
              rfl
            refine pure_ (i := 12) (N := some 67) (v := ?_) (a' := ?_) #[true, true, true, true, true, true, true, true, true, true, true, true, true, false, false, false, false, false, false, false, false] rfl rfl (any_of HT_.out (by kernel_rfl)) (fun _ _ _ h => h) (Or.inl ⟨by rfl, ?_⟩) ?_ ?_
            rotate_left
            · intro w'
              go_simp
              with_reducible rfl
            rotate_left
            · simp only [Act.put, List.setIfInBounds_toArray, List.set_cons_zero, List.set_cons_succ, i64_w, i32_w]
              rfl
            refine pure_ (i := 13) (N := some 68) (v := ?_) (a' := ?_) #[true, true, true, true, true, true, true, true, true, true, true, true, true, true, false, false, false, false, false, false, false] rfl rfl (any_of HT_.out (by kernel_rfl)) (fun _ _ _ h => h) (Or.inl ⟨by rfl, ?_⟩) ?_ ?_
            rotate_left
            · intro w'
              go_simp
              with_reducible rfl
            rotate_left
            · simp only [Act.put, List.setIfInBounds_toArray, List.set_cons_zero, List.set_cons_succ, i64_w, i32_w]
              rfl
            refine pure_ (i := 14) (N := some 69) (v := ?_) (a' := ?_) #[true, true, true, true, true, true, true, true, true, true, true, true, true, true, true, false, false, false, false, false, false] rfl rfl (any_of HT_.out (by kernel_rfl)) (fun _ _ _ h => h) (Or.inl ⟨by rfl, ?_⟩) ?_ ?_
            rotate_left
            · intro w'
              go_simp
              with_reducible rfl
            rotate_left
            · simp only [Act.put, List.setIfInBounds_toArray, List.set_cons_zero, List.set_cons_succ, i64_w, i32_w]
              rfl
            refine take_ (i := 15) (N := some 70) (v := ?_) (a' := ?_) #[true, true, true, true, true, true, true, true, true, true, true, true, true, true, true, true, false, false, false, false, false] rfl rfl (take_ofW HT_.out HW_.out (by kernel_rfl)) (fun _ _ _ h => h) (Or.inl ⟨by rfl, ?_⟩) hHeld ?_ ?_
            rotate_left
            · rintro w' ⟨s0, s1⟩
              go_simp
              with_reducible rfl
            rotate_left
            · simp only [Act.put, List.setIfInBounds_toArray, List.set_cons_zero, List.set_cons_succ, i64_w, i32_w]
              rfl
            refine take_ (i := 17) (N := some 72) (v := ?_) (a' := ?_) #[true, true, true, true, true, true, true, true, true, true, true, true, true, true, true, true, false, true, false, false, false] rfl rfl (take_ofW HT_.out HW_.out (by kernel_rfl)) (fun _ _ _ h => h) (Or.inl ⟨by rfl, ?_⟩) hHeld ?_ ?_
            rotate_left
            · rintro w' ⟨s0, s1⟩
              go_simp
              with_reducible rfl
            rotate_left
            · simp only [Act.put, List.setIfInBounds_toArray, List.set_cons_zero, List.set_cons_succ, i64_w, i32_w]
              rfl
            refine one_ (i := 16) (N := some 71) #[true, true, true, true, true, true, true, true, true, true, true, true, true, true, true, true, true, true, false, false, false] rfl rfl (one_of HT_.out (by kernel_rfl)) (by decide) (fun K hK => ?_)
            refine goes_ Try.func19 (by kernel_rfl) rfl #[.agg #[.int .i64 t277, .int .i64 t278]] (by rfl) rfl rfl (by (try simp only [List.map_toArray, List.map_cons, List.map_nil]); first | done | rfl | (simp only [List.length_drop, List.length_take]; rfl)) ?_
            with_reducible refine (impl_IsTile.calls t277 t278 t285 _ A22.out).mono ?_
            rintro e w26 ⟨rfl, hb⟩
            refine ⟨_, rfl, ?_⟩
            replace BK279 := Aside0.mk (blk_below (g := gb279) (o := .cells #[.int .i64 t277, .int .i64 t278] 25 (0, 0)) (by (with_reducible repeat (first | refine blk_drewN ?_ _ | refine blk_drew ?_ | refine blk_alloc ?_ _)); exact BK279.out) hb)
            replace HB := Aside0.mk (below_step (by repeat (first | (with_reducible first | exact HB.out | apply below_alloc | apply pw_below_drewN | apply below_drew1 | refine below_set ?_ GE279.out) | exact HB.out)) hb)
            (try clear hb)
            (try clear hb2)
            (try clear hk)
            (try clear hi)
            refine hK.out _ _ ⟨(blk_cell BK279.out 0).trans rfl, (blk_cell BK279.out 1).trans rfl⟩ (fun hHeld => ?_)
            clear hK K
            refine norm_ (a' := ?_) ?_ ?_
            rotate_left
            · show Act.put _ (some 71) _ = _
              simp only [Act.put, List.setIfInBounds_toArray, List.set_cons_zero, List.set_cons_succ, i64_w, i32_w]
              rfl
            refine one_ (i := 18) (N := some 73) #[true, true, true, true, true, true, true, true, true, true, true, true, true, true, true, true, true, true, true, false, false] rfl rfl (one_of HT_.out (by kernel_rfl)) (by decide) (fun K hK => ?_)
            refine goes_ Try.func20 (by kernel_rfl) rfl #[.agg #[.int .i64 t277, .int .i64 t278]] (by rfl) rfl rfl (by (try simp only [List.map_toArray, List.map_cons, List.map_nil]); first | done | rfl | (simp only [List.length_drop, List.length_take]; rfl)) ?_
            with_reducible refine (spec_IsTile.calls t277 t278 t286 _ A23.out).mono ?_
            rintro e w27 ⟨rfl, hb⟩
            refine ⟨_, rfl, ?_⟩
            replace BK279 := Aside0.mk (blk_below (g := gb279) (o := .cells #[.int .i64 t277, .int .i64 t278] 25 (0, 0)) (by (with_reducible repeat (first | refine blk_drewN ?_ _ | refine blk_drew ?_ | refine blk_alloc ?_ _)); exact BK279.out) hb)
            replace HB := Aside0.mk (below_step (by repeat (first | (with_reducible first | exact HB.out | apply below_alloc | apply pw_below_drewN | apply below_drew1 | refine below_set ?_ GE279.out) | exact HB.out)) hb)
            (try clear hb)
            (try clear hb2)
            (try clear hk)
            (try clear hi)
            refine hK.out _ _ ⟨(blk_cell BK279.out 0).trans rfl, (blk_cell BK279.out 1).trans rfl⟩ (fun hHeld => ?_)
            clear hK K
            refine norm_ (a' := ?_) ?_ ?_
            rotate_left
            · show Act.put _ (some 73) _ = _
              simp only [Act.put, List.setIfInBounds_toArray, List.set_cons_zero, List.set_cons_succ, i64_w, i32_w]
              rfl
            refine pure_ (i := 19) (N := some 74) (v := ?_) (a' := ?_) #[true, true, true, true, true, true, true, true, true, true, true, true, true, true, true, true, true, true, true, true, false] rfl rfl (any_of HT_.out (by kernel_rfl)) (fun _ _ _ h => h) (Or.inl ⟨by rfl, ?_⟩) ?_ ?_
            rotate_left
            · intro w'
              go_simp
              with_reducible rfl
            rotate_left
            · simp only [Act.put, List.setIfInBounds_toArray, List.set_cons_zero, List.set_cons_succ, i64_w, i32_w]
              rfl
            refine pure_ (i := 20) (N := some 75) (v := ?_) (a' := ?_) #[true, true, true, true, true, true, true, true, true, true, true, true, true, true, true, true, true, true, true, true, true] rfl rfl (any_of HT_.out (by kernel_rfl)) (fun _ _ _ h => h) (Or.inl ⟨by rfl, ?_⟩) ?_ ?_
            rotate_left
            · intro w'
              go_simp
              with_reducible rfl
            rotate_left
            · simp only [Act.put, List.setIfInBounds_toArray, List.set_cons_zero, List.set_cons_succ, i64_w, i32_w]
              rfl
            refine done_ (done_of HT_.out (by kernel_rfl)) ?_
            try go_wp2
            go_meet
            case rel => exact ⟨_, ((t285 != t286)), (by first | rfl | (simp; done) | (simp [*]; done)), H', ⟨by first | omega | exact Nat.le_refl _⟩, ⟨by (with_reducible repeat (first | refine blk_drewN ?_ _ | refine blk_drew ?_ | refine blk_alloc ?_ _)); exact BK279.out⟩, ⟨by repeat (first | (with_reducible first | exact HB.out | apply below_alloc | apply pw_below_drewN | apply below_drew1 | refine below_set ?_ GE279.out) | exact HB.out)⟩⟩
        · rw [if_neg c17] at H
          have c17b0 : (t280 == t282) = false := beq_eq_false_iff_ne.mpr c17
          have c17b1 : (t280 != t282) = true := bne_iff_ne.mpr c17
          have H' := Aside0.mk H
          clear H
          try go_wp2
          replace BK279 := Aside0.mk (blk_drew BK279.out)
          replace HB := Aside0.mk (below_drew1 HB.out)
          refine start_ (n := 21) (S := fun w' => True) (ds := []) #[false, false, false, false, false, false, false, false, false, false, false, false, false, false, false, false, false, false, false, false, false] (by kernel_rfl) rfl rfl trivial (fun hHeld => ?_); refine with_tabW laws_FnTilesRanked.tab6 laws_FnTilesRanked.bits6 (fun HT_ HW_ => ?_)
          generalize w14.drew = w28 at BK279 HB hHeld ⊢
          refine pure_ (i := 0) (N := some 55) (v := ?_) (a' := ?_) #[true, false, false, false, false, false, false, false, false, false, false, false, false, false, false, false, false, false, false, false, false] rfl rfl (any_of HT_.out (by kernel_rfl)) (fun _ _ _ h => h) (Or.inl ⟨by rfl, ?_⟩) ?_ ?_
          rotate_left
          · intro w'
            go_simp
            with_reducible rfl
          rotate_left
          · simp only [Act.put, List.setIfInBounds_toArray, List.set_cons_zero, List.set_cons_succ, i64_w, i32_w]
            rfl
          refine pure_ (i := 1) (N := some 56) (v := ?_) (a' := ?_) #[true, true, false, false, false, false, false, false, false, false, false, false, false, false, false, false, false, false, false, false, false] rfl rfl (any_of HT_.out (by kernel_rfl)) (fun _ _ _ h => h) (Or.inl ⟨by rfl, ?_⟩) ?_ ?_
          rotate_left
          · intro w'
            go_simp
            with_reducible rfl
          rotate_left
          · simp only [Act.put, List.setIfInBounds_toArray, List.set_cons_zero, List.set_cons_succ, i64_w, i32_w]
            rfl
          refine pure_ (i := 2) (N := some 57) (v := ?_) (a' := ?_) #[true, true, true, false, false, false, false, false, false, false, false, false, false, false, false, false, false, false, false, false, false] rfl rfl (any_of HT_.out (by kernel_rfl)) (fun _ _ _ h => h) (Or.inl ⟨by rfl, ?_⟩) ?_ ?_
          rotate_left
          · intro w'
            go_simp
            with_reducible rfl
          rotate_left
          · simp only [Act.put, List.setIfInBounds_toArray, List.set_cons_zero, List.set_cons_succ, i64_w, i32_w]
            rfl
          refine pure_ (i := 3) (N := some 58) (v := ?_) (a' := ?_) #[true, true, true, true, false, false, false, false, false, false, false, false, false, false, false, false, false, false, false, false, false] rfl rfl (any_of HT_.out (by kernel_rfl)) (fun _ _ _ h => h) (Or.inl ⟨by rfl, ?_⟩) ?_ ?_
          rotate_left
          · intro w'
            go_simp
            with_reducible rfl
          rotate_left
          · simp only [Act.put, List.setIfInBounds_toArray, List.set_cons_zero, List.set_cons_succ, i64_w, i32_w]
            rfl
          refine pure_ (i := 4) (N := some 59) (v := ?_) (a' := ?_) #[true, true, true, true, true, false, false, false, false, false, false, false, false, false, false, false, false, false, false, false, false] rfl rfl (any_of HT_.out (by kernel_rfl)) (fun _ _ _ h => h) (Or.inl ⟨by rfl, ?_⟩) ?_ ?_
          rotate_left
          · intro w'
            go_simp
            with_reducible rfl
          rotate_left
          · simp only [Act.put, List.setIfInBounds_toArray, List.set_cons_zero, List.set_cons_succ, i64_w, i32_w]
            rfl
          refine pure_ (i := 5) (N := some 60) (v := ?_) (a' := ?_) #[true, true, true, true, true, true, false, false, false, false, false, false, false, false, false, false, false, false, false, false, false] rfl rfl (any_of HT_.out (by kernel_rfl)) (fun _ _ _ h => h) (Or.inl ⟨by rfl, ?_⟩) ?_ ?_
          rotate_left
          · intro w'
            go_simp
            with_reducible rfl
          rotate_left
          · simp only [Act.put, List.setIfInBounds_toArray, List.set_cons_zero, List.set_cons_succ, i64_w, i32_w]
            rfl
          refine pure_ (i := 6) (N := some 61) (v := ?_) (a' := ?_) #[true, true, true, true, true, true, true, false, false, false, false, false, false, false, false, false, false, false, false, false, false] rfl rfl (any_of HT_.out (by kernel_rfl)) (fun _ _ _ h => h) (Or.inl ⟨by rfl, ?_⟩) ?_ ?_
          rotate_left
          · intro w'
            go_simp
            with_reducible rfl
          rotate_left
          · simp only [Act.put, List.setIfInBounds_toArray, List.set_cons_zero, List.set_cons_succ, i64_w, i32_w]
            rfl
          refine pure_ (i := 7) (N := some 62) (v := ?_) (a' := ?_) #[true, true, true, true, true, true, true, true, false, false, false, false, false, false, false, false, false, false, false, false, false] rfl rfl (any_of HT_.out (by kernel_rfl)) (fun _ _ _ h => h) (Or.inl ⟨by rfl, ?_⟩) ?_ ?_
          rotate_left
          · intro w'
            go_simp
            with_reducible rfl
          rotate_left
          · simp only [Act.put, List.setIfInBounds_toArray, List.set_cons_zero, List.set_cons_succ, i64_w, i32_w]
            rfl
          refine pure_ (i := 8) (N := some 63) (v := ?_) (a' := ?_) #[true, true, true, true, true, true, true, true, true, false, false, false, false, false, false, false, false, false, false, false, false] rfl rfl (any_of HT_.out (by kernel_rfl)) (fun _ _ _ h => h) (Or.inl ⟨by rfl, ?_⟩) ?_ ?_
          rotate_left
          · intro w'
            go_simp
            with_reducible rfl
          rotate_left
          · simp only [Act.put, List.setIfInBounds_toArray, List.set_cons_zero, List.set_cons_succ, i64_w, i32_w]
            rfl
          refine pure_ (i := 9) (N := some 64) (v := undef) (a' := ?_) #[true, true, true, true, true, true, true, true, true, true, false, false, false, false, false, false, false, false, false, false, false] rfl rfl (any_of HT_.out (by kernel_rfl)) (fun _ _ _ h => h) (Or.inr ⟨by rfl, rfl⟩) ?_ ?_
          rotate_left
          · simp only [Act.put, List.setIfInBounds_toArray, List.set_cons_zero, List.set_cons_succ, i64_w, i32_w]
            rfl
          refine pure_ (i := 10) (N := some 65) (v := undef) (a' := ?_) #[true, true, true, true, true, true, true, true, true, true, true, false, false, false, false, false, false, false, false, false, false] rfl rfl (any_of HT_.out (by kernel_rfl)) (fun _ _ _ h => h) (Or.inr ⟨by rfl, rfl⟩) ?_ ?_
          rotate_left
          · simp only [Act.put, List.setIfInBounds_toArray, List.set_cons_zero, List.set_cons_succ, i64_w, i32_w]
            rfl
          refine pure_ (i := 11) (N := some 66) (v := undef) (a' := ?_) #[true, true, true, true, true, true, true, true, true, true, true, true, false, false, false, false, false, false, false, false, false] rfl rfl (any_of HT_.out (by kernel_rfl)) (fun _ _ _ h => h) (Or.inr ⟨by rfl, rfl⟩) ?_ ?_
          rotate_left
          · simp only [Act.put, List.setIfInBounds_toArray, List.set_cons_zero, List.set_cons_succ, i64_w, i32_w]
            rfl
          refine pure_ (i := 12) (N := some 67) (v := undef) (a' := ?_) #[true, true, true, true, true, true, true, true, true, true, true, true, true, false, false, false, false, false, false, false, false] rfl rfl (any_of HT_.out (by kernel_rfl)) (fun _ _ _ h => h) (Or.inr ⟨by rfl, rfl⟩) ?_ ?_
          rotate_left
          · simp only [Act.put, List.setIfInBounds_toArray, List.set_cons_zero, List.set_cons_succ, i64_w, i32_w]
            rfl
          refine pure_ (i := 13) (N := some 68) (v := ?_) (a' := ?_) #[true, true, true, true, true, true, true, true, true, true, true, true, true, true, false, false, false, false, false, false, false] rfl rfl (any_of HT_.out (by kernel_rfl)) (fun _ _ _ h => h) (Or.inl ⟨by rfl, ?_⟩) ?_ ?_
          rotate_left
          · intro w'
            go_simp
            with_reducible rfl
          rotate_left
          · simp only [Act.put, List.setIfInBounds_toArray, List.set_cons_zero, List.set_cons_succ, i64_w, i32_w]
            rfl
          refine pure_ (i := 14) (N := some 69) (v := ?_) (a' := ?_) #[true, true, true, true, true, true, true, true, true, true, true, true, true, true, true, false, false, false, false, false, false] rfl rfl (any_of HT_.out (by kernel_rfl)) (fun _ _ _ h => h) (Or.inl ⟨by rfl, ?_⟩) ?_ ?_
          rotate_left
          · intro w'
            go_simp
            with_reducible rfl
          rotate_left
          · simp only [Act.put, List.setIfInBounds_toArray, List.set_cons_zero, List.set_cons_succ, i64_w, i32_w]
            rfl
          refine pure_ (i := 15) (N := some 70) (v := undef) (a' := ?_) #[true, true, true, true, true, true, true, true, true, true, true, true, true, true, true, true, false, false, false, false, false] rfl rfl (any_of HT_.out (by kernel_rfl)) (fun _ _ _ h => h) (Or.inr ⟨by rfl, rfl⟩) ?_ ?_
          rotate_left
          · simp only [Act.put, List.setIfInBounds_toArray, List.set_cons_zero, List.set_cons_succ, i64_w, i32_w]
            rfl
          refine pure_ (i := 16) (N := some 71) (v := undef) (a' := ?_) #[true, true, true, true, true, true, true, true, true, true, true, true, true, true, true, true, true, false, false, false, false] rfl rfl (any_of HT_.out (by kernel_rfl)) (fun _ _ _ h => h) (Or.inr ⟨by rfl, rfl⟩) ?_ ?_
          rotate_left
          · simp only [Act.put, List.setIfInBounds_toArray, List.set_cons_zero, List.set_cons_succ, i64_w, i32_w]
            rfl
          refine pure_ (i := 17) (N := some 72) (v := undef) (a' := ?_) #[true, true, true, true, true, true, true, true, true, true, true, true, true, true, true, true, true, true, false, false, false] rfl rfl (any_of HT_.out (by kernel_rfl)) (fun _ _ _ h => h) (Or.inr ⟨by rfl, rfl⟩) ?_ ?_
          rotate_left
          · simp only [Act.put, List.setIfInBounds_toArray, List.set_cons_zero, List.set_cons_succ, i64_w, i32_w]
            rfl
          refine pure_ (i := 18) (N := some 73) (v := undef) (a' := ?_) #[true, true, true, true, true, true, true, true, true, true, true, true, true, true, true, true, true, true, true, false, false] rfl rfl (any_of HT_.out (by kernel_rfl)) (fun _ _ _ h => h) (Or.inr ⟨by rfl, rfl⟩) ?_ ?_
          rotate_left
          · simp only [Act.put, List.setIfInBounds_toArray, List.set_cons_zero, List.set_cons_succ, i64_w, i32_w]
            rfl
          refine pure_ (i := 19) (N := some 74) (v := undef) (a' := ?_) #[true, true, true, true, true, true, true, true, true, true, true, true, true, true, true, true, true, true, true, true, false] rfl rfl (any_of HT_.out (by kernel_rfl)) (fun _ _ _ h => h) (Or.inr ⟨by rfl, rfl⟩) ?_ ?_
          rotate_left
          · simp only [Act.put, List.setIfInBounds_toArray, List.set_cons_zero, List.set_cons_succ, i64_w, i32_w]
            rfl
          refine pure_ (i := 20) (N := some 75) (v := ?_) (a' := ?_) #[true, true, true, true, true, true, true, true, true, true, true, true, true, true, true, true, true, true, true, true, true] rfl rfl (any_of HT_.out (by kernel_rfl)) (fun _ _ _ h => h) (Or.inl ⟨by rfl, ?_⟩) ?_ ?_
          rotate_left
          · intro w'
            go_simp
            with_reducible rfl
          rotate_left
          · simp only [Act.put, List.setIfInBounds_toArray, List.set_cons_zero, List.set_cons_succ, i64_w, i32_w]
            rfl
          refine done_ (done_of HT_.out (by kernel_rfl)) ?_
          try go_wp2
          go_meet
          case rel => exact ⟨_, (true), (by first | rfl | (simp; done) | (simp [*]; done)), H', ⟨by first | omega | exact Nat.le_refl _⟩, ⟨by (with_reducible repeat (first | refine blk_drewN ?_ _ | refine blk_drew ?_ | refine blk_alloc ?_ _)); exact BK279.out⟩, ⟨by repeat (first | (with_reducible first | exact HB.out | apply below_alloc | apply pw_below_drewN | apply below_drew1 | refine below_set ?_ GE279.out) | exact HB.out)⟩⟩
    case rest => as_aux_lemma =>
      clear HC8
      try clear c1
      try clear c2
      try clear p2
      try clear c15
      try clear c15b0
      try clear c15b1
      try clear c15b2
      try clear c17
      try clear c17b0
      try clear c17b1
      try clear c19
      try clear c19b0
      try clear c19b1
      try clear c19b2
      try clear c20
      obtain ⟨kq, x75_7, rfl, HA, HJ7, BK279, HB⟩ := hcut
      cases kq with
      | zero => exact absurd HA.out (by simp [laws_FnTilesRanked.j0])
      | succ kj7 =>
        have H := HA.out
        clear HA
        simp only [laws_FnTilesRanked.j0] at H
        by_cases c29 : x75_7 = true
        · subst c29
          have H1 : (none) = some r := by rw [if_pos rfl] at H; exact H
          clear H
          have H := H1
          clear H1
          exact absurd H (by simp)
        · replace c29 := Bool.eq_false_iff.mpr c29
          subst c29
          have H1 : (if t281 = true then ((impl_TileOfRank.f kj7 t280).bind fun bt287 => ((impl_TileOf.f t278 t277).bind fun bt291 => (if bt287.2.2 = true then (if (!(bt287.1 == t277) || (!(bt287.2.1 == t278))) = true then (none) else (if bt291.2.2 = true then (if (!(bt291.1 == t277) || (!(bt291.2.1 == t278))) = true then (none) else (laws_FnTilesRanked.j1 kj7 l1)) else (none))) else (none)))) else (laws_FnTilesRanked.j1 kj7 l1)) = some r := by rw [if_neg (show ¬ (false = true) by decide)] at H; exact H
          clear H
          have H := H1
          clear H1
          have HC30 := Aside0.mk H
          clear H
          go_upto_if 76 with (fail)
          go_cut [] (fun wc => ∃ (kq : Nat), Aside0 (laws_FnTilesRanked.j1 kq l1 = some r) ∧ Aside0 (kq ≤ kj7) ∧ Aside0 (wc.heap[gb279]? = some (.cells #[.int .i64 t277, .int .i64 t278] 25 (0, 0))) ∧ Aside0 (Below w.heap.size w wc))
          case first => as_aux_lemma =>
            have H := HC30.out
            clear HC30
            by_cases c31 : t281 = true
            · subst c31
              have H1 : ((impl_TileOfRank.f kj7 t280).bind fun bt287 => ((impl_TileOf.f t278 t277).bind fun bt291 => (if bt287.2.2 = true then (if (!(bt287.1 == t277) || (!(bt287.2.1 == t278))) = true then (none) else (if bt291.2.2 = true then (if (!(bt291.1 == t277) || (!(bt291.2.1 == t278))) = true then (none) else (laws_FnTilesRanked.j1 kj7 l1)) else (none))) else (none)))) = some r := by rw [if_pos rfl] at H; exact H
              clear H
              have H := H1
              clear H1
              replace H := Option.bind_eq_some_iff.mp H
              obtain ⟨⟨t287, t288, t289⟩, A320, H⟩ := H
              replace H : ((impl_TileOf.f t278 t277).bind fun bt291 => (if t289 = true then (if (!(t287 == t277) || (!(t288 == t278))) = true then (none) else (if bt291.2.2 = true then (if (!(bt291.1 == t277) || (!(bt291.2.1 == t278))) = true then (none) else (laws_FnTilesRanked.j1 kj7 l1)) else (none))) else (none))) = some r := H
              have A32 := Aside0.mk A320
              clear A320
              replace H := Option.bind_eq_some_iff.mp H
              obtain ⟨⟨t291, t292, t293⟩, A330, H⟩ := H
              replace H : (if t289 = true then (if (!(t287 == t277) || (!(t288 == t278))) = true then (none) else (if t293 = true then (if (!(t291 == t277) || (!(t292 == t278))) = true then (none) else (laws_FnTilesRanked.j1 kj7 l1)) else (none))) else (none)) = some r := H
              have A33 := Aside0.mk A330
              clear A330
              by_cases c34 : t289 = true
              · subst c34
                have H1 : (if (!(t287 == t277) || (!(t288 == t278))) = true then (none) else (if t293 = true then (if (!(t291 == t277) || (!(t292 == t278))) = true then (none) else (laws_FnTilesRanked.j1 kj7 l1)) else (none))) = some r := by rw [if_pos rfl] at H; exact H
                clear H
                have H := H1
                clear H1
                by_cases c35 : (!(t287 == t277) || (!(t288 == t278))) = true
                · rw [if_pos c35] at H
                  exact absurd H (by simp)
                · rw [if_neg c35] at H
                  have c35b0 : (!(t287 == t277) || (!(t288 == t278))) = false := by simpa using c35
                  clear c35
                  (first | rw [c35b0] | (simp only [i64_w, i32_w]; rw [c35b0]) | skip)
                  by_cases c36 : t293 = true
                  · subst c36
                    have H1 : (if (!(t291 == t277) || (!(t292 == t278))) = true then (none) else (laws_FnTilesRanked.j1 kj7 l1)) = some r := by rw [if_pos rfl] at H; exact H
                    clear H
                    have H := H1
                    clear H1
                    by_cases c37 : (!(t291 == t277) || (!(t292 == t278))) = true
                    · rw [if_pos c37] at H
                      exact absurd H (by simp)
                    · rw [if_neg c37] at H
                      have c37b0 : (!(t291 == t277) || (!(t292 == t278))) = false := by simpa using c37
                      clear c37
                      have H' := Aside0.mk H
                      clear H
                      go_wp2_with (first | ((with_reducible refine gate_callee (f := 21) rfl ?_); refine goesL_ (some 79) rfl rfl Try.func21 (by kernel_rfl) rfl #[.int .i64 t280] rfl (by (try simp only [List.map_toArray, List.map_cons, List.map_nil]); first | done | rfl | (simp only [List.length_drop, List.length_take]; rfl)) ?_; (with_reducible refine (impl_TileOfRank.calls kj7 t280 t287 t288 true _ A32.out).mono ?_); rintro e w38 ⟨rfl, hb⟩; refine ⟨_, rfl, ?_⟩; replace BK279 := Aside0.mk (blk_below (g := gb279) (o := .cells #[.int .i64 t277, .int .i64 t278] 25 (0, 0)) (by (with_reducible repeat (first | refine blk_drewN ?_ _ | refine blk_drew ?_ | refine blk_alloc ?_ _)); exact BK279.out) hb); replace HB := Aside0.mk (below_step (by repeat (first | (with_reducible first | exact HB.out | apply below_alloc | apply pw_below_drewN | apply below_drew1 | refine below_set ?_ GE279.out) | exact HB.out)) hb); (try clear hb); (try clear hb2); (try clear hk); (try clear hi)) | ((with_reducible refine gate_dst (N := 10) rfl ?_); refine box_event ?hg (N := 10) ?hd (cs := #[.int .i64 0, .int .i64 0]) (t := 25) ?hr ?_; (case hd => rfl); (case hg => rfl); (case hr => first | (go_simp; done) | (go_simp; rfl)); intro gb290 hg w39 hbox hb; have BK290 := Aside0.mk (hbox); have GW290 := Aside0.mk ((by rw [hg]; exact (below_size (by repeat (first | (with_reducible first | exact HB.out | apply below_alloc | apply pw_below_drewN | apply below_drew1 | refine below_set ?_ GE279.out) | exact HB.out))) : w.heap.size ≤ gb290)); have GE290 := Aside0.mk ((by rw [hg]; exact (below_size (by repeat (first | (with_reducible first | exact HB.out | apply below_alloc | apply pw_below_drewN | apply below_drew1 | refine below_set ?_ GE279.out) | exact HB.out))) : w.heap.size ≤ gb290)); replace HB := Aside0.mk (below_step (by repeat (first | (with_reducible first | exact HB.out | apply below_alloc | apply pw_below_drewN | apply below_drew1 | refine below_set ?_ GE279.out) | exact HB.out)) hb); have NB279_290 := Aside0.mk ((by rw [hg]; exact Nat.ne_of_lt (blk_lt (g := gb279) (o := .cells #[.int .i64 t277, .int .i64 t278] 25 (0, 0)) (by (with_reducible repeat (first | refine blk_drewN ?_ _ | refine blk_drew ?_ | refine blk_alloc ?_ _)); exact BK279.out)) : gb279 ≠ gb290)); have NB290_279 := Aside0.mk ((by rw [hg]; exact Nat.ne_of_gt (blk_lt (g := gb279) (o := .cells #[.int .i64 t277, .int .i64 t278] 25 (0, 0)) (by (with_reducible repeat (first | refine blk_drewN ?_ _ | refine blk_drew ?_ | refine blk_alloc ?_ _)); exact BK279.out)) : gb290 ≠ gb279)); replace BK279 := Aside0.mk (blk_below (g := gb279) (o := .cells #[.int .i64 t277, .int .i64 t278] 25 (0, 0)) (by (with_reducible repeat (first | refine blk_drewN ?_ _ | refine blk_drew ?_ | refine blk_alloc ?_ _)); exact BK279.out) hb); clear hb hbox hg; have hnb40 := NB290_279.out; have hnc40 := NB279_290.out; have hcz41_0 : w39.cell? ⟨gb290, 0, none⟩ = some (.int .i64 0) := (blk_cell BK290.out 0).trans rfl; have hcz41_1 : w39.cell? ⟨gb290, 1, none⟩ = some (.int .i64 0) := (blk_cell BK290.out 1).trans rfl; have hfz41_0 := blk_frozen BK290.out 0; have hfz41_1 := blk_frozen BK290.out 1; have hcz42_0 : w39.cell? ⟨gb279, 0, none⟩ = some (.int .i64 t277) := (blk_cell BK279.out 0).trans rfl; have hcz42_1 : w39.cell? ⟨gb279, 1, none⟩ = some (.int .i64 t278) := (blk_cell BK279.out 1).trans rfl; have hfz42_0 := blk_frozen BK279.out 0; have hfz42_1 := blk_frozen BK279.out 1) | ((with_reducible refine gate_callee (f := 22) rfl ?_); refine goesL_ (some 87) rfl rfl Try.func22 (by kernel_rfl) rfl #[.int .i64 t278, .int .i64 t277] rfl (by (try simp only [List.map_toArray, List.map_cons, List.map_nil]); first | done | rfl | (simp only [List.length_drop, List.length_take]; rfl)) ?_; (with_reducible refine (impl_TileOf.calls t278 t277 t291 t292 true _ A33.out).mono ?_); rintro e w43 ⟨rfl, hb⟩; refine ⟨_, rfl, ?_⟩; replace BK279 := Aside0.mk (blk_below (g := gb279) (o := .cells #[.int .i64 t277, .int .i64 t278] 25 (0, 0)) (by (with_reducible repeat (first | refine blk_drewN ?_ _ | refine blk_drew ?_ | refine blk_alloc ?_ _)); refine blk_far ?_ NB279_290.out _; (with_reducible repeat (first | refine blk_drewN ?_ _ | refine blk_drew ?_ | refine blk_alloc ?_ _)); refine blk_far ?_ NB279_290.out _; (with_reducible repeat (first | refine blk_drewN ?_ _ | refine blk_drew ?_ | refine blk_alloc ?_ _)); exact BK279.out) hb); replace BK290 := Aside0.mk (blk_below (g := gb290) (o := .cells #[.int .i64 t287, .int .i64 t288] 25 (0, 0)) (by (with_reducible repeat (first | refine blk_drewN ?_ _ | refine blk_drew ?_ | refine blk_alloc ?_ _)); refine blk_put (cs := #[.int .i64 t287, .int .i64 0]) ?_ 1 _ rfl; (with_reducible repeat (first | refine blk_drewN ?_ _ | refine blk_drew ?_ | refine blk_alloc ?_ _)); refine blk_put (cs := #[.int .i64 0, .int .i64 0]) ?_ 0 _ rfl; (with_reducible repeat (first | refine blk_drewN ?_ _ | refine blk_drew ?_ | refine blk_alloc ?_ _)); exact BK290.out) hb); replace HB := Aside0.mk (below_step (by repeat (first | (with_reducible first | exact HB.out | apply below_alloc | apply pw_below_drewN | apply below_drew1 | refine below_set ?_ GE279.out | refine below_set ?_ GE290.out) | exact HB.out)) hb); (try clear hb); (try clear hb2); (try clear hk); (try clear hi)) | ((with_reducible refine gate_dst (N := 12) rfl ?_); refine box_event ?hg (N := 12) ?hd (cs := #[.int .i64 0, .int .i64 0]) (t := 25) ?hr ?_; (case hd => rfl); (case hg => rfl); (case hr => first | (go_simp; done) | (go_simp; rfl)); intro gb294 hg w44 hbox hb; have BK294 := Aside0.mk (hbox); have GW294 := Aside0.mk ((by rw [hg]; exact (below_size (by repeat (first | (with_reducible first | exact HB.out | apply below_alloc | apply pw_below_drewN | apply below_drew1 | refine below_set ?_ GE279.out | refine below_set ?_ GE290.out) | exact HB.out))) : w.heap.size ≤ gb294)); have GE294 := Aside0.mk ((by rw [hg]; exact (below_size (by repeat (first | (with_reducible first | exact HB.out | apply below_alloc | apply pw_below_drewN | apply below_drew1 | refine below_set ?_ GE279.out | refine below_set ?_ GE290.out) | exact HB.out))) : w.heap.size ≤ gb294)); replace HB := Aside0.mk (below_step (by repeat (first | (with_reducible first | exact HB.out | apply below_alloc | apply pw_below_drewN | apply below_drew1 | refine below_set ?_ GE279.out | refine below_set ?_ GE290.out) | exact HB.out)) hb); have NB279_294 := Aside0.mk ((by rw [hg]; exact Nat.ne_of_lt (blk_lt (g := gb279) (o := .cells #[.int .i64 t277, .int .i64 t278] 25 (0, 0)) (by (with_reducible repeat (first | refine blk_drewN ?_ _ | refine blk_drew ?_ | refine blk_alloc ?_ _)); exact BK279.out)) : gb279 ≠ gb294)); have NB294_279 := Aside0.mk ((by rw [hg]; exact Nat.ne_of_gt (blk_lt (g := gb279) (o := .cells #[.int .i64 t277, .int .i64 t278] 25 (0, 0)) (by (with_reducible repeat (first | refine blk_drewN ?_ _ | refine blk_drew ?_ | refine blk_alloc ?_ _)); exact BK279.out)) : gb294 ≠ gb279)); replace BK279 := Aside0.mk (blk_below (g := gb279) (o := .cells #[.int .i64 t277, .int .i64 t278] 25 (0, 0)) (by (with_reducible repeat (first | refine blk_drewN ?_ _ | refine blk_drew ?_ | refine blk_alloc ?_ _)); exact BK279.out) hb); have NB290_294 := Aside0.mk ((by rw [hg]; exact Nat.ne_of_lt (blk_lt (g := gb290) (o := .cells #[.int .i64 t287, .int .i64 t288] 25 (0, 0)) (by (with_reducible repeat (first | refine blk_drewN ?_ _ | refine blk_drew ?_ | refine blk_alloc ?_ _)); exact BK290.out)) : gb290 ≠ gb294)); have NB294_290 := Aside0.mk ((by rw [hg]; exact Nat.ne_of_gt (blk_lt (g := gb290) (o := .cells #[.int .i64 t287, .int .i64 t288] 25 (0, 0)) (by (with_reducible repeat (first | refine blk_drewN ?_ _ | refine blk_drew ?_ | refine blk_alloc ?_ _)); exact BK290.out)) : gb294 ≠ gb290)); replace BK290 := Aside0.mk (blk_below (g := gb290) (o := .cells #[.int .i64 t287, .int .i64 t288] 25 (0, 0)) (by (with_reducible repeat (first | refine blk_drewN ?_ _ | refine blk_drew ?_ | refine blk_alloc ?_ _)); exact BK290.out) hb); clear hb hbox hg; have hnb45 := NB294_279.out; have hnc45 := NB279_294.out; have hnb46 := NB294_290.out; have hnc46 := NB290_294.out; have hcz47_0 : w44.cell? ⟨gb294, 0, none⟩ = some (.int .i64 0) := (blk_cell BK294.out 0).trans rfl; have hcz47_1 : w44.cell? ⟨gb294, 1, none⟩ = some (.int .i64 0) := (blk_cell BK294.out 1).trans rfl; have hfz47_0 := blk_frozen BK294.out 0; have hfz47_1 := blk_frozen BK294.out 1; have hcz48_0 : w44.cell? ⟨gb290, 0, none⟩ = some (.int .i64 t287) := (blk_cell BK290.out 0).trans rfl; have hcz48_1 : w44.cell? ⟨gb290, 1, none⟩ = some (.int .i64 t288) := (blk_cell BK290.out 1).trans rfl; have hfz48_0 := blk_frozen BK290.out 0; have hfz48_1 := blk_frozen BK290.out 1; have hcz49_0 : w44.cell? ⟨gb279, 0, none⟩ = some (.int .i64 t277) := (blk_cell BK279.out 0).trans rfl; have hcz49_1 : w44.cell? ⟨gb279, 1, none⟩ = some (.int .i64 t278) := (blk_cell BK279.out 1).trans rfl; have hfz49_0 := blk_frozen BK279.out 0; have hfz49_1 := blk_frozen BK279.out 1))
                      go_meet
                      case rel => exact ⟨_, H', ⟨by have := HJ7.out; first | omega | exact Nat.le_refl _⟩, ⟨by (with_reducible repeat (first | refine blk_drewN ?_ _ | refine blk_drew ?_ | refine blk_alloc ?_ _)); refine blk_far ?_ NB279_294.out _; (with_reducible repeat (first | refine blk_drewN ?_ _ | refine blk_drew ?_ | refine blk_alloc ?_ _)); refine blk_far ?_ NB279_294.out _; (with_reducible repeat (first | refine blk_drewN ?_ _ | refine blk_drew ?_ | refine blk_alloc ?_ _)); exact BK279.out⟩, ⟨by repeat (first | (with_reducible first | exact HB.out | apply below_alloc | apply pw_below_drewN | apply below_drew1 | refine below_set ?_ GE279.out | refine below_set ?_ GE290.out | refine below_set ?_ GE294.out) | exact HB.out)⟩⟩
                  · replace c36 := Bool.eq_false_iff.mpr c36
                    subst c36
                    have H1 : (none) = some r := by rw [if_neg (show ¬ (false = true) by decide)] at H; exact H
                    clear H
                    have H := H1
                    clear H1
                    exact absurd H (by simp)
              · replace c34 := Bool.eq_false_iff.mpr c34
                subst c34
                have H1 : (none) = some r := by rw [if_neg (show ¬ (false = true) by decide)] at H; exact H
                clear H
                have H := H1
                clear H1
                exact absurd H (by simp)
            · replace c31 := Bool.eq_false_iff.mpr c31
              subst c31
              have H1 : (laws_FnTilesRanked.j1 kj7 l1) = some r := by rw [if_neg (show ¬ (false = true) by decide)] at H; exact H
              clear H
              have H := H1
              clear H1
              have H' := Aside0.mk H
              clear H
              go_wp2
              go_meet
              case rel => exact ⟨_, H', ⟨by have := HJ7.out; first | omega | exact Nat.le_refl _⟩, ⟨by (with_reducible repeat (first | refine blk_drewN ?_ _ | refine blk_drew ?_ | refine blk_alloc ?_ _)); exact BK279.out⟩, ⟨by repeat (first | (with_reducible first | exact HB.out | apply below_alloc | apply pw_below_drewN | apply below_drew1 | refine below_set ?_ GE279.out) | exact HB.out)⟩⟩
          case rest => as_aux_lemma =>
            clear HC30
            try clear c1
            try clear c2
            try clear p2
            try clear c3
            try clear c4
            try clear c15
            try clear c15b0
            try clear c15b1
            try clear c15b2
            try clear c17
            try clear c17b0
            try clear c17b1
            try clear c19
            try clear c19b0
            try clear c19b1
            try clear c19b2
            try clear c20
            try clear c21
            try clear c22
            try clear c29
            try clear c31
            try clear c34
            try clear c35
            try clear c35b0
            try clear c36
            try clear c37
            try clear c37b0
            try clear c40
            try clear c45
            try clear c46
            try clear hcz41_0
            try clear hcz41_1
            try clear hcz42_0
            try clear hcz42_1
            try clear hcz47_0
            try clear hcz47_1
            try clear hcz48_0
            try clear hcz48_1
            try clear hcz49_0
            try clear hcz49_1
            try clear hfz41_0
            try clear hfz41_1
            try clear hfz42_0
            try clear hfz42_1
            try clear hfz47_0
            try clear hfz47_1
            try clear hfz48_0
            try clear hfz48_1
            try clear hfz49_0
            try clear hfz49_1
            try clear p2
            obtain ⟨kq, HA, HJ29, BK279, HB⟩ := hcut
            cases kq with
            | zero => exact absurd HA.out (by simp [laws_FnTilesRanked.j1])
            | succ kj29 =>
              have H := HA.out
              clear HA
              simp only [laws_FnTilesRanked.j1] at H
              replace H := Option.bind_eq_some_iff.mp H
              obtain ⟨t295, A500, H⟩ := H
              replace H : ((impl_TileOfRank.f kj29 t295).bind fun bt296 => ((spec_TileOfRank.f kj29 t295).bind fun bt300 => ((spec_DrawTileOf.f l1).bind fun bt304 => ((impl_TileOf.f bt304.1 bt304.2).bind fun bt306 => ((spec_TileOf.f bt304.1 bt304.2).bind fun bt310 => ((spec_DrawSetOf.f l1).bind fun t314 => ((impl_SetOf.f kj29 t314).bind fun bt315 => ((spec_SetOf.f kj29 t314).bind fun bt319 => ((impl_CountSet.f kj29 t314).bind fun bt323 => ((spec_CountSet.f t314).bind fun bt325 => (if (bt296.2.2 != bt300.2.2) = true then (laws_FnTilesRanked.j2 kj29 t295 bt296.2.2 t314 bt315.1 bt315.2 bt323.1 true bt296.1 bt296.2.1) else (if (!(bt296.1 == bt300.1) || (!(bt296.2.1 == bt300.2.1))) = true then (laws_FnTilesRanked.j2 kj29 t295 bt296.2.2 t314 bt315.1 bt315.2 bt323.1 true bt296.1 bt296.2.1) else (if (bt306.2.2 != bt310.2.2) = true then (laws_FnTilesRanked.j2 kj29 t295 bt296.2.2 t314 bt315.1 bt315.2 bt323.1 true bt296.1 bt296.2.1) else (if (!(bt306.1 == bt310.1) || (!(bt306.2.1 == bt310.2.1))) = true then (laws_FnTilesRanked.j2 kj29 t295 bt296.2.2 t314 bt315.1 bt315.2 bt323.1 true bt296.1 bt296.2.1) else (if (bt315.2 != bt319.2) = true then (laws_FnTilesRanked.j2 kj29 t295 bt296.2.2 t314 bt315.1 bt315.2 bt323.1 true bt296.1 bt296.2.1) else ((laws_mTiles.f kj29 bt315.1 bt319.1).bind fun t327 => (if t327 = true then (if (bt323.2 != bt325.2) = true then (laws_FnTilesRanked.j2 kj29 t295 bt296.2.2 t314 bt315.1 bt315.2 bt323.1 true bt296.1 bt296.2.1) else (if bt323.1 = bt325.1 then (laws_FnTilesRanked.j2 kj29 t295 bt296.2.2 t314 bt315.1 bt315.2 bt323.1 (bt323.2 != bt315.2) bt296.1 bt296.2.1) else (laws_FnTilesRanked.j2 kj29 t295 bt296.2.2 t314 bt315.1 bt315.2 bt323.1 true bt296.1 bt296.2.1))) else (laws_FnTilesRanked.j2 kj29 t295 bt296.2.2 t314 bt315.1 bt315.2 bt323.1 true bt296.1 bt296.2.1)))))))))))))))))) = some r := H
              have A50 := Aside0.mk A500
              clear A500
              replace H := Option.bind_eq_some_iff.mp H
              obtain ⟨⟨t296, t297, t298⟩, A510, H⟩ := H
              replace H : ((spec_TileOfRank.f kj29 t295).bind fun bt300 => ((spec_DrawTileOf.f l1).bind fun bt304 => ((impl_TileOf.f bt304.1 bt304.2).bind fun bt306 => ((spec_TileOf.f bt304.1 bt304.2).bind fun bt310 => ((spec_DrawSetOf.f l1).bind fun t314 => ((impl_SetOf.f kj29 t314).bind fun bt315 => ((spec_SetOf.f kj29 t314).bind fun bt319 => ((impl_CountSet.f kj29 t314).bind fun bt323 => ((spec_CountSet.f t314).bind fun bt325 => (if (t298 != bt300.2.2) = true then (laws_FnTilesRanked.j2 kj29 t295 t298 t314 bt315.1 bt315.2 bt323.1 true t296 t297) else (if (!(t296 == bt300.1) || (!(t297 == bt300.2.1))) = true then (laws_FnTilesRanked.j2 kj29 t295 t298 t314 bt315.1 bt315.2 bt323.1 true t296 t297) else (if (bt306.2.2 != bt310.2.2) = true then (laws_FnTilesRanked.j2 kj29 t295 t298 t314 bt315.1 bt315.2 bt323.1 true t296 t297) else (if (!(bt306.1 == bt310.1) || (!(bt306.2.1 == bt310.2.1))) = true then (laws_FnTilesRanked.j2 kj29 t295 t298 t314 bt315.1 bt315.2 bt323.1 true t296 t297) else (if (bt315.2 != bt319.2) = true then (laws_FnTilesRanked.j2 kj29 t295 t298 t314 bt315.1 bt315.2 bt323.1 true t296 t297) else ((laws_mTiles.f kj29 bt315.1 bt319.1).bind fun t327 => (if t327 = true then (if (bt323.2 != bt325.2) = true then (laws_FnTilesRanked.j2 kj29 t295 t298 t314 bt315.1 bt315.2 bt323.1 true t296 t297) else (if bt323.1 = bt325.1 then (laws_FnTilesRanked.j2 kj29 t295 t298 t314 bt315.1 bt315.2 bt323.1 (bt323.2 != bt315.2) t296 t297) else (laws_FnTilesRanked.j2 kj29 t295 t298 t314 bt315.1 bt315.2 bt323.1 true t296 t297))) else (laws_FnTilesRanked.j2 kj29 t295 t298 t314 bt315.1 bt315.2 bt323.1 true t296 t297))))))))))))))))) = some r := H
              have A51 := Aside0.mk A510
              clear A510
              replace H := Option.bind_eq_some_iff.mp H
              obtain ⟨⟨t300, t301, t302⟩, A520, H⟩ := H
              replace H : ((spec_DrawTileOf.f l1).bind fun bt304 => ((impl_TileOf.f bt304.1 bt304.2).bind fun bt306 => ((spec_TileOf.f bt304.1 bt304.2).bind fun bt310 => ((spec_DrawSetOf.f l1).bind fun t314 => ((impl_SetOf.f kj29 t314).bind fun bt315 => ((spec_SetOf.f kj29 t314).bind fun bt319 => ((impl_CountSet.f kj29 t314).bind fun bt323 => ((spec_CountSet.f t314).bind fun bt325 => (if (t298 != t302) = true then (laws_FnTilesRanked.j2 kj29 t295 t298 t314 bt315.1 bt315.2 bt323.1 true t296 t297) else (if (!(t296 == t300) || (!(t297 == t301))) = true then (laws_FnTilesRanked.j2 kj29 t295 t298 t314 bt315.1 bt315.2 bt323.1 true t296 t297) else (if (bt306.2.2 != bt310.2.2) = true then (laws_FnTilesRanked.j2 kj29 t295 t298 t314 bt315.1 bt315.2 bt323.1 true t296 t297) else (if (!(bt306.1 == bt310.1) || (!(bt306.2.1 == bt310.2.1))) = true then (laws_FnTilesRanked.j2 kj29 t295 t298 t314 bt315.1 bt315.2 bt323.1 true t296 t297) else (if (bt315.2 != bt319.2) = true then (laws_FnTilesRanked.j2 kj29 t295 t298 t314 bt315.1 bt315.2 bt323.1 true t296 t297) else ((laws_mTiles.f kj29 bt315.1 bt319.1).bind fun t327 => (if t327 = true then (if (bt323.2 != bt325.2) = true then (laws_FnTilesRanked.j2 kj29 t295 t298 t314 bt315.1 bt315.2 bt323.1 true t296 t297) else (if bt323.1 = bt325.1 then (laws_FnTilesRanked.j2 kj29 t295 t298 t314 bt315.1 bt315.2 bt323.1 (bt323.2 != bt315.2) t296 t297) else (laws_FnTilesRanked.j2 kj29 t295 t298 t314 bt315.1 bt315.2 bt323.1 true t296 t297))) else (laws_FnTilesRanked.j2 kj29 t295 t298 t314 bt315.1 bt315.2 bt323.1 true t296 t297)))))))))))))))) = some r := H
              have A52 := Aside0.mk A520
              clear A520
              replace H := Option.bind_eq_some_iff.mp H
              obtain ⟨⟨t304, t305⟩, A530, H⟩ := H
              replace H : ((impl_TileOf.f t304 t305).bind fun bt306 => ((spec_TileOf.f t304 t305).bind fun bt310 => ((spec_DrawSetOf.f l1).bind fun t314 => ((impl_SetOf.f kj29 t314).bind fun bt315 => ((spec_SetOf.f kj29 t314).bind fun bt319 => ((impl_CountSet.f kj29 t314).bind fun bt323 => ((spec_CountSet.f t314).bind fun bt325 => (if (t298 != t302) = true then (laws_FnTilesRanked.j2 kj29 t295 t298 t314 bt315.1 bt315.2 bt323.1 true t296 t297) else (if (!(t296 == t300) || (!(t297 == t301))) = true then (laws_FnTilesRanked.j2 kj29 t295 t298 t314 bt315.1 bt315.2 bt323.1 true t296 t297) else (if (bt306.2.2 != bt310.2.2) = true then (laws_FnTilesRanked.j2 kj29 t295 t298 t314 bt315.1 bt315.2 bt323.1 true t296 t297) else (if (!(bt306.1 == bt310.1) || (!(bt306.2.1 == bt310.2.1))) = true then (laws_FnTilesRanked.j2 kj29 t295 t298 t314 bt315.1 bt315.2 bt323.1 true t296 t297) else (if (bt315.2 != bt319.2) = true then (laws_FnTilesRanked.j2 kj29 t295 t298 t314 bt315.1 bt315.2 bt323.1 true t296 t297) else ((laws_mTiles.f kj29 bt315.1 bt319.1).bind fun t327 => (if t327 = true then (if (bt323.2 != bt325.2) = true then (laws_FnTilesRanked.j2 kj29 t295 t298 t314 bt315.1 bt315.2 bt323.1 true t296 t297) else (if bt323.1 = bt325.1 then (laws_FnTilesRanked.j2 kj29 t295 t298 t314 bt315.1 bt315.2 bt323.1 (bt323.2 != bt315.2) t296 t297) else (laws_FnTilesRanked.j2 kj29 t295 t298 t314 bt315.1 bt315.2 bt323.1 true t296 t297))) else (laws_FnTilesRanked.j2 kj29 t295 t298 t314 bt315.1 bt315.2 bt323.1 true t296 t297))))))))))))))) = some r := H
              have A53 := Aside0.mk A530
              clear A530
              replace H := Option.bind_eq_some_iff.mp H
              obtain ⟨⟨t306, t307, t308⟩, A540, H⟩ := H
              replace H : ((spec_TileOf.f t304 t305).bind fun bt310 => ((spec_DrawSetOf.f l1).bind fun t314 => ((impl_SetOf.f kj29 t314).bind fun bt315 => ((spec_SetOf.f kj29 t314).bind fun bt319 => ((impl_CountSet.f kj29 t314).bind fun bt323 => ((spec_CountSet.f t314).bind fun bt325 => (if (t298 != t302) = true then (laws_FnTilesRanked.j2 kj29 t295 t298 t314 bt315.1 bt315.2 bt323.1 true t296 t297) else (if (!(t296 == t300) || (!(t297 == t301))) = true then (laws_FnTilesRanked.j2 kj29 t295 t298 t314 bt315.1 bt315.2 bt323.1 true t296 t297) else (if (t308 != bt310.2.2) = true then (laws_FnTilesRanked.j2 kj29 t295 t298 t314 bt315.1 bt315.2 bt323.1 true t296 t297) else (if (!(t306 == bt310.1) || (!(t307 == bt310.2.1))) = true then (laws_FnTilesRanked.j2 kj29 t295 t298 t314 bt315.1 bt315.2 bt323.1 true t296 t297) else (if (bt315.2 != bt319.2) = true then (laws_FnTilesRanked.j2 kj29 t295 t298 t314 bt315.1 bt315.2 bt323.1 true t296 t297) else ((laws_mTiles.f kj29 bt315.1 bt319.1).bind fun t327 => (if t327 = true then (if (bt323.2 != bt325.2) = true then (laws_FnTilesRanked.j2 kj29 t295 t298 t314 bt315.1 bt315.2 bt323.1 true t296 t297) else (if bt323.1 = bt325.1 then (laws_FnTilesRanked.j2 kj29 t295 t298 t314 bt315.1 bt315.2 bt323.1 (bt323.2 != bt315.2) t296 t297) else (laws_FnTilesRanked.j2 kj29 t295 t298 t314 bt315.1 bt315.2 bt323.1 true t296 t297))) else (laws_FnTilesRanked.j2 kj29 t295 t298 t314 bt315.1 bt315.2 bt323.1 true t296 t297)))))))))))))) = some r := H
              have A54 := Aside0.mk A540
              clear A540
              replace H := Option.bind_eq_some_iff.mp H
              obtain ⟨⟨t310, t311, t312⟩, A550, H⟩ := H
              replace H : ((spec_DrawSetOf.f l1).bind fun t314 => ((impl_SetOf.f kj29 t314).bind fun bt315 => ((spec_SetOf.f kj29 t314).bind fun bt319 => ((impl_CountSet.f kj29 t314).bind fun bt323 => ((spec_CountSet.f t314).bind fun bt325 => (if (t298 != t302) = true then (laws_FnTilesRanked.j2 kj29 t295 t298 t314 bt315.1 bt315.2 bt323.1 true t296 t297) else (if (!(t296 == t300) || (!(t297 == t301))) = true then (laws_FnTilesRanked.j2 kj29 t295 t298 t314 bt315.1 bt315.2 bt323.1 true t296 t297) else (if (t308 != t312) = true then (laws_FnTilesRanked.j2 kj29 t295 t298 t314 bt315.1 bt315.2 bt323.1 true t296 t297) else (if (!(t306 == t310) || (!(t307 == t311))) = true then (laws_FnTilesRanked.j2 kj29 t295 t298 t314 bt315.1 bt315.2 bt323.1 true t296 t297) else (if (bt315.2 != bt319.2) = true then (laws_FnTilesRanked.j2 kj29 t295 t298 t314 bt315.1 bt315.2 bt323.1 true t296 t297) else ((laws_mTiles.f kj29 bt315.1 bt319.1).bind fun t327 => (if t327 = true then (if (bt323.2 != bt325.2) = true then (laws_FnTilesRanked.j2 kj29 t295 t298 t314 bt315.1 bt315.2 bt323.1 true t296 t297) else (if bt323.1 = bt325.1 then (laws_FnTilesRanked.j2 kj29 t295 t298 t314 bt315.1 bt315.2 bt323.1 (bt323.2 != bt315.2) t296 t297) else (laws_FnTilesRanked.j2 kj29 t295 t298 t314 bt315.1 bt315.2 bt323.1 true t296 t297))) else (laws_FnTilesRanked.j2 kj29 t295 t298 t314 bt315.1 bt315.2 bt323.1 true t296 t297))))))))))))) = some r := H
              have A55 := Aside0.mk A550
              clear A550
              replace H := Option.bind_eq_some_iff.mp H
              obtain ⟨t314, A560, H⟩ := H
              replace H : ((impl_SetOf.f kj29 t314).bind fun bt315 => ((spec_SetOf.f kj29 t314).bind fun bt319 => ((impl_CountSet.f kj29 t314).bind fun bt323 => ((spec_CountSet.f t314).bind fun bt325 => (if (t298 != t302) = true then (laws_FnTilesRanked.j2 kj29 t295 t298 t314 bt315.1 bt315.2 bt323.1 true t296 t297) else (if (!(t296 == t300) || (!(t297 == t301))) = true then (laws_FnTilesRanked.j2 kj29 t295 t298 t314 bt315.1 bt315.2 bt323.1 true t296 t297) else (if (t308 != t312) = true then (laws_FnTilesRanked.j2 kj29 t295 t298 t314 bt315.1 bt315.2 bt323.1 true t296 t297) else (if (!(t306 == t310) || (!(t307 == t311))) = true then (laws_FnTilesRanked.j2 kj29 t295 t298 t314 bt315.1 bt315.2 bt323.1 true t296 t297) else (if (bt315.2 != bt319.2) = true then (laws_FnTilesRanked.j2 kj29 t295 t298 t314 bt315.1 bt315.2 bt323.1 true t296 t297) else ((laws_mTiles.f kj29 bt315.1 bt319.1).bind fun t327 => (if t327 = true then (if (bt323.2 != bt325.2) = true then (laws_FnTilesRanked.j2 kj29 t295 t298 t314 bt315.1 bt315.2 bt323.1 true t296 t297) else (if bt323.1 = bt325.1 then (laws_FnTilesRanked.j2 kj29 t295 t298 t314 bt315.1 bt315.2 bt323.1 (bt323.2 != bt315.2) t296 t297) else (laws_FnTilesRanked.j2 kj29 t295 t298 t314 bt315.1 bt315.2 bt323.1 true t296 t297))) else (laws_FnTilesRanked.j2 kj29 t295 t298 t314 bt315.1 bt315.2 bt323.1 true t296 t297)))))))))))) = some r := H
              have A56 := Aside0.mk A560
              clear A560
              replace H := Option.bind_eq_some_iff.mp H
              obtain ⟨⟨t315, t316⟩, A570, H⟩ := H
              replace H : ((spec_SetOf.f kj29 t314).bind fun bt319 => ((impl_CountSet.f kj29 t314).bind fun bt323 => ((spec_CountSet.f t314).bind fun bt325 => (if (t298 != t302) = true then (laws_FnTilesRanked.j2 kj29 t295 t298 t314 t315 t316 bt323.1 true t296 t297) else (if (!(t296 == t300) || (!(t297 == t301))) = true then (laws_FnTilesRanked.j2 kj29 t295 t298 t314 t315 t316 bt323.1 true t296 t297) else (if (t308 != t312) = true then (laws_FnTilesRanked.j2 kj29 t295 t298 t314 t315 t316 bt323.1 true t296 t297) else (if (!(t306 == t310) || (!(t307 == t311))) = true then (laws_FnTilesRanked.j2 kj29 t295 t298 t314 t315 t316 bt323.1 true t296 t297) else (if (t316 != bt319.2) = true then (laws_FnTilesRanked.j2 kj29 t295 t298 t314 t315 t316 bt323.1 true t296 t297) else ((laws_mTiles.f kj29 t315 bt319.1).bind fun t327 => (if t327 = true then (if (bt323.2 != bt325.2) = true then (laws_FnTilesRanked.j2 kj29 t295 t298 t314 t315 t316 bt323.1 true t296 t297) else (if bt323.1 = bt325.1 then (laws_FnTilesRanked.j2 kj29 t295 t298 t314 t315 t316 bt323.1 (bt323.2 != t316) t296 t297) else (laws_FnTilesRanked.j2 kj29 t295 t298 t314 t315 t316 bt323.1 true t296 t297))) else (laws_FnTilesRanked.j2 kj29 t295 t298 t314 t315 t316 bt323.1 true t296 t297))))))))))) = some r := H
              have A57 := Aside0.mk A570
              clear A570
              replace H := Option.bind_eq_some_iff.mp H
              obtain ⟨⟨t319, t320⟩, A580, H⟩ := H
              replace H : ((impl_CountSet.f kj29 t314).bind fun bt323 => ((spec_CountSet.f t314).bind fun bt325 => (if (t298 != t302) = true then (laws_FnTilesRanked.j2 kj29 t295 t298 t314 t315 t316 bt323.1 true t296 t297) else (if (!(t296 == t300) || (!(t297 == t301))) = true then (laws_FnTilesRanked.j2 kj29 t295 t298 t314 t315 t316 bt323.1 true t296 t297) else (if (t308 != t312) = true then (laws_FnTilesRanked.j2 kj29 t295 t298 t314 t315 t316 bt323.1 true t296 t297) else (if (!(t306 == t310) || (!(t307 == t311))) = true then (laws_FnTilesRanked.j2 kj29 t295 t298 t314 t315 t316 bt323.1 true t296 t297) else (if (t316 != t320) = true then (laws_FnTilesRanked.j2 kj29 t295 t298 t314 t315 t316 bt323.1 true t296 t297) else ((laws_mTiles.f kj29 t315 t319).bind fun t327 => (if t327 = true then (if (bt323.2 != bt325.2) = true then (laws_FnTilesRanked.j2 kj29 t295 t298 t314 t315 t316 bt323.1 true t296 t297) else (if bt323.1 = bt325.1 then (laws_FnTilesRanked.j2 kj29 t295 t298 t314 t315 t316 bt323.1 (bt323.2 != t316) t296 t297) else (laws_FnTilesRanked.j2 kj29 t295 t298 t314 t315 t316 bt323.1 true t296 t297))) else (laws_FnTilesRanked.j2 kj29 t295 t298 t314 t315 t316 bt323.1 true t296 t297)))))))))) = some r := H
              have A58 := Aside0.mk A580
              clear A580
              replace H := Option.bind_eq_some_iff.mp H
              obtain ⟨⟨t323, t324⟩, A590, H⟩ := H
              replace H : ((spec_CountSet.f t314).bind fun bt325 => (if (t298 != t302) = true then (laws_FnTilesRanked.j2 kj29 t295 t298 t314 t315 t316 t323 true t296 t297) else (if (!(t296 == t300) || (!(t297 == t301))) = true then (laws_FnTilesRanked.j2 kj29 t295 t298 t314 t315 t316 t323 true t296 t297) else (if (t308 != t312) = true then (laws_FnTilesRanked.j2 kj29 t295 t298 t314 t315 t316 t323 true t296 t297) else (if (!(t306 == t310) || (!(t307 == t311))) = true then (laws_FnTilesRanked.j2 kj29 t295 t298 t314 t315 t316 t323 true t296 t297) else (if (t316 != t320) = true then (laws_FnTilesRanked.j2 kj29 t295 t298 t314 t315 t316 t323 true t296 t297) else ((laws_mTiles.f kj29 t315 t319).bind fun t327 => (if t327 = true then (if (t324 != bt325.2) = true then (laws_FnTilesRanked.j2 kj29 t295 t298 t314 t315 t316 t323 true t296 t297) else (if t323 = bt325.1 then (laws_FnTilesRanked.j2 kj29 t295 t298 t314 t315 t316 t323 (t324 != t316) t296 t297) else (laws_FnTilesRanked.j2 kj29 t295 t298 t314 t315 t316 t323 true t296 t297))) else (laws_FnTilesRanked.j2 kj29 t295 t298 t314 t315 t316 t323 true t296 t297))))))))) = some r := H
              have A59 := Aside0.mk A590
              clear A590
              replace H := Option.bind_eq_some_iff.mp H
              obtain ⟨⟨t325, t326⟩, A600, H⟩ := H
              replace H : (if (t298 != t302) = true then (laws_FnTilesRanked.j2 kj29 t295 t298 t314 t315 t316 t323 true t296 t297) else (if (!(t296 == t300) || (!(t297 == t301))) = true then (laws_FnTilesRanked.j2 kj29 t295 t298 t314 t315 t316 t323 true t296 t297) else (if (t308 != t312) = true then (laws_FnTilesRanked.j2 kj29 t295 t298 t314 t315 t316 t323 true t296 t297) else (if (!(t306 == t310) || (!(t307 == t311))) = true then (laws_FnTilesRanked.j2 kj29 t295 t298 t314 t315 t316 t323 true t296 t297) else (if (t316 != t320) = true then (laws_FnTilesRanked.j2 kj29 t295 t298 t314 t315 t316 t323 true t296 t297) else ((laws_mTiles.f kj29 t315 t319).bind fun t327 => (if t327 = true then (if (t324 != t326) = true then (laws_FnTilesRanked.j2 kj29 t295 t298 t314 t315 t316 t323 true t296 t297) else (if t323 = t325 then (laws_FnTilesRanked.j2 kj29 t295 t298 t314 t315 t316 t323 (t324 != t316) t296 t297) else (laws_FnTilesRanked.j2 kj29 t295 t298 t314 t315 t316 t323 true t296 t297))) else (laws_FnTilesRanked.j2 kj29 t295 t298 t314 t315 t316 t323 true t296 t297)))))))) = some r := H
              have A60 := Aside0.mk A600
              clear A600
              have HC61 := Aside0.mk H
              clear H
              go_upto_region 24 with (first | ((with_reducible refine gate_callee (f := 23) rfl ?_); refine goesL_ (some 107) rfl rfl Try.func23 (by kernel_rfl) rfl #[.slice A1 l1.length c1] rfl (by (try simp only [List.map_toArray, List.map_cons, List.map_nil]); first | done | rfl | (simp only [List.length_drop, List.length_take]; rfl)) ?_; (with_reducible refine (spec_DrawTileOfRank.calls _ _ l1 t295 _ ?side1 ?side2 A50.out).mono ?_); (case side1 => repeat (first | exact (Kd.C_below HR1.out HB.out) | (with_reducible refine Kd.C_alloc ?_ _) | (with_reducible refine Kd.C_drewN ?_ _) | (with_reducible refine Kd.C_drew ?_))); (case side2 => exact HC1.out); rintro e w62 ⟨rfl, hb⟩; refine ⟨_, rfl, ?_⟩; replace BK279 := Aside0.mk (blk_below (g := gb279) (o := .cells #[.int .i64 t277, .int .i64 t278] 25 (0, 0)) (by (with_reducible repeat (first | refine blk_drewN ?_ _ | refine blk_drew ?_ | refine blk_alloc ?_ _)); exact BK279.out) hb); replace HB := Aside0.mk (below_step (by repeat (first | (with_reducible first | exact HB.out | apply below_alloc | apply pw_below_drewN | apply below_drew1 | refine below_set ?_ GE279.out) | exact HB.out)) hb); (try clear hb); (try clear hb2); (try clear hk); (try clear hi)) | ((with_reducible refine gate_callee (f := 21) rfl ?_); refine goesL_ (some 110) rfl rfl Try.func21 (by kernel_rfl) rfl #[.int .i64 t295] rfl (by (try simp only [List.map_toArray, List.map_cons, List.map_nil]); first | done | rfl | (simp only [List.length_drop, List.length_take]; rfl)) ?_; (with_reducible refine (impl_TileOfRank.calls kj29 t295 t296 t297 t298 _ A51.out).mono ?_); rintro e w63 ⟨rfl, hb⟩; refine ⟨_, rfl, ?_⟩; replace BK279 := Aside0.mk (blk_below (g := gb279) (o := .cells #[.int .i64 t277, .int .i64 t278] 25 (0, 0)) (by (with_reducible repeat (first | refine blk_drewN ?_ _ | refine blk_drew ?_ | refine blk_alloc ?_ _)); exact BK279.out) hb); replace HB := Aside0.mk (below_step (by repeat (first | (with_reducible first | exact HB.out | apply below_alloc | apply pw_below_drewN | apply below_drew1 | refine below_set ?_ GE279.out) | exact HB.out)) hb); (try clear hb); (try clear hb2); (try clear hk); (try clear hi)) | ((with_reducible refine gate_dst (N := 15) rfl ?_); refine box_event ?hg (N := 15) ?hd (cs := #[.int .i64 0, .int .i64 0]) (t := 25) ?hr ?_; (case hd => rfl); (case hg => rfl); (case hr => first | (go_simp; done) | (go_simp; rfl)); intro gb299 hg w64 hbox hb; have BK299 := Aside0.mk (hbox); have GW299 := Aside0.mk ((by rw [hg]; exact (below_size (by repeat (first | (with_reducible first | exact HB.out | apply below_alloc | apply pw_below_drewN | apply below_drew1 | refine below_set ?_ GE279.out) | exact HB.out))) : w.heap.size ≤ gb299)); have GE299 := Aside0.mk ((by rw [hg]; exact (below_size (by repeat (first | (with_reducible first | exact HB.out | apply below_alloc | apply pw_below_drewN | apply below_drew1 | refine below_set ?_ GE279.out) | exact HB.out))) : w.heap.size ≤ gb299)); replace HB := Aside0.mk (below_step (by repeat (first | (with_reducible first | exact HB.out | apply below_alloc | apply pw_below_drewN | apply below_drew1 | refine below_set ?_ GE279.out) | exact HB.out)) hb); have NB279_299 := Aside0.mk ((by rw [hg]; exact Nat.ne_of_lt (blk_lt (g := gb279) (o := .cells #[.int .i64 t277, .int .i64 t278] 25 (0, 0)) (by (with_reducible repeat (first | refine blk_drewN ?_ _ | refine blk_drew ?_ | refine blk_alloc ?_ _)); exact BK279.out)) : gb279 ≠ gb299)); have NB299_279 := Aside0.mk ((by rw [hg]; exact Nat.ne_of_gt (blk_lt (g := gb279) (o := .cells #[.int .i64 t277, .int .i64 t278] 25 (0, 0)) (by (with_reducible repeat (first | refine blk_drewN ?_ _ | refine blk_drew ?_ | refine blk_alloc ?_ _)); exact BK279.out)) : gb299 ≠ gb279)); replace BK279 := Aside0.mk (blk_below (g := gb279) (o := .cells #[.int .i64 t277, .int .i64 t278] 25 (0, 0)) (by (with_reducible repeat (first | refine blk_drewN ?_ _ | refine blk_drew ?_ | refine blk_alloc ?_ _)); exact BK279.out) hb); clear hb hbox hg; have hnb65 := NB299_279.out; have hnc65 := NB279_299.out; have hcz66_0 : w64.cell? ⟨gb299, 0, none⟩ = some (.int .i64 0) := (blk_cell BK299.out 0).trans rfl; have hcz66_1 : w64.cell? ⟨gb299, 1, none⟩ = some (.int .i64 0) := (blk_cell BK299.out 1).trans rfl; have hfz66_0 := blk_frozen BK299.out 0; have hfz66_1 := blk_frozen BK299.out 1) | ((with_reducible refine gate_callee (f := 24) rfl ?_); refine goesL_ (some 115) rfl rfl Try.func24 (by kernel_rfl) rfl #[.int .i64 t295] rfl (by (try simp only [List.map_toArray, List.map_cons, List.map_nil]); first | done | rfl | (simp only [List.length_drop, List.length_take]; rfl)) ?_; (with_reducible refine (spec_TileOfRank.calls kj29 t295 t300 t301 t302 _ A52.out).mono ?_); rintro e w67 ⟨rfl, hb⟩; refine ⟨_, rfl, ?_⟩; replace BK279 := Aside0.mk (blk_below (g := gb279) (o := .cells #[.int .i64 t277, .int .i64 t278] 25 (0, 0)) (by (with_reducible repeat (first | refine blk_drewN ?_ _ | refine blk_drew ?_ | refine blk_alloc ?_ _)); refine blk_far ?_ NB279_299.out _; (with_reducible repeat (first | refine blk_drewN ?_ _ | refine blk_drew ?_ | refine blk_alloc ?_ _)); refine blk_far ?_ NB279_299.out _; (with_reducible repeat (first | refine blk_drewN ?_ _ | refine blk_drew ?_ | refine blk_alloc ?_ _)); exact BK279.out) hb); replace BK299 := Aside0.mk (blk_below (g := gb299) (o := .cells #[.int .i64 t296, .int .i64 t297] 25 (0, 0)) (by (with_reducible repeat (first | refine blk_drewN ?_ _ | refine blk_drew ?_ | refine blk_alloc ?_ _)); refine blk_put (cs := #[.int .i64 t296, .int .i64 0]) ?_ 1 _ rfl; (with_reducible repeat (first | refine blk_drewN ?_ _ | refine blk_drew ?_ | refine blk_alloc ?_ _)); refine blk_put (cs := #[.int .i64 0, .int .i64 0]) ?_ 0 _ rfl; (with_reducible repeat (first | refine blk_drewN ?_ _ | refine blk_drew ?_ | refine blk_alloc ?_ _)); exact BK299.out) hb); replace HB := Aside0.mk (below_step (by repeat (first | (with_reducible first | exact HB.out | apply below_alloc | apply pw_below_drewN | apply below_drew1 | refine below_set ?_ GE279.out | refine below_set ?_ GE299.out) | exact HB.out)) hb); (try clear hb); (try clear hb2); (try clear hk); (try clear hi)) | ((with_reducible refine gate_dst (N := 17) rfl ?_); refine box_event ?hg (N := 17) ?hd (cs := #[.int .i64 0, .int .i64 0]) (t := 25) ?hr ?_; (case hd => rfl); (case hg => rfl); (case hr => first | (go_simp; done) | (go_simp; rfl)); intro gb303 hg w68 hbox hb; have BK303 := Aside0.mk (hbox); have GW303 := Aside0.mk ((by rw [hg]; exact (below_size (by repeat (first | (with_reducible first | exact HB.out | apply below_alloc | apply pw_below_drewN | apply below_drew1 | refine below_set ?_ GE279.out | refine below_set ?_ GE299.out) | exact HB.out))) : w.heap.size ≤ gb303)); have GE303 := Aside0.mk ((by rw [hg]; exact (below_size (by repeat (first | (with_reducible first | exact HB.out | apply below_alloc | apply pw_below_drewN | apply below_drew1 | refine below_set ?_ GE279.out | refine below_set ?_ GE299.out) | exact HB.out))) : w.heap.size ≤ gb303)); replace HB := Aside0.mk (below_step (by repeat (first | (with_reducible first | exact HB.out | apply below_alloc | apply pw_below_drewN | apply below_drew1 | refine below_set ?_ GE279.out | refine below_set ?_ GE299.out) | exact HB.out)) hb); have NB279_303 := Aside0.mk ((by rw [hg]; exact Nat.ne_of_lt (blk_lt (g := gb279) (o := .cells #[.int .i64 t277, .int .i64 t278] 25 (0, 0)) (by (with_reducible repeat (first | refine blk_drewN ?_ _ | refine blk_drew ?_ | refine blk_alloc ?_ _)); exact BK279.out)) : gb279 ≠ gb303)); have NB303_279 := Aside0.mk ((by rw [hg]; exact Nat.ne_of_gt (blk_lt (g := gb279) (o := .cells #[.int .i64 t277, .int .i64 t278] 25 (0, 0)) (by (with_reducible repeat (first | refine blk_drewN ?_ _ | refine blk_drew ?_ | refine blk_alloc ?_ _)); exact BK279.out)) : gb303 ≠ gb279)); replace BK279 := Aside0.mk (blk_below (g := gb279) (o := .cells #[.int .i64 t277, .int .i64 t278] 25 (0, 0)) (by (with_reducible repeat (first | refine blk_drewN ?_ _ | refine blk_drew ?_ | refine blk_alloc ?_ _)); exact BK279.out) hb); have NB299_303 := Aside0.mk ((by rw [hg]; exact Nat.ne_of_lt (blk_lt (g := gb299) (o := .cells #[.int .i64 t296, .int .i64 t297] 25 (0, 0)) (by (with_reducible repeat (first | refine blk_drewN ?_ _ | refine blk_drew ?_ | refine blk_alloc ?_ _)); exact BK299.out)) : gb299 ≠ gb303)); have NB303_299 := Aside0.mk ((by rw [hg]; exact Nat.ne_of_gt (blk_lt (g := gb299) (o := .cells #[.int .i64 t296, .int .i64 t297] 25 (0, 0)) (by (with_reducible repeat (first | refine blk_drewN ?_ _ | refine blk_drew ?_ | refine blk_alloc ?_ _)); exact BK299.out)) : gb303 ≠ gb299)); replace BK299 := Aside0.mk (blk_below (g := gb299) (o := .cells #[.int .i64 t296, .int .i64 t297] 25 (0, 0)) (by (with_reducible repeat (first | refine blk_drewN ?_ _ | refine blk_drew ?_ | refine blk_alloc ?_ _)); exact BK299.out) hb); clear hb hbox hg; have hnb69 := NB303_279.out; have hnc69 := NB279_303.out; have hnb70 := NB303_299.out; have hnc70 := NB299_303.out; have hcz71_0 : w68.cell? ⟨gb303, 0, none⟩ = some (.int .i64 0) := (blk_cell BK303.out 0).trans rfl; have hcz71_1 : w68.cell? ⟨gb303, 1, none⟩ = some (.int .i64 0) := (blk_cell BK303.out 1).trans rfl; have hfz71_0 := blk_frozen BK303.out 0; have hfz71_1 := blk_frozen BK303.out 1) | ((with_reducible refine gate_callee (f := 25) rfl ?_); refine goesL_ (some 120) rfl rfl Try.func25 (by kernel_rfl) rfl #[.slice A1 l1.length c1] rfl (by (try simp only [List.map_toArray, List.map_cons, List.map_nil]); first | done | rfl | (simp only [List.length_drop, List.length_take]; rfl)) ?_; (with_reducible refine (spec_DrawTileOf.calls _ _ l1 t304 t305 _ ?side1 ?side2 A53.out).mono ?_); (case side1 => exact Kd.C_below HR1.out (by repeat (first | (with_reducible first | exact HB.out | apply below_alloc | apply pw_below_drewN | apply below_drew1 | refine below_set ?_ GE279.out | refine below_set ?_ GE299.out | refine below_set ?_ GE303.out) | exact HB.out))); (case side2 => exact HC1.out); rintro e w72 ⟨rfl, hb⟩; refine ⟨_, rfl, ?_⟩; replace BK279 := Aside0.mk (blk_below (g := gb279) (o := .cells #[.int .i64 t277, .int .i64 t278] 25 (0, 0)) (by (with_reducible repeat (first | refine blk_drewN ?_ _ | refine blk_drew ?_ | refine blk_alloc ?_ _)); refine blk_far ?_ NB279_303.out _; (with_reducible repeat (first | refine blk_drewN ?_ _ | refine blk_drew ?_ | refine blk_alloc ?_ _)); refine blk_far ?_ NB279_303.out _; (with_reducible repeat (first | refine blk_drewN ?_ _ | refine blk_drew ?_ | refine blk_alloc ?_ _)); exact BK279.out) hb); replace BK299 := Aside0.mk (blk_below (g := gb299) (o := .cells #[.int .i64 t296, .int .i64 t297] 25 (0, 0)) (by (with_reducible repeat (first | refine blk_drewN ?_ _ | refine blk_drew ?_ | refine blk_alloc ?_ _)); refine blk_far ?_ NB299_303.out _; (with_reducible repeat (first | refine blk_drewN ?_ _ | refine blk_drew ?_ | refine blk_alloc ?_ _)); refine blk_far ?_ NB299_303.out _; (with_reducible repeat (first | refine blk_drewN ?_ _ | refine blk_drew ?_ | refine blk_alloc ?_ _)); exact BK299.out) hb); replace BK303 := Aside0.mk (blk_below (g := gb303) (o := .cells #[.int .i64 t300, .int .i64 t301] 25 (0, 0)) (by (with_reducible repeat (first | refine blk_drewN ?_ _ | refine blk_drew ?_ | refine blk_alloc ?_ _)); refine blk_put (cs := #[.int .i64 t300, .int .i64 0]) ?_ 1 _ rfl; (with_reducible repeat (first | refine blk_drewN ?_ _ | refine blk_drew ?_ | refine blk_alloc ?_ _)); refine blk_put (cs := #[.int .i64 0, .int .i64 0]) ?_ 0 _ rfl; (with_reducible repeat (first | refine blk_drewN ?_ _ | refine blk_drew ?_ | refine blk_alloc ?_ _)); exact BK303.out) hb); replace HB := Aside0.mk (below_step (by repeat (first | (with_reducible first | exact HB.out | apply below_alloc | apply pw_below_drewN | apply below_drew1 | refine below_set ?_ GE279.out | refine below_set ?_ GE299.out | refine below_set ?_ GE303.out) | exact HB.out)) hb); (try clear hb); (try clear hb2); (try clear hk); (try clear hi)) | ((with_reducible refine gate_callee (f := 22) rfl ?_); refine goesL_ (some 126) rfl rfl Try.func22 (by kernel_rfl) rfl #[.int .i64 t304, .int .i64 t305] rfl (by (try simp only [List.map_toArray, List.map_cons, List.map_nil]); first | done | rfl | (simp only [List.length_drop, List.length_take]; rfl)) ?_; (with_reducible refine (impl_TileOf.calls t304 t305 t306 t307 t308 _ A54.out).mono ?_); rintro e w73 ⟨rfl, hb⟩; refine ⟨_, rfl, ?_⟩; replace BK279 := Aside0.mk (blk_below (g := gb279) (o := .cells #[.int .i64 t277, .int .i64 t278] 25 (0, 0)) (by (with_reducible repeat (first | refine blk_drewN ?_ _ | refine blk_drew ?_ | refine blk_alloc ?_ _)); exact BK279.out) hb); replace BK299 := Aside0.mk (blk_below (g := gb299) (o := .cells #[.int .i64 t296, .int .i64 t297] 25 (0, 0)) (by (with_reducible repeat (first | refine blk_drewN ?_ _ | refine blk_drew ?_ | refine blk_alloc ?_ _)); exact BK299.out) hb); replace BK303 := Aside0.mk (blk_below (g := gb303) (o := .cells #[.int .i64 t300, .int .i64 t301] 25 (0, 0)) (by (with_reducible repeat (first | refine blk_drewN ?_ _ | refine blk_drew ?_ | refine blk_alloc ?_ _)); exact BK303.out) hb); replace HB := Aside0.mk (below_step (by repeat (first | (with_reducible first | exact HB.out | apply below_alloc | apply pw_below_drewN | apply below_drew1 | refine below_set ?_ GE279.out | refine below_set ?_ GE299.out | refine below_set ?_ GE303.out) | exact HB.out)) hb); (try clear hb); (try clear hb2); (try clear hk); (try clear hi)) | ((with_reducible refine gate_dst (N := 21) rfl ?_); refine box_event ?hg (N := 21) ?hd (cs := #[.int .i64 0, .int .i64 0]) (t := 25) ?hr ?_; (case hd => rfl); (case hg => rfl); (case hr => first | (go_simp; done) | (go_simp; rfl)); intro gb309 hg w74 hbox hb; have BK309 := Aside0.mk (hbox); have GW309 := Aside0.mk ((by rw [hg]; exact (below_size (by repeat (first | (with_reducible first | exact HB.out | apply below_alloc | apply pw_below_drewN | apply below_drew1 | refine below_set ?_ GE279.out | refine below_set ?_ GE299.out | refine below_set ?_ GE303.out) | exact HB.out))) : w.heap.size ≤ gb309)); have GE309 := Aside0.mk ((by rw [hg]; exact (below_size (by repeat (first | (with_reducible first | exact HB.out | apply below_alloc | apply pw_below_drewN | apply below_drew1 | refine below_set ?_ GE279.out | refine below_set ?_ GE299.out | refine below_set ?_ GE303.out) | exact HB.out))) : w.heap.size ≤ gb309)); replace HB := Aside0.mk (below_step (by repeat (first | (with_reducible first | exact HB.out | apply below_alloc | apply pw_below_drewN | apply below_drew1 | refine below_set ?_ GE279.out | refine below_set ?_ GE299.out | refine below_set ?_ GE303.out) | exact HB.out)) hb); have NB279_309 := Aside0.mk ((by rw [hg]; exact Nat.ne_of_lt (blk_lt (g := gb279) (o := .cells #[.int .i64 t277, .int .i64 t278] 25 (0, 0)) (by (with_reducible repeat (first | refine blk_drewN ?_ _ | refine blk_drew ?_ | refine blk_alloc ?_ _)); exact BK279.out)) : gb279 ≠ gb309)); have NB309_279 := Aside0.mk ((by rw [hg]; exact Nat.ne_of_gt (blk_lt (g := gb279) (o := .cells #[.int .i64 t277, .int .i64 t278] 25 (0, 0)) (by (with_reducible repeat (first | refine blk_drewN ?_ _ | refine blk_drew ?_ | refine blk_alloc ?_ _)); exact BK279.out)) : gb309 ≠ gb279)); replace BK279 := Aside0.mk (blk_below (g := gb279) (o := .cells #[.int .i64 t277, .int .i64 t278] 25 (0, 0)) (by (with_reducible repeat (first | refine blk_drewN ?_ _ | refine blk_drew ?_ | refine blk_alloc ?_ _)); exact BK279.out) hb); have NB299_309 := Aside0.mk ((by rw [hg]; exact Nat.ne_of_lt (blk_lt (g := gb299) (o := .cells #[.int .i64 t296, .int .i64 t297] 25 (0, 0)) (by (with_reducible repeat (first | refine blk_drewN ?_ _ | refine blk_drew ?_ | refine blk_alloc ?_ _)); exact BK299.out)) : gb299 ≠ gb309)); have NB309_299 := Aside0.mk ((by rw [hg]; exact Nat.ne_of_gt (blk_lt (g := gb299) (o := .cells #[.int .i64 t296, .int .i64 t297] 25 (0, 0)) (by (with_reducible repeat (first | refine blk_drewN ?_ _ | refine blk_drew ?_ | refine blk_alloc ?_ _)); exact BK299.out)) : gb309 ≠ gb299)); replace BK299 := Aside0.mk (blk_below (g := gb299) (o := .cells #[.int .i64 t296, .int .i64 t297] 25 (0, 0)) (by (with_reducible repeat (first | refine blk_drewN ?_ _ | refine blk_drew ?_ | refine blk_alloc ?_ _)); exact BK299.out) hb); have NB303_309 := Aside0.mk ((by rw [hg]; exact Nat.ne_of_lt (blk_lt (g := gb303) (o := .cells #[.int .i64 t300, .int .i64 t301] 25 (0, 0)) (by (with_reducible repeat (first | refine blk_drewN ?_ _ | refine blk_drew ?_ | refine blk_alloc ?_ _)); exact BK303.out)) : gb303 ≠ gb309)); have NB309_303 := Aside0.mk ((by rw [hg]; exact Nat.ne_of_gt (blk_lt (g := gb303) (o := .cells #[.int .i64 t300, .int .i64 t301] 25 (0, 0)) (by (with_reducible repeat (first | refine blk_drewN ?_ _ | refine blk_drew ?_ | refine blk_alloc ?_ _)); exact BK303.out)) : gb309 ≠ gb303)); replace BK303 := Aside0.mk (blk_below (g := gb303) (o := .cells #[.int .i64 t300, .int .i64 t301] 25 (0, 0)) (by (with_reducible repeat (first | refine blk_drewN ?_ _ | refine blk_drew ?_ | refine blk_alloc ?_ _)); exact BK303.out) hb); clear hb hbox hg; have hnb75 := NB309_279.out; have hnc75 := NB279_309.out; have hnb76 := NB309_299.out; have hnc76 := NB299_309.out; have hnb77 := NB309_303.out; have hnc77 := NB303_309.out; have hcz78_0 : w74.cell? ⟨gb309, 0, none⟩ = some (.int .i64 0) := (blk_cell BK309.out 0).trans rfl; have hcz78_1 : w74.cell? ⟨gb309, 1, none⟩ = some (.int .i64 0) := (blk_cell BK309.out 1).trans rfl; have hfz78_0 := blk_frozen BK309.out 0; have hfz78_1 := blk_frozen BK309.out 1) | ((with_reducible refine gate_callee (f := 26) rfl ?_); refine goesL_ (some 132) rfl rfl Try.func26 (by kernel_rfl) rfl #[.int .i64 t304, .int .i64 t305] rfl (by (try simp only [List.map_toArray, List.map_cons, List.map_nil]); first | done | rfl | (simp only [List.length_drop, List.length_take]; rfl)) ?_; (with_reducible refine (spec_TileOf.calls t304 t305 t310 t311 t312 _ A55.out).mono ?_); rintro e w79 ⟨rfl, hb⟩; refine ⟨_, rfl, ?_⟩; replace BK279 := Aside0.mk (blk_below (g := gb279) (o := .cells #[.int .i64 t277, .int .i64 t278] 25 (0, 0)) (by (with_reducible repeat (first | refine blk_drewN ?_ _ | refine blk_drew ?_ | refine blk_alloc ?_ _)); refine blk_far ?_ NB279_309.out _; (with_reducible repeat (first | refine blk_drewN ?_ _ | refine blk_drew ?_ | refine blk_alloc ?_ _)); refine blk_far ?_ NB279_309.out _; (with_reducible repeat (first | refine blk_drewN ?_ _ | refine blk_drew ?_ | refine blk_alloc ?_ _)); exact BK279.out) hb); replace BK299 := Aside0.mk (blk_below (g := gb299) (o := .cells #[.int .i64 t296, .int .i64 t297] 25 (0, 0)) (by (with_reducible repeat (first | refine blk_drewN ?_ _ | refine blk_drew ?_ | refine blk_alloc ?_ _)); refine blk_far ?_ NB299_309.out _; (with_reducible repeat (first | refine blk_drewN ?_ _ | refine blk_drew ?_ | refine blk_alloc ?_ _)); refine blk_far ?_ NB299_309.out _; (with_reducible repeat (first | refine blk_drewN ?_ _ | refine blk_drew ?_ | refine blk_alloc ?_ _)); exact BK299.out) hb); replace BK303 := Aside0.mk (blk_below (g := gb303) (o := .cells #[.int .i64 t300, .int .i64 t301] 25 (0, 0)) (by (with_reducible repeat (first | refine blk_drewN ?_ _ | refine blk_drew ?_ | refine blk_alloc ?_ _)); refine blk_far ?_ NB303_309.out _; (with_reducible repeat (first | refine blk_drewN ?_ _ | refine blk_drew ?_ | refine blk_alloc ?_ _)); refine blk_far ?_ NB303_309.out _; (with_reducible repeat (first | refine blk_drewN ?_ _ | refine blk_drew ?_ | refine blk_alloc ?_ _)); exact BK303.out) hb); replace BK309 := Aside0.mk (blk_below (g := gb309) (o := .cells #[.int .i64 t306, .int .i64 t307] 25 (0, 0)) (by (with_reducible repeat (first | refine blk_drewN ?_ _ | refine blk_drew ?_ | refine blk_alloc ?_ _)); refine blk_put (cs := #[.int .i64 t306, .int .i64 0]) ?_ 1 _ rfl; (with_reducible repeat (first | refine blk_drewN ?_ _ | refine blk_drew ?_ | refine blk_alloc ?_ _)); refine blk_put (cs := #[.int .i64 0, .int .i64 0]) ?_ 0 _ rfl; (with_reducible repeat (first | refine blk_drewN ?_ _ | refine blk_drew ?_ | refine blk_alloc ?_ _)); exact BK309.out) hb); replace HB := Aside0.mk (below_step (by repeat (first | (with_reducible first | exact HB.out | apply below_alloc | apply pw_below_drewN | apply below_drew1 | refine below_set ?_ GE279.out | refine below_set ?_ GE299.out | refine below_set ?_ GE303.out | refine below_set ?_ GE309.out) | exact HB.out)) hb); (try clear hb); (try clear hb2); (try clear hk); (try clear hi)) | ((with_reducible refine gate_dst (N := 23) rfl ?_); refine box_event ?hg (N := 23) ?hd (cs := #[.int .i64 0, .int .i64 0]) (t := 25) ?hr ?_; (case hd => rfl); (case hg => rfl); (case hr => first | (go_simp; done) | (go_simp; rfl)); intro gb313 hg w80 hbox hb; have BK313 := Aside0.mk (hbox); have GW313 := Aside0.mk ((by rw [hg]; exact (below_size (by repeat (first | (with_reducible first | exact HB.out | apply below_alloc | apply pw_below_drewN | apply below_drew1 | refine below_set ?_ GE279.out | refine below_set ?_ GE299.out | refine below_set ?_ GE303.out | refine below_set ?_ GE309.out) | exact HB.out))) : w.heap.size ≤ gb313)); have GE313 := Aside0.mk ((by rw [hg]; exact (below_size (by repeat (first | (with_reducible first | exact HB.out | apply below_alloc | apply pw_below_drewN | apply below_drew1 | refine below_set ?_ GE279.out | refine below_set ?_ GE299.out | refine below_set ?_ GE303.out | refine below_set ?_ GE309.out) | exact HB.out))) : w.heap.size ≤ gb313)); replace HB := Aside0.mk (below_step (by repeat (first | (with_reducible first | exact HB.out | apply below_alloc | apply pw_below_drewN | apply below_drew1 | refine below_set ?_ GE279.out | refine below_set ?_ GE299.out | refine below_set ?_ GE303.out | refine below_set ?_ GE309.out) | exact HB.out)) hb); have NB279_313 := Aside0.mk ((by rw [hg]; exact Nat.ne_of_lt (blk_lt (g := gb279) (o := .cells #[.int .i64 t277, .int .i64 t278] 25 (0, 0)) (by (with_reducible repeat (first | refine blk_drewN ?_ _ | refine blk_drew ?_ | refine blk_alloc ?_ _)); exact BK279.out)) : gb279 ≠ gb313)); have NB313_279 := Aside0.mk ((by rw [hg]; exact Nat.ne_of_gt (blk_lt (g := gb279) (o := .cells #[.int .i64 t277, .int .i64 t278] 25 (0, 0)) (by (with_reducible repeat (first | refine blk_drewN ?_ _ | refine blk_drew ?_ | refine blk_alloc ?_ _)); exact BK279.out)) : gb313 ≠ gb279)); replace BK279 := Aside0.mk (blk_below (g := gb279) (o := .cells #[.int .i64 t277, .int .i64 t278] 25 (0, 0)) (by (with_reducible repeat (first | refine blk_drewN ?_ _ | refine blk_drew ?_ | refine blk_alloc ?_ _)); exact BK279.out) hb); have NB299_313 := Aside0.mk ((by rw [hg]; exact Nat.ne_of_lt (blk_lt (g := gb299) (o := .cells #[.int .i64 t296, .int .i64 t297] 25 (0, 0)) (by (with_reducible repeat (first | refine blk_drewN ?_ _ | refine blk_drew ?_ | refine blk_alloc ?_ _)); exact BK299.out)) : gb299 ≠ gb313)); have NB313_299 := Aside0.mk ((by rw [hg]; exact Nat.ne_of_gt (blk_lt (g := gb299) (o := .cells #[.int .i64 t296, .int .i64 t297] 25 (0, 0)) (by (with_reducible repeat (first | refine blk_drewN ?_ _ | refine blk_drew ?_ | refine blk_alloc ?_ _)); exact BK299.out)) : gb313 ≠ gb299)); replace BK299 := Aside0.mk (blk_below (g := gb299) (o := .cells #[.int .i64 t296, .int .i64 t297] 25 (0, 0)) (by (with_reducible repeat (first | refine blk_drewN ?_ _ | refine blk_drew ?_ | refine blk_alloc ?_ _)); exact BK299.out) hb); have NB303_313 := Aside0.mk ((by rw [hg]; exact Nat.ne_of_lt (blk_lt (g := gb303) (o := .cells #[.int .i64 t300, .int .i64 t301] 25 (0, 0)) (by (with_reducible repeat (first | refine blk_drewN ?_ _ | refine blk_drew ?_ | refine blk_alloc ?_ _)); exact BK303.out)) : gb303 ≠ gb313)); have NB313_303 := Aside0.mk ((by rw [hg]; exact Nat.ne_of_gt (blk_lt (g := gb303) (o := .cells #[.int .i64 t300, .int .i64 t301] 25 (0, 0)) (by (with_reducible repeat (first | refine blk_drewN ?_ _ | refine blk_drew ?_ | refine blk_alloc ?_ _)); exact BK303.out)) : gb313 ≠ gb303)); replace BK303 := Aside0.mk (blk_below (g := gb303) (o := .cells #[.int .i64 t300, .int .i64 t301] 25 (0, 0)) (by (with_reducible repeat (first | refine blk_drewN ?_ _ | refine blk_drew ?_ | refine blk_alloc ?_ _)); exact BK303.out) hb); have NB309_313 := Aside0.mk ((by rw [hg]; exact Nat.ne_of_lt (blk_lt (g := gb309) (o := .cells #[.int .i64 t306, .int .i64 t307] 25 (0, 0)) (by (with_reducible repeat (first | refine blk_drewN ?_ _ | refine blk_drew ?_ | refine blk_alloc ?_ _)); exact BK309.out)) : gb309 ≠ gb313)); have NB313_309 := Aside0.mk ((by rw [hg]; exact Nat.ne_of_gt (blk_lt (g := gb309) (o := .cells #[.int .i64 t306, .int .i64 t307] 25 (0, 0)) (by (with_reducible repeat (first | refine blk_drewN ?_ _ | refine blk_drew ?_ | refine blk_alloc ?_ _)); exact BK309.out)) : gb313 ≠ gb309)); replace BK309 := Aside0.mk (blk_below (g := gb309) (o := .cells #[.int .i64 t306, .int .i64 t307] 25 (0, 0)) (by (with_reducible repeat (first | refine blk_drewN ?_ _ | refine blk_drew ?_ | refine blk_alloc ?_ _)); exact BK309.out) hb); clear hb hbox hg; have hnb81 := NB313_279.out; have hnc81 := NB279_313.out; have hnb82 := NB313_299.out; have hnc82 := NB299_313.out; have hnb83 := NB313_303.out; have hnc83 := NB303_313.out; have hnb84 := NB313_309.out; have hnc84 := NB309_313.out; have hcz85_0 : w80.cell? ⟨gb313, 0, none⟩ = some (.int .i64 0) := (blk_cell BK313.out 0).trans rfl; have hcz85_1 : w80.cell? ⟨gb313, 1, none⟩ = some (.int .i64 0) := (blk_cell BK313.out 1).trans rfl; have hfz85_0 := blk_frozen BK313.out 0; have hfz85_1 := blk_frozen BK313.out 1) | ((with_reducible refine gate_callee (f := 27) rfl ?_); refine goesL_ (some 136) rfl rfl Try.func27 (by kernel_rfl) rfl #[.slice A1 l1.length c1] rfl (by (try simp only [List.map_toArray, List.map_cons, List.map_nil]); first | done | rfl | (simp only [List.length_drop, List.length_take]; rfl)) ?_; (with_reducible refine (spec_DrawSetOf.calls _ _ l1 t314 _ ?side1 ?side2 A56.out).mono ?_); (case side1 => exact Kd.C_below HR1.out (by repeat (first | (with_reducible first | exact HB.out | apply below_alloc | apply pw_below_drewN | apply below_drew1 | refine below_set ?_ GE279.out | refine below_set ?_ GE299.out | refine below_set ?_ GE303.out | refine below_set ?_ GE309.out | refine below_set ?_ GE313.out) | exact HB.out))); (case side2 => exact HC1.out); rintro e w86 ⟨rfl, hb⟩; refine ⟨_, rfl, ?_⟩; replace BK279 := Aside0.mk (blk_below (g := gb279) (o := .cells #[.int .i64 t277, .int .i64 t278] 25 (0, 0)) (by (with_reducible repeat (first | refine blk_drewN ?_ _ | refine blk_drew ?_ | refine blk_alloc ?_ _)); refine blk_far ?_ NB279_313.out _; (with_reducible repeat (first | refine blk_drewN ?_ _ | refine blk_drew ?_ | refine blk_alloc ?_ _)); refine blk_far ?_ NB279_313.out _; (with_reducible repeat (first | refine blk_drewN ?_ _ | refine blk_drew ?_ | refine blk_alloc ?_ _)); exact BK279.out) hb); replace BK299 := Aside0.mk (blk_below (g := gb299) (o := .cells #[.int .i64 t296, .int .i64 t297] 25 (0, 0)) (by (with_reducible repeat (first | refine blk_drewN ?_ _ | refine blk_drew ?_ | refine blk_alloc ?_ _)); refine blk_far ?_ NB299_313.out _; (with_reducible repeat (first | refine blk_drewN ?_ _ | refine blk_drew ?_ | refine blk_alloc ?_ _)); refine blk_far ?_ NB299_313.out _; (with_reducible repeat (first | refine blk_drewN ?_ _ | refine blk_drew ?_ | refine blk_alloc ?_ _)); exact BK299.out) hb); replace BK303 := Aside0.mk (blk_below (g := gb303) (o := .cells #[.int .i64 t300, .int .i64 t301] 25 (0, 0)) (by (with_reducible repeat (first | refine blk_drewN ?_ _ | refine blk_drew ?_ | refine blk_alloc ?_ _)); refine blk_far ?_ NB303_313.out _; (with_reducible repeat (first | refine blk_drewN ?_ _ | refine blk_drew ?_ | refine blk_alloc ?_ _)); refine blk_far ?_ NB303_313.out _; (with_reducible repeat (first | refine blk_drewN ?_ _ | refine blk_drew ?_ | refine blk_alloc ?_ _)); exact BK303.out) hb); replace BK309 := Aside0.mk (blk_below (g := gb309) (o := .cells #[.int .i64 t306, .int .i64 t307] 25 (0, 0)) (by (with_reducible repeat (first | refine blk_drewN ?_ _ | refine blk_drew ?_ | refine blk_alloc ?_ _)); refine blk_far ?_ NB309_313.out _; (with_reducible repeat (first | refine blk_drewN ?_ _ | refine blk_drew ?_ | refine blk_alloc ?_ _)); refine blk_far ?_ NB309_313.out _; (with_reducible repeat (first | refine blk_drewN ?_ _ | refine blk_drew ?_ | refine blk_alloc ?_ _)); exact BK309.out) hb); replace BK313 := Aside0.mk (blk_below (g := gb313) (o := .cells #[.int .i64 t310, .int .i64 t311] 25 (0, 0)) (by (with_reducible repeat (first | refine blk_drewN ?_ _ | refine blk_drew ?_ | refine blk_alloc ?_ _)); refine blk_put (cs := #[.int .i64 t310, .int .i64 0]) ?_ 1 _ rfl; (with_reducible repeat (first | refine blk_drewN ?_ _ | refine blk_drew ?_ | refine blk_alloc ?_ _)); refine blk_put (cs := #[.int .i64 0, .int .i64 0]) ?_ 0 _ rfl; (with_reducible repeat (first | refine blk_drewN ?_ _ | refine blk_drew ?_ | refine blk_alloc ?_ _)); exact BK313.out) hb); replace HB := Aside0.mk (below_step (by repeat (first | (with_reducible first | exact HB.out | apply below_alloc | apply pw_below_drewN | apply below_drew1 | refine below_set ?_ GE279.out | refine below_set ?_ GE299.out | refine below_set ?_ GE303.out | refine below_set ?_ GE309.out | refine below_set ?_ GE313.out) | exact HB.out)) hb); (try clear hb); (try clear hb2); (try clear hk); (try clear hi)) | ((with_reducible refine gate_callee (f := 28) rfl ?_); refine goesL_ (some 139) rfl rfl Try.func28 (by kernel_rfl) rfl #[.int .i64 t314] rfl (by (try simp only [List.map_toArray, List.map_cons, List.map_nil]); first | done | rfl | (simp only [List.length_drop, List.length_take]; rfl)) ?_; (with_reducible refine (impl_SetOf.calls kj29 t314 t315 t316 _ A57.out).mono ?_); rintro e w87 ⟨v317, rfl, ho0, hb⟩; refine ⟨_, rfl, ?_⟩; have HO318 := Aside0.mk (Kd.R_lower (Kd.R_newB (Kd.R_newB (Kd.R_newB (Kd.R_newB (Kd.R_newB ho0 (g := gb279) (o := .cells #[.int .i64 t277, .int .i64 t278] 25 (0, 0)) (by (with_reducible repeat (first | refine blk_drewN ?_ _ | refine blk_drew ?_ | refine blk_alloc ?_ _)); exact BK279.out)) (g := gb299) (o := .cells #[.int .i64 t296, .int .i64 t297] 25 (0, 0)) (by (with_reducible repeat (first | refine blk_drewN ?_ _ | refine blk_drew ?_ | refine blk_alloc ?_ _)); exact BK299.out)) (g := gb303) (o := .cells #[.int .i64 t300, .int .i64 t301] 25 (0, 0)) (by (with_reducible repeat (first | refine blk_drewN ?_ _ | refine blk_drew ?_ | refine blk_alloc ?_ _)); exact BK303.out)) (g := gb309) (o := .cells #[.int .i64 t306, .int .i64 t307] 25 (0, 0)) (by (with_reducible repeat (first | refine blk_drewN ?_ _ | refine blk_drew ?_ | refine blk_alloc ?_ _)); exact BK309.out)) (g := gb313) (o := .cells #[.int .i64 t310, .int .i64 t311] 25 (0, 0)) (by (with_reducible repeat (first | refine blk_drewN ?_ _ | refine blk_drew ?_ | refine blk_alloc ?_ _)); exact BK313.out)) (below_size (by repeat (first | (with_reducible first | exact HB.out | apply below_alloc | apply pw_below_drewN | apply below_drew1 | refine below_set ?_ GE279.out | refine below_set ?_ GE299.out | refine below_set ?_ GE303.out | refine below_set ?_ GE309.out | refine below_set ?_ GE313.out) | exact HB.out)))); replace BK279 := Aside0.mk (blk_below (g := gb279) (o := .cells #[.int .i64 t277, .int .i64 t278] 25 (0, 0)) (by (with_reducible repeat (first | refine blk_drewN ?_ _ | refine blk_drew ?_ | refine blk_alloc ?_ _)); exact BK279.out) hb); replace BK299 := Aside0.mk (blk_below (g := gb299) (o := .cells #[.int .i64 t296, .int .i64 t297] 25 (0, 0)) (by (with_reducible repeat (first | refine blk_drewN ?_ _ | refine blk_drew ?_ | refine blk_alloc ?_ _)); exact BK299.out) hb); replace BK303 := Aside0.mk (blk_below (g := gb303) (o := .cells #[.int .i64 t300, .int .i64 t301] 25 (0, 0)) (by (with_reducible repeat (first | refine blk_drewN ?_ _ | refine blk_drew ?_ | refine blk_alloc ?_ _)); exact BK303.out) hb); replace BK309 := Aside0.mk (blk_below (g := gb309) (o := .cells #[.int .i64 t306, .int .i64 t307] 25 (0, 0)) (by (with_reducible repeat (first | refine blk_drewN ?_ _ | refine blk_drew ?_ | refine blk_alloc ?_ _)); exact BK309.out) hb); replace BK313 := Aside0.mk (blk_below (g := gb313) (o := .cells #[.int .i64 t310, .int .i64 t311] 25 (0, 0)) (by (with_reducible repeat (first | refine blk_drewN ?_ _ | refine blk_drew ?_ | refine blk_alloc ?_ _)); exact BK313.out) hb); replace HB := Aside0.mk (below_step (by repeat (first | (with_reducible first | exact HB.out | apply below_alloc | apply pw_below_drewN | apply below_drew1 | refine below_set ?_ GE279.out | refine below_set ?_ GE299.out | refine below_set ?_ GE303.out | refine below_set ?_ GE309.out | refine below_set ?_ GE313.out) | exact HB.out)) hb); (try clear hb); (try clear hb2); (try clear hk); (try clear hi); (try clear ho0)) | ((with_reducible refine gate_callee (f := 29) rfl ?_); refine goesL_ (some 144) rfl rfl Try.func29 (by kernel_rfl) rfl #[.int .i64 t314] rfl (by (try simp only [List.map_toArray, List.map_cons, List.map_nil]); first | done | rfl | (simp only [List.length_drop, List.length_take]; rfl)) ?_; (with_reducible refine (spec_SetOf.calls kj29 t314 t319 t320 _ A58.out).mono ?_); rintro e w88 ⟨v321, rfl, ho0, hb⟩; refine ⟨_, rfl, ?_⟩; have HO322 := Aside0.mk (Kd.R_lower (Kd.R_newB (Kd.R_newB (Kd.R_newB (Kd.R_newB (Kd.R_newB (Kd.R_new' ho0 (Kd.R_lt (by (with_reducible repeat (first | apply Kd.R_alloc | apply Kd.R_drewN | apply Kd.R_drew)); exact HO318.out))) (g := gb279) (o := .cells #[.int .i64 t277, .int .i64 t278] 25 (0, 0)) (by (with_reducible repeat (first | refine blk_drewN ?_ _ | refine blk_drew ?_ | refine blk_alloc ?_ _)); exact BK279.out)) (g := gb299) (o := .cells #[.int .i64 t296, .int .i64 t297] 25 (0, 0)) (by (with_reducible repeat (first | refine blk_drewN ?_ _ | refine blk_drew ?_ | refine blk_alloc ?_ _)); exact BK299.out)) (g := gb303) (o := .cells #[.int .i64 t300, .int .i64 t301] 25 (0, 0)) (by (with_reducible repeat (first | refine blk_drewN ?_ _ | refine blk_drew ?_ | refine blk_alloc ?_ _)); exact BK303.out)) (g := gb309) (o := .cells #[.int .i64 t306, .int .i64 t307] 25 (0, 0)) (by (with_reducible repeat (first | refine blk_drewN ?_ _ | refine blk_drew ?_ | refine blk_alloc ?_ _)); exact BK309.out)) (g := gb313) (o := .cells #[.int .i64 t310, .int .i64 t311] 25 (0, 0)) (by (with_reducible repeat (first | refine blk_drewN ?_ _ | refine blk_drew ?_ | refine blk_alloc ?_ _)); exact BK313.out)) (below_size (by repeat (first | (with_reducible first | exact HB.out | apply below_alloc | apply pw_below_drewN | apply below_drew1 | refine below_set ?_ GE279.out | refine below_set ?_ GE299.out | refine below_set ?_ GE303.out | refine below_set ?_ GE309.out | refine below_set ?_ GE313.out) | exact HB.out)))); replace HO318 := Aside0.mk (Kd.R_elder' (by (with_reducible repeat (first | apply Kd.R_alloc | apply Kd.R_drewN | apply Kd.R_drew)); exact HO318.out) (Kd.R_base ho0) hb); replace BK279 := Aside0.mk (blk_below (g := gb279) (o := .cells #[.int .i64 t277, .int .i64 t278] 25 (0, 0)) (by (with_reducible repeat (first | refine blk_drewN ?_ _ | refine blk_drew ?_ | refine blk_alloc ?_ _)); exact BK279.out) hb); replace BK299 := Aside0.mk (blk_below (g := gb299) (o := .cells #[.int .i64 t296, .int .i64 t297] 25 (0, 0)) (by (with_reducible repeat (first | refine blk_drewN ?_ _ | refine blk_drew ?_ | refine blk_alloc ?_ _)); exact BK299.out) hb); replace BK303 := Aside0.mk (blk_below (g := gb303) (o := .cells #[.int .i64 t300, .int .i64 t301] 25 (0, 0)) (by (with_reducible repeat (first | refine blk_drewN ?_ _ | refine blk_drew ?_ | refine blk_alloc ?_ _)); exact BK303.out) hb); replace BK309 := Aside0.mk (blk_below (g := gb309) (o := .cells #[.int .i64 t306, .int .i64 t307] 25 (0, 0)) (by (with_reducible repeat (first | refine blk_drewN ?_ _ | refine blk_drew ?_ | refine blk_alloc ?_ _)); exact BK309.out) hb); replace BK313 := Aside0.mk (blk_below (g := gb313) (o := .cells #[.int .i64 t310, .int .i64 t311] 25 (0, 0)) (by (with_reducible repeat (first | refine blk_drewN ?_ _ | refine blk_drew ?_ | refine blk_alloc ?_ _)); exact BK313.out) hb); replace HB := Aside0.mk (below_step (by repeat (first | (with_reducible first | exact HB.out | apply below_alloc | apply pw_below_drewN | apply below_drew1 | refine below_set ?_ GE279.out | refine below_set ?_ GE299.out | refine below_set ?_ GE303.out | refine below_set ?_ GE309.out | refine below_set ?_ GE313.out) | exact HB.out)) hb); (try clear hb); (try clear hb2); (try clear hk); (try clear hi); (try clear ho0)) | ((with_reducible refine gate_callee (f := 30) rfl ?_); refine goesL_ (some 149) rfl rfl Try.func30 (by kernel_rfl) rfl #[.int .i64 t314] rfl (by (try simp only [List.map_toArray, List.map_cons, List.map_nil]); first | done | rfl | (simp only [List.length_drop, List.length_take]; rfl)) ?_; (with_reducible refine (impl_CountSet.calls kj29 t314 t323 t324 _ A59.out).mono ?_); rintro e w89 ⟨rfl, hb⟩; refine ⟨_, rfl, ?_⟩; replace HO318 := Aside0.mk (Kd.R_below (by (with_reducible repeat (first | apply Kd.R_alloc | apply Kd.R_drewN | apply Kd.R_drew)); exact HO318.out) hb); replace HO322 := Aside0.mk (Kd.R_below (by (with_reducible repeat (first | apply Kd.R_alloc | apply Kd.R_drewN | apply Kd.R_drew)); exact HO322.out) hb); replace BK279 := Aside0.mk (blk_below (g := gb279) (o := .cells #[.int .i64 t277, .int .i64 t278] 25 (0, 0)) (by (with_reducible repeat (first | refine blk_drewN ?_ _ | refine blk_drew ?_ | refine blk_alloc ?_ _)); exact BK279.out) hb); replace BK299 := Aside0.mk (blk_below (g := gb299) (o := .cells #[.int .i64 t296, .int .i64 t297] 25 (0, 0)) (by (with_reducible repeat (first | refine blk_drewN ?_ _ | refine blk_drew ?_ | refine blk_alloc ?_ _)); exact BK299.out) hb); replace BK303 := Aside0.mk (blk_below (g := gb303) (o := .cells #[.int .i64 t300, .int .i64 t301] 25 (0, 0)) (by (with_reducible repeat (first | refine blk_drewN ?_ _ | refine blk_drew ?_ | refine blk_alloc ?_ _)); exact BK303.out) hb); replace BK309 := Aside0.mk (blk_below (g := gb309) (o := .cells #[.int .i64 t306, .int .i64 t307] 25 (0, 0)) (by (with_reducible repeat (first | refine blk_drewN ?_ _ | refine blk_drew ?_ | refine blk_alloc ?_ _)); exact BK309.out) hb); replace BK313 := Aside0.mk (blk_below (g := gb313) (o := .cells #[.int .i64 t310, .int .i64 t311] 25 (0, 0)) (by (with_reducible repeat (first | refine blk_drewN ?_ _ | refine blk_drew ?_ | refine blk_alloc ?_ _)); exact BK313.out) hb); replace HB := Aside0.mk (below_step (by repeat (first | (with_reducible first | exact HB.out | apply below_alloc | apply pw_below_drewN | apply below_drew1 | refine below_set ?_ GE279.out | refine below_set ?_ GE299.out | refine below_set ?_ GE303.out | refine below_set ?_ GE309.out | refine below_set ?_ GE313.out) | exact HB.out)) hb); (try clear hb); (try clear hb2); (try clear hk); (try clear hi)) | ((with_reducible refine gate_callee (f := 31) rfl ?_); refine goesL_ (some 154) rfl rfl Try.func31 (by kernel_rfl) rfl #[.int .i64 t314] rfl (by (try simp only [List.map_toArray, List.map_cons, List.map_nil]); first | done | rfl | (simp only [List.length_drop, List.length_take]; rfl)) ?_; (with_reducible refine (spec_CountSet.calls t314 t325 t326 _ A60.out).mono ?_); rintro e w' ⟨rfl, ⟨nd, rfl⟩⟩; refine ⟨_, rfl, ?_⟩))
              (try simp only [Act.put, List.setIfInBounds_toArray, List.set_cons_zero, List.set_cons_succ])
              go_cut [200] (fun v200 wc => ∃ (kq : Nat) (x200_60 : Bool), v200 = .bool x200_60 ∧ Aside0 (laws_FnTilesRanked.j2 kq t295 t298 t314 t315 t316 t323 x200_60 t296 t297 = some r) ∧ Aside0 (kq ≤ kj29) ∧ Aside0 (Kd.R k25 25 wc w.heap.size (fun k_ => k_ ≠ gb279 ∧ k_ ≠ gb299 ∧ k_ ≠ gb303 ∧ k_ ≠ gb309 ∧ k_ ≠ gb313) v317 t315) ∧ Aside0 (wc.heap[gb279]? = some (.cells #[.int .i64 t277, .int .i64 t278] 25 (0, 0))) ∧ Aside0 (wc.heap[gb299]? = some (.cells #[.int .i64 t296, .int .i64 t297] 25 (0, 0))) ∧ Aside0 (wc.heap[gb303]? = some (.cells #[.int .i64 t300, .int .i64 t301] 25 (0, 0))) ∧ Aside0 (wc.heap[gb309]? = some (.cells #[.int .i64 t306, .int .i64 t307] 25 (0, 0))) ∧ Aside0 (wc.heap[gb313]? = some (.cells #[.int .i64 t310, .int .i64 t311] 25 (0, 0))) ∧ Aside0 (Below w.heap.size w wc))
              case first => as_aux_lemma =>
                have H := HC61.out
                clear HC61
                by_cases c90 : (t298 != t302) = true
                · rw [if_pos c90] at H
                  have c90b0 : (t298 != t302) = true := c90
                  (try (have c90b1 : decide (t298 = t302) = false := by simpa using c90))
                  (try (have c90b2 : (t298 == t302) = false := by simpa using c90))
                  (try (have c90b3 : ¬ (t298 = t302) := by simpa using c90))
                  clear c90
                  (first | rw [c90b0] | (simp only [i64_w, i32_w]; rw [c90b0]) | skip)
                  have H' := Aside0.mk H
                  clear H
                  go_wp2
                  go_meet
                  case rel => exact ⟨_, (true), (by first | rfl | (simp; done) | (simp [*]; done)), H', ⟨by have := HJ7.out; have := HJ29.out; first | omega | exact Nat.le_refl _⟩, ⟨by (with_reducible repeat (first | apply Kd.R_alloc | apply Kd.R_drewN | apply Kd.R_drew)); exact Kd.R_mono HO318.out (fun _ hk => ⟨hk.1.1.1.1.1.2, ⟨hk.1.1.1.1.2, ⟨hk.1.1.1.2, ⟨hk.1.1.2, hk.1.2⟩⟩⟩⟩)⟩, ⟨by (with_reducible repeat (first | refine blk_drewN ?_ _ | refine blk_drew ?_ | refine blk_alloc ?_ _)); exact BK279.out⟩, ⟨by (with_reducible repeat (first | refine blk_drewN ?_ _ | refine blk_drew ?_ | refine blk_alloc ?_ _)); exact BK299.out⟩, ⟨by (with_reducible repeat (first | refine blk_drewN ?_ _ | refine blk_drew ?_ | refine blk_alloc ?_ _)); exact BK303.out⟩, ⟨by (with_reducible repeat (first | refine blk_drewN ?_ _ | refine blk_drew ?_ | refine blk_alloc ?_ _)); exact BK309.out⟩, ⟨by (with_reducible repeat (first | refine blk_drewN ?_ _ | refine blk_drew ?_ | refine blk_alloc ?_ _)); exact BK313.out⟩, ⟨by repeat (first | (with_reducible first | exact HB.out | apply below_alloc | apply pw_below_drewN | apply below_drew1 | refine below_set ?_ GE279.out | refine below_set ?_ GE299.out | refine below_set ?_ GE303.out | refine below_set ?_ GE309.out | refine below_set ?_ GE313.out) | exact HB.out)⟩⟩
                · rw [if_neg c90] at H
                  have c90b0 : (t298 != t302) = false := by simpa using c90
                  (try (have c90b1 : decide (t298 = t302) = true := by simpa using c90))
                  (try (have c90b2 : (t298 == t302) = true := by simpa using c90))
                  clear c90
                  (first | rw [c90b0] | (simp only [i64_w, i32_w]; rw [c90b0]) | skip)
                  by_cases c91 : (!(t296 == t300) || (!(t297 == t301))) = true
                  · rw [if_pos c91] at H
                    have c91b0 : (!(t296 == t300) || (!(t297 == t301))) = true := c91
                    clear c91
                    have H' := Aside0.mk H
                    clear H
                    have hnb92 := NB299_279.out
                    have hnc92 := NB279_299.out
                    have hnb93 := NB299_303.out
                    have hnc93 := NB303_299.out
                    have hnb94 := NB299_309.out
                    have hnc94 := NB309_299.out
                    have hnb95 := NB299_313.out
                    have hnc95 := NB313_299.out
                    have hcz96_0 : w89.cell? ⟨gb299, 0, none⟩ = some (.int .i64 t296) := (blk_cell BK299.out 0).trans rfl
                    have hcz96_1 : w89.cell? ⟨gb299, 1, none⟩ = some (.int .i64 t297) := (blk_cell BK299.out 1).trans rfl
                    have hfz96_0 := blk_frozen BK299.out 0
                    have hfz96_1 := blk_frozen BK299.out 1
                    have hnb97 := NB303_279.out
                    have hnc97 := NB279_303.out
                    have hnb98 := NB303_309.out
                    have hnc98 := NB309_303.out
                    have hnb99 := NB303_313.out
                    have hnc99 := NB313_303.out
                    have hcz100_0 : w89.cell? ⟨gb303, 0, none⟩ = some (.int .i64 t300) := (blk_cell BK303.out 0).trans rfl
                    have hcz100_1 : w89.cell? ⟨gb303, 1, none⟩ = some (.int .i64 t301) := (blk_cell BK303.out 1).trans rfl
                    have hfz100_0 := blk_frozen BK303.out 0
                    have hfz100_1 := blk_frozen BK303.out 1
                    go_wp2
                    go_meet
                    case rel => exact ⟨_, (true), (by first | rfl | (simp; done) | (simp [*]; done)), H', ⟨by have := HJ7.out; have := HJ29.out; first | omega | exact Nat.le_refl _⟩, ⟨by (with_reducible repeat (first | apply Kd.R_alloc | apply Kd.R_drewN | apply Kd.R_drew)); exact Kd.R_mono HO318.out (fun _ hk => ⟨hk.1.1.1.1.1.2, ⟨hk.1.1.1.1.2, ⟨hk.1.1.1.2, ⟨hk.1.1.2, hk.1.2⟩⟩⟩⟩)⟩, ⟨by (with_reducible repeat (first | refine blk_drewN ?_ _ | refine blk_drew ?_ | refine blk_alloc ?_ _)); exact BK279.out⟩, ⟨by (with_reducible repeat (first | refine blk_drewN ?_ _ | refine blk_drew ?_ | refine blk_alloc ?_ _)); exact BK299.out⟩, ⟨by (with_reducible repeat (first | refine blk_drewN ?_ _ | refine blk_drew ?_ | refine blk_alloc ?_ _)); exact BK303.out⟩, ⟨by (with_reducible repeat (first | refine blk_drewN ?_ _ | refine blk_drew ?_ | refine blk_alloc ?_ _)); exact BK309.out⟩, ⟨by (with_reducible repeat (first | refine blk_drewN ?_ _ | refine blk_drew ?_ | refine blk_alloc ?_ _)); exact BK313.out⟩, ⟨by repeat (first | (with_reducible first | exact HB.out | apply below_alloc | apply pw_below_drewN | apply below_drew1 | refine below_set ?_ GE279.out | refine below_set ?_ GE299.out | refine below_set ?_ GE303.out | refine below_set ?_ GE309.out | refine below_set ?_ GE313.out) | exact HB.out)⟩⟩
                  · rw [if_neg c91] at H
                    have c91b0 : (!(t296 == t300) || (!(t297 == t301))) = false := by simpa using c91
                    clear c91
                    by_cases c101 : (t308 != t312) = true
                    · rw [if_pos c101] at H
                      have c101b0 : (t308 != t312) = true := c101
                      (try (have c101b1 : decide (t308 = t312) = false := by simpa using c101))
                      (try (have c101b2 : (t308 == t312) = false := by simpa using c101))
                      (try (have c101b3 : ¬ (t308 = t312) := by simpa using c101))
                      clear c101
                      have H' := Aside0.mk H
                      clear H
                      have hnb102 := NB299_279.out
                      have hnc102 := NB279_299.out
                      have hnb103 := NB299_303.out
                      have hnc103 := NB303_299.out
                      have hnb104 := NB299_309.out
                      have hnc104 := NB309_299.out
                      have hnb105 := NB299_313.out
                      have hnc105 := NB313_299.out
                      have hcz106_0 : w89.cell? ⟨gb299, 0, none⟩ = some (.int .i64 t296) := (blk_cell BK299.out 0).trans rfl
                      have hcz106_1 : w89.cell? ⟨gb299, 1, none⟩ = some (.int .i64 t297) := (blk_cell BK299.out 1).trans rfl
                      have hfz106_0 := blk_frozen BK299.out 0
                      have hfz106_1 := blk_frozen BK299.out 1
                      have hnb107 := NB303_279.out
                      have hnc107 := NB279_303.out
                      have hnb108 := NB303_309.out
                      have hnc108 := NB309_303.out
                      have hnb109 := NB303_313.out
                      have hnc109 := NB313_303.out
                      have hcz110_0 : w89.cell? ⟨gb303, 0, none⟩ = some (.int .i64 t300) := (blk_cell BK303.out 0).trans rfl
                      have hcz110_1 : w89.cell? ⟨gb303, 1, none⟩ = some (.int .i64 t301) := (blk_cell BK303.out 1).trans rfl
                      have hfz110_0 := blk_frozen BK303.out 0
                      have hfz110_1 := blk_frozen BK303.out 1
                      go_wp2
                      go_meet
                      case rel => exact ⟨_, (true), (by first | rfl | (simp; done) | (simp [*]; done)), H', ⟨by have := HJ7.out; have := HJ29.out; first | omega | exact Nat.le_refl _⟩, ⟨by (with_reducible repeat (first | apply Kd.R_alloc | apply Kd.R_drewN | apply Kd.R_drew)); exact Kd.R_mono HO318.out (fun _ hk => ⟨hk.1.1.1.1.1.2, ⟨hk.1.1.1.1.2, ⟨hk.1.1.1.2, ⟨hk.1.1.2, hk.1.2⟩⟩⟩⟩)⟩, ⟨by (with_reducible repeat (first | refine blk_drewN ?_ _ | refine blk_drew ?_ | refine blk_alloc ?_ _)); exact BK279.out⟩, ⟨by (with_reducible repeat (first | refine blk_drewN ?_ _ | refine blk_drew ?_ | refine blk_alloc ?_ _)); exact BK299.out⟩, ⟨by (with_reducible repeat (first | refine blk_drewN ?_ _ | refine blk_drew ?_ | refine blk_alloc ?_ _)); exact BK303.out⟩, ⟨by (with_reducible repeat (first | refine blk_drewN ?_ _ | refine blk_drew ?_ | refine blk_alloc ?_ _)); exact BK309.out⟩, ⟨by (with_reducible repeat (first | refine blk_drewN ?_ _ | refine blk_drew ?_ | refine blk_alloc ?_ _)); exact BK313.out⟩, ⟨by repeat (first | (with_reducible first | exact HB.out | apply below_alloc | apply pw_below_drewN | apply below_drew1 | refine below_set ?_ GE279.out | refine below_set ?_ GE299.out | refine below_set ?_ GE303.out | refine below_set ?_ GE309.out | refine below_set ?_ GE313.out) | exact HB.out)⟩⟩
                    · rw [if_neg c101] at H
                      have c101b0 : (t308 != t312) = false := by simpa using c101
                      (try (have c101b1 : decide (t308 = t312) = true := by simpa using c101))
                      (try (have c101b2 : (t308 == t312) = true := by simpa using c101))
                      clear c101
                      by_cases c111 : (!(t306 == t310) || (!(t307 == t311))) = true
                      · rw [if_pos c111] at H
                        have c111b0 : (!(t306 == t310) || (!(t307 == t311))) = true := c111
                        clear c111
                        have H' := Aside0.mk H
                        clear H
                        have hnb112 := NB299_279.out
                        have hnc112 := NB279_299.out
                        have hnb113 := NB299_303.out
                        have hnc113 := NB303_299.out
                        have hnb114 := NB299_309.out
                        have hnc114 := NB309_299.out
                        have hnb115 := NB299_313.out
                        have hnc115 := NB313_299.out
                        have hcz116_0 : w89.cell? ⟨gb299, 0, none⟩ = some (.int .i64 t296) := (blk_cell BK299.out 0).trans rfl
                        have hcz116_1 : w89.cell? ⟨gb299, 1, none⟩ = some (.int .i64 t297) := (blk_cell BK299.out 1).trans rfl
                        have hfz116_0 := blk_frozen BK299.out 0
                        have hfz116_1 := blk_frozen BK299.out 1
                        have hnb117 := NB303_279.out
                        have hnc117 := NB279_303.out
                        have hnb118 := NB303_309.out
                        have hnc118 := NB309_303.out
                        have hnb119 := NB303_313.out
                        have hnc119 := NB313_303.out
                        have hcz120_0 : w89.cell? ⟨gb303, 0, none⟩ = some (.int .i64 t300) := (blk_cell BK303.out 0).trans rfl
                        have hcz120_1 : w89.cell? ⟨gb303, 1, none⟩ = some (.int .i64 t301) := (blk_cell BK303.out 1).trans rfl
                        have hfz120_0 := blk_frozen BK303.out 0
                        have hfz120_1 := blk_frozen BK303.out 1
                        have hnb121 := NB309_279.out
                        have hnc121 := NB279_309.out
                        have hnb122 := NB309_313.out
                        have hnc122 := NB313_309.out
                        have hcz123_0 : w89.cell? ⟨gb309, 0, none⟩ = some (.int .i64 t306) := (blk_cell BK309.out 0).trans rfl
                        have hcz123_1 : w89.cell? ⟨gb309, 1, none⟩ = some (.int .i64 t307) := (blk_cell BK309.out 1).trans rfl
                        have hfz123_0 := blk_frozen BK309.out 0
                        have hfz123_1 := blk_frozen BK309.out 1
                        have hnb124 := NB313_279.out
                        have hnc124 := NB279_313.out
                        have hcz125_0 : w89.cell? ⟨gb313, 0, none⟩ = some (.int .i64 t310) := (blk_cell BK313.out 0).trans rfl
                        have hcz125_1 : w89.cell? ⟨gb313, 1, none⟩ = some (.int .i64 t311) := (blk_cell BK313.out 1).trans rfl
                        have hfz125_0 := blk_frozen BK313.out 0
                        have hfz125_1 := blk_frozen BK313.out 1
                        go_wp2
                        go_meet
                        case rel => exact ⟨_, (true), (by first | rfl | (simp; done) | (simp [*]; done)), H', ⟨by have := HJ7.out; have := HJ29.out; first | omega | exact Nat.le_refl _⟩, ⟨by (with_reducible repeat (first | apply Kd.R_alloc | apply Kd.R_drewN | apply Kd.R_drew)); exact Kd.R_mono HO318.out (fun _ hk => ⟨hk.1.1.1.1.1.2, ⟨hk.1.1.1.1.2, ⟨hk.1.1.1.2, ⟨hk.1.1.2, hk.1.2⟩⟩⟩⟩)⟩, ⟨by (with_reducible repeat (first | refine blk_drewN ?_ _ | refine blk_drew ?_ | refine blk_alloc ?_ _)); exact BK279.out⟩, ⟨by (with_reducible repeat (first | refine blk_drewN ?_ _ | refine blk_drew ?_ | refine blk_alloc ?_ _)); exact BK299.out⟩, ⟨by (with_reducible repeat (first | refine blk_drewN ?_ _ | refine blk_drew ?_ | refine blk_alloc ?_ _)); exact BK303.out⟩, ⟨by (with_reducible repeat (first | refine blk_drewN ?_ _ | refine blk_drew ?_ | refine blk_alloc ?_ _)); exact BK309.out⟩, ⟨by (with_reducible repeat (first | refine blk_drewN ?_ _ | refine blk_drew ?_ | refine blk_alloc ?_ _)); exact BK313.out⟩, ⟨by repeat (first | (with_reducible first | exact HB.out | apply below_alloc | apply pw_below_drewN | apply below_drew1 | refine below_set ?_ GE279.out | refine below_set ?_ GE299.out | refine below_set ?_ GE303.out | refine below_set ?_ GE309.out | refine below_set ?_ GE313.out) | exact HB.out)⟩⟩
                      · rw [if_neg c111] at H
                        have c111b0 : (!(t306 == t310) || (!(t307 == t311))) = false := by simpa using c111
                        clear c111
                        by_cases c126 : (t316 != t320) = true
                        · rw [if_pos c126] at H
                          have c126b0 : (t316 != t320) = true := c126
                          (try (have c126b1 : decide (t316 = t320) = false := by simpa using c126))
                          (try (have c126b2 : (t316 == t320) = false := by simpa using c126))
                          (try (have c126b3 : ¬ (t316 = t320) := by simpa using c126))
                          clear c126
                          have H' := Aside0.mk H
                          clear H
                          have hnb127 := NB299_279.out
                          have hnc127 := NB279_299.out
                          have hnb128 := NB299_303.out
                          have hnc128 := NB303_299.out
                          have hnb129 := NB299_309.out
                          have hnc129 := NB309_299.out
                          have hnb130 := NB299_313.out
                          have hnc130 := NB313_299.out
                          have hcz131_0 : w89.cell? ⟨gb299, 0, none⟩ = some (.int .i64 t296) := (blk_cell BK299.out 0).trans rfl
                          have hcz131_1 : w89.cell? ⟨gb299, 1, none⟩ = some (.int .i64 t297) := (blk_cell BK299.out 1).trans rfl
                          have hfz131_0 := blk_frozen BK299.out 0
                          have hfz131_1 := blk_frozen BK299.out 1
                          have hnb132 := NB303_279.out
                          have hnc132 := NB279_303.out
                          have hnb133 := NB303_309.out
                          have hnc133 := NB309_303.out
                          have hnb134 := NB303_313.out
                          have hnc134 := NB313_303.out
                          have hcz135_0 : w89.cell? ⟨gb303, 0, none⟩ = some (.int .i64 t300) := (blk_cell BK303.out 0).trans rfl
                          have hcz135_1 : w89.cell? ⟨gb303, 1, none⟩ = some (.int .i64 t301) := (blk_cell BK303.out 1).trans rfl
                          have hfz135_0 := blk_frozen BK303.out 0
                          have hfz135_1 := blk_frozen BK303.out 1
                          have hnb136 := NB309_279.out
                          have hnc136 := NB279_309.out
                          have hnb137 := NB309_313.out
                          have hnc137 := NB313_309.out
                          have hcz138_0 : w89.cell? ⟨gb309, 0, none⟩ = some (.int .i64 t306) := (blk_cell BK309.out 0).trans rfl
                          have hcz138_1 : w89.cell? ⟨gb309, 1, none⟩ = some (.int .i64 t307) := (blk_cell BK309.out 1).trans rfl
                          have hfz138_0 := blk_frozen BK309.out 0
                          have hfz138_1 := blk_frozen BK309.out 1
                          have hnb139 := NB313_279.out
                          have hnc139 := NB279_313.out
                          have hcz140_0 : w89.cell? ⟨gb313, 0, none⟩ = some (.int .i64 t310) := (blk_cell BK313.out 0).trans rfl
                          have hcz140_1 : w89.cell? ⟨gb313, 1, none⟩ = some (.int .i64 t311) := (blk_cell BK313.out 1).trans rfl
                          have hfz140_0 := blk_frozen BK313.out 0
                          have hfz140_1 := blk_frozen BK313.out 1
                          go_wp2
                          go_meet
                          case rel => exact ⟨_, (true), (by first | rfl | (simp; done) | (simp [*]; done)), H', ⟨by have := HJ7.out; have := HJ29.out; first | omega | exact Nat.le_refl _⟩, ⟨by (with_reducible repeat (first | apply Kd.R_alloc | apply Kd.R_drewN | apply Kd.R_drew)); exact Kd.R_mono HO318.out (fun _ hk => ⟨hk.1.1.1.1.1.2, ⟨hk.1.1.1.1.2, ⟨hk.1.1.1.2, ⟨hk.1.1.2, hk.1.2⟩⟩⟩⟩)⟩, ⟨by (with_reducible repeat (first | refine blk_drewN ?_ _ | refine blk_drew ?_ | refine blk_alloc ?_ _)); exact BK279.out⟩, ⟨by (with_reducible repeat (first | refine blk_drewN ?_ _ | refine blk_drew ?_ | refine blk_alloc ?_ _)); exact BK299.out⟩, ⟨by (with_reducible repeat (first | refine blk_drewN ?_ _ | refine blk_drew ?_ | refine blk_alloc ?_ _)); exact BK303.out⟩, ⟨by (with_reducible repeat (first | refine blk_drewN ?_ _ | refine blk_drew ?_ | refine blk_alloc ?_ _)); exact BK309.out⟩, ⟨by (with_reducible repeat (first | refine blk_drewN ?_ _ | refine blk_drew ?_ | refine blk_alloc ?_ _)); exact BK313.out⟩, ⟨by repeat (first | (with_reducible first | exact HB.out | apply below_alloc | apply pw_below_drewN | apply below_drew1 | refine below_set ?_ GE279.out | refine below_set ?_ GE299.out | refine below_set ?_ GE303.out | refine below_set ?_ GE309.out | refine below_set ?_ GE313.out) | exact HB.out)⟩⟩
                        · rw [if_neg c126] at H
                          have c126b0 : (t316 != t320) = false := by simpa using c126
                          (try (have c126b1 : decide (t316 = t320) = true := by simpa using c126))
                          (try (have c126b2 : (t316 == t320) = true := by simpa using c126))
                          clear c126
                          replace H := Option.bind_eq_some_iff.mp H
                          obtain ⟨t327, A1410, H⟩ := H
                          replace H : (if t327 = true then (if (t324 != t326) = true then (laws_FnTilesRanked.j2 kj29 t295 t298 t314 t315 t316 t323 true t296 t297) else (if t323 = t325 then (laws_FnTilesRanked.j2 kj29 t295 t298 t314 t315 t316 t323 (t324 != t316) t296 t297) else (laws_FnTilesRanked.j2 kj29 t295 t298 t314 t315 t316 t323 true t296 t297))) else (laws_FnTilesRanked.j2 kj29 t295 t298 t314 t315 t316 t323 true t296 t297)) = some r := H
                          have A141 := Aside0.mk A1410
                          clear A1410
                          by_cases c142 : t327 = true
                          · subst c142
                            have H1 : (if (t324 != t326) = true then (laws_FnTilesRanked.j2 kj29 t295 t298 t314 t315 t316 t323 true t296 t297) else (if t323 = t325 then (laws_FnTilesRanked.j2 kj29 t295 t298 t314 t315 t316 t323 (t324 != t316) t296 t297) else (laws_FnTilesRanked.j2 kj29 t295 t298 t314 t315 t316 t323 true t296 t297))) = some r := by rw [if_pos rfl] at H; exact H
                            clear H
                            have H := H1
                            clear H1
                            by_cases c143 : (t324 != t326) = true
                            · rw [if_pos c143] at H
                              have c143b0 : (t324 != t326) = true := c143
                              (try (have c143b1 : decide (t324 = t326) = false := by simpa using c143))
                              (try (have c143b2 : (t324 == t326) = false := by simpa using c143))
                              (try (have c143b3 : ¬ (t324 = t326) := by simpa using c143))
                              clear c143
                              have H' := Aside0.mk H
                              clear H
                              have hnb144 := NB299_279.out
                              have hnc144 := NB279_299.out
                              have hnb145 := NB299_303.out
                              have hnc145 := NB303_299.out
                              have hnb146 := NB299_309.out
                              have hnc146 := NB309_299.out
                              have hnb147 := NB299_313.out
                              have hnc147 := NB313_299.out
                              have hcz148_0 : w89.cell? ⟨gb299, 0, none⟩ = some (.int .i64 t296) := (blk_cell BK299.out 0).trans rfl
                              have hcz148_1 : w89.cell? ⟨gb299, 1, none⟩ = some (.int .i64 t297) := (blk_cell BK299.out 1).trans rfl
                              have hfz148_0 := blk_frozen BK299.out 0
                              have hfz148_1 := blk_frozen BK299.out 1
                              have hnb149 := NB303_279.out
                              have hnc149 := NB279_303.out
                              have hnb150 := NB303_309.out
                              have hnc150 := NB309_303.out
                              have hnb151 := NB303_313.out
                              have hnc151 := NB313_303.out
                              have hcz152_0 : w89.cell? ⟨gb303, 0, none⟩ = some (.int .i64 t300) := (blk_cell BK303.out 0).trans rfl
                              have hcz152_1 : w89.cell? ⟨gb303, 1, none⟩ = some (.int .i64 t301) := (blk_cell BK303.out 1).trans rfl
                              have hfz152_0 := blk_frozen BK303.out 0
                              have hfz152_1 := blk_frozen BK303.out 1
                              have hnb153 := NB309_279.out
                              have hnc153 := NB279_309.out
                              have hnb154 := NB309_313.out
                              have hnc154 := NB313_309.out
                              have hcz155_0 : w89.cell? ⟨gb309, 0, none⟩ = some (.int .i64 t306) := (blk_cell BK309.out 0).trans rfl
                              have hcz155_1 : w89.cell? ⟨gb309, 1, none⟩ = some (.int .i64 t307) := (blk_cell BK309.out 1).trans rfl
                              have hfz155_0 := blk_frozen BK309.out 0
                              have hfz155_1 := blk_frozen BK309.out 1
                              have hnb156 := NB313_279.out
                              have hnc156 := NB279_313.out
                              have hcz157_0 : w89.cell? ⟨gb313, 0, none⟩ = some (.int .i64 t310) := (blk_cell BK313.out 0).trans rfl
                              have hcz157_1 : w89.cell? ⟨gb313, 1, none⟩ = some (.int .i64 t311) := (blk_cell BK313.out 1).trans rfl
                              have hfz157_0 := blk_frozen BK313.out 0
                              have hfz157_1 := blk_frozen BK313.out 1
                              obtain ⟨Ao158, co158, eo158⟩ := Kd.R_slice HO318.out
                              subst eo158
                              obtain ⟨Ao159, co159, eo159⟩ := Kd.R_slice HO322.out
                              subst eo159
                              go_wp2_with (first | (go_at_call 32; (with_reducible refine (laws_mTiles.calls kj29 _ _ t315 _ _ t319 true _ ?side1 ?side2 ?side3 ?side4 A141.out).mono ?_); (case side1 => repeat (first | exact (Kd.R_reads' HO318.out).2.2 | (with_reducible refine Kd.C_alloc ?_ _) | (with_reducible refine Kd.C_drewN ?_ _) | (with_reducible refine Kd.C_drew ?_))); (case side2 => exact (Kd.R_reads' HO318.out).2.1); (case side3 => repeat (first | exact (Kd.R_reads' HO322.out).2.2 | (with_reducible refine Kd.C_alloc ?_ _) | (with_reducible refine Kd.C_drewN ?_ _) | (with_reducible refine Kd.C_drew ?_))); (case side4 => exact (Kd.R_reads' HO322.out).2.1); rintro e w' ⟨rfl, ⟨nd, rfl⟩⟩))
                              go_meet
                              case rel => exact ⟨_, (true), (by first | rfl | (simp; done) | (simp [*]; done)), H', ⟨by have := HJ7.out; have := HJ29.out; first | omega | exact Nat.le_refl _⟩, ⟨by (with_reducible repeat (first | apply Kd.R_alloc | apply Kd.R_drewN | apply Kd.R_drew)); exact Kd.R_mono HO318.out (fun _ hk => ⟨hk.1.1.1.1.1.2, ⟨hk.1.1.1.1.2, ⟨hk.1.1.1.2, ⟨hk.1.1.2, hk.1.2⟩⟩⟩⟩)⟩, ⟨by (with_reducible repeat (first | refine blk_drewN ?_ _ | refine blk_drew ?_ | refine blk_alloc ?_ _)); exact BK279.out⟩, ⟨by (with_reducible repeat (first | refine blk_drewN ?_ _ | refine blk_drew ?_ | refine blk_alloc ?_ _)); exact BK299.out⟩, ⟨by (with_reducible repeat (first | refine blk_drewN ?_ _ | refine blk_drew ?_ | refine blk_alloc ?_ _)); exact BK303.out⟩, ⟨by (with_reducible repeat (first | refine blk_drewN ?_ _ | refine blk_drew ?_ | refine blk_alloc ?_ _)); exact BK309.out⟩, ⟨by (with_reducible repeat (first | refine blk_drewN ?_ _ | refine blk_drew ?_ | refine blk_alloc ?_ _)); exact BK313.out⟩, ⟨by repeat (first | (with_reducible first | exact HB.out | apply below_alloc | apply pw_below_drewN | apply below_drew1 | refine below_set ?_ GE279.out | refine below_set ?_ GE299.out | refine below_set ?_ GE303.out | refine below_set ?_ GE309.out | refine below_set ?_ GE313.out) | exact HB.out)⟩⟩
                            · rw [if_neg c143] at H
                              have c143b0 : (t324 != t326) = false := by simpa using c143
                              (try (have c143b1 : decide (t324 = t326) = true := by simpa using c143))
                              (try (have c143b2 : (t324 == t326) = true := by simpa using c143))
                              clear c143
                              by_cases c160 : t323 = t325
                              · rw [if_pos c160] at H
                                have c160b0 : (t323 == t325) = true := beq_iff_eq.mpr c160
                                have c160b1 : (t323 != t325) = false := bne_eq_false_iff_eq.mpr c160
                                clear c160
                                have H' := Aside0.mk H
                                clear H
                                have hnb161 := NB299_279.out
                                have hnc161 := NB279_299.out
                                have hnb162 := NB299_303.out
                                have hnc162 := NB303_299.out
                                have hnb163 := NB299_309.out
                                have hnc163 := NB309_299.out
                                have hnb164 := NB299_313.out
                                have hnc164 := NB313_299.out
                                have hcz165_0 : w89.cell? ⟨gb299, 0, none⟩ = some (.int .i64 t296) := (blk_cell BK299.out 0).trans rfl
                                have hcz165_1 : w89.cell? ⟨gb299, 1, none⟩ = some (.int .i64 t297) := (blk_cell BK299.out 1).trans rfl
                                have hfz165_0 := blk_frozen BK299.out 0
                                have hfz165_1 := blk_frozen BK299.out 1
                                have hnb166 := NB303_279.out
                                have hnc166 := NB279_303.out
                                have hnb167 := NB303_309.out
                                have hnc167 := NB309_303.out
                                have hnb168 := NB303_313.out
                                have hnc168 := NB313_303.out
                                have hcz169_0 : w89.cell? ⟨gb303, 0, none⟩ = some (.int .i64 t300) := (blk_cell BK303.out 0).trans rfl
                                have hcz169_1 : w89.cell? ⟨gb303, 1, none⟩ = some (.int .i64 t301) := (blk_cell BK303.out 1).trans rfl
                                have hfz169_0 := blk_frozen BK303.out 0
                                have hfz169_1 := blk_frozen BK303.out 1
                                have hnb170 := NB309_279.out
                                have hnc170 := NB279_309.out
                                have hnb171 := NB309_313.out
                                have hnc171 := NB313_309.out
                                have hcz172_0 : w89.cell? ⟨gb309, 0, none⟩ = some (.int .i64 t306) := (blk_cell BK309.out 0).trans rfl
                                have hcz172_1 : w89.cell? ⟨gb309, 1, none⟩ = some (.int .i64 t307) := (blk_cell BK309.out 1).trans rfl
                                have hfz172_0 := blk_frozen BK309.out 0
                                have hfz172_1 := blk_frozen BK309.out 1
                                have hnb173 := NB313_279.out
                                have hnc173 := NB279_313.out
                                have hcz174_0 : w89.cell? ⟨gb313, 0, none⟩ = some (.int .i64 t310) := (blk_cell BK313.out 0).trans rfl
                                have hcz174_1 : w89.cell? ⟨gb313, 1, none⟩ = some (.int .i64 t311) := (blk_cell BK313.out 1).trans rfl
                                have hfz174_0 := blk_frozen BK313.out 0
                                have hfz174_1 := blk_frozen BK313.out 1
                                obtain ⟨Ao175, co175, eo175⟩ := Kd.R_slice HO318.out
                                subst eo175
                                obtain ⟨Ao176, co176, eo176⟩ := Kd.R_slice HO322.out
                                subst eo176
                                go_wp2_with (first | (go_at_call 32; (with_reducible refine (laws_mTiles.calls kj29 _ _ t315 _ _ t319 true _ ?side1 ?side2 ?side3 ?side4 A141.out).mono ?_); (case side1 => repeat (first | exact (Kd.R_reads' HO318.out).2.2 | (with_reducible refine Kd.C_alloc ?_ _) | (with_reducible refine Kd.C_drewN ?_ _) | (with_reducible refine Kd.C_drew ?_))); (case side2 => exact (Kd.R_reads' HO318.out).2.1); (case side3 => repeat (first | exact (Kd.R_reads' HO322.out).2.2 | (with_reducible refine Kd.C_alloc ?_ _) | (with_reducible refine Kd.C_drewN ?_ _) | (with_reducible refine Kd.C_drew ?_))); (case side4 => exact (Kd.R_reads' HO322.out).2.1); rintro e w' ⟨rfl, ⟨nd, rfl⟩⟩))
                                go_meet
                                case rel => exact ⟨_, ((t324 != t316)), (by first | rfl | (simp; done) | (simp [*]; done)), H', ⟨by have := HJ7.out; have := HJ29.out; first | omega | exact Nat.le_refl _⟩, ⟨by (with_reducible repeat (first | apply Kd.R_alloc | apply Kd.R_drewN | apply Kd.R_drew)); exact Kd.R_mono HO318.out (fun _ hk => ⟨hk.1.1.1.1.1.2, ⟨hk.1.1.1.1.2, ⟨hk.1.1.1.2, ⟨hk.1.1.2, hk.1.2⟩⟩⟩⟩)⟩, ⟨by (with_reducible repeat (first | refine blk_drewN ?_ _ | refine blk_drew ?_ | refine blk_alloc ?_ _)); exact BK279.out⟩, ⟨by (with_reducible repeat (first | refine blk_drewN ?_ _ | refine blk_drew ?_ | refine blk_alloc ?_ _)); exact BK299.out⟩, ⟨by (with_reducible repeat (first | refine blk_drewN ?_ _ | refine blk_drew ?_ | refine blk_alloc ?_ _)); exact BK303.out⟩, ⟨by (with_reducible repeat (first | refine blk_drewN ?_ _ | refine blk_drew ?_ | refine blk_alloc ?_ _)); exact BK309.out⟩, ⟨by (with_reducible repeat (first | refine blk_drewN ?_ _ | refine blk_drew ?_ | refine blk_alloc ?_ _)); exact BK313.out⟩, ⟨by repeat (first | (with_reducible first | exact HB.out | apply below_alloc | apply pw_below_drewN | apply below_drew1 | refine below_set ?_ GE279.out | refine below_set ?_ GE299.out | refine below_set ?_ GE303.out | refine below_set ?_ GE309.out | refine below_set ?_ GE313.out) | exact HB.out)⟩⟩
                              · rw [if_neg c160] at H
                                have c160b0 : (t323 == t325) = false := beq_eq_false_iff_ne.mpr c160
                                have c160b1 : (t323 != t325) = true := bne_iff_ne.mpr c160
                                have H' := Aside0.mk H
                                clear H
                                have hnb177 := NB299_279.out
                                have hnc177 := NB279_299.out
                                have hnb178 := NB299_303.out
                                have hnc178 := NB303_299.out
                                have hnb179 := NB299_309.out
                                have hnc179 := NB309_299.out
                                have hnb180 := NB299_313.out
                                have hnc180 := NB313_299.out
                                have hcz181_0 : w89.cell? ⟨gb299, 0, none⟩ = some (.int .i64 t296) := (blk_cell BK299.out 0).trans rfl
                                have hcz181_1 : w89.cell? ⟨gb299, 1, none⟩ = some (.int .i64 t297) := (blk_cell BK299.out 1).trans rfl
                                have hfz181_0 := blk_frozen BK299.out 0
                                have hfz181_1 := blk_frozen BK299.out 1
                                have hnb182 := NB303_279.out
                                have hnc182 := NB279_303.out
                                have hnb183 := NB303_309.out
                                have hnc183 := NB309_303.out
                                have hnb184 := NB303_313.out
                                have hnc184 := NB313_303.out
                                have hcz185_0 : w89.cell? ⟨gb303, 0, none⟩ = some (.int .i64 t300) := (blk_cell BK303.out 0).trans rfl
                                have hcz185_1 : w89.cell? ⟨gb303, 1, none⟩ = some (.int .i64 t301) := (blk_cell BK303.out 1).trans rfl
                                have hfz185_0 := blk_frozen BK303.out 0
                                have hfz185_1 := blk_frozen BK303.out 1
                                have hnb186 := NB309_279.out
                                have hnc186 := NB279_309.out
                                have hnb187 := NB309_313.out
                                have hnc187 := NB313_309.out
                                have hcz188_0 : w89.cell? ⟨gb309, 0, none⟩ = some (.int .i64 t306) := (blk_cell BK309.out 0).trans rfl
                                have hcz188_1 : w89.cell? ⟨gb309, 1, none⟩ = some (.int .i64 t307) := (blk_cell BK309.out 1).trans rfl
                                have hfz188_0 := blk_frozen BK309.out 0
                                have hfz188_1 := blk_frozen BK309.out 1
                                have hnb189 := NB313_279.out
                                have hnc189 := NB279_313.out
                                have hcz190_0 : w89.cell? ⟨gb313, 0, none⟩ = some (.int .i64 t310) := (blk_cell BK313.out 0).trans rfl
                                have hcz190_1 : w89.cell? ⟨gb313, 1, none⟩ = some (.int .i64 t311) := (blk_cell BK313.out 1).trans rfl
                                have hfz190_0 := blk_frozen BK313.out 0
                                have hfz190_1 := blk_frozen BK313.out 1
                                obtain ⟨Ao191, co191, eo191⟩ := Kd.R_slice HO318.out
                                subst eo191
                                obtain ⟨Ao192, co192, eo192⟩ := Kd.R_slice HO322.out
                                subst eo192
                                go_wp2_with (first | (go_at_call 32; (with_reducible refine (laws_mTiles.calls kj29 _ _ t315 _ _ t319 true _ ?side1 ?side2 ?side3 ?side4 A141.out).mono ?_); (case side1 => repeat (first | exact (Kd.R_reads' HO318.out).2.2 | (with_reducible refine Kd.C_alloc ?_ _) | (with_reducible refine Kd.C_drewN ?_ _) | (with_reducible refine Kd.C_drew ?_))); (case side2 => exact (Kd.R_reads' HO318.out).2.1); (case side3 => repeat (first | exact (Kd.R_reads' HO322.out).2.2 | (with_reducible refine Kd.C_alloc ?_ _) | (with_reducible refine Kd.C_drewN ?_ _) | (with_reducible refine Kd.C_drew ?_))); (case side4 => exact (Kd.R_reads' HO322.out).2.1); rintro e w' ⟨rfl, ⟨nd, rfl⟩⟩))
                                go_meet
                                case rel => exact ⟨_, (true), (by first | rfl | (simp; done) | (simp [*]; done)), H', ⟨by have := HJ7.out; have := HJ29.out; first | omega | exact Nat.le_refl _⟩, ⟨by (with_reducible repeat (first | apply Kd.R_alloc | apply Kd.R_drewN | apply Kd.R_drew)); exact Kd.R_mono HO318.out (fun _ hk => ⟨hk.1.1.1.1.1.2, ⟨hk.1.1.1.1.2, ⟨hk.1.1.1.2, ⟨hk.1.1.2, hk.1.2⟩⟩⟩⟩)⟩, ⟨by (with_reducible repeat (first | refine blk_drewN ?_ _ | refine blk_drew ?_ | refine blk_alloc ?_ _)); exact BK279.out⟩, ⟨by (with_reducible repeat (first | refine blk_drewN ?_ _ | refine blk_drew ?_ | refine blk_alloc ?_ _)); exact BK299.out⟩, ⟨by (with_reducible repeat (first | refine blk_drewN ?_ _ | refine blk_drew ?_ | refine blk_alloc ?_ _)); exact BK303.out⟩, ⟨by (with_reducible repeat (first | refine blk_drewN ?_ _ | refine blk_drew ?_ | refine blk_alloc ?_ _)); exact BK309.out⟩, ⟨by (with_reducible repeat (first | refine blk_drewN ?_ _ | refine blk_drew ?_ | refine blk_alloc ?_ _)); exact BK313.out⟩, ⟨by repeat (first | (with_reducible first | exact HB.out | apply below_alloc | apply pw_below_drewN | apply below_drew1 | refine below_set ?_ GE279.out | refine below_set ?_ GE299.out | refine below_set ?_ GE303.out | refine below_set ?_ GE309.out | refine below_set ?_ GE313.out) | exact HB.out)⟩⟩
                          · replace c142 := Bool.eq_false_iff.mpr c142
                            subst c142
                            have H1 : (laws_FnTilesRanked.j2 kj29 t295 t298 t314 t315 t316 t323 true t296 t297) = some r := by rw [if_neg (show ¬ (false = true) by decide)] at H; exact H
                            clear H
                            have H := H1
                            clear H1
                            have H' := Aside0.mk H
                            clear H
                            have hnb193 := NB299_279.out
                            have hnc193 := NB279_299.out
                            have hnb194 := NB299_303.out
                            have hnc194 := NB303_299.out
                            have hnb195 := NB299_309.out
                            have hnc195 := NB309_299.out
                            have hnb196 := NB299_313.out
                            have hnc196 := NB313_299.out
                            have hcz197_0 : w89.cell? ⟨gb299, 0, none⟩ = some (.int .i64 t296) := (blk_cell BK299.out 0).trans rfl
                            have hcz197_1 : w89.cell? ⟨gb299, 1, none⟩ = some (.int .i64 t297) := (blk_cell BK299.out 1).trans rfl
                            have hfz197_0 := blk_frozen BK299.out 0
                            have hfz197_1 := blk_frozen BK299.out 1
                            have hnb198 := NB303_279.out
                            have hnc198 := NB279_303.out
                            have hnb199 := NB303_309.out
                            have hnc199 := NB309_303.out
                            have hnb200 := NB303_313.out
                            have hnc200 := NB313_303.out
                            have hcz201_0 : w89.cell? ⟨gb303, 0, none⟩ = some (.int .i64 t300) := (blk_cell BK303.out 0).trans rfl
                            have hcz201_1 : w89.cell? ⟨gb303, 1, none⟩ = some (.int .i64 t301) := (blk_cell BK303.out 1).trans rfl
                            have hfz201_0 := blk_frozen BK303.out 0
                            have hfz201_1 := blk_frozen BK303.out 1
                            have hnb202 := NB309_279.out
                            have hnc202 := NB279_309.out
                            have hnb203 := NB309_313.out
                            have hnc203 := NB313_309.out
                            have hcz204_0 : w89.cell? ⟨gb309, 0, none⟩ = some (.int .i64 t306) := (blk_cell BK309.out 0).trans rfl
                            have hcz204_1 : w89.cell? ⟨gb309, 1, none⟩ = some (.int .i64 t307) := (blk_cell BK309.out 1).trans rfl
                            have hfz204_0 := blk_frozen BK309.out 0
                            have hfz204_1 := blk_frozen BK309.out 1
                            have hnb205 := NB313_279.out
                            have hnc205 := NB279_313.out
                            have hcz206_0 : w89.cell? ⟨gb313, 0, none⟩ = some (.int .i64 t310) := (blk_cell BK313.out 0).trans rfl
                            have hcz206_1 : w89.cell? ⟨gb313, 1, none⟩ = some (.int .i64 t311) := (blk_cell BK313.out 1).trans rfl
                            have hfz206_0 := blk_frozen BK313.out 0
                            have hfz206_1 := blk_frozen BK313.out 1
                            obtain ⟨Ao207, co207, eo207⟩ := Kd.R_slice HO318.out
                            subst eo207
                            obtain ⟨Ao208, co208, eo208⟩ := Kd.R_slice HO322.out
                            subst eo208
                            go_wp2_with (first | (go_at_call 32; (with_reducible refine (laws_mTiles.calls kj29 _ _ t315 _ _ t319 false _ ?side1 ?side2 ?side3 ?side4 A141.out).mono ?_); (case side1 => repeat (first | exact (Kd.R_reads' HO318.out).2.2 | (with_reducible refine Kd.C_alloc ?_ _) | (with_reducible refine Kd.C_drewN ?_ _) | (with_reducible refine Kd.C_drew ?_))); (case side2 => exact (Kd.R_reads' HO318.out).2.1); (case side3 => repeat (first | exact (Kd.R_reads' HO322.out).2.2 | (with_reducible refine Kd.C_alloc ?_ _) | (with_reducible refine Kd.C_drewN ?_ _) | (with_reducible refine Kd.C_drew ?_))); (case side4 => exact (Kd.R_reads' HO322.out).2.1); rintro e w' ⟨rfl, ⟨nd, rfl⟩⟩))
                            go_meet
                            case rel => exact ⟨_, (true), (by first | rfl | (simp; done) | (simp [*]; done)), H', ⟨by have := HJ7.out; have := HJ29.out; first | omega | exact Nat.le_refl _⟩, ⟨by (with_reducible repeat (first | apply Kd.R_alloc | apply Kd.R_drewN | apply Kd.R_drew)); exact Kd.R_mono HO318.out (fun _ hk => ⟨hk.1.1.1.1.1.2, ⟨hk.1.1.1.1.2, ⟨hk.1.1.1.2, ⟨hk.1.1.2, hk.1.2⟩⟩⟩⟩)⟩, ⟨by (with_reducible repeat (first | refine blk_drewN ?_ _ | refine blk_drew ?_ | refine blk_alloc ?_ _)); exact BK279.out⟩, ⟨by (with_reducible repeat (first | refine blk_drewN ?_ _ | refine blk_drew ?_ | refine blk_alloc ?_ _)); exact BK299.out⟩, ⟨by (with_reducible repeat (first | refine blk_drewN ?_ _ | refine blk_drew ?_ | refine blk_alloc ?_ _)); exact BK303.out⟩, ⟨by (with_reducible repeat (first | refine blk_drewN ?_ _ | refine blk_drew ?_ | refine blk_alloc ?_ _)); exact BK309.out⟩, ⟨by (with_reducible repeat (first | refine blk_drewN ?_ _ | refine blk_drew ?_ | refine blk_alloc ?_ _)); exact BK313.out⟩, ⟨by repeat (first | (with_reducible first | exact HB.out | apply below_alloc | apply pw_below_drewN | apply below_drew1 | refine below_set ?_ GE279.out | refine below_set ?_ GE299.out | refine below_set ?_ GE303.out | refine below_set ?_ GE309.out | refine below_set ?_ GE313.out) | exact HB.out)⟩⟩
              case rest => as_aux_lemma =>
                clear HC61
                try clear c1
                try clear c2
                try clear p2
                try clear c3
                try clear c4
                try clear c6
                try clear c7
                try clear c8
                try clear c9
                try clear c10
                try clear c11
                try clear c12
                try clear c13
                try clear c14
                try clear c15
                try clear c15b0
                try clear c15b1
                try clear c15b2
                try clear c16
                try clear c17
                try clear c17b0
                try clear c17b1
                try clear c18
                try clear c19
                try clear c19b0
                try clear c19b1
                try clear c19b2
                try clear c20
                try clear c21
                try clear c22
                try clear c23
                try clear c24
                try clear c25
                try clear c26
                try clear c27
                try clear c28
                try clear c29
                try clear c30
                try clear c31
                try clear c34
                try clear c35
                try clear c35b0
                try clear c36
                try clear c37
                try clear c37b0
                try clear c40
                try clear c45
                try clear c46
                try clear c65
                try clear c69
                try clear c70
                try clear c75
                try clear c76
                try clear c77
                try clear c81
                try clear c82
                try clear c83
                try clear c84
                try clear c90
                try clear c90b0
                try clear c90b1
                try clear c90b2
                try clear c91
                try clear c91b0
                try clear c92
                try clear c93
                try clear c94
                try clear c95
                try clear c97
                try clear c98
                try clear c99
                try clear c101
                try clear c101b0
                try clear c101b1
                try clear c101b2
                try clear c102
                try clear c103
                try clear c104
                try clear c105
                try clear c107
                try clear c108
                try clear c109
                try clear c111
                try clear c111b0
                try clear c112
                try clear c113
                try clear c114
                try clear c115
                try clear c117
                try clear c118
                try clear c119
                try clear c121
                try clear c122
                try clear c124
                try clear c126
                try clear c126b0
                try clear c126b1
                try clear c126b2
                try clear c127
                try clear c128
                try clear c129
                try clear c130
                try clear c132
                try clear c133
                try clear c134
                try clear c136
                try clear c137
                try clear c139
                try clear c142
                try clear c143
                try clear c143b0
                try clear c143b1
                try clear c143b2
                try clear c144
                try clear c145
                try clear c146
                try clear c147
                try clear c149
                try clear c150
                try clear c151
                try clear c153
                try clear c154
                try clear c156
                try clear c160
                try clear c160b0
                try clear c160b1
                try clear c161
                try clear c162
                try clear c163
                try clear c164
                try clear c166
                try clear c167
                try clear c168
                try clear c170
                try clear c171
                try clear c173
                try clear c177
                try clear c178
                try clear c179
                try clear c180
                try clear c182
                try clear c183
                try clear c184
                try clear c186
                try clear c187
                try clear c189
                try clear c193
                try clear c194
                try clear c195
                try clear c196
                try clear c198
                try clear c199
                try clear c200
                try clear c202
                try clear c203
                try clear c205
                try clear hcz100_0
                try clear hcz100_1
                try clear hcz106_0
                try clear hcz106_1
                try clear hcz110_0
                try clear hcz110_1
                try clear hcz116_0
                try clear hcz116_1
                try clear hcz120_0
                try clear hcz120_1
                try clear hcz123_0
                try clear hcz123_1
                try clear hcz125_0
                try clear hcz125_1
                try clear hcz131_0
                try clear hcz131_1
                try clear hcz135_0
                try clear hcz135_1
                try clear hcz138_0
                try clear hcz138_1
                try clear hcz140_0
                try clear hcz140_1
                try clear hcz148_0
                try clear hcz148_1
                try clear hcz152_0
                try clear hcz152_1
                try clear hcz155_0
                try clear hcz155_1
                try clear hcz157_0
                try clear hcz157_1
                try clear hcz165_0
                try clear hcz165_1
                try clear hcz169_0
                try clear hcz169_1
                try clear hcz172_0
                try clear hcz172_1
                try clear hcz174_0
                try clear hcz174_1
                try clear hcz181_0
                try clear hcz181_1
                try clear hcz185_0
                try clear hcz185_1
                try clear hcz188_0
                try clear hcz188_1
                try clear hcz190_0
                try clear hcz190_1
                try clear hcz197_0
                try clear hcz197_1
                try clear hcz201_0
                try clear hcz201_1
                try clear hcz204_0
                try clear hcz204_1
                try clear hcz206_0
                try clear hcz206_1
                try clear hcz41_0
                try clear hcz41_1
                try clear hcz42_0
                try clear hcz42_1
                try clear hcz47_0
                try clear hcz47_1
                try clear hcz48_0
                try clear hcz48_1
                try clear hcz49_0
                try clear hcz49_1
                try clear hcz66_0
                try clear hcz66_1
                try clear hcz71_0
                try clear hcz71_1
                try clear hcz78_0
                try clear hcz78_1
                try clear hcz85_0
                try clear hcz85_1
                try clear hcz96_0
                try clear hcz96_1
                try clear hfz100_0
                try clear hfz100_1
                try clear hfz106_0
                try clear hfz106_1
                try clear hfz110_0
                try clear hfz110_1
                try clear hfz116_0
                try clear hfz116_1
                try clear hfz120_0
                try clear hfz120_1
                try clear hfz123_0
                try clear hfz123_1
                try clear hfz125_0
                try clear hfz125_1
                try clear hfz131_0
                try clear hfz131_1
                try clear hfz135_0
                try clear hfz135_1
                try clear hfz138_0
                try clear hfz138_1
                try clear hfz140_0
                try clear hfz140_1
                try clear hfz148_0
                try clear hfz148_1
                try clear hfz152_0
                try clear hfz152_1
                try clear hfz155_0
                try clear hfz155_1
                try clear hfz157_0
                try clear hfz157_1
                try clear hfz165_0
                try clear hfz165_1
                try clear hfz169_0
                try clear hfz169_1
                try clear hfz172_0
                try clear hfz172_1
                try clear hfz174_0
                try clear hfz174_1
                try clear hfz181_0
                try clear hfz181_1
                try clear hfz185_0
                try clear hfz185_1
                try clear hfz188_0
                try clear hfz188_1
                try clear hfz190_0
                try clear hfz190_1
                try clear hfz197_0
                try clear hfz197_1
                try clear hfz201_0
                try clear hfz201_1
                try clear hfz204_0
                try clear hfz204_1
                try clear hfz206_0
                try clear hfz206_1
                try clear hfz41_0
                try clear hfz41_1
                try clear hfz42_0
                try clear hfz42_1
                try clear hfz47_0
                try clear hfz47_1
                try clear hfz48_0
                try clear hfz48_1
                try clear hfz49_0
                try clear hfz49_1
                try clear hfz66_0
                try clear hfz66_1
                try clear hfz71_0
                try clear hfz71_1
                try clear hfz78_0
                try clear hfz78_1
                try clear hfz85_0
                try clear hfz85_1
                try clear hfz96_0
                try clear hfz96_1
                try clear p2
                obtain ⟨kq, x200_60, rfl, HA, HJ60, HO_26, BK279, BK299, BK303, BK309, BK313, HB⟩ := hcut
                cases kq with
                | zero => exact absurd HA.out (by simp [laws_FnTilesRanked.j2])
                | succ kj60 =>
                  have H := HA.out
                  clear HA
                  simp only [laws_FnTilesRanked.j2] at H
                  by_cases c209 : x200_60 = true
                  · subst c209
                    have H1 : (none) = some r := by rw [if_pos rfl] at H; exact H
                    clear H
                    have H := H1
                    clear H1
                    exact absurd H (by simp)
                  · replace c209 := Bool.eq_false_iff.mpr c209
                    subst c209
                    have H1 : (if t316 = true then ((impl_PipsOf.f kj60 t315).bind fun bt328 => (if (t315.length : Int) = t323 then (if bt328.2 = true then (laws_FnTilesRanked.j3 kj60 t295 t298 t314 t315 (bt328.1 != (wrap64 ((wrap64 (Int.tdiv (wrap64 (t314 * (wrap64 (t314 + 1)))) 2)) * (wrap64 (t314 + 2))))) t296 t297) else (laws_FnTilesRanked.j3 kj60 t295 t298 t314 t315 true t296 t297)) else (laws_FnTilesRanked.j3 kj60 t295 t298 t314 t315 true t296 t297))) else (if t298 = true then ((impl_RankOf.f kj60 t296 t297).bind fun bt335 => (if bt335.2 = true then (some (bt335.1 == t295)) else (none))) else (some true))) = some r := by rw [if_neg (show ¬ (false = true) by decide)] at H; exact H
                    clear H
                    have H := H1
                    clear H1
                    by_cases c210 : t316 = true
                    · subst c210
                      have H1 : ((impl_PipsOf.f kj60 t315).bind fun bt328 => (if (t315.length : Int) = t323 then (if bt328.2 = true then (laws_FnTilesRanked.j3 kj60 t295 t298 t314 t315 (bt328.1 != (wrap64 ((wrap64 (Int.tdiv (wrap64 (t314 * (wrap64 (t314 + 1)))) 2)) * (wrap64 (t314 + 2))))) t296 t297) else (laws_FnTilesRanked.j3 kj60 t295 t298 t314 t315 true t296 t297)) else (laws_FnTilesRanked.j3 kj60 t295 t298 t314 t315 true t296 t297))) = some r := by rw [if_pos rfl] at H; exact H
                      clear H
                      have H := H1
                      clear H1
                      replace H := Option.bind_eq_some_iff.mp H
                      obtain ⟨⟨t328, t329⟩, A2110, H⟩ := H
                      replace H : (if (t315.length : Int) = t323 then (if t329 = true then (laws_FnTilesRanked.j3 kj60 t295 t298 t314 t315 (t328 != (wrap64 ((wrap64 (Int.tdiv (wrap64 (t314 * (wrap64 (t314 + 1)))) 2)) * (wrap64 (t314 + 2))))) t296 t297) else (laws_FnTilesRanked.j3 kj60 t295 t298 t314 t315 true t296 t297)) else (laws_FnTilesRanked.j3 kj60 t295 t298 t314 t315 true t296 t297)) = some r := H
                      have A211 := Aside0.mk A2110
                      clear A2110
                      have HC212 := Aside0.mk H
                      clear H
                      obtain ⟨Ao213, co213, eo213⟩ := Kd.R_slice HO_26.out
                      subst eo213
                      go_upto_region 28 with (first | ((with_reducible refine gate_callee (f := 33) rfl ?_); refine goesL_ (some 204) rfl rfl Try.func33 (by kernel_rfl) rfl #[.slice Ao213 t315.length co213] rfl (by (try simp only [List.map_toArray, List.map_cons, List.map_nil]); first | done | rfl | (simp only [List.length_drop, List.length_take]; rfl)) ?_; (with_reducible refine (impl_PipsOf.calls kj60 _ _ t315 t328 t329 _ ?side1 ?side2 A211.out).mono ?_); (case side1 => repeat (first | exact (Kd.R_reads' HO_26.out).2.2 | (with_reducible refine Kd.C_alloc ?_ _) | (with_reducible refine Kd.C_drewN ?_ _) | (with_reducible refine Kd.C_drew ?_))); (case side2 => exact (Kd.R_reads' HO_26.out).2.1); rintro e w214 ⟨rfl, hb⟩; refine ⟨_, rfl, ?_⟩; replace HO_26 := Aside0.mk (Kd.R_below (by (with_reducible repeat (first | apply Kd.R_alloc | apply Kd.R_drewN | apply Kd.R_drew)); exact HO_26.out) hb); replace BK279 := Aside0.mk (blk_below (g := gb279) (o := .cells #[.int .i64 t277, .int .i64 t278] 25 (0, 0)) (by (with_reducible repeat (first | refine blk_drewN ?_ _ | refine blk_drew ?_ | refine blk_alloc ?_ _)); exact BK279.out) hb); replace BK299 := Aside0.mk (blk_below (g := gb299) (o := .cells #[.int .i64 t296, .int .i64 t297] 25 (0, 0)) (by (with_reducible repeat (first | refine blk_drewN ?_ _ | refine blk_drew ?_ | refine blk_alloc ?_ _)); exact BK299.out) hb); replace BK303 := Aside0.mk (blk_below (g := gb303) (o := .cells #[.int .i64 t300, .int .i64 t301] 25 (0, 0)) (by (with_reducible repeat (first | refine blk_drewN ?_ _ | refine blk_drew ?_ | refine blk_alloc ?_ _)); exact BK303.out) hb); replace BK309 := Aside0.mk (blk_below (g := gb309) (o := .cells #[.int .i64 t306, .int .i64 t307] 25 (0, 0)) (by (with_reducible repeat (first | refine blk_drewN ?_ _ | refine blk_drew ?_ | refine blk_alloc ?_ _)); exact BK309.out) hb); replace BK313 := Aside0.mk (blk_below (g := gb313) (o := .cells #[.int .i64 t310, .int .i64 t311] 25 (0, 0)) (by (with_reducible repeat (first | refine blk_drewN ?_ _ | refine blk_drew ?_ | refine blk_alloc ?_ _)); exact BK313.out) hb); replace HB := Aside0.mk (below_step (by repeat (first | (with_reducible first | exact HB.out | apply below_alloc | apply pw_below_drewN | apply below_drew1 | refine below_set ?_ GE279.out | refine below_set ?_ GE299.out | refine below_set ?_ GE303.out | refine below_set ?_ GE309.out | refine below_set ?_ GE313.out) | exact HB.out)) hb); (try clear hb); (try clear hb2); (try clear hk); (try clear hi)))
                      (try simp only [Act.put, List.setIfInBounds_toArray, List.set_cons_zero, List.set_cons_succ])
                      go_cut [226] (fun v226 wc => ∃ (kq : Nat) (x226_211 : Bool), v226 = .bool x226_211 ∧ Aside0 (laws_FnTilesRanked.j3 kq t295 t298 t314 t315 x226_211 t296 t297 = some r) ∧ Aside0 (kq ≤ kj60) ∧ Aside0 (Kd.R k25 25 wc w.heap.size (fun k_ => k_ ≠ gb279 ∧ k_ ≠ gb299 ∧ k_ ≠ gb303 ∧ k_ ≠ gb309 ∧ k_ ≠ gb313) (.slice Ao213 t315.length co213) t315) ∧ Aside0 (wc.heap[gb279]? = some (.cells #[.int .i64 t277, .int .i64 t278] 25 (0, 0))) ∧ Aside0 (wc.heap[gb299]? = some (.cells #[.int .i64 t296, .int .i64 t297] 25 (0, 0))) ∧ Aside0 (wc.heap[gb303]? = some (.cells #[.int .i64 t300, .int .i64 t301] 25 (0, 0))) ∧ Aside0 (wc.heap[gb309]? = some (.cells #[.int .i64 t306, .int .i64 t307] 25 (0, 0))) ∧ Aside0 (wc.heap[gb313]? = some (.cells #[.int .i64 t310, .int .i64 t311] 25 (0, 0))) ∧ Aside0 (Below w.heap.size w wc))
                      case first => as_aux_lemma =>
                        have H := HC212.out
                        clear HC212
                        by_cases c215 : (t315.length : Int) = t323
                        · rw [if_pos c215] at H
                          have c215b0 : ((t315.length : Int) == t323) = true := beq_iff_eq.mpr c215
                          have c215b1 : ((t315.length : Int) != t323) = false := bne_eq_false_iff_eq.mpr c215
                          clear c215
                          (first | rw [c215b0] | (simp only [i64_w, i32_w]; rw [c215b0]) | skip)
                          by_cases c216 : t329 = true
                          · subst c216
                            have H1 : (laws_FnTilesRanked.j3 kj60 t295 t298 t314 t315 (t328 != (wrap64 ((wrap64 (Int.tdiv (wrap64 (t314 * (wrap64 (t314 + 1)))) 2)) * (wrap64 (t314 + 2))))) t296 t297) = some r := by rw [if_pos rfl] at H; exact H
                            clear H
                            have H := H1
                            clear H1
                            have H' := Aside0.mk H
                            clear H
                            go_wp2
                            go_meet
                            case rel => exact ⟨_, ((t328 != (wrap64 ((wrap64 (Int.tdiv (wrap64 (t314 * (wrap64 (t314 + 1)))) 2)) * (wrap64 (t314 + 2)))))), (by first | rfl | (simp; done) | (simp [*]; done)), H', ⟨by have := HJ7.out; have := HJ29.out; have := HJ60.out; first | omega | exact Nat.le_refl _⟩, ⟨by (with_reducible repeat (first | apply Kd.R_alloc | apply Kd.R_drewN | apply Kd.R_drew)); exact HO_26.out⟩, ⟨by (with_reducible repeat (first | refine blk_drewN ?_ _ | refine blk_drew ?_ | refine blk_alloc ?_ _)); exact BK279.out⟩, ⟨by (with_reducible repeat (first | refine blk_drewN ?_ _ | refine blk_drew ?_ | refine blk_alloc ?_ _)); exact BK299.out⟩, ⟨by (with_reducible repeat (first | refine blk_drewN ?_ _ | refine blk_drew ?_ | refine blk_alloc ?_ _)); exact BK303.out⟩, ⟨by (with_reducible repeat (first | refine blk_drewN ?_ _ | refine blk_drew ?_ | refine blk_alloc ?_ _)); exact BK309.out⟩, ⟨by (with_reducible repeat (first | refine blk_drewN ?_ _ | refine blk_drew ?_ | refine blk_alloc ?_ _)); exact BK313.out⟩, ⟨by repeat (first | (with_reducible first | exact HB.out | apply below_alloc | apply pw_below_drewN | apply below_drew1 | refine below_set ?_ GE279.out | refine below_set ?_ GE299.out | refine below_set ?_ GE303.out | refine below_set ?_ GE309.out | refine below_set ?_ GE313.out) | exact HB.out)⟩⟩
                          · replace c216 := Bool.eq_false_iff.mpr c216
                            subst c216
                            have H1 : (laws_FnTilesRanked.j3 kj60 t295 t298 t314 t315 true t296 t297) = some r := by rw [if_neg (show ¬ (false = true) by decide)] at H; exact H
                            clear H
                            have H := H1
                            clear H1
                            have H' := Aside0.mk H
                            clear H
                            go_wp2
                            go_meet
                            case rel => exact ⟨_, (true), (by first | rfl | (simp; done) | (simp [*]; done)), H', ⟨by have := HJ7.out; have := HJ29.out; have := HJ60.out; first | omega | exact Nat.le_refl _⟩, ⟨by (with_reducible repeat (first | apply Kd.R_alloc | apply Kd.R_drewN | apply Kd.R_drew)); exact HO_26.out⟩, ⟨by (with_reducible repeat (first | refine blk_drewN ?_ _ | refine blk_drew ?_ | refine blk_alloc ?_ _)); exact BK279.out⟩, ⟨by (with_reducible repeat (first | refine blk_drewN ?_ _ | refine blk_drew ?_ | refine blk_alloc ?_ _)); exact BK299.out⟩, ⟨by (with_reducible repeat (first | refine blk_drewN ?_ _ | refine blk_drew ?_ | refine blk_alloc ?_ _)); exact BK303.out⟩, ⟨by (with_reducible repeat (first | refine blk_drewN ?_ _ | refine blk_drew ?_ | refine blk_alloc ?_ _)); exact BK309.out⟩, ⟨by (with_reducible repeat (first | refine blk_drewN ?_ _ | refine blk_drew ?_ | refine blk_alloc ?_ _)); exact BK313.out⟩, ⟨by repeat (first | (with_reducible first | exact HB.out | apply below_alloc | apply pw_below_drewN | apply below_drew1 | refine below_set ?_ GE279.out | refine below_set ?_ GE299.out | refine below_set ?_ GE303.out | refine below_set ?_ GE309.out | refine below_set ?_ GE313.out) | exact HB.out)⟩⟩
                        · rw [if_neg c215] at H
                          have c215b0 : ((t315.length : Int) == t323) = false := beq_eq_false_iff_ne.mpr c215
                          have c215b1 : ((t315.length : Int) != t323) = true := bne_iff_ne.mpr c215
                          (first | rw [c215b0] | (simp only [i64_w, i32_w]; rw [c215b0]) | skip)
                          have H' := Aside0.mk H
                          clear H
                          go_wp2
                          go_meet
                          case rel => exact ⟨_, (true), (by first | rfl | (simp; done) | (simp [*]; done)), H', ⟨by have := HJ7.out; have := HJ29.out; have := HJ60.out; first | omega | exact Nat.le_refl _⟩, ⟨by (with_reducible repeat (first | apply Kd.R_alloc | apply Kd.R_drewN | apply Kd.R_drew)); exact HO_26.out⟩, ⟨by (with_reducible repeat (first | refine blk_drewN ?_ _ | refine blk_drew ?_ | refine blk_alloc ?_ _)); exact BK279.out⟩, ⟨by (with_reducible repeat (first | refine blk_drewN ?_ _ | refine blk_drew ?_ | refine blk_alloc ?_ _)); exact BK299.out⟩, ⟨by (with_reducible repeat (first | refine blk_drewN ?_ _ | refine blk_drew ?_ | refine blk_alloc ?_ _)); exact BK303.out⟩, ⟨by (with_reducible repeat (first | refine blk_drewN ?_ _ | refine blk_drew ?_ | refine blk_alloc ?_ _)); exact BK309.out⟩, ⟨by (with_reducible repeat (first | refine blk_drewN ?_ _ | refine blk_drew ?_ | refine blk_alloc ?_ _)); exact BK313.out⟩, ⟨by repeat (first | (with_reducible first | exact HB.out | apply below_alloc | apply pw_below_drewN | apply below_drew1 | refine below_set ?_ GE279.out | refine below_set ?_ GE299.out | refine below_set ?_ GE303.out | refine below_set ?_ GE309.out | refine below_set ?_ GE313.out) | exact HB.out)⟩⟩
                      case rest => as_aux_lemma =>
                        clear HC212
                        try clear c1
                        try clear c2
                        try clear p2
                        try clear c3
                        try clear c4
                        try clear c6
                        try clear p6
                        try clear c7
                        try clear c8
                        try clear c9
                        try clear c10
                        try clear c11
                        try clear c12
                        try clear c13
                        try clear c14
                        try clear c15
                        try clear c15b0
                        try clear c15b1
                        try clear c15b2
                        try clear c16
                        try clear c17
                        try clear c17b0
                        try clear c17b1
                        try clear c18
                        try clear c19
                        try clear c19b0
                        try clear c19b1
                        try clear c19b2
                        try clear c20
                        try clear c21
                        try clear c22
                        try clear c23
                        try clear c24
                        try clear c25
                        try clear c26
                        try clear c27
                        try clear c28
                        try clear c29
                        try clear c30
                        try clear c31
                        try clear c33
                        try clear c34
                        try clear c35
                        try clear c35b0
                        try clear c36
                        try clear c37
                        try clear c37b0
                        try clear c40
                        try clear c45
                        try clear c46
                        try clear p64
                        try clear c65
                        try clear c69
                        try clear c70
                        try clear c75
                        try clear c76
                        try clear c77
                        try clear c81
                        try clear c82
                        try clear c83
                        try clear c84
                        try clear c90
                        try clear c90b0
                        try clear c90b1
                        try clear c90b2
                        try clear c91
                        try clear c91b0
                        try clear c92
                        try clear c93
                        try clear c94
                        try clear c95
                        try clear c97
                        try clear c98
                        try clear c99
                        try clear c101
                        try clear c101b0
                        try clear c101b1
                        try clear c101b2
                        try clear c102
                        try clear c103
                        try clear c104
                        try clear c105
                        try clear c107
                        try clear c108
                        try clear c109
                        try clear c111
                        try clear c111b0
                        try clear c112
                        try clear c113
                        try clear c114
                        try clear c115
                        try clear c117
                        try clear c118
                        try clear c119
                        try clear c121
                        try clear c122
                        try clear c124
                        try clear c126
                        try clear c126b0
                        try clear c126b1
                        try clear c126b2
                        try clear c127
                        try clear c128
                        try clear c129
                        try clear c130
                        try clear c132
                        try clear c133
                        try clear c134
                        try clear c136
                        try clear c137
                        try clear c139
                        try clear c142
                        try clear c143
                        try clear c143b0
                        try clear c143b1
                        try clear c143b2
                        try clear c144
                        try clear c145
                        try clear c146
                        try clear c147
                        try clear c149
                        try clear c150
                        try clear c151
                        try clear c153
                        try clear c154
                        try clear c156
                        try clear c160
                        try clear c160b0
                        try clear c160b1
                        try clear c161
                        try clear c162
                        try clear c163
                        try clear c164
                        try clear c166
                        try clear c167
                        try clear c168
                        try clear c170
                        try clear c171
                        try clear c173
                        try clear c177
                        try clear c178
                        try clear c179
                        try clear c180
                        try clear c182
                        try clear c183
                        try clear c184
                        try clear c186
                        try clear c187
                        try clear c189
                        try clear c193
                        try clear c194
                        try clear c195
                        try clear c196
                        try clear c198
                        try clear c199
                        try clear c200
                        try clear c202
                        try clear c203
                        try clear c205
                        try clear c209
                        try clear c210
                        try clear c215
                        try clear c215b0
                        try clear c215b1
                        try clear c216
                        try clear hcz100_0
                        try clear hcz100_1
                        try clear hcz106_0
                        try clear hcz106_1
                        try clear hcz110_0
                        try clear hcz110_1
                        try clear hcz116_0
                        try clear hcz116_1
                        try clear hcz120_0
                        try clear hcz120_1
                        try clear hcz123_0
                        try clear hcz123_1
                        try clear hcz125_0
                        try clear hcz125_1
                        try clear hcz131_0
                        try clear hcz131_1
                        try clear hcz135_0
                        try clear hcz135_1
                        try clear hcz138_0
                        try clear hcz138_1
                        try clear hcz140_0
                        try clear hcz140_1
                        try clear hcz148_0
                        try clear hcz148_1
                        try clear hcz152_0
                        try clear hcz152_1
                        try clear hcz155_0
                        try clear hcz155_1
                        try clear hcz157_0
                        try clear hcz157_1
                        try clear hcz165_0
                        try clear hcz165_1
                        try clear hcz169_0
                        try clear hcz169_1
                        try clear hcz172_0
                        try clear hcz172_1
                        try clear hcz174_0
                        try clear hcz174_1
                        try clear hcz181_0
                        try clear hcz181_1
                        try clear hcz185_0
                        try clear hcz185_1
                        try clear hcz188_0
                        try clear hcz188_1
                        try clear hcz190_0
                        try clear hcz190_1
                        try clear hcz197_0
                        try clear hcz197_1
                        try clear hcz201_0
                        try clear hcz201_1
                        try clear hcz204_0
                        try clear hcz204_1
                        try clear hcz206_0
                        try clear hcz206_1
                        try clear hcz41_0
                        try clear hcz41_1
                        try clear hcz42_0
                        try clear hcz42_1
                        try clear hcz47_0
                        try clear hcz47_1
                        try clear hcz48_0
                        try clear hcz48_1
                        try clear hcz49_0
                        try clear hcz49_1
                        try clear hcz66_0
                        try clear hcz66_1
                        try clear hcz71_0
                        try clear hcz71_1
                        try clear hcz78_0
                        try clear hcz78_1
                        try clear hcz85_0
                        try clear hcz85_1
                        try clear hcz96_0
                        try clear hcz96_1
                        try clear hfz100_0
                        try clear hfz100_1
                        try clear hfz106_0
                        try clear hfz106_1
                        try clear hfz110_0
                        try clear hfz110_1
                        try clear hfz116_0
                        try clear hfz116_1
                        try clear hfz120_0
                        try clear hfz120_1
                        try clear hfz123_0
                        try clear hfz123_1
                        try clear hfz125_0
                        try clear hfz125_1
                        try clear hfz131_0
                        try clear hfz131_1
                        try clear hfz135_0
                        try clear hfz135_1
                        try clear hfz138_0
                        try clear hfz138_1
                        try clear hfz140_0
                        try clear hfz140_1
                        try clear hfz148_0
                        try clear hfz148_1
                        try clear hfz152_0
                        try clear hfz152_1
                        try clear hfz155_0
                        try clear hfz155_1
                        try clear hfz157_0
                        try clear hfz157_1
                        try clear hfz165_0
                        try clear hfz165_1
                        try clear hfz169_0
                        try clear hfz169_1
                        try clear hfz172_0
                        try clear hfz172_1
                        try clear hfz174_0
                        try clear hfz174_1
                        try clear hfz181_0
                        try clear hfz181_1
                        try clear hfz185_0
                        try clear hfz185_1
                        try clear hfz188_0
                        try clear hfz188_1
                        try clear hfz190_0
                        try clear hfz190_1
                        try clear hfz197_0
                        try clear hfz197_1
                        try clear hfz201_0
                        try clear hfz201_1
                        try clear hfz204_0
                        try clear hfz204_1
                        try clear hfz206_0
                        try clear hfz206_1
                        try clear hfz41_0
                        try clear hfz41_1
                        try clear hfz42_0
                        try clear hfz42_1
                        try clear hfz47_0
                        try clear hfz47_1
                        try clear hfz48_0
                        try clear hfz48_1
                        try clear hfz49_0
                        try clear hfz49_1
                        try clear hfz66_0
                        try clear hfz66_1
                        try clear hfz71_0
                        try clear hfz71_1
                        try clear hfz78_0
                        try clear hfz78_1
                        try clear hfz85_0
                        try clear hfz85_1
                        try clear hfz96_0
                        try clear hfz96_1
                        try clear p2
                        obtain ⟨kq, x226_211, rfl, HA, HJ211, HO_26, BK279, BK299, BK303, BK309, BK313, HB⟩ := hcut
                        cases kq with
                        | zero => exact absurd HA.out (by simp [laws_FnTilesRanked.j3])
                        | succ kj211 =>
                          have H := HA.out
                          clear HA
                          simp only [laws_FnTilesRanked.j3] at H
                          by_cases c217 : x226_211 = true
                          · subst c217
                            have H1 : (none) = some r := by rw [if_pos rfl] at H; exact H
                            clear H
                            have H := H1
                            clear H1
                            exact absurd H (by simp)
                          · replace c217 := Bool.eq_false_iff.mpr c217
                            subst c217
                            have H1 : (laws_FnTilesRanked.l0 kj211 t295 t298 t314 t315 (t315.length : Int) 0 t296 t297) = some r := by rw [if_neg (show ¬ (false = true) by decide)] at H; exact H
                            clear H
                            have H := H1
                            clear H1
                            have H' := Aside0.mk H
                            clear H
                            go_wp2
                            go_loopg [229] kj211 (fun kq v229 w' => ∃ (x229_5 : Int), v229 = .int .i64 x229_5 ∧ Aside0 (laws_FnTilesRanked.l0 kq t295 t298 t314 t315 (t315.length : Int) x229_5 t296 t297 = some r) ∧ Aside0 (kq ≤ kj211) ∧ Aside0 (Kd.R k25 25 w' w.heap.size (fun k_ => k_ ≠ gb279 ∧ k_ ≠ gb299 ∧ k_ ≠ gb303 ∧ k_ ≠ gb309 ∧ k_ ≠ gb313) (.slice Ao213 t315.length co213) t315) ∧ Aside0 (w'.heap[gb279]? = some (.cells #[.int .i64 t277, .int .i64 t278] 25 (0, 0))) ∧ Aside0 (w'.heap[gb299]? = some (.cells #[.int .i64 t296, .int .i64 t297] 25 (0, 0))) ∧ Aside0 (w'.heap[gb303]? = some (.cells #[.int .i64 t300, .int .i64 t301] 25 (0, 0))) ∧ Aside0 (w'.heap[gb309]? = some (.cells #[.int .i64 t306, .int .i64 t307] 25 (0, 0))) ∧ Aside0 (w'.heap[gb313]? = some (.cells #[.int .i64 t310, .int .i64 t311] 25 (0, 0))) ∧ Aside0 (Below w.heap.size w w'))
                            case atStart => exact ⟨(0), (by first | rfl | (simp; done) | (simp [*]; done)), H', ⟨Nat.le_refl _⟩, ⟨by (with_reducible repeat (first | apply Kd.R_alloc | apply Kd.R_drewN | apply Kd.R_drew)); exact HO_26.out⟩, ⟨by (with_reducible repeat (first | refine blk_drewN ?_ _ | refine blk_drew ?_ | refine blk_alloc ?_ _)); exact BK279.out⟩, ⟨by (with_reducible repeat (first | refine blk_drewN ?_ _ | refine blk_drew ?_ | refine blk_alloc ?_ _)); exact BK299.out⟩, ⟨by (with_reducible repeat (first | refine blk_drewN ?_ _ | refine blk_drew ?_ | refine blk_alloc ?_ _)); exact BK303.out⟩, ⟨by (with_reducible repeat (first | refine blk_drewN ?_ _ | refine blk_drew ?_ | refine blk_alloc ?_ _)); exact BK309.out⟩, ⟨by (with_reducible repeat (first | refine blk_drewN ?_ _ | refine blk_drew ?_ | refine blk_alloc ?_ _)); exact BK313.out⟩, ⟨by repeat (first | (with_reducible first | exact HB.out | apply below_alloc | apply pw_below_drewN | apply below_drew1 | refine below_set ?_ GE279.out | refine below_set ?_ GE299.out | refine below_set ?_ GE303.out | refine below_set ?_ GE309.out | refine below_set ?_ GE313.out) | exact HB.out)⟩⟩
                            case round => as_aux_lemma =>
                              clear H'
                              try clear c1
                              try clear c2
                              try clear p2
                              try clear c3
                              try clear c4
                              try clear c6
                              try clear p6
                              try clear c7
                              try clear c8
                              try clear c9
                              try clear c10
                              try clear c11
                              try clear c12
                              try clear c13
                              try clear c14
                              try clear c15
                              try clear c15b0
                              try clear c15b1
                              try clear c15b2
                              try clear c16
                              try clear c17
                              try clear c17b0
                              try clear c17b1
                              try clear c18
                              try clear c19
                              try clear c19b0
                              try clear c19b1
                              try clear c19b2
                              try clear c20
                              try clear c21
                              try clear c22
                              try clear c23
                              try clear c24
                              try clear c25
                              try clear c26
                              try clear c27
                              try clear c28
                              try clear c29
                              try clear c30
                              try clear c31
                              try clear c33
                              try clear c34
                              try clear c35
                              try clear c35b0
                              try clear c36
                              try clear c37
                              try clear c37b0
                              try clear c40
                              try clear c45
                              try clear c46
                              try clear p64
                              try clear c65
                              try clear c69
                              try clear c70
                              try clear c75
                              try clear c76
                              try clear c77
                              try clear c81
                              try clear c82
                              try clear c83
                              try clear c84
                              try clear c90
                              try clear c90b0
                              try clear c90b1
                              try clear c90b2
                              try clear c91
                              try clear c91b0
                              try clear c92
                              try clear c93
                              try clear c94
                              try clear c95
                              try clear c97
                              try clear c98
                              try clear c99
                              try clear c101
                              try clear c101b0
                              try clear c101b1
                              try clear c101b2
                              try clear c102
                              try clear c103
                              try clear c104
                              try clear c105
                              try clear c107
                              try clear c108
                              try clear c109
                              try clear c111
                              try clear c111b0
                              try clear c112
                              try clear c113
                              try clear c114
                              try clear c115
                              try clear c117
                              try clear c118
                              try clear c119
                              try clear c121
                              try clear c122
                              try clear c124
                              try clear c126
                              try clear c126b0
                              try clear c126b1
                              try clear c126b2
                              try clear c127
                              try clear c128
                              try clear c129
                              try clear c130
                              try clear c132
                              try clear c133
                              try clear c134
                              try clear c136
                              try clear c137
                              try clear c139
                              try clear c142
                              try clear c143
                              try clear c143b0
                              try clear c143b1
                              try clear c143b2
                              try clear c144
                              try clear c145
                              try clear c146
                              try clear c147
                              try clear c149
                              try clear c150
                              try clear c151
                              try clear c153
                              try clear c154
                              try clear c156
                              try clear c160
                              try clear c160b0
                              try clear c160b1
                              try clear c161
                              try clear c162
                              try clear c163
                              try clear c164
                              try clear c166
                              try clear c167
                              try clear c168
                              try clear c170
                              try clear c171
                              try clear c173
                              try clear c177
                              try clear c178
                              try clear c179
                              try clear c180
                              try clear c182
                              try clear c183
                              try clear c184
                              try clear c186
                              try clear c187
                              try clear c189
                              try clear c193
                              try clear c194
                              try clear c195
                              try clear c196
                              try clear c198
                              try clear c199
                              try clear c200
                              try clear c202
                              try clear c203
                              try clear c205
                              try clear c209
                              try clear c210
                              try clear c215
                              try clear c215b0
                              try clear c215b1
                              try clear c216
                              try clear c217
                              try clear hcz100_0
                              try clear hcz100_1
                              try clear hcz106_0
                              try clear hcz106_1
                              try clear hcz110_0
                              try clear hcz110_1
                              try clear hcz116_0
                              try clear hcz116_1
                              try clear hcz120_0
                              try clear hcz120_1
                              try clear hcz123_0
                              try clear hcz123_1
                              try clear hcz125_0
                              try clear hcz125_1
                              try clear hcz131_0
                              try clear hcz131_1
                              try clear hcz135_0
                              try clear hcz135_1
                              try clear hcz138_0
                              try clear hcz138_1
                              try clear hcz140_0
                              try clear hcz140_1
                              try clear hcz148_0
                              try clear hcz148_1
                              try clear hcz152_0
                              try clear hcz152_1
                              try clear hcz155_0
                              try clear hcz155_1
                              try clear hcz157_0
                              try clear hcz157_1
                              try clear hcz165_0
                              try clear hcz165_1
                              try clear hcz169_0
                              try clear hcz169_1
                              try clear hcz172_0
                              try clear hcz172_1
                              try clear hcz174_0
                              try clear hcz174_1
                              try clear hcz181_0
                              try clear hcz181_1
                              try clear hcz185_0
                              try clear hcz185_1
                              try clear hcz188_0
                              try clear hcz188_1
                              try clear hcz190_0
                              try clear hcz190_1
                              try clear hcz197_0
                              try clear hcz197_1
                              try clear hcz201_0
                              try clear hcz201_1
                              try clear hcz204_0
                              try clear hcz204_1
                              try clear hcz206_0
                              try clear hcz206_1
                              try clear hcz41_0
                              try clear hcz41_1
                              try clear hcz42_0
                              try clear hcz42_1
                              try clear hcz47_0
                              try clear hcz47_1
                              try clear hcz48_0
                              try clear hcz48_1
                              try clear hcz49_0
                              try clear hcz49_1
                              try clear hcz66_0
                              try clear hcz66_1
                              try clear hcz71_0
                              try clear hcz71_1
                              try clear hcz78_0
                              try clear hcz78_1
                              try clear hcz85_0
                              try clear hcz85_1
                              try clear hcz96_0
                              try clear hcz96_1
                              try clear hfz100_0
                              try clear hfz100_1
                              try clear hfz106_0
                              try clear hfz106_1
                              try clear hfz110_0
                              try clear hfz110_1
                              try clear hfz116_0
                              try clear hfz116_1
                              try clear hfz120_0
                              try clear hfz120_1
                              try clear hfz123_0
                              try clear hfz123_1
                              try clear hfz125_0
                              try clear hfz125_1
                              try clear hfz131_0
                              try clear hfz131_1
                              try clear hfz135_0
                              try clear hfz135_1
                              try clear hfz138_0
                              try clear hfz138_1
                              try clear hfz140_0
                              try clear hfz140_1
                              try clear hfz148_0
                              try clear hfz148_1
                              try clear hfz152_0
                              try clear hfz152_1
                              try clear hfz155_0
                              try clear hfz155_1
                              try clear hfz157_0
                              try clear hfz157_1
                              try clear hfz165_0
                              try clear hfz165_1
                              try clear hfz169_0
                              try clear hfz169_1
                              try clear hfz172_0
                              try clear hfz172_1
                              try clear hfz174_0
                              try clear hfz174_1
                              try clear hfz181_0
                              try clear hfz181_1
                              try clear hfz185_0
                              try clear hfz185_1
                              try clear hfz188_0
                              try clear hfz188_1
                              try clear hfz190_0
                              try clear hfz190_1
                              try clear hfz197_0
                              try clear hfz197_1
                              try clear hfz201_0
                              try clear hfz201_1
                              try clear hfz204_0
                              try clear hfz204_1
                              try clear hfz206_0
                              try clear hfz206_1
                              try clear hfz41_0
                              try clear hfz41_1
                              try clear hfz42_0
                              try clear hfz42_1
                              try clear hfz47_0
                              try clear hfz47_1
                              try clear hfz48_0
                              try clear hfz48_1
                              try clear hfz49_0
                              try clear hfz49_1
                              try clear hfz66_0
                              try clear hfz66_1
                              try clear hfz71_0
                              try clear hfz71_1
                              try clear hfz78_0
                              try clear hfz78_1
                              try clear hfz85_0
                              try clear hfz85_1
                              try clear hfz96_0
                              try clear hfz96_1
                              try clear p2
                              try clear p6
                              try clear p64
                              obtain ⟨x229_5, rfl, HA, HK5, HO_227, BK279, BK299, BK303, BK309, BK313, HB⟩ := hrel
                              cases gk with
                              | zero => exact absurd HA.out (by simp [laws_FnTilesRanked.l0])
                              | succ k5 =>
                                have H := HA.out
                                clear HA
                                simp only [laws_FnTilesRanked.l0] at H
                                by_cases c218 : x229_5 < (t315.length : Int)
                                · rw [if_pos c218] at H
                                  have c218b0 : decide (x229_5 < (t315.length : Int)) = true := decide_eq_true c218
                                  clear c218
                                  by_cases c219 : 0 ≤ x229_5
                                  · rw [if_pos c219] at H
                                    have c219b0 : decide (0 ≤ x229_5) = true := decide_eq_true c219
                                    clear c219
                                    by_cases c220 : x229_5 < (t315.length : Int)
                                    · rw [if_pos c220] at H
                                      have c220b0 : decide (x229_5 < (t315.length : Int)) = true := decide_eq_true c220
                                      clear c220
                                      by_cases c221 : ((rd_T25 t315 x229_5).f1) > t314
                                      · rw [if_pos c221] at H
                                        exact absurd H (by simp)
                                      · rw [if_neg c221] at H
                                        have c221b0 : decide (t314 < ((rd_T25 t315 x229_5).f1)) = false := decide_eq_false c221
                                        clear c221
                                        replace H := Option.bind_eq_some_iff.mp H
                                        obtain ⟨t332, A2220, H⟩ := H
                                        replace H : (if t332 = true then (laws_FnTilesRanked.l0 k5 t295 t298 t314 t315 (t315.length : Int) (wrap64 (x229_5 + 1)) t296 t297) else (none)) = some r := H
                                        have A222 := Aside0.mk A2220
                                        clear A2220
                                        by_cases c223 : t332 = true
                                        · subst c223
                                          have H1 : (laws_FnTilesRanked.l0 k5 t295 t298 t314 t315 (t315.length : Int) (wrap64 (x229_5 + 1)) t296 t297) = some r := by rw [if_pos rfl] at H; exact H
                                          clear H
                                          have H := H1
                                          clear H1
                                          have H' := Aside0.mk H
                                          clear H
                                          have p330 : 0 ≤ (x229_5 : Int) := of_decide_eq_true (by first | (with_reducible assumption) | assumption)
                                          have q330 : x229_5 < (t315.length : Int) := of_decide_eq_true (by first | (with_reducible assumption) | assumption)
                                          obtain ⟨ad330, e330, hx330_0, hx330_1⟩ := at_T25 (Kd.R_reads' HO_227.out).2.2 x229_5 p330 q330
                                          cases e330
                                          replace p330 := eq_true p330
                                          replace q330 := eq_true q330
                                          go_wp2_with (first | ((with_reducible refine gate_dst (N := 37) rfl ?_); refine box_event ?hg (N := 37) ?hd (cs := #[.int .i64 0, .int .i64 0]) (t := 25) ?hr ?_; (case hd => rfl); (case hg => rfl); (case hr => first | (go_simp; done) | (go_simp; rfl)); intro gb331 hg w224 hbox hb; replace HO_227 := Aside0.mk (Kd.R_below (Kd.R_elderB (by (with_reducible repeat (first | apply Kd.R_alloc | apply Kd.R_drewN | apply Kd.R_drew)); exact HO_227.out) gb331 (Nat.le_of_eq hg.symm)) hb); have BK331 := Aside0.mk (hbox); have GW331 := Aside0.mk ((by rw [hg]; exact (below_size (by repeat (first | (with_reducible first | exact HB.out | apply below_alloc | apply pw_below_drewN | apply below_drew1 | refine below_set ?_ GE279.out | refine below_set ?_ GE299.out | refine below_set ?_ GE303.out | refine below_set ?_ GE309.out | refine below_set ?_ GE313.out) | exact HB.out))) : w.heap.size ≤ gb331)); have GE331 := Aside0.mk ((by rw [hg]; exact (below_size (by repeat (first | (with_reducible first | exact HB.out | apply below_alloc | apply pw_below_drewN | apply below_drew1 | refine below_set ?_ GE279.out | refine below_set ?_ GE299.out | refine below_set ?_ GE303.out | refine below_set ?_ GE309.out | refine below_set ?_ GE313.out) | exact HB.out))) : w.heap.size ≤ gb331)); replace HB := Aside0.mk (below_step (by repeat (first | (with_reducible first | exact HB.out | apply below_alloc | apply pw_below_drewN | apply below_drew1 | refine below_set ?_ GE279.out | refine below_set ?_ GE299.out | refine below_set ?_ GE303.out | refine below_set ?_ GE309.out | refine below_set ?_ GE313.out) | exact HB.out)) hb); have NB279_331 := Aside0.mk ((by rw [hg]; exact Nat.ne_of_lt (blk_lt (g := gb279) (o := .cells #[.int .i64 t277, .int .i64 t278] 25 (0, 0)) (by (with_reducible repeat (first | refine blk_drewN ?_ _ | refine blk_drew ?_ | refine blk_alloc ?_ _)); exact BK279.out)) : gb279 ≠ gb331)); have NB331_279 := Aside0.mk ((by rw [hg]; exact Nat.ne_of_gt (blk_lt (g := gb279) (o := .cells #[.int .i64 t277, .int .i64 t278] 25 (0, 0)) (by (with_reducible repeat (first | refine blk_drewN ?_ _ | refine blk_drew ?_ | refine blk_alloc ?_ _)); exact BK279.out)) : gb331 ≠ gb279)); replace BK279 := Aside0.mk (blk_below (g := gb279) (o := .cells #[.int .i64 t277, .int .i64 t278] 25 (0, 0)) (by (with_reducible repeat (first | refine blk_drewN ?_ _ | refine blk_drew ?_ | refine blk_alloc ?_ _)); exact BK279.out) hb); have NB299_331 := Aside0.mk ((by rw [hg]; exact Nat.ne_of_lt (blk_lt (g := gb299) (o := .cells #[.int .i64 t296, .int .i64 t297] 25 (0, 0)) (by (with_reducible repeat (first | refine blk_drewN ?_ _ | refine blk_drew ?_ | refine blk_alloc ?_ _)); exact BK299.out)) : gb299 ≠ gb331)); have NB331_299 := Aside0.mk ((by rw [hg]; exact Nat.ne_of_gt (blk_lt (g := gb299) (o := .cells #[.int .i64 t296, .int .i64 t297] 25 (0, 0)) (by (with_reducible repeat (first | refine blk_drewN ?_ _ | refine blk_drew ?_ | refine blk_alloc ?_ _)); exact BK299.out)) : gb331 ≠ gb299)); replace BK299 := Aside0.mk (blk_below (g := gb299) (o := .cells #[.int .i64 t296, .int .i64 t297] 25 (0, 0)) (by (with_reducible repeat (first | refine blk_drewN ?_ _ | refine blk_drew ?_ | refine blk_alloc ?_ _)); exact BK299.out) hb); have NB303_331 := Aside0.mk ((by rw [hg]; exact Nat.ne_of_lt (blk_lt (g := gb303) (o := .cells #[.int .i64 t300, .int .i64 t301] 25 (0, 0)) (by (with_reducible repeat (first | refine blk_drewN ?_ _ | refine blk_drew ?_ | refine blk_alloc ?_ _)); exact BK303.out)) : gb303 ≠ gb331)); have NB331_303 := Aside0.mk ((by rw [hg]; exact Nat.ne_of_gt (blk_lt (g := gb303) (o := .cells #[.int .i64 t300, .int .i64 t301] 25 (0, 0)) (by (with_reducible repeat (first | refine blk_drewN ?_ _ | refine blk_drew ?_ | refine blk_alloc ?_ _)); exact BK303.out)) : gb331 ≠ gb303)); replace BK303 := Aside0.mk (blk_below (g := gb303) (o := .cells #[.int .i64 t300, .int .i64 t301] 25 (0, 0)) (by (with_reducible repeat (first | refine blk_drewN ?_ _ | refine blk_drew ?_ | refine blk_alloc ?_ _)); exact BK303.out) hb); have NB309_331 := Aside0.mk ((by rw [hg]; exact Nat.ne_of_lt (blk_lt (g := gb309) (o := .cells #[.int .i64 t306, .int .i64 t307] 25 (0, 0)) (by (with_reducible repeat (first | refine blk_drewN ?_ _ | refine blk_drew ?_ | refine blk_alloc ?_ _)); exact BK309.out)) : gb309 ≠ gb331)); have NB331_309 := Aside0.mk ((by rw [hg]; exact Nat.ne_of_gt (blk_lt (g := gb309) (o := .cells #[.int .i64 t306, .int .i64 t307] 25 (0, 0)) (by (with_reducible repeat (first | refine blk_drewN ?_ _ | refine blk_drew ?_ | refine blk_alloc ?_ _)); exact BK309.out)) : gb331 ≠ gb309)); replace BK309 := Aside0.mk (blk_below (g := gb309) (o := .cells #[.int .i64 t306, .int .i64 t307] 25 (0, 0)) (by (with_reducible repeat (first | refine blk_drewN ?_ _ | refine blk_drew ?_ | refine blk_alloc ?_ _)); exact BK309.out) hb); have NB313_331 := Aside0.mk ((by rw [hg]; exact Nat.ne_of_lt (blk_lt (g := gb313) (o := .cells #[.int .i64 t310, .int .i64 t311] 25 (0, 0)) (by (with_reducible repeat (first | refine blk_drewN ?_ _ | refine blk_drew ?_ | refine blk_alloc ?_ _)); exact BK313.out)) : gb313 ≠ gb331)); have NB331_313 := Aside0.mk ((by rw [hg]; exact Nat.ne_of_gt (blk_lt (g := gb313) (o := .cells #[.int .i64 t310, .int .i64 t311] 25 (0, 0)) (by (with_reducible repeat (first | refine blk_drewN ?_ _ | refine blk_drew ?_ | refine blk_alloc ?_ _)); exact BK313.out)) : gb331 ≠ gb313)); replace BK313 := Aside0.mk (blk_below (g := gb313) (o := .cells #[.int .i64 t310, .int .i64 t311] 25 (0, 0)) (by (with_reducible repeat (first | refine blk_drewN ?_ _ | refine blk_drew ?_ | refine blk_alloc ?_ _)); exact BK313.out) hb); clear hb hbox hg; have hnb225 := NB331_279.out; have hnc225 := NB279_331.out; have hnb226 := NB331_299.out; have hnc226 := NB299_331.out; have hnb227 := NB331_303.out; have hnc227 := NB303_331.out; have hnb228 := NB331_309.out; have hnc228 := NB309_331.out; have hnb229 := NB331_313.out; have hnc229 := NB313_331.out; have hcz230_0 : w224.cell? ⟨gb331, 0, none⟩ = some (.int .i64 0) := (blk_cell BK331.out 0).trans rfl; have hcz230_1 : w224.cell? ⟨gb331, 1, none⟩ = some (.int .i64 0) := (blk_cell BK331.out 1).trans rfl; have hfz230_0 := blk_frozen BK331.out 0; have hfz230_1 := blk_frozen BK331.out 1) | (go_at_call 19; (with_reducible refine (impl_IsTile.calls ((rd_T25 t315 x229_5).f0) ((rd_T25 t315 x229_5).f1) true _ A222.out).mono ?_); rintro e w231 ⟨rfl, hb⟩; replace HO_227 := Aside0.mk (Kd.R_below (by (with_reducible repeat (first | apply Kd.R_alloc | apply Kd.R_drewN | apply Kd.R_drew)); exact (Kd.R_mono (Kd.R_far (p := ⟨gb331, 1, none⟩) (Kd.R_far (p := ⟨gb331, 0, none⟩) (Kd.R_mono HO_227.out (fun k_ hk => (⟨hk, hk.2⟩ : _ ∧ k_ ≠ gb331))) (fun _ hk => hk.2) (.int .i64 ((rd_T25 t315 x229_5).f0))) (fun _ hk => hk.2) (.int .i64 ((rd_T25 t315 x229_5).f1))) (fun _ h_ => h_.1))) hb); replace BK279 := Aside0.mk (blk_below (g := gb279) (o := .cells #[.int .i64 t277, .int .i64 t278] 25 (0, 0)) (by (with_reducible repeat (first | refine blk_drewN ?_ _ | refine blk_drew ?_ | refine blk_alloc ?_ _)); refine blk_far ?_ NB279_331.out _; (with_reducible repeat (first | refine blk_drewN ?_ _ | refine blk_drew ?_ | refine blk_alloc ?_ _)); refine blk_far ?_ NB279_331.out _; (with_reducible repeat (first | refine blk_drewN ?_ _ | refine blk_drew ?_ | refine blk_alloc ?_ _)); exact BK279.out) hb); replace BK299 := Aside0.mk (blk_below (g := gb299) (o := .cells #[.int .i64 t296, .int .i64 t297] 25 (0, 0)) (by (with_reducible repeat (first | refine blk_drewN ?_ _ | refine blk_drew ?_ | refine blk_alloc ?_ _)); refine blk_far ?_ NB299_331.out _; (with_reducible repeat (first | refine blk_drewN ?_ _ | refine blk_drew ?_ | refine blk_alloc ?_ _)); refine blk_far ?_ NB299_331.out _; (with_reducible repeat (first | refine blk_drewN ?_ _ | refine blk_drew ?_ | refine blk_alloc ?_ _)); exact BK299.out) hb); replace BK303 := Aside0.mk (blk_below (g := gb303) (o := .cells #[.int .i64 t300, .int .i64 t301] 25 (0, 0)) (by (with_reducible repeat (first | refine blk_drewN ?_ _ | refine blk_drew ?_ | refine blk_alloc ?_ _)); refine blk_far ?_ NB303_331.out _; (with_reducible repeat (first | refine blk_drewN ?_ _ | refine blk_drew ?_ | refine blk_alloc ?_ _)); refine blk_far ?_ NB303_331.out _; (with_reducible repeat (first | refine blk_drewN ?_ _ | refine blk_drew ?_ | refine blk_alloc ?_ _)); exact BK303.out) hb); replace BK309 := Aside0.mk (blk_below (g := gb309) (o := .cells #[.int .i64 t306, .int .i64 t307] 25 (0, 0)) (by (with_reducible repeat (first | refine blk_drewN ?_ _ | refine blk_drew ?_ | refine blk_alloc ?_ _)); refine blk_far ?_ NB309_331.out _; (with_reducible repeat (first | refine blk_drewN ?_ _ | refine blk_drew ?_ | refine blk_alloc ?_ _)); refine blk_far ?_ NB309_331.out _; (with_reducible repeat (first | refine blk_drewN ?_ _ | refine blk_drew ?_ | refine blk_alloc ?_ _)); exact BK309.out) hb); replace BK313 := Aside0.mk (blk_below (g := gb313) (o := .cells #[.int .i64 t310, .int .i64 t311] 25 (0, 0)) (by (with_reducible repeat (first | refine blk_drewN ?_ _ | refine blk_drew ?_ | refine blk_alloc ?_ _)); refine blk_far ?_ NB313_331.out _; (with_reducible repeat (first | refine blk_drewN ?_ _ | refine blk_drew ?_ | refine blk_alloc ?_ _)); refine blk_far ?_ NB313_331.out _; (with_reducible repeat (first | refine blk_drewN ?_ _ | refine blk_drew ?_ | refine blk_alloc ?_ _)); exact BK313.out) hb); replace BK331 := Aside0.mk (blk_below (g := gb331) (o := .cells #[.int .i64 ((rd_T25 t315 x229_5).f0), .int .i64 ((rd_T25 t315 x229_5).f1)] 25 (0, 0)) (by (with_reducible repeat (first | refine blk_drewN ?_ _ | refine blk_drew ?_ | refine blk_alloc ?_ _)); refine blk_put (cs := #[.int .i64 ((rd_T25 t315 x229_5).f0), .int .i64 0]) ?_ 1 _ rfl; (with_reducible repeat (first | refine blk_drewN ?_ _ | refine blk_drew ?_ | refine blk_alloc ?_ _)); refine blk_put (cs := #[.int .i64 0, .int .i64 0]) ?_ 0 _ rfl; (with_reducible repeat (first | refine blk_drewN ?_ _ | refine blk_drew ?_ | refine blk_alloc ?_ _)); exact BK331.out) hb); replace HB := Aside0.mk (below_step (by repeat (first | (with_reducible first | exact HB.out | apply below_alloc | apply pw_below_drewN | apply below_drew1 | refine below_set ?_ GE279.out | refine below_set ?_ GE299.out | refine below_set ?_ GE303.out | refine below_set ?_ GE309.out | refine below_set ?_ GE313.out | refine below_set ?_ GE331.out) | exact HB.out)) hb); (try clear hb); (try clear hb2); (try clear hk); (try clear hi)))
                                          go_roundg k5
                                          case measure => have := HJ7.out; have := HJ29.out; have := HJ60.out; have := HJ211.out; have := HK5.out; omega
                                          case rel => exact ⟨(wrap64 (x229_5 + 1)), (by first | rfl | (simp; done) | (simp [*]; done)), H', ⟨by have := HJ7.out; have := HJ29.out; have := HJ60.out; have := HJ211.out; have := HK5.out; omega⟩, ⟨by (with_reducible repeat (first | apply Kd.R_alloc | apply Kd.R_drewN | apply Kd.R_drew)); exact Kd.R_mono HO_227.out (fun _ hk => ⟨hk.1.1, ⟨hk.1.2.1, ⟨hk.1.2.2.1, ⟨hk.1.2.2.2.1, hk.1.2.2.2.2⟩⟩⟩⟩)⟩, ⟨by (with_reducible repeat (first | refine blk_drewN ?_ _ | refine blk_drew ?_ | refine blk_alloc ?_ _)); exact BK279.out⟩, ⟨by (with_reducible repeat (first | refine blk_drewN ?_ _ | refine blk_drew ?_ | refine blk_alloc ?_ _)); exact BK299.out⟩, ⟨by (with_reducible repeat (first | refine blk_drewN ?_ _ | refine blk_drew ?_ | refine blk_alloc ?_ _)); exact BK303.out⟩, ⟨by (with_reducible repeat (first | refine blk_drewN ?_ _ | refine blk_drew ?_ | refine blk_alloc ?_ _)); exact BK309.out⟩, ⟨by (with_reducible repeat (first | refine blk_drewN ?_ _ | refine blk_drew ?_ | refine blk_alloc ?_ _)); exact BK313.out⟩, ⟨by repeat (first | (with_reducible first | exact HB.out | apply below_alloc | apply pw_below_drewN | apply below_drew1 | refine below_set ?_ GE279.out | refine below_set ?_ GE299.out | refine below_set ?_ GE303.out | refine below_set ?_ GE309.out | refine below_set ?_ GE313.out | refine below_set ?_ GE331.out) | exact HB.out)⟩⟩
                                        · replace c223 := Bool.eq_false_iff.mpr c223
                                          subst c223
                                          have H1 : (none) = some r := by rw [if_neg (show ¬ (false = true) by decide)] at H; exact H
                                          clear H
                                          have H := H1
                                          clear H1
                                          exact absurd H (by simp)
                                    · rw [if_neg c220] at H
                                      exact absurd H (by simp)
                                  · rw [if_neg c219] at H
                                    exact absurd H (by simp)
                                · rw [if_neg c218] at H
                                  have c218b0 : decide (x229_5 < (t315.length : Int)) = false := decide_eq_false c218
                                  clear c218
                                  by_cases c232 : t298 = true
                                  · subst c232
                                    have H1 : ((impl_RankOf.f k5 t296 t297).bind fun bt333 => (if bt333.2 = true then (some (bt333.1 == t295)) else (none))) = some r := by rw [if_pos rfl] at H; exact H
                                    clear H
                                    have H := H1
                                    clear H1
                                    replace H := Option.bind_eq_some_iff.mp H
                                    obtain ⟨⟨t333, t334⟩, A2330, H⟩ := H
                                    replace H : (if t334 = true then (some (t333 == t295)) else (none)) = some r := H
                                    have A233 := Aside0.mk A2330
                                    clear A2330
                                    by_cases c234 : t334 = true
                                    · subst c234
                                      have H1 : (some (t333 == t295)) = some r := by rw [if_pos rfl] at H; exact H
                                      clear H
                                      have H := H1
                                      clear H1
                                      obtain rfl := Option.some.inj H
                                      have hnb235 := NB299_279.out
                                      have hnc235 := NB279_299.out
                                      have hnb236 := NB299_303.out
                                      have hnc236 := NB303_299.out
                                      have hnb237 := NB299_309.out
                                      have hnc237 := NB309_299.out
                                      have hnb238 := NB299_313.out
                                      have hnc238 := NB313_299.out
                                      have hcz239_0 : wr.cell? ⟨gb299, 0, none⟩ = some (.int .i64 t296) := (blk_cell BK299.out 0).trans rfl
                                      have hcz239_1 : wr.cell? ⟨gb299, 1, none⟩ = some (.int .i64 t297) := (blk_cell BK299.out 1).trans rfl
                                      have hfz239_0 := blk_frozen BK299.out 0
                                      have hfz239_1 := blk_frozen BK299.out 1
                                      go_wp2_with (first | ((with_reducible refine gate_callee (f := 17) rfl ?_); refine goesL_ (some 246) rfl rfl Try.func17 (by kernel_rfl) rfl #[.agg #[.int .i64 t296, .int .i64 t297]] rfl (by (try simp only [List.map_toArray, List.map_cons, List.map_nil]); first | done | rfl | (simp only [List.length_drop, List.length_take]; rfl)) ?_; (with_reducible refine (impl_RankOf.calls k5 t296 t297 t333 true _ A233.out).mono ?_); rintro e w240 ⟨rfl, hb⟩; refine ⟨_, rfl, ?_⟩; replace HO_227 := Aside0.mk (Kd.R_below (by (with_reducible repeat (first | apply Kd.R_alloc | apply Kd.R_drewN | apply Kd.R_drew)); exact HO_227.out) hb); replace BK279 := Aside0.mk (blk_below (g := gb279) (o := .cells #[.int .i64 t277, .int .i64 t278] 25 (0, 0)) (by (with_reducible repeat (first | refine blk_drewN ?_ _ | refine blk_drew ?_ | refine blk_alloc ?_ _)); exact BK279.out) hb); replace BK299 := Aside0.mk (blk_below (g := gb299) (o := .cells #[.int .i64 t296, .int .i64 t297] 25 (0, 0)) (by (with_reducible repeat (first | refine blk_drewN ?_ _ | refine blk_drew ?_ | refine blk_alloc ?_ _)); exact BK299.out) hb); replace BK303 := Aside0.mk (blk_below (g := gb303) (o := .cells #[.int .i64 t300, .int .i64 t301] 25 (0, 0)) (by (with_reducible repeat (first | refine blk_drewN ?_ _ | refine blk_drew ?_ | refine blk_alloc ?_ _)); exact BK303.out) hb); replace BK309 := Aside0.mk (blk_below (g := gb309) (o := .cells #[.int .i64 t306, .int .i64 t307] 25 (0, 0)) (by (with_reducible repeat (first | refine blk_drewN ?_ _ | refine blk_drew ?_ | refine blk_alloc ?_ _)); exact BK309.out) hb); replace BK313 := Aside0.mk (blk_below (g := gb313) (o := .cells #[.int .i64 t310, .int .i64 t311] 25 (0, 0)) (by (with_reducible repeat (first | refine blk_drewN ?_ _ | refine blk_drew ?_ | refine blk_alloc ?_ _)); exact BK313.out) hb); replace HB := Aside0.mk (below_step (by repeat (first | (with_reducible first | exact HB.out | apply below_alloc | apply pw_below_drewN | apply below_drew1 | refine below_set ?_ GE279.out | refine below_set ?_ GE299.out | refine below_set ?_ GE303.out | refine below_set ?_ GE309.out | refine below_set ?_ GE313.out) | exact HB.out)) hb); (try clear hb); (try clear hb2); (try clear hk); (try clear hi)))
                                      go_ret
                                      exact ⟨by first | rfl | (simp [errW_none, errW_some] <;> rfl) | (simp [*, errW_none, errW_some] <;> rfl), by repeat (first | (with_reducible first | exact HB.out | apply below_alloc | apply pw_below_drewN | apply below_drew1 | refine below_set ?_ GE279.out | refine below_set ?_ GE299.out | refine below_set ?_ GE303.out | refine below_set ?_ GE309.out | refine below_set ?_ GE313.out) | exact HB.out)⟩
                                    · replace c234 := Bool.eq_false_iff.mpr c234
                                      subst c234
                                      have H1 : (none) = some r := by rw [if_neg (show ¬ (false = true) by decide)] at H; exact H
                                      clear H
                                      have H := H1
                                      clear H1
                                      exact absurd H (by simp)
                                  · replace c232 := Bool.eq_false_iff.mpr c232
                                    subst c232
                                    have H1 : (some true) = some r := by rw [if_neg (show ¬ (false = true) by decide)] at H; exact H
                                    clear H
                                    have H := H1
                                    clear H1
                                    obtain rfl := Option.some.inj H
                                    go_wp2
                                    go_ret
                                    exact ⟨by first | rfl | (simp [errW_none, errW_some] <;> rfl) | (simp [*, errW_none, errW_some] <;> rfl), by repeat (first | (with_reducible first | exact HB.out | apply below_alloc | apply pw_below_drewN | apply below_drew1 | refine below_set ?_ GE279.out | refine below_set ?_ GE299.out | refine below_set ?_ GE303.out | refine below_set ?_ GE309.out | refine below_set ?_ GE313.out) | exact HB.out)⟩
                    · replace c210 := Bool.eq_false_iff.mpr c210
                      subst c210
                      have H1 : (if t298 = true then ((impl_RankOf.f kj60 t296 t297).bind fun bt335 => (if bt335.2 = true then (some (bt335.1 == t295)) else (none))) else (some true)) = some r := by rw [if_neg (show ¬ (false = true) by decide)] at H; exact H
                      clear H
                      have H := H1
                      clear H1
                      by_cases c241 : t298 = true
                      · subst c241
                        have H1 : ((impl_RankOf.f kj60 t296 t297).bind fun bt335 => (if bt335.2 = true then (some (bt335.1 == t295)) else (none))) = some r := by rw [if_pos rfl] at H; exact H
                        clear H
                        have H := H1
                        clear H1
                        replace H := Option.bind_eq_some_iff.mp H
                        obtain ⟨⟨t335, t336⟩, A2420, H⟩ := H
                        replace H : (if t336 = true then (some (t335 == t295)) else (none)) = some r := H
                        have A242 := Aside0.mk A2420
                        clear A2420
                        by_cases c243 : t336 = true
                        · subst c243
                          have H1 : (some (t335 == t295)) = some r := by rw [if_pos rfl] at H; exact H
                          clear H
                          have H := H1
                          clear H1
                          obtain rfl := Option.some.inj H
                          have hnb244 := NB299_279.out
                          have hnc244 := NB279_299.out
                          have hnb245 := NB299_303.out
                          have hnc245 := NB303_299.out
                          have hnb246 := NB299_309.out
                          have hnc246 := NB309_299.out
                          have hnb247 := NB299_313.out
                          have hnc247 := NB313_299.out
                          have hcz248_0 : wc.cell? ⟨gb299, 0, none⟩ = some (.int .i64 t296) := (blk_cell BK299.out 0).trans rfl
                          have hcz248_1 : wc.cell? ⟨gb299, 1, none⟩ = some (.int .i64 t297) := (blk_cell BK299.out 1).trans rfl
                          have hfz248_0 := blk_frozen BK299.out 0
                          have hfz248_1 := blk_frozen BK299.out 1
                          go_wp2_with (first | ((with_reducible refine gate_callee (f := 17) rfl ?_); refine goesL_ (some 246) rfl rfl Try.func17 (by kernel_rfl) rfl #[.agg #[.int .i64 t296, .int .i64 t297]] rfl (by (try simp only [List.map_toArray, List.map_cons, List.map_nil]); first | done | rfl | (simp only [List.length_drop, List.length_take]; rfl)) ?_; (with_reducible refine (impl_RankOf.calls kj60 t296 t297 t335 true _ A242.out).mono ?_); rintro e w249 ⟨rfl, hb⟩; refine ⟨_, rfl, ?_⟩; replace HO_26 := Aside0.mk (Kd.R_below (by (with_reducible repeat (first | apply Kd.R_alloc | apply Kd.R_drewN | apply Kd.R_drew)); exact HO_26.out) hb); replace BK279 := Aside0.mk (blk_below (g := gb279) (o := .cells #[.int .i64 t277, .int .i64 t278] 25 (0, 0)) (by (with_reducible repeat (first | refine blk_drewN ?_ _ | refine blk_drew ?_ | refine blk_alloc ?_ _)); exact BK279.out) hb); replace BK299 := Aside0.mk (blk_below (g := gb299) (o := .cells #[.int .i64 t296, .int .i64 t297] 25 (0, 0)) (by (with_reducible repeat (first | refine blk_drewN ?_ _ | refine blk_drew ?_ | refine blk_alloc ?_ _)); exact BK299.out) hb); replace BK303 := Aside0.mk (blk_below (g := gb303) (o := .cells #[.int .i64 t300, .int .i64 t301] 25 (0, 0)) (by (with_reducible repeat (first | refine blk_drewN ?_ _ | refine blk_drew ?_ | refine blk_alloc ?_ _)); exact BK303.out) hb); replace BK309 := Aside0.mk (blk_below (g := gb309) (o := .cells #[.int .i64 t306, .int .i64 t307] 25 (0, 0)) (by (with_reducible repeat (first | refine blk_drewN ?_ _ | refine blk_drew ?_ | refine blk_alloc ?_ _)); exact BK309.out) hb); replace BK313 := Aside0.mk (blk_below (g := gb313) (o := .cells #[.int .i64 t310, .int .i64 t311] 25 (0, 0)) (by (with_reducible repeat (first | refine blk_drewN ?_ _ | refine blk_drew ?_ | refine blk_alloc ?_ _)); exact BK313.out) hb); replace HB := Aside0.mk (below_step (by repeat (first | (with_reducible first | exact HB.out | apply below_alloc | apply pw_below_drewN | apply below_drew1 | refine below_set ?_ GE279.out | refine below_set ?_ GE299.out | refine below_set ?_ GE303.out | refine below_set ?_ GE309.out | refine below_set ?_ GE313.out) | exact HB.out)) hb); (try clear hb); (try clear hb2); (try clear hk); (try clear hi)))
                          go_ret
                          exact ⟨by first | rfl | (simp [errW_none, errW_some] <;> rfl) | (simp [*, errW_none, errW_some] <;> rfl), by repeat (first | (with_reducible first | exact HB.out | apply below_alloc | apply pw_below_drewN | apply below_drew1 | refine below_set ?_ GE279.out | refine below_set ?_ GE299.out | refine below_set ?_ GE303.out | refine below_set ?_ GE309.out | refine below_set ?_ GE313.out) | exact HB.out)⟩
                        · replace c243 := Bool.eq_false_iff.mpr c243
                          subst c243
                          have H1 : (none) = some r := by rw [if_neg (show ¬ (false = true) by decide)] at H; exact H
                          clear H
                          have H := H1
                          clear H1
                          exact absurd H (by simp)
                      · replace c241 := Bool.eq_false_iff.mpr c241
                        subst c241
                        have H1 : (some true) = some r := by rw [if_neg (show ¬ (false = true) by decide)] at H; exact H
                        clear H
                        have H := H1
                        clear H1
                        obtain rfl := Option.some.inj H
                        go_wp2
                        go_ret
                        exact ⟨by first | rfl | (simp [errW_none, errW_some] <;> rfl) | (simp [*, errW_none, errW_some] <;> rfl), by repeat (first | (with_reducible first | exact HB.out | apply below_alloc | apply pw_below_drewN | apply below_drew1 | refine below_set ?_ GE279.out | refine below_set ?_ GE299.out | refine below_set ?_ GE303.out | refine below_set ?_ GE309.out | refine below_set ?_ GE313.out) | exact HB.out)⟩

/-- THE ONE PURE STATEMENT of laws_FnTilesRanked: yours. -/
def laws_FnTilesRanked.Pure : Prop := ∀ (l0 : List Int) (l1 : List Int), l0.length ≤ maxLen → l0.length * 1 ≤ 140737488351232 → (∀ x ∈ l0, (Lit.int .u8 x).wf = true) → l1.length ≤ maxLen → l1.length * 1 ≤ 140737488351232 → (∀ x ∈ l1, (Lit.int .u8 x).wf = true) → ∃ k, laws_FnTilesRanked.f k l0 l1 = some true
theorem laws_FnTilesRanked.walk (P : laws_FnTilesRanked.Pure) (a0 : Option Addr) (len0 cap0 : Nat) (z0 : List Int) (a1 : Option Addr) (len1 cap1 : Nat) (z1 : List Int) (w : World) (w0 : (a0 = none ∧ len0 = 0 ∧ cap0 = 0 ∧ z0 = []) ∨ ∃ x, a0 = some x ∧ len0 ≤ cap0 ∧ cap0 ≤ maxLen ∧ z0.length = cap0 ∧ (∀ i, i < z0.length → w.cell? (x.add i) = some (.int .u8 (z0.getD i 0))) ∧ ∀ n ∈ z0, (Lit.int .u8 n).wf = true) (y0 : len0 * 1 ≤ 140737488351232) (w1 : (a1 = none ∧ len1 = 0 ∧ cap1 = 0 ∧ z1 = []) ∨ ∃ x, a1 = some x ∧ len1 ≤ cap1 ∧ cap1 ≤ maxLen ∧ z1.length = cap1 ∧ (∀ i, i < z1.length → w.cell? (x.add i) = some (.int .u8 (z1.getD i 0))) ∧ ∀ n ∈ z1, (Lit.int .u8 n).wf = true) (y1 : len1 * 1 ≤ 140737488351232) :
    Calls Try.prog 3 #[.slice a0 len0 cap0, .slice a1 len1 cap1] w fun e w' => e = .returned (.bool true) ∧ Below w.heap.size w w' := by
  obtain ⟨l0, rfl, hr0, hm0, hw0, hc0⟩ := ReadsInt.ofRowC w0
  obtain ⟨l1, rfl, hr1, hm1, hw1, hc1⟩ := ReadsInt.ofRowC w1
  obtain ⟨k, h⟩ := P l0 l1 hm0 y0 hw0 hm1 y1 hw1
  refine (laws_FnTilesRanked.calls k _ _ l0 _ _ l1 true w (Kd.C_of_reads (d := (0 : Int)) (h1 := fun _ => rfl) hr0) hc0 (Kd.C_of_reads (d := (0 : Int)) (h1 := fun _ => rfl) hr1) hc1 h).mono ?_
  rintro e w' ⟨rfl, hd⟩
  exact ⟨rfl, hd⟩

end Go.Proofs.Ytgcnlhebfnaaoaa.QFnTilesRanked
