/- The law's own function of FnChancesOfHands, by the interpreter of the text Refl: each piece of its code is checked by the kernel. No conditions. -/
import Derived.Test.YtfaobohggphaaaaRefl
import Derived.Test.YtfaobohggphaaaaQFnChancesOfHandsx0
import Derived.Test.YtfaobohggphaaaaQFnChancesOfHandsx1
import Derived.Test.YtfaobohggphaaaaQFnChancesOfHandsx2
import Derived.Test.YtfaobohggphaaaaQFnChancesOfHandsx3
import Derived.Test.YtfaobohggphaaaaQFnChancesOfHandsx4
import Derived.Test.YtfaobohggphaaaaQFnChancesOfHandsx6
import Derived.Test.YtfaobohggphaaaaQFnChancesOfHandsx8
import Derived.Laws.StructEq
import Derived.IntWalk
namespace Go.Proofs.Ytfaobohggphaaaa.QFnChancesOfHands
open Go.RowKit Go.Refl Go.Proofs.YtfaobohggphaaaaW.PrintWords Go.Proofs.YtfaobohggphaaaaW.PrintLast Go.Proofs.YtfaobohggphaaaaW.PrintMore
set_option linter.unusedVariables false
set_option linter.unusedSimpArgs false
theorem arg_ints {w : World} {ok : Nat → Prop} {k : IntKind} {l : List Int} {v : Value} (h : Rep w ok (.sl (l.map fun z_ => .val (.int k z_))) v) : ∃ A c, v = .slice A l.length c ∧ l.length ≤ c ∧ Kd.C (Kd.int k) w A l.length l := by
  obtain ⟨A, c, sz, ad, cs, h1, h2, h3, h4, h5, h6⟩ := rep_sl h
  simp only [List.length_map] at h1 h2 h3 h5 h6
  refine ⟨A, c, h1, h2.1, rfl, h2.2, fun hn => ⟨ad, (h3 hn).1, fun j p hj => ?_⟩⟩
  have hlt := (List.getElem?_eq_some_iff.1 hj).1
  have hc := h4 j (.val (.int k p)) (by rw [List.getElem?_map, hj]; rfl)
  have hcs : cs j = [.int k p] := by
    cases hc' : cs j with
    | nil => rw [hc'] at hc; have := Cs.len hc; simp [AV.cnt] at this
    | cons u us =>
      rw [hc'] at hc
      cases hc with
      | one _ _ hx hr => rw [(rep_val hr).1]
  have hsz : sz = 1 := by rw [← h5 j hlt, hcs]; rfl
  subst hsz
  exact ⟨[.int k p], rfl, rfl, fun i u hu => h6 j hlt i u (by rw [hcs]; exact hu)⟩

theorem ad_4 {l0 : List Int} {l1 : List Int} {r : Bool} (h : laws_big.f l0 l1 = some r) : CallOk Try.prog 4 [.sl (l0.map fun z_ => .val (.int .u8 z_)), .sl (l1.map fun z_ => .val (.int .u8 z_))] (.val (.bool r)) :=
  callOk_of Try.func4 rfl rfl rfl fun w ok vs hv => by
    cases hv with
    | cons h0_ t0_ =>
      cases t0_ with
      | cons h1_ t1_ =>
        cases t1_
        obtain ⟨A0, c0, rfl, hc0, hr0⟩ := arg_ints h0_
        obtain ⟨A1, c1, rfl, hc1, hr1⟩ := arg_ints h1_
        exact (laws_big.calls A0 c0 l0 A1 c1 l1 r w hr0 hc0 hr1 hc1 h).mono (by rintro e w' ⟨rfl, hb_⟩; exact ⟨rfl, hb_.below⟩)

theorem ad_5 {l0 : List Int} {r1 : Int} {r2 : Int} (h : spec_DrawCountHands.f l0 = some (r1, r2)) : CallOk Try.prog 5 [.sl (l0.map fun z_ => .val (.int .u8 z_))] (.tup [.val (.int .i64 r1), .val (.int .i64 r2)]) :=
  callOk_of Try.func5 rfl rfl rfl fun w ok vs hv => by
    cases hv with
    | cons h0_ t0_ =>
      cases t0_
      obtain ⟨A0, c0, rfl, hc0, hr0⟩ := arg_ints h0_
      exact (spec_DrawCountHands.calls A0 c0 l0 r1 r2 w hr0 hc0 h).mono (by rintro e w' ⟨rfl, hb_⟩; exact ⟨rfl, hb_⟩)

theorem ad_6 {k : Nat} {a0 : Int} {a1 : Int} {r1 : Int} {r2 : Bool} (h : impl_CountHands.f k a0 a1 = some (r1, r2)) : CallOk Try.prog 6 [.val (.int .i64 a0), .val (.int .i64 a1)] (.tup [.val (.int .i64 r1), .val (.bool r2)]) :=
  callOk_flat Try.func6 rfl rfl rfl rfl fun w => (impl_CountHands.calls k a0 a1 r1 r2 w h).mono (by rintro e w' ⟨rfl, hb_⟩; exact ⟨rfl, hb_.below⟩)

theorem ad_7 {k : Nat} {a0 : Int} {a1 : Int} {r1 : Int} {r2 : Bool} (h : spec_CountHands.f k a0 a1 = some (r1, r2)) : CallOk Try.prog 7 [.val (.int .i64 a0), .val (.int .i64 a1)] (.tup [.val (.int .i64 r1), .val (.bool r2)]) :=
  callOk_flat Try.func7 rfl rfl rfl rfl fun w => (spec_CountHands.calls k a0 a1 r1 r2 w h).mono (by rintro e w' ⟨rfl, hb_⟩; exact ⟨rfl, hb_.below⟩)

theorem ad_8 {k : Nat} {a0 : Int} {a1 : Int} {r1 : Int} {r2 : Int} {r3 : Bool} (h : impl_ChanceOfTile.f k a0 a1 = some (r1, r2, r3)) : CallOk Try.prog 8 [.val (.int .i64 a0), .val (.int .i64 a1)] (.tup [.agg [.val (.int .i64 r1), .val (.int .i64 r2)], .val (.bool r3)]) :=
  callOk_flat Try.func8 rfl rfl rfl rfl fun w => (impl_ChanceOfTile.calls k a0 a1 r1 r2 r3 w h).mono (by rintro e w' ⟨rfl, hb_⟩; exact ⟨rfl, hb_⟩)

theorem ad_9 {k : Nat} {a0 : Int} {a1 : Int} {r1 : Int} {r2 : Int} {r3 : Bool} (h : spec_ChanceOfTile.f k a0 a1 = some (r1, r2, r3)) : CallOk Try.prog 9 [.val (.int .i64 a0), .val (.int .i64 a1)] (.tup [.agg [.val (.int .i64 r1), .val (.int .i64 r2)], .val (.bool r3)]) :=
  callOk_flat Try.func9 rfl rfl rfl rfl fun w => (spec_ChanceOfTile.calls k a0 a1 r1 r2 r3 w h).mono (by rintro e w' ⟨rfl, hb_⟩; exact ⟨rfl, hb_⟩)

theorem ad_10 {k : Nat} {a0 : Int} {a1 : Int} {r1 : Int} {r2 : Int} {r3 : Bool} (h : impl_DoublesMean.f k a0 a1 = some (r1, r2, r3)) : CallOk Try.prog 10 [.val (.int .i64 a0), .val (.int .i64 a1)] (.tup [.agg [.val (.int .i64 r1), .val (.int .i64 r2)], .val (.bool r3)]) :=
  callOk_flat Try.func10 rfl rfl rfl rfl fun w => (impl_DoublesMean.calls k a0 a1 r1 r2 r3 w h).mono (by rintro e w' ⟨rfl, hb_⟩; exact ⟨rfl, hb_⟩)

theorem ad_11 {k : Nat} {a0 : Int} {a1 : Int} {r1 : Int} {r2 : Int} {r3 : Bool} (h : spec_DoublesMean.f k a0 a1 = some (r1, r2, r3)) : CallOk Try.prog 11 [.val (.int .i64 a0), .val (.int .i64 a1)] (.tup [.agg [.val (.int .i64 r1), .val (.int .i64 r2)], .val (.bool r3)]) :=
  callOk_flat Try.func11 rfl rfl rfl rfl fun w => (spec_DoublesMean.calls k a0 a1 r1 r2 r3 w h).mono (by rintro e w' ⟨rfl, hb_⟩; exact ⟨rfl, hb_⟩)

theorem ad_12 {a0 : Int} {a1 : Int} {r1 : Int} {r2 : Int} {r3 : Bool} (h : impl_PipsMean.f a0 a1 = some (r1, r2, r3)) : CallOk Try.prog 12 [.val (.int .i64 a0), .val (.int .i64 a1)] (.tup [.agg [.val (.int .i64 r1), .val (.int .i64 r2)], .val (.bool r3)]) :=
  callOk_flat Try.func12 rfl rfl rfl rfl fun w => (impl_PipsMean.calls a0 a1 r1 r2 r3 w h).mono (by rintro e w' ⟨rfl, hb_⟩; exact ⟨rfl, hb_⟩)

theorem ad_13 {a0 : Int} {a1 : Int} {r1 : Int} {r2 : Int} {r3 : Bool} (h : spec_PipsMean.f a0 a1 = some (r1, r2, r3)) : CallOk Try.prog 13 [.val (.int .i64 a0), .val (.int .i64 a1)] (.tup [.agg [.val (.int .i64 r1), .val (.int .i64 r2)], .val (.bool r3)]) :=
  callOk_flat Try.func13 rfl rfl rfl rfl fun w => (spec_PipsMean.calls a0 a1 r1 r2 r3 w h).mono (by rintro e w' ⟨rfl, hb_⟩; exact ⟨rfl, hb_⟩)

theorem ad_14 {k : Nat} {a0 : Int} {a1 : Int} {r1 : Int} {r2 : Int} {r3 : Bool} (h : impl_ChanceOfOpening.f k a0 a1 = some (r1, r2, r3)) : CallOk Try.prog 14 [.val (.int .i64 a0), .val (.int .i64 a1)] (.tup [.agg [.val (.int .i64 r1), .val (.int .i64 r2)], .val (.bool r3)]) :=
  callOk_flat Try.func14 rfl rfl rfl rfl fun w => (impl_ChanceOfOpening.calls k a0 a1 r1 r2 r3 w h).mono (by rintro e w' ⟨rfl, hb_⟩; exact ⟨rfl, hb_⟩)

theorem ad_15 {k : Nat} {a0 : Int} {a1 : Int} {r1 : Int} {r2 : Int} {r3 : Bool} (h : spec_ChanceOfOpening.f k a0 a1 = some (r1, r2, r3)) : CallOk Try.prog 15 [.val (.int .i64 a0), .val (.int .i64 a1)] (.tup [.agg [.val (.int .i64 r1), .val (.int .i64 r2)], .val (.bool r3)]) :=
  callOk_flat Try.func15 rfl rfl rfl rfl fun w => (spec_ChanceOfOpening.calls k a0 a1 r1 r2 r3 w h).mono (by rintro e w' ⟨rfl, hb_⟩; exact ⟨rfl, hb_⟩)

theorem ad_16 {k : Nat} {a0 : Int} {a1 : Int} {r1 : Int} {r2 : Bool} (h : impl_LikeliestPips.f k a0 a1 = some (r1, r2)) : CallOk Try.prog 16 [.val (.int .i64 a0), .val (.int .i64 a1)] (.tup [.val (.int .i64 r1), .val (.bool r2)]) :=
  callOk_flat Try.func16 rfl rfl rfl rfl fun w => (impl_LikeliestPips.calls k a0 a1 r1 r2 w h).mono (by rintro e w' ⟨rfl, hb_⟩; exact ⟨rfl, hb_⟩)

theorem ad_17 {k : Nat} {a0 : Int} {a1 : Int} {r1 : Int} {r2 : Bool} (h : spec_LikeliestPips.f k a0 a1 = some (r1, r2)) : CallOk Try.prog 17 [.val (.int .i64 a0), .val (.int .i64 a1)] (.tup [.val (.int .i64 r1), .val (.bool r2)]) :=
  callOk_flat Try.func17 rfl rfl rfl rfl fun w => (spec_LikeliestPips.calls k a0 a1 r1 r2 w h).mono (by rintro e w' ⟨rfl, hb_⟩; exact ⟨rfl, hb_⟩)

theorem ad_18 {k : Nat} {a0 : Int} {a1 : Int} {a2 : Int} {r1 : Int} {r2 : Int} {r3 : Bool} (h : impl_ChanceOfDoubles.f k a0 a1 a2 = some (r1, r2, r3)) : CallOk Try.prog 18 [.val (.int .i64 a0), .val (.int .i64 a1), .val (.int .i64 a2)] (.tup [.agg [.val (.int .i64 r1), .val (.int .i64 r2)], .val (.bool r3)]) :=
  callOk_flat Try.func18 rfl rfl rfl rfl fun w => (impl_ChanceOfDoubles.calls k a0 a1 a2 r1 r2 r3 w h).mono (by rintro e w' ⟨rfl, hb_⟩; exact ⟨rfl, hb_⟩)

theorem ad_19 {k : Nat} {a0 : Int} {a1 : Int} {a2 : Int} {r1 : Int} {r2 : Int} {r3 : Bool} (h : impl_ChanceOfTimes.f k a0 a1 a2 = some (r1, r2, r3)) : CallOk Try.prog 19 [.val (.int .i64 a0), .val (.int .i64 a1), .val (.int .i64 a2)] (.tup [.agg [.val (.int .i64 r1), .val (.int .i64 r2)], .val (.bool r3)]) :=
  callOk_flat Try.func19 rfl rfl rfl rfl fun w => (impl_ChanceOfTimes.calls k a0 a1 a2 r1 r2 r3 w h).mono (by rintro e w' ⟨rfl, hb_⟩; exact ⟨rfl, hb_⟩)

theorem ad_20 {a0_0 : Int} {a0_1 : Int} {a1 : Int} {r : Int} (h : laws_iTimes.f a0_0 a0_1 a1 = some r) : CallOk Try.prog 20 [.agg [.val (.int .i64 a0_0), .val (.int .i64 a0_1)], .val (.int .i64 a1)] (.val (.int .i64 r)) :=
  callOk_flat Try.func20 rfl rfl rfl rfl fun w => (laws_iTimes.calls a0_0 a0_1 a1 r w h).mono (by rintro e w' ⟨rfl, hb_⟩; exact ⟨rfl, hb_⟩)

theorem ad_21 {k : Nat} {a0 : Int} {a1 : Int} {a2 : Int} {r1 : Int} {r2 : Int} {r3 : Bool} (h : impl_ChanceOfTiles.f k a0 a1 a2 = some (r1, r2, r3)) : CallOk Try.prog 21 [.val (.int .i64 a0), .val (.int .i64 a1), .val (.int .i64 a2)] (.tup [.agg [.val (.int .i64 r1), .val (.int .i64 r2)], .val (.bool r3)]) :=
  callOk_flat Try.func21 rfl rfl rfl rfl fun w => (impl_ChanceOfTiles.calls k a0 a1 a2 r1 r2 r3 w h).mono (by rintro e w' ⟨rfl, hb_⟩; exact ⟨rfl, hb_⟩)

theorem ad_22 {k : Nat} {a0 : Int} {a1 : Int} {a2 : Int} {r1 : Int} {r2 : Int} {r3 : Bool} (h : impl_ChanceWithout.f k a0 a1 a2 = some (r1, r2, r3)) : CallOk Try.prog 22 [.val (.int .i64 a0), .val (.int .i64 a1), .val (.int .i64 a2)] (.tup [.agg [.val (.int .i64 r1), .val (.int .i64 r2)], .val (.bool r3)]) :=
  callOk_flat Try.func22 rfl rfl rfl rfl fun w => (impl_ChanceWithout.calls k a0 a1 a2 r1 r2 r3 w h).mono (by rintro e w' ⟨rfl, hb_⟩; exact ⟨rfl, hb_⟩)

theorem ad_23 {k : Nat} {a0 : Int} {a1 : Int} {a2 : Int} {r1 : Int} {r2 : Bool} (h : impl_CountWithPips.f k a0 a1 a2 = some (r1, r2)) : CallOk Try.prog 23 [.val (.int .i64 a0), .val (.int .i64 a1), .val (.int .i64 a2)] (.tup [.val (.int .i64 r1), .val (.bool r2)]) :=
  callOk_flat Try.func23 rfl rfl rfl rfl fun w => (impl_CountWithPips.calls k a0 a1 a2 r1 r2 w h).mono (by rintro e w' ⟨rfl, hb_⟩; exact ⟨rfl, hb_⟩)

theorem ad_24 {k : Nat} {a0 : Int} {a1 : Int} {a2 : Int} {r1 : Int} {r2 : Int} {r3 : Bool} (h : impl_ChanceOfPips.f k a0 a1 a2 = some (r1, r2, r3)) : CallOk Try.prog 24 [.val (.int .i64 a0), .val (.int .i64 a1), .val (.int .i64 a2)] (.tup [.agg [.val (.int .i64 r1), .val (.int .i64 r2)], .val (.bool r3)]) :=
  callOk_flat Try.func24 rfl rfl rfl rfl fun w => (impl_ChanceOfPips.calls k a0 a1 a2 r1 r2 r3 w h).mono (by rintro e w' ⟨rfl, hb_⟩; exact ⟨rfl, hb_⟩)

theorem ad_25 {l0 : List Int} {r1 : Int} {r2 : Int} {r3 : Int} (h : spec_DrawChanceOfTiles.f l0 = some (r1, r2, r3)) : CallOk Try.prog 25 [.sl (l0.map fun z_ => .val (.int .u8 z_))] (.tup [.val (.int .i64 r1), .val (.int .i64 r2), .val (.int .i64 r3)]) :=
  callOk_of Try.func25 rfl rfl rfl fun w ok vs hv => by
    cases hv with
    | cons h0_ t0_ =>
      cases t0_
      obtain ⟨A0, c0, rfl, hc0, hr0⟩ := arg_ints h0_
      exact (spec_DrawChanceOfTiles.calls A0 c0 l0 r1 r2 r3 w hr0 hc0 h).mono (by rintro e w' ⟨rfl, hb_⟩; exact ⟨rfl, hb_⟩)

theorem ad_26 {k : Nat} {a0 : Int} {a1 : Int} {a2 : Int} {r1 : Int} {r2 : Int} {r3 : Bool} (h : spec_ChanceOfTiles.f k a0 a1 a2 = some (r1, r2, r3)) : CallOk Try.prog 26 [.val (.int .i64 a0), .val (.int .i64 a1), .val (.int .i64 a2)] (.tup [.agg [.val (.int .i64 r1), .val (.int .i64 r2)], .val (.bool r3)]) :=
  callOk_flat Try.func26 rfl rfl rfl rfl fun w => (spec_ChanceOfTiles.calls k a0 a1 a2 r1 r2 r3 w h).mono (by rintro e w' ⟨rfl, hb_⟩; exact ⟨rfl, hb_⟩)

theorem agg_29_neq {x y : Operand} {a b c d : Int} {v : Bool} (h : (!((a == c) && (b == d))) = v) : BinIs Try.prog .neq 29 x y (.agg [.int .i64 a, .int .i64 b].toArray) (.agg [.int .i64 c, .int .i64 d].toArray) (.bool v) := by
  intro w
  subst h
  by_cases h1 : a = c <;> by_cases h2 : b = d <;> simp [go_sem, h1, h2]
theorem build_29_2 {p0 p1 : Int} : BuildIs Try.prog 29 #[(0, .int .i64 p0), (1, .int .i64 p1)] (.agg [.int .i64 p0, .int .i64 p1].toArray) := by
  intro w
  simp [go_sem, Instr.build]

set_option maxRecDepth 100000 in
theorem p_main (l0 : List Int) (l1 : List Int) (r1_1 : Int) (r2_1 : Int) (r1_2 : Int) (r2_2 : Bool) (k_2 : Nat) (r1_3 : Int) (r2_3 : Bool) (k_3 : Nat) (r1_4 : Int) (r2_4 : Int) (r3_4 : Bool) (k_4 : Nat) (r1_5 : Int) (r2_5 : Int) (r3_5 : Bool) (k_5 : Nat) (r1_6 : Int) (r2_6 : Int) (r3_6 : Bool) (k_6 : Nat) (r1_7 : Int) (r2_7 : Int) (r3_7 : Bool) (k_7 : Nat) (r1_8 : Int) (r2_8 : Int) (r3_8 : Bool) (r1_9 : Int) (r2_9 : Int) (r3_9 : Bool) (r1_10 : Int) (r2_10 : Int) (r3_10 : Bool) (k_10 : Nat) (r1_11 : Int) (r2_11 : Int) (r3_11 : Bool) (k_11 : Nat) (r1_12 : Int) (r2_12 : Bool) (k_12 : Nat) (r1_13 : Int) (r2_13 : Bool) (k_13 : Nat) (r1_14 : Int) (r2_14 : Int) (r3_14 : Int) (r1_15 : Int) (r2_15 : Int) (k_15 : Nat) (r1_16 : Int) (r2_16 : Int) (r3_16 : Bool) (k_16 : Nat) (v19 : Bool)
    (h_0 : laws_big.f l0 l1 = some false)
    (h_1 : spec_DrawCountHands.f l0 = some (r1_1, r2_1))
    (h_2 : impl_CountHands.f k_2 r1_1 r2_1 = some (r1_2, r2_2))
    (h_3 : spec_CountHands.f k_3 r1_1 r2_1 = some (r1_3, r2_3))
    (h_4 : impl_ChanceOfTile.f k_4 r1_1 r2_1 = some (r1_4, r2_4, r3_4))
    (h_5 : spec_ChanceOfTile.f k_5 r1_1 r2_1 = some (r1_5, r2_5, r3_5))
    (h_6 : impl_DoublesMean.f k_6 r1_1 r2_1 = some (r1_6, r2_6, r3_6))
    (h_7 : spec_DoublesMean.f k_7 r1_1 r2_1 = some (r1_7, r2_7, r3_7))
    (h_8 : impl_PipsMean.f r1_1 r2_1 = some (r1_8, r2_8, r3_8))
    (h_9 : spec_PipsMean.f r1_1 r2_1 = some (r1_9, r2_9, r3_9))
    (h_10 : impl_ChanceOfOpening.f k_10 r1_1 r2_1 = some (r1_10, r2_10, r3_10))
    (h_11 : spec_ChanceOfOpening.f k_11 r1_1 r2_1 = some (r1_11, r2_11, r3_11))
    (h_12 : impl_LikeliestPips.f k_12 r1_1 r2_1 = some (r1_12, r2_12))
    (h_13 : spec_LikeliestPips.f k_13 r1_1 r2_1 = some (r1_13, r2_13))
    (d_0 : (!(r2_2 == r2_3)) = false)
    (d_1 : (!(r1_2 == r1_3)) = false)
    (d_2 : (!(r3_4 == r3_5)) = false)
    (d_3 : (!((r1_4 == r1_5) && (r2_4 == r2_5))) = false)
    (d_4 : (!(r3_6 == r3_7)) = false)
    (d_5 : (!((r1_6 == r1_7) && (r2_6 == r2_7))) = false)
    (d_6 : (!(r3_8 == r3_9)) = false)
    (d_7 : (!((r1_8 == r1_9) && (r2_8 == r2_9))) = false)
    (d_8 : (!(r3_10 == r3_11)) = false)
    (d_9 : (!((r1_10 == r1_11) && (r2_10 == r2_11))) = false)
    (d_10 : (!(r2_12 == r2_13)) = false)
    (d_11 : (!(r1_12 == r1_13)) = false)
    (d_12 : (!(r3_4 == r2_2)) = false)
    (d_13 : (!(r3_6 == r2_2)) = false)
    (d_14 : (!(r3_8 == r2_2)) = false)
    (d_15 : (!(r3_10 == r2_2)) = false)
    (d_16 : (!(r2_12 == r2_2)) = false)
    (h_14 : spec_DrawChanceOfTiles.f l1 = some (r1_14, r2_14, r3_14))
    (h_15 : impl_ChanceOfTiles.f k_15 r1_14 r2_14 r3_14 = some (r1_15, r2_15, true))
    (h_16 : spec_ChanceOfTiles.f k_16 r1_14 r2_14 r3_14 = some (r1_16, r2_16, r3_16))
    (d_17 : (!(true == r3_16)) = false)
    (d_18 : (!((r1_15 == r1_16) && (r2_15 == r2_16))) = false)
    (d_19 : decide (r3_14 > 0) = v19)
    (c_111111111111111101 : RunOk Try.prog 533 (nav [true, true, true, true, true, true, true, true, true, true, true, true, true, true, true, true, false, true] (bodyOf Try.f3)) (lookA [(1, .sl (l1.map fun z_ => .val (.int .u8 z_))), (4, .val (.bool false)), (5, .val (.int .i64 r1_1)), (6, .val (.int .i64 r2_1)), (7, .val (.int .i64 r1_2)), (11, .box (.agg [.val (.int .i64 r1_4), .val (.int .i64 r2_4)])), (15, .box (.agg [.val (.int .i64 r1_6), .val (.int .i64 r2_6)])), (19, .box (.agg [.val (.int .i64 r1_8), .val (.int .i64 r2_8)])), (23, .box (.agg [.val (.int .i64 r1_10), .val (.int .i64 r2_10)])), (27, .val (.int .i64 r1_12)), (231, .val (.bool r2_2))]) .normal (lookA [(1, .sl (l1.map fun z_ => .val (.int .u8 z_))), (4, .val (.bool false))]))
    (c_11111111111111111111101 : RunOk Try.prog 533 (nav [true, true, true, true, true, true, true, true, true, true, true, true, true, true, true, true, true, true, true, true, true, false, true] (bodyOf Try.f3)) (lookA [(59, .val (.int .i64 r1_14)), (60, .val (.int .i64 r2_14)), (61, .val (.int .i64 r3_14)), (62, .box (.agg [.val (.int .i64 r1_15), .val (.int .i64 r2_15)])), (509, .val (.bool v19))]) .normal (lookA [])) : RunOk Try.prog 533 (bodyOf Try.f3) (lookA [(0, .sl (l0.map fun z_ => .val (.int .u8 z_))), (1, .sl (l1.map fun z_ => .val (.int .u8 z_)))]) .ret (lookA [(4, .val (.bool true))]) :=
  Goal.ok (fl := flOf [(315, 15, 0), (320, 15, 1), (521, 62, 0), (523, 66, 1), (526, 66, 0), (528, 62, 1)]) (s := [.call (.val (.bool false)),
    .go,
    .call (.tup [.val (.int .i64 r1_1), .val (.int .i64 r2_1)]),
    .call (.tup [.val (.int .i64 r1_2), .val (.bool r2_2)]),
    .call (.tup [.val (.int .i64 r1_3), .val (.bool r2_3)]),
    .call (.tup [.agg [.val (.int .i64 r1_4), .val (.int .i64 r2_4)], .val (.bool r3_4)]),
    .call (.tup [.agg [.val (.int .i64 r1_5), .val (.int .i64 r2_5)], .val (.bool r3_5)]),
    .call (.tup [.agg [.val (.int .i64 r1_6), .val (.int .i64 r2_6)], .val (.bool r3_6)]),
    .call (.tup [.agg [.val (.int .i64 r1_7), .val (.int .i64 r2_7)], .val (.bool r3_7)]),
    .call (.tup [.agg [.val (.int .i64 r1_8), .val (.int .i64 r2_8)], .val (.bool r3_8)]),
    .call (.tup [.agg [.val (.int .i64 r1_9), .val (.int .i64 r2_9)], .val (.bool r3_9)]),
    .call (.tup [.agg [.val (.int .i64 r1_10), .val (.int .i64 r2_10)], .val (.bool r3_10)]),
    .call (.tup [.agg [.val (.int .i64 r1_11), .val (.int .i64 r2_11)], .val (.bool r3_11)]),
    .call (.tup [.val (.int .i64 r1_12), .val (.bool r2_12)]),
    .call (.tup [.val (.int .i64 r1_13), .val (.bool r2_13)]),
    .val (.bool false),
    .val (.bool false),
    .val (.bool false),
    .val (.bool false),
    .val (.bool false),
    .val (.bool false),
    .val (.bool false),
    .val (.bool false),
    .val (.bool false),
    .val (.bool false),
    .val (.bool false),
    .val (.bool false),
    .val (.bool false),
    .val (.bool false),
    .val (.bool false),
    .val (.bool false),
    .val (.bool false),
    .go,
    .cutC .normal [(1, .sl (l1.map fun z_ => .val (.int .u8 z_))), (4, .val (.bool false)), (5, .val (.int .i64 r1_1)), (6, .val (.int .i64 r2_1)), (7, .val (.int .i64 r1_2)), (11, .box (.agg [.val (.int .i64 r1_4), .val (.int .i64 r2_4)])), (15, .box (.agg [.val (.int .i64 r1_6), .val (.int .i64 r2_6)])), (19, .box (.agg [.val (.int .i64 r1_8), .val (.int .i64 r2_8)])), (23, .box (.agg [.val (.int .i64 r1_10), .val (.int .i64 r2_10)])), (27, .val (.int .i64 r1_12)), (231, .val (.bool r2_2))] [(1, .sl (l1.map fun z_ => .val (.int .u8 z_))), (4, .val (.bool false))],
    .call (.tup [.val (.int .i64 r1_14), .val (.int .i64 r2_14), .val (.int .i64 r3_14)]),
    .call (.tup [.agg [.val (.int .i64 r1_15), .val (.int .i64 r2_15)], .val (.bool true)]),
    .call (.tup [.agg [.val (.int .i64 r1_16), .val (.int .i64 r2_16)], .val (.bool r3_16)]),
    .val (.bool false),
    .val (.bool false),
    .go,
    .val (.bool v19),
    .cutC .normal [(59, .val (.int .i64 r1_14)), (60, .val (.int .i64 r2_14)), (61, .val (.int .i64 r3_14)), (62, .box (.agg [.val (.int .i64 r1_15), .val (.int .i64 r2_15)])), (509, .val (.bool v19))] []]) rfl (of_eq (And.intro (rfl : (.ret : Ex) = _) (And.intro (And.intro (rfl : some (.val (.bool true) : AV) = some _) True.intro) (And.intro (ad_4 h_0) (And.intro (ad_5 h_1) (And.intro (ad_6 h_2) (And.intro (ad_7 h_3) (And.intro (ad_8 h_4) (And.intro (ad_9 h_5) (And.intro (ad_10 h_6) (And.intro (ad_11 h_7) (And.intro (ad_12 h_8) (And.intro (ad_13 h_9) (And.intro (ad_14 h_10) (And.intro (ad_15 h_11) (And.intro (ad_16 h_12) (And.intro (ad_17 h_13) (And.intro (And.intro (bool_neq (P := Try.prog) (t := 4) (x := (.tmp 148)) (y := (.tmp 149)) Try.underlying4 d_0) (And.intro (int_neq (P := Try.prog) (t := 3) (k := .i64) (x := (.tmp 152)) (y := (.tmp 153)) d_1) (And.intro (bool_neq (P := Try.prog) (t := 4) (x := (.tmp 157)) (y := (.tmp 158)) Try.underlying4 d_2) (And.intro (agg_29_neq (x := (.tmp 162)) (y := (.tmp 163)) d_3) (And.intro (bool_neq (P := Try.prog) (t := 4) (x := (.tmp 167)) (y := (.tmp 168)) Try.underlying4 d_4) (And.intro (agg_29_neq (x := (.tmp 172)) (y := (.tmp 173)) d_5) (And.intro (bool_neq (P := Try.prog) (t := 4) (x := (.tmp 177)) (y := (.tmp 178)) Try.underlying4 d_6) (And.intro (agg_29_neq (x := (.tmp 182)) (y := (.tmp 183)) d_7) (And.intro (bool_neq (P := Try.prog) (t := 4) (x := (.tmp 187)) (y := (.tmp 188)) Try.underlying4 d_8) (And.intro (agg_29_neq (x := (.tmp 192)) (y := (.tmp 193)) d_9) (And.intro (bool_neq (P := Try.prog) (t := 4) (x := (.tmp 197)) (y := (.tmp 198)) Try.underlying4 d_10) (And.intro (int_neq (P := Try.prog) (t := 3) (k := .i64) (x := (.tmp 202)) (y := (.tmp 203)) d_11) (And.intro (bool_neq (P := Try.prog) (t := 4) (x := (.tmp 207)) (y := (.tmp 208)) Try.underlying4 d_12) (And.intro (bool_neq (P := Try.prog) (t := 4) (x := (.tmp 212)) (y := (.tmp 213)) Try.underlying4 d_13) (And.intro (bool_neq (P := Try.prog) (t := 4) (x := (.tmp 217)) (y := (.tmp 218)) Try.underlying4 d_14) (And.intro (bool_neq (P := Try.prog) (t := 4) (x := (.tmp 222)) (y := (.tmp 223)) Try.underlying4 d_15) (bool_neq (P := Try.prog) (t := 4) (x := (.tmp 227)) (y := (.tmp 228)) Try.underlying4 d_16))))))))))))))))) (And.intro (And.intro (And.intro (rfl : some (.sl (l1.map fun z_ => .val (.int .u8 z_)) : AV) = some _) (And.intro (rfl : some (.val (.bool false) : AV) = some _) (And.intro (rfl : some (.val (.int .i64 r1_1) : AV) = some _) (And.intro (rfl : some (.val (.int .i64 r2_1) : AV) = some _) (And.intro (rfl : some (.val (.int .i64 r1_2) : AV) = some _) (And.intro (rfl : some (.box (.agg [.val (.int .i64 r1_4), .val (.int .i64 r2_4)]) : AV) = some _) (And.intro (rfl : some (.box (.agg [.val (.int .i64 r1_6), .val (.int .i64 r2_6)]) : AV) = some _) (And.intro (rfl : some (.box (.agg [.val (.int .i64 r1_8), .val (.int .i64 r2_8)]) : AV) = some _) (And.intro (rfl : some (.box (.agg [.val (.int .i64 r1_10), .val (.int .i64 r2_10)]) : AV) = some _) (And.intro (rfl : some (.val (.int .i64 r1_12) : AV) = some _) (And.intro (rfl : some (.val (.bool r2_2) : AV) = some _) True.intro))))))))))) c_111111111111111101) (And.intro (ad_25 h_14) (And.intro (ad_21 h_15) (And.intro (ad_26 h_16) (And.intro (And.intro (bool_neq (P := Try.prog) (t := 4) (x := (.tmp 497)) (y := (.tmp 498)) Try.underlying4 d_17) (agg_29_neq (x := (.tmp 501)) (y := (.tmp 502)) d_18)) (And.intro (int_gtr (P := Try.prog) (t := 3) (k := .i64) (x := (.tmp 507)) (y := (.const (.int .i64 0))) d_19) (And.intro (And.intro (rfl : some (.val (.int .i64 r1_14) : AV) = some _) (And.intro (rfl : some (.val (.int .i64 r2_14) : AV) = some _) (And.intro (rfl : some (.val (.int .i64 r3_14) : AV) = some _) (And.intro (rfl : some (.box (.agg [.val (.int .i64 r1_15), .val (.int .i64 r2_15)]) : AV) = some _) (And.intro (rfl : some (.val (.bool v19) : AV) = some _) True.intro))))) c_11111111111111111111101)))))))))))))))))))))))) (by kernel_rfl))

set_option maxRecDepth 100000 in
theorem p_main2 (l0 : List Int) (l1 : List Int) (r1_1 : Int) (r2_1 : Int) (r1_2 : Int) (r2_2 : Bool) (k_2 : Nat) (r1_3 : Int) (r2_3 : Bool) (k_3 : Nat) (r1_4 : Int) (r2_4 : Int) (r3_4 : Bool) (k_4 : Nat) (r1_5 : Int) (r2_5 : Int) (r3_5 : Bool) (k_5 : Nat) (r1_6 : Int) (r2_6 : Int) (r3_6 : Bool) (k_6 : Nat) (r1_7 : Int) (r2_7 : Int) (r3_7 : Bool) (k_7 : Nat) (r1_8 : Int) (r2_8 : Int) (r3_8 : Bool) (r1_9 : Int) (r2_9 : Int) (r3_9 : Bool) (r1_10 : Int) (r2_10 : Int) (r3_10 : Bool) (k_10 : Nat) (r1_11 : Int) (r2_11 : Int) (r3_11 : Bool) (k_11 : Nat) (r1_12 : Int) (r2_12 : Bool) (k_12 : Nat) (r1_13 : Int) (r2_13 : Bool) (k_13 : Nat) (r1_14 : Int) (r2_14 : Int) (r3_14 : Int) (r1_15 : Int) (r2_15 : Int) (k_15 : Nat) (r1_16 : Int) (r2_16 : Int) (r3_16 : Bool) (k_16 : Nat)
    (h_0 : laws_big.f l0 l1 = some false)
    (h_1 : spec_DrawCountHands.f l0 = some (r1_1, r2_1))
    (h_2 : impl_CountHands.f k_2 r1_1 r2_1 = some (r1_2, r2_2))
    (h_3 : spec_CountHands.f k_3 r1_1 r2_1 = some (r1_3, r2_3))
    (h_4 : impl_ChanceOfTile.f k_4 r1_1 r2_1 = some (r1_4, r2_4, r3_4))
    (h_5 : spec_ChanceOfTile.f k_5 r1_1 r2_1 = some (r1_5, r2_5, r3_5))
    (h_6 : impl_DoublesMean.f k_6 r1_1 r2_1 = some (r1_6, r2_6, r3_6))
    (h_7 : spec_DoublesMean.f k_7 r1_1 r2_1 = some (r1_7, r2_7, r3_7))
    (h_8 : impl_PipsMean.f r1_1 r2_1 = some (r1_8, r2_8, r3_8))
    (h_9 : spec_PipsMean.f r1_1 r2_1 = some (r1_9, r2_9, r3_9))
    (h_10 : impl_ChanceOfOpening.f k_10 r1_1 r2_1 = some (r1_10, r2_10, r3_10))
    (h_11 : spec_ChanceOfOpening.f k_11 r1_1 r2_1 = some (r1_11, r2_11, r3_11))
    (h_12 : impl_LikeliestPips.f k_12 r1_1 r2_1 = some (r1_12, r2_12))
    (h_13 : spec_LikeliestPips.f k_13 r1_1 r2_1 = some (r1_13, r2_13))
    (d_0 : (!(r2_2 == r2_3)) = false)
    (d_1 : (!(r1_2 == r1_3)) = false)
    (d_2 : (!(r3_4 == r3_5)) = false)
    (d_3 : (!((r1_4 == r1_5) && (r2_4 == r2_5))) = false)
    (d_4 : (!(r3_6 == r3_7)) = false)
    (d_5 : (!((r1_6 == r1_7) && (r2_6 == r2_7))) = false)
    (d_6 : (!(r3_8 == r3_9)) = false)
    (d_7 : (!((r1_8 == r1_9) && (r2_8 == r2_9))) = false)
    (d_8 : (!(r3_10 == r3_11)) = false)
    (d_9 : (!((r1_10 == r1_11) && (r2_10 == r2_11))) = false)
    (d_10 : (!(r2_12 == r2_13)) = false)
    (d_11 : (!(r1_12 == r1_13)) = false)
    (d_12 : (!(r3_4 == r2_2)) = false)
    (d_13 : (!(r3_6 == r2_2)) = false)
    (d_14 : (!(r3_8 == r2_2)) = false)
    (d_15 : (!(r3_10 == r2_2)) = false)
    (d_16 : (!(r2_12 == r2_2)) = false)
    (h_14 : spec_DrawChanceOfTiles.f l1 = some (r1_14, r2_14, r3_14))
    (h_15 : impl_ChanceOfTiles.f k_15 r1_14 r2_14 r3_14 = some (r1_15, r2_15, false))
    (h_16 : spec_ChanceOfTiles.f k_16 r1_14 r2_14 r3_14 = some (r1_16, r2_16, r3_16))
    (d_17 : (!(false == r3_16)) = false)
    (d_18 : (!((r1_15 == r1_16) && (r2_15 == r2_16))) = false)
    (c_111111111111111101 : RunOk Try.prog 533 (nav [true, true, true, true, true, true, true, true, true, true, true, true, true, true, true, true, false, true] (bodyOf Try.f3)) (lookA [(1, .sl (l1.map fun z_ => .val (.int .u8 z_))), (4, .val (.bool false)), (5, .val (.int .i64 r1_1)), (6, .val (.int .i64 r2_1)), (7, .val (.int .i64 r1_2)), (11, .box (.agg [.val (.int .i64 r1_4), .val (.int .i64 r2_4)])), (15, .box (.agg [.val (.int .i64 r1_6), .val (.int .i64 r2_6)])), (19, .box (.agg [.val (.int .i64 r1_8), .val (.int .i64 r2_8)])), (23, .box (.agg [.val (.int .i64 r1_10), .val (.int .i64 r2_10)])), (27, .val (.int .i64 r1_12)), (231, .val (.bool r2_2))]) .normal (lookA [(1, .sl (l1.map fun z_ => .val (.int .u8 z_))), (4, .val (.bool false))]))
    (c_11111111111111111111101 : RunOk Try.prog 533 (nav [true, true, true, true, true, true, true, true, true, true, true, true, true, true, true, true, true, true, true, true, true, false, true] (bodyOf Try.f3)) (lookA [(59, .val (.int .i64 r1_14)), (60, .val (.int .i64 r2_14)), (61, .val (.int .i64 r3_14)), (62, .box (.agg [.val (.int .i64 r1_15), .val (.int .i64 r2_15)])), (509, .val (.bool false))]) .normal (lookA [])) : RunOk Try.prog 533 (bodyOf Try.f3) (lookA [(0, .sl (l0.map fun z_ => .val (.int .u8 z_))), (1, .sl (l1.map fun z_ => .val (.int .u8 z_)))]) .ret (lookA [(4, .val (.bool true))]) :=
  Goal.ok (fl := flOf [(315, 15, 0), (320, 15, 1), (521, 62, 0), (523, 66, 1), (526, 66, 0), (528, 62, 1)]) (s := [.call (.val (.bool false)),
    .go,
    .call (.tup [.val (.int .i64 r1_1), .val (.int .i64 r2_1)]),
    .call (.tup [.val (.int .i64 r1_2), .val (.bool r2_2)]),
    .call (.tup [.val (.int .i64 r1_3), .val (.bool r2_3)]),
    .call (.tup [.agg [.val (.int .i64 r1_4), .val (.int .i64 r2_4)], .val (.bool r3_4)]),
    .call (.tup [.agg [.val (.int .i64 r1_5), .val (.int .i64 r2_5)], .val (.bool r3_5)]),
    .call (.tup [.agg [.val (.int .i64 r1_6), .val (.int .i64 r2_6)], .val (.bool r3_6)]),
    .call (.tup [.agg [.val (.int .i64 r1_7), .val (.int .i64 r2_7)], .val (.bool r3_7)]),
    .call (.tup [.agg [.val (.int .i64 r1_8), .val (.int .i64 r2_8)], .val (.bool r3_8)]),
    .call (.tup [.agg [.val (.int .i64 r1_9), .val (.int .i64 r2_9)], .val (.bool r3_9)]),
    .call (.tup [.agg [.val (.int .i64 r1_10), .val (.int .i64 r2_10)], .val (.bool r3_10)]),
    .call (.tup [.agg [.val (.int .i64 r1_11), .val (.int .i64 r2_11)], .val (.bool r3_11)]),
    .call (.tup [.val (.int .i64 r1_12), .val (.bool r2_12)]),
    .call (.tup [.val (.int .i64 r1_13), .val (.bool r2_13)]),
    .val (.bool false),
    .val (.bool false),
    .val (.bool false),
    .val (.bool false),
    .val (.bool false),
    .val (.bool false),
    .val (.bool false),
    .val (.bool false),
    .val (.bool false),
    .val (.bool false),
    .val (.bool false),
    .val (.bool false),
    .val (.bool false),
    .val (.bool false),
    .val (.bool false),
    .val (.bool false),
    .val (.bool false),
    .go,
    .cutC .normal [(1, .sl (l1.map fun z_ => .val (.int .u8 z_))), (4, .val (.bool false)), (5, .val (.int .i64 r1_1)), (6, .val (.int .i64 r2_1)), (7, .val (.int .i64 r1_2)), (11, .box (.agg [.val (.int .i64 r1_4), .val (.int .i64 r2_4)])), (15, .box (.agg [.val (.int .i64 r1_6), .val (.int .i64 r2_6)])), (19, .box (.agg [.val (.int .i64 r1_8), .val (.int .i64 r2_8)])), (23, .box (.agg [.val (.int .i64 r1_10), .val (.int .i64 r2_10)])), (27, .val (.int .i64 r1_12)), (231, .val (.bool r2_2))] [(1, .sl (l1.map fun z_ => .val (.int .u8 z_))), (4, .val (.bool false))],
    .call (.tup [.val (.int .i64 r1_14), .val (.int .i64 r2_14), .val (.int .i64 r3_14)]),
    .call (.tup [.agg [.val (.int .i64 r1_15), .val (.int .i64 r2_15)], .val (.bool false)]),
    .call (.tup [.agg [.val (.int .i64 r1_16), .val (.int .i64 r2_16)], .val (.bool r3_16)]),
    .val (.bool false),
    .val (.bool false),
    .go,
    .cutC .normal [(59, .val (.int .i64 r1_14)), (60, .val (.int .i64 r2_14)), (61, .val (.int .i64 r3_14)), (62, .box (.agg [.val (.int .i64 r1_15), .val (.int .i64 r2_15)])), (509, .val (.bool false))] []]) rfl (of_eq (And.intro (rfl : (.ret : Ex) = _) (And.intro (And.intro (rfl : some (.val (.bool true) : AV) = some _) True.intro) (And.intro (ad_4 h_0) (And.intro (ad_5 h_1) (And.intro (ad_6 h_2) (And.intro (ad_7 h_3) (And.intro (ad_8 h_4) (And.intro (ad_9 h_5) (And.intro (ad_10 h_6) (And.intro (ad_11 h_7) (And.intro (ad_12 h_8) (And.intro (ad_13 h_9) (And.intro (ad_14 h_10) (And.intro (ad_15 h_11) (And.intro (ad_16 h_12) (And.intro (ad_17 h_13) (And.intro (And.intro (bool_neq (P := Try.prog) (t := 4) (x := (.tmp 148)) (y := (.tmp 149)) Try.underlying4 d_0) (And.intro (int_neq (P := Try.prog) (t := 3) (k := .i64) (x := (.tmp 152)) (y := (.tmp 153)) d_1) (And.intro (bool_neq (P := Try.prog) (t := 4) (x := (.tmp 157)) (y := (.tmp 158)) Try.underlying4 d_2) (And.intro (agg_29_neq (x := (.tmp 162)) (y := (.tmp 163)) d_3) (And.intro (bool_neq (P := Try.prog) (t := 4) (x := (.tmp 167)) (y := (.tmp 168)) Try.underlying4 d_4) (And.intro (agg_29_neq (x := (.tmp 172)) (y := (.tmp 173)) d_5) (And.intro (bool_neq (P := Try.prog) (t := 4) (x := (.tmp 177)) (y := (.tmp 178)) Try.underlying4 d_6) (And.intro (agg_29_neq (x := (.tmp 182)) (y := (.tmp 183)) d_7) (And.intro (bool_neq (P := Try.prog) (t := 4) (x := (.tmp 187)) (y := (.tmp 188)) Try.underlying4 d_8) (And.intro (agg_29_neq (x := (.tmp 192)) (y := (.tmp 193)) d_9) (And.intro (bool_neq (P := Try.prog) (t := 4) (x := (.tmp 197)) (y := (.tmp 198)) Try.underlying4 d_10) (And.intro (int_neq (P := Try.prog) (t := 3) (k := .i64) (x := (.tmp 202)) (y := (.tmp 203)) d_11) (And.intro (bool_neq (P := Try.prog) (t := 4) (x := (.tmp 207)) (y := (.tmp 208)) Try.underlying4 d_12) (And.intro (bool_neq (P := Try.prog) (t := 4) (x := (.tmp 212)) (y := (.tmp 213)) Try.underlying4 d_13) (And.intro (bool_neq (P := Try.prog) (t := 4) (x := (.tmp 217)) (y := (.tmp 218)) Try.underlying4 d_14) (And.intro (bool_neq (P := Try.prog) (t := 4) (x := (.tmp 222)) (y := (.tmp 223)) Try.underlying4 d_15) (bool_neq (P := Try.prog) (t := 4) (x := (.tmp 227)) (y := (.tmp 228)) Try.underlying4 d_16))))))))))))))))) (And.intro (And.intro (And.intro (rfl : some (.sl (l1.map fun z_ => .val (.int .u8 z_)) : AV) = some _) (And.intro (rfl : some (.val (.bool false) : AV) = some _) (And.intro (rfl : some (.val (.int .i64 r1_1) : AV) = some _) (And.intro (rfl : some (.val (.int .i64 r2_1) : AV) = some _) (And.intro (rfl : some (.val (.int .i64 r1_2) : AV) = some _) (And.intro (rfl : some (.box (.agg [.val (.int .i64 r1_4), .val (.int .i64 r2_4)]) : AV) = some _) (And.intro (rfl : some (.box (.agg [.val (.int .i64 r1_6), .val (.int .i64 r2_6)]) : AV) = some _) (And.intro (rfl : some (.box (.agg [.val (.int .i64 r1_8), .val (.int .i64 r2_8)]) : AV) = some _) (And.intro (rfl : some (.box (.agg [.val (.int .i64 r1_10), .val (.int .i64 r2_10)]) : AV) = some _) (And.intro (rfl : some (.val (.int .i64 r1_12) : AV) = some _) (And.intro (rfl : some (.val (.bool r2_2) : AV) = some _) True.intro))))))))))) c_111111111111111101) (And.intro (ad_25 h_14) (And.intro (ad_21 h_15) (And.intro (ad_26 h_16) (And.intro (And.intro (bool_neq (P := Try.prog) (t := 4) (x := (.tmp 497)) (y := (.tmp 498)) Try.underlying4 d_17) (agg_29_neq (x := (.tmp 501)) (y := (.tmp 502)) d_18)) (And.intro (And.intro (rfl : some (.val (.int .i64 r1_14) : AV) = some _) (And.intro (rfl : some (.val (.int .i64 r2_14) : AV) = some _) (And.intro (rfl : some (.val (.int .i64 r3_14) : AV) = some _) (And.intro (rfl : some (.box (.agg [.val (.int .i64 r1_15), .val (.int .i64 r2_15)]) : AV) = some _) (And.intro (rfl : some (.val (.bool false) : AV) = some _) True.intro))))) c_11111111111111111111101))))))))))))))))))))))) (by kernel_rfl))

set_option maxRecDepth 100000 in
theorem p_big (l0 : List Int) (l1 : List Int)
    (h_0 : laws_big.f l0 l1 = some true)
     : RunOk Try.prog 533 (bodyOf Try.f3) (lookA [(0, .sl (l0.map fun z_ => .val (.int .u8 z_))), (1, .sl (l1.map fun z_ => .val (.int .u8 z_)))]) .ret (lookA [(4, .val (.bool true))]) :=
  Goal.ok (fl := flOf [(315, 15, 0), (320, 15, 1), (521, 62, 0), (523, 66, 1), (526, 66, 0), (528, 62, 1)]) (s := [.call (.val (.bool true)),
    .go]) rfl (of_eq (And.intro (rfl : (.ret : Ex) = _) (And.intro (And.intro (rfl : some (.val (.bool true) : AV) = some _) True.intro) (ad_4 h_0))) (by kernel_rfl))

set_option maxRecDepth 100000 in
theorem p_Bn (l1 : List Int) (n : Int) (q : Int) (c : Int) (ta : Int) (tb : Int) (ma : Int) (mb : Int) (pa : Int) (pb : Int) (oa : Int) (ob : Int) (m : Int)
    
     : RunOk Try.prog 533 (nav [true, true, true, true, true, true, true, true, true, true, true, true, true, true, true, true, false, true] (bodyOf Try.f3)) (lookA [(1, .sl (l1.map fun z_ => .val (.int .u8 z_))), (4, .val (.bool false)), (5, .val (.int .i64 n)), (6, .val (.int .i64 q)), (7, .val (.int .i64 c)), (11, .box (.agg [.val (.int .i64 ta), .val (.int .i64 tb)])), (15, .box (.agg [.val (.int .i64 ma), .val (.int .i64 mb)])), (19, .box (.agg [.val (.int .i64 pa), .val (.int .i64 pb)])), (23, .box (.agg [.val (.int .i64 oa), .val (.int .i64 ob)])), (27, .val (.int .i64 m)), (231, .val (.bool false))]) .normal (lookA [(1, .sl (l1.map fun z_ => .val (.int .u8 z_))), (4, .val (.bool false))]) :=
  Goal.ok (fl := flOf [(315, 15, 0), (320, 15, 1), (521, 62, 0), (523, 66, 1), (526, 66, 0), (528, 62, 1)]) (s := [.go]) rfl (of_eq (And.intro (rfl : (.normal : Ex) = _) (And.intro (And.intro (rfl : some (.sl (l1.map fun z_ => .val (.int .u8 z_)) : AV) = some _) (And.intro (rfl : some (.val (.bool false) : AV) = some _) True.intro)) True.intro)) (by kernel_rfl))

set_option maxRecDepth 100000 in
theorem p_By (l1 : List Int) (n : Int) (q : Int) (c : Int) (ta : Int) (tb : Int) (ma : Int) (mb : Int) (pa : Int) (pb : Int) (oa : Int) (ob : Int) (m : Int) (s_l0 : Int) (t_l0 : Int) (i_l0 : Int) (r1_0 : Int) (r2_0 : Int) (k_0 : Nat) (r1_1 : Int) (r2_1 : Int) (k_1 : Nat) (r1_2 : Int) (r2_2 : Int) (k_2 : Nat) (r1_3 : Int) (r2_3 : Int) (k_3 : Nat) (r1_4 : Int) (r2_4 : Int) (k_4 : Nat) (r_5 : Int) (r_6 : Int) (r1_7 : Int) (k_7 : Nat) (r1_8 : Int) (k_8 : Nat) (v9 : Bool)
    (h_0 : impl_ChanceOfDoubles.f k_0 n q 0 = some (r1_0, r2_0, true))
    (h_1 : impl_ChanceOfTiles.f k_1 n q 1 = some (r1_1, r2_1, true))
    (h_2 : impl_ChanceWithout.f k_2 n q 0 = some (r1_2, r2_2, true))
    (h_3 : impl_ChanceWithout.f k_3 n q 1 = some (r1_3, r2_3, true))
    (h_4 : impl_ChanceOfTimes.f k_4 n q 0 = some (r1_4, r2_4, true))
    (d_0 : (!(s_l0 == c)) = false)
    (d_1 : (!((IntKind.wrap .i64 (ma * c)) == (IntKind.wrap .i64 (t_l0 * mb)))) = false)
    (h_5 : laws_iTimes.f r1_0 r2_0 c = some r_5)
    (h_6 : laws_iTimes.f oa ob c = some r_6)
    (d_2 : (!((IntKind.wrap .i64 (r_5 + r_6)) == c)) = false)
    (d_3 : (!((r1_1 == ta) && (r2_1 == tb))) = false)
    (d_4 : (!((r1_2 == 1) && (r2_2 == 1))) = false)
    (d_5 : (!((r1_3 == r1_4) && (r2_3 == r2_4))) = false)
    (d_6 : (!((pa == (IntKind.wrap .i64 (q * n))) && (pb == 1))) = false)
    (h_7 : impl_CountWithPips.f k_7 n q m = some (r1_7, true))
    (h_8 : impl_CountWithPips.f k_8 n q (IntKind.wrap .i64 (m + 1)) = some (r1_8, true))
    (d_7 : decide (r1_7 < r1_8) = false)
    (d_8 : decide (r1_7 < 1) = false)
    (d_9 : decide (n ≤ 3) = v9)
    (c_11111111111111110101010 : RunOk Try.prog 533 (nav [true, true, true, true, true, true, true, true, true, true, true, true, true, true, true, true, false, true, false, true, false, true, false] (bodyOf Try.f3)) (lookA [(1, .sl (l1.map fun z_ => .val (.int .u8 z_))), (4, .val (.bool false)), (5, .val (.int .i64 n)), (6, .val (.int .i64 q)), (7, .val (.int .i64 c)), (11, .box (.agg [.val (.int .i64 ta), .val (.int .i64 tb)])), (15, .box (.agg [.val (.int .i64 ma), .val (.int .i64 mb)])), (19, .box (.agg [.val (.int .i64 pa), .val (.int .i64 pb)])), (23, .box (.agg [.val (.int .i64 oa), .val (.int .i64 ob)])), (27, .val (.int .i64 m)), (31, .val (.int .i64 0)), (32, .val (.int .i64 0)), (33, .val (.int .i64 0))]) (.exit 0) (lookA [(1, .sl (l1.map fun z_ => .val (.int .u8 z_))), (4, .val (.bool false)), (5, .val (.int .i64 n)), (6, .val (.int .i64 q)), (7, .val (.int .i64 c)), (11, .box (.agg [.val (.int .i64 ta), .val (.int .i64 tb)])), (15, .box (.agg [.val (.int .i64 ma), .val (.int .i64 mb)])), (19, .box (.agg [.val (.int .i64 pa), .val (.int .i64 pb)])), (23, .box (.agg [.val (.int .i64 oa), .val (.int .i64 ob)])), (27, .val (.int .i64 m)), (31, .val (.int .i64 s_l0)), (32, .val (.int .i64 t_l0)), (33, .val (.int .i64 i_l0))]))
    (c_1111111111111111010111111111111 : RunOk Try.prog 533 (nav [true, true, true, true, true, true, true, true, true, true, true, true, true, true, true, true, false, true, false, true, true, true, true, true, true, true, true, true, true, true, true] (bodyOf Try.f3)) (lookA [(1, .sl (l1.map fun z_ => .val (.int .u8 z_))), (4, .val (.bool false)), (5, .val (.int .i64 n)), (6, .val (.int .i64 q)), (7, .val (.int .i64 c)), (27, .val (.int .i64 m)), (48, .val (.int .i64 r1_7)), (410, .val (.bool v9))]) .normal (lookA [(1, .sl (l1.map fun z_ => .val (.int .u8 z_))), (4, .val (.bool false))])) : RunOk Try.prog 533 (nav [true, true, true, true, true, true, true, true, true, true, true, true, true, true, true, true, false, true] (bodyOf Try.f3)) (lookA [(1, .sl (l1.map fun z_ => .val (.int .u8 z_))), (4, .val (.bool false)), (5, .val (.int .i64 n)), (6, .val (.int .i64 q)), (7, .val (.int .i64 c)), (11, .box (.agg [.val (.int .i64 ta), .val (.int .i64 tb)])), (15, .box (.agg [.val (.int .i64 ma), .val (.int .i64 mb)])), (19, .box (.agg [.val (.int .i64 pa), .val (.int .i64 pb)])), (23, .box (.agg [.val (.int .i64 oa), .val (.int .i64 ob)])), (27, .val (.int .i64 m)), (231, .val (.bool true))]) .normal (lookA [(1, .sl (l1.map fun z_ => .val (.int .u8 z_))), (4, .val (.bool false))]) :=
  Goal.ok (fl := flOf [(315, 15, 0), (320, 15, 1), (521, 62, 0), (523, 66, 1), (526, 66, 0), (528, 62, 1)]) (s := [.go,
    .cutL (.exit 0) [(1, .sl (l1.map fun z_ => .val (.int .u8 z_))), (4, .val (.bool false)), (5, .val (.int .i64 n)), (6, .val (.int .i64 q)), (7, .val (.int .i64 c)), (11, .box (.agg [.val (.int .i64 ta), .val (.int .i64 tb)])), (15, .box (.agg [.val (.int .i64 ma), .val (.int .i64 mb)])), (19, .box (.agg [.val (.int .i64 pa), .val (.int .i64 pb)])), (23, .box (.agg [.val (.int .i64 oa), .val (.int .i64 ob)])), (27, .val (.int .i64 m)), (31, .val (.int .i64 0)), (32, .val (.int .i64 0)), (33, .val (.int .i64 0))] [(1, .sl (l1.map fun z_ => .val (.int .u8 z_))), (4, .val (.bool false)), (5, .val (.int .i64 n)), (6, .val (.int .i64 q)), (7, .val (.int .i64 c)), (11, .box (.agg [.val (.int .i64 ta), .val (.int .i64 tb)])), (15, .box (.agg [.val (.int .i64 ma), .val (.int .i64 mb)])), (19, .box (.agg [.val (.int .i64 pa), .val (.int .i64 pb)])), (23, .box (.agg [.val (.int .i64 oa), .val (.int .i64 ob)])), (27, .val (.int .i64 m)), (31, .val (.int .i64 s_l0)), (32, .val (.int .i64 t_l0)), (33, .val (.int .i64 i_l0))],
    .call (.tup [.agg [.val (.int .i64 r1_0), .val (.int .i64 r2_0)], .val (.bool true)]),
    .call (.tup [.agg [.val (.int .i64 r1_1), .val (.int .i64 r2_1)], .val (.bool true)]),
    .call (.tup [.agg [.val (.int .i64 r1_2), .val (.int .i64 r2_2)], .val (.bool true)]),
    .call (.tup [.agg [.val (.int .i64 r1_3), .val (.int .i64 r2_3)], .val (.bool true)]),
    .call (.tup [.agg [.val (.int .i64 r1_4), .val (.int .i64 r2_4)], .val (.bool true)]),
    .val (.bool false),
    .val (.bool false),
    .call (.val (.int .i64 r_5)),
    .call (.val (.int .i64 r_6)),
    .val (.bool false),
    .val (.bool false),
    .elem (.agg [.val (.int .i64 1), .val (.int .i64 1)]),
    .val (.bool false),
    .val (.bool false),
    .elem (.agg [.val (.int .i64 (IntKind.wrap .i64 (q * n))), .val (.int .i64 1)]),
    .val (.bool false),
    .go,
    .call (.tup [.val (.int .i64 r1_7), .val (.bool true)]),
    .call (.tup [.val (.int .i64 r1_8), .val (.bool true)]),
    .val (.bool false),
    .val (.bool false),
    .go,
    .val (.bool v9),
    .cutC .normal [(1, .sl (l1.map fun z_ => .val (.int .u8 z_))), (4, .val (.bool false)), (5, .val (.int .i64 n)), (6, .val (.int .i64 q)), (7, .val (.int .i64 c)), (27, .val (.int .i64 m)), (48, .val (.int .i64 r1_7)), (410, .val (.bool v9))] [(1, .sl (l1.map fun z_ => .val (.int .u8 z_))), (4, .val (.bool false))]]) rfl (of_eq (And.intro (rfl : (.normal : Ex) = _) (And.intro (And.intro (rfl : some (.sl (l1.map fun z_ => .val (.int .u8 z_)) : AV) = some _) (And.intro (rfl : some (.val (.bool false) : AV) = some _) True.intro)) (And.intro (And.intro (And.intro (rfl : some (.sl (l1.map fun z_ => .val (.int .u8 z_)) : AV) = some _) (And.intro (rfl : some (.val (.bool false) : AV) = some _) (And.intro (rfl : some (.val (.int .i64 n) : AV) = some _) (And.intro (rfl : some (.val (.int .i64 q) : AV) = some _) (And.intro (rfl : some (.val (.int .i64 c) : AV) = some _) (And.intro (rfl : some (.box (.agg [.val (.int .i64 ta), .val (.int .i64 tb)]) : AV) = some _) (And.intro (rfl : some (.box (.agg [.val (.int .i64 ma), .val (.int .i64 mb)]) : AV) = some _) (And.intro (rfl : some (.box (.agg [.val (.int .i64 pa), .val (.int .i64 pb)]) : AV) = some _) (And.intro (rfl : some (.box (.agg [.val (.int .i64 oa), .val (.int .i64 ob)]) : AV) = some _) (And.intro (rfl : some (.val (.int .i64 m) : AV) = some _) (And.intro (rfl : some (.val (.int .i64 0) : AV) = some _) (And.intro (rfl : some (.val (.int .i64 0) : AV) = some _) (And.intro (rfl : some (.val (.int .i64 0) : AV) = some _) True.intro))))))))))))) c_11111111111111110101010) (And.intro (ad_18 h_0) (And.intro (ad_21 h_1) (And.intro (ad_22 h_2) (And.intro (ad_22 h_3) (And.intro (ad_19 h_4) (And.intro (And.intro (int_neq (P := Try.prog) (t := 3) (k := .i64) (x := (.tmp 311)) (y := (.tmp 312)) d_0) (And.intro (int_neq (P := Try.prog) (t := 3) (k := .i64) (x := (.tmp 318)) (y := (.tmp 322)) d_1) (And.intro (ad_20 h_5) (And.intro (ad_20 h_6) (And.intro (int_neq (P := Try.prog) (t := 3) (k := .i64) (x := (.tmp 336)) (y := (.tmp 337)) d_2) (And.intro (agg_29_neq (x := (.tmp 345)) (y := (.tmp 346)) d_3) (And.intro (build_29_2 (p0 := 1) (p1 := 1)) (And.intro (agg_29_neq (x := (.tmp 354)) (y := (.tmp 355)) d_4) (And.intro (agg_29_neq (x := (.tmp 367)) (y := (.tmp 368)) d_5) (And.intro (build_29_2 (p0 := (IntKind.wrap .i64 (q * n))) (p1 := 1)) (agg_29_neq (x := (.tmp 372)) (y := (.tmp 376)) d_6))))))))))) (And.intro (ad_23 h_7) (And.intro (ad_23 h_8) (And.intro (And.intro (int_lss (P := Try.prog) (t := 3) (k := .i64) (x := (.tmp 401)) (y := (.tmp 402)) d_7) (int_lss (P := Try.prog) (t := 3) (k := .i64) (x := (.tmp 406)) (y := (.const (.int .i64 1))) d_8)) (And.intro (int_leq (P := Try.prog) (t := 3) (k := .i64) (x := (.tmp 409)) (y := (.const (.int .i64 3))) d_9) (And.intro (And.intro (rfl : some (.sl (l1.map fun z_ => .val (.int .u8 z_)) : AV) = some _) (And.intro (rfl : some (.val (.bool false) : AV) = some _) (And.intro (rfl : some (.val (.int .i64 n) : AV) = some _) (And.intro (rfl : some (.val (.int .i64 q) : AV) = some _) (And.intro (rfl : some (.val (.int .i64 c) : AV) = some _) (And.intro (rfl : some (.val (.int .i64 m) : AV) = some _) (And.intro (rfl : some (.val (.int .i64 r1_7) : AV) = some _) (And.intro (rfl : some (.val (.bool v9) : AV) = some _) True.intro)))))))) c_1111111111111111010111111111111)))))))))))))) (by kernel_rfl))

set_option maxRecDepth 100000 in
theorem p_En (l1 : List Int) (n : Int) (q : Int) (c : Int) (m : Int) (best : Int)
    
     : RunOk Try.prog 533 (nav [true, true, true, true, true, true, true, true, true, true, true, true, true, true, true, true, false, true, false, true, true, true, true, true, true, true, true, true, true, true, true] (bodyOf Try.f3)) (lookA [(1, .sl (l1.map fun z_ => .val (.int .u8 z_))), (4, .val (.bool false)), (5, .val (.int .i64 n)), (6, .val (.int .i64 q)), (7, .val (.int .i64 c)), (27, .val (.int .i64 m)), (48, .val (.int .i64 best)), (410, .val (.bool false))]) .normal (lookA [(1, .sl (l1.map fun z_ => .val (.int .u8 z_))), (4, .val (.bool false))]) :=
  Goal.ok (fl := flOf [(315, 15, 0), (320, 15, 1), (521, 62, 0), (523, 66, 1), (526, 66, 0), (528, 62, 1)]) (s := [.go]) rfl (of_eq (And.intro (rfl : (.normal : Ex) = _) (And.intro (And.intro (rfl : some (.sl (l1.map fun z_ => .val (.int .u8 z_)) : AV) = some _) (And.intro (rfl : some (.val (.bool false) : AV) = some _) True.intro)) True.intro)) (by kernel_rfl))

set_option maxRecDepth 100000 in
theorem p_Ey (l1 : List Int) (n : Int) (q : Int) (c : Int) (m : Int) (best : Int) (s_l1 : Int) (t_l1 : Int) (i_l1 : Int)
    (d_0 : (!(s_l1 == c)) = false)
    (d_1 : (!(t_l1 == (IntKind.wrap .i64 ((IntKind.wrap .i64 (c * q)) * n)))) = false)
    (c_111111111111111101011111111111101010 : RunOk Try.prog 533 (nav [true, true, true, true, true, true, true, true, true, true, true, true, true, true, true, true, false, true, false, true, true, true, true, true, true, true, true, true, true, true, true, false, true, false, true, false] (bodyOf Try.f3)) (lookA [(1, .sl (l1.map fun z_ => .val (.int .u8 z_))), (4, .val (.bool false)), (5, .val (.int .i64 n)), (6, .val (.int .i64 q)), (7, .val (.int .i64 c)), (27, .val (.int .i64 m)), (48, .val (.int .i64 best)), (52, .val (.int .i64 0)), (53, .val (.int .i64 0)), (54, .val (.int .i64 0))]) (.exit 2) (lookA [(1, .sl (l1.map fun z_ => .val (.int .u8 z_))), (4, .val (.bool false)), (5, .val (.int .i64 n)), (6, .val (.int .i64 q)), (7, .val (.int .i64 c)), (27, .val (.int .i64 m)), (48, .val (.int .i64 best)), (52, .val (.int .i64 s_l1)), (53, .val (.int .i64 t_l1)), (54, .val (.int .i64 i_l1))])) : RunOk Try.prog 533 (nav [true, true, true, true, true, true, true, true, true, true, true, true, true, true, true, true, false, true, false, true, true, true, true, true, true, true, true, true, true, true, true] (bodyOf Try.f3)) (lookA [(1, .sl (l1.map fun z_ => .val (.int .u8 z_))), (4, .val (.bool false)), (5, .val (.int .i64 n)), (6, .val (.int .i64 q)), (7, .val (.int .i64 c)), (27, .val (.int .i64 m)), (48, .val (.int .i64 best)), (410, .val (.bool true))]) .normal (lookA [(1, .sl (l1.map fun z_ => .val (.int .u8 z_))), (4, .val (.bool false))]) :=
  Goal.ok (fl := flOf [(315, 15, 0), (320, 15, 1), (521, 62, 0), (523, 66, 1), (526, 66, 0), (528, 62, 1)]) (s := [.go,
    .cutL (.exit 2) [(1, .sl (l1.map fun z_ => .val (.int .u8 z_))), (4, .val (.bool false)), (5, .val (.int .i64 n)), (6, .val (.int .i64 q)), (7, .val (.int .i64 c)), (27, .val (.int .i64 m)), (48, .val (.int .i64 best)), (52, .val (.int .i64 0)), (53, .val (.int .i64 0)), (54, .val (.int .i64 0))] [(1, .sl (l1.map fun z_ => .val (.int .u8 z_))), (4, .val (.bool false)), (5, .val (.int .i64 n)), (6, .val (.int .i64 q)), (7, .val (.int .i64 c)), (27, .val (.int .i64 m)), (48, .val (.int .i64 best)), (52, .val (.int .i64 s_l1)), (53, .val (.int .i64 t_l1)), (54, .val (.int .i64 i_l1))],
    .val (.bool false),
    .val (.bool false),
    .go]) rfl (of_eq (And.intro (rfl : (.normal : Ex) = _) (And.intro (And.intro (rfl : some (.sl (l1.map fun z_ => .val (.int .u8 z_)) : AV) = some _) (And.intro (rfl : some (.val (.bool false) : AV) = some _) True.intro)) (And.intro (And.intro (And.intro (rfl : some (.sl (l1.map fun z_ => .val (.int .u8 z_)) : AV) = some _) (And.intro (rfl : some (.val (.bool false) : AV) = some _) (And.intro (rfl : some (.val (.int .i64 n) : AV) = some _) (And.intro (rfl : some (.val (.int .i64 q) : AV) = some _) (And.intro (rfl : some (.val (.int .i64 c) : AV) = some _) (And.intro (rfl : some (.val (.int .i64 m) : AV) = some _) (And.intro (rfl : some (.val (.int .i64 best) : AV) = some _) (And.intro (rfl : some (.val (.int .i64 0) : AV) = some _) (And.intro (rfl : some (.val (.int .i64 0) : AV) = some _) (And.intro (rfl : some (.val (.int .i64 0) : AV) = some _) True.intro)))))))))) c_111111111111111101011111111111101010) (And.intro (int_neq (P := Try.prog) (t := 3) (k := .i64) (x := (.tmp 465)) (y := (.tmp 466)) d_0) (int_neq (P := Try.prog) (t := 3) (k := .i64) (x := (.tmp 469)) (y := (.tmp 474)) d_1))))) (by kernel_rfl))

set_option maxRecDepth 100000 in
theorem p_Dn (a : Int) (b : Int) (z : Int) (u : Int) (v : Int)
    
     : RunOk Try.prog 533 (nav [true, true, true, true, true, true, true, true, true, true, true, true, true, true, true, true, true, true, true, true, true, false, true] (bodyOf Try.f3)) (lookA [(59, .val (.int .i64 a)), (60, .val (.int .i64 b)), (61, .val (.int .i64 z)), (62, .box (.agg [.val (.int .i64 u), .val (.int .i64 v)])), (509, .val (.bool false))]) .normal (lookA []) :=
  Goal.ok (fl := flOf [(315, 15, 0), (320, 15, 1), (521, 62, 0), (523, 66, 1), (526, 66, 0), (528, 62, 1)]) (s := [.go]) rfl (of_eq (And.intro (rfl : (.normal : Ex) = _) (And.intro True.intro True.intro)) (by kernel_rfl))

set_option maxRecDepth 100000 in
theorem p_Dy (a : Int) (b : Int) (z : Int) (u : Int) (v : Int) (r1_0 : Int) (r2_0 : Int) (k_0 : Nat)
    (h_0 : impl_ChanceOfTiles.f k_0 a b (IntKind.wrap .i64 (z - 1)) = some (r1_0, r2_0, true))
    (d_0 : decide ((IntKind.wrap .i64 (u * r2_0)) > (IntKind.wrap .i64 (r1_0 * v))) = false)
     : RunOk Try.prog 533 (nav [true, true, true, true, true, true, true, true, true, true, true, true, true, true, true, true, true, true, true, true, true, false, true] (bodyOf Try.f3)) (lookA [(59, .val (.int .i64 a)), (60, .val (.int .i64 b)), (61, .val (.int .i64 z)), (62, .box (.agg [.val (.int .i64 u), .val (.int .i64 v)])), (509, .val (.bool true))]) .normal (lookA []) :=
  Goal.ok (fl := flOf [(315, 15, 0), (320, 15, 1), (521, 62, 0), (523, 66, 1), (526, 66, 0), (528, 62, 1)]) (s := [.go,
    .call (.tup [.agg [.val (.int .i64 r1_0), .val (.int .i64 r2_0)], .val (.bool true)]),
    .val (.bool false),
    .go]) rfl (of_eq (And.intro (rfl : (.normal : Ex) = _) (And.intro True.intro (And.intro (ad_21 h_0) (int_gtr (P := Try.prog) (t := 3) (k := .i64) (x := (.tmp 525)) (y := (.tmp 530)) d_0)))) (by kernel_rfl))

set_option maxRecDepth 100000 in
theorem l0_step (l1 : List Int) (n : Int) (q : Int) (c : Int) (ta : Int) (tb : Int) (ma : Int) (mb : Int) (pa : Int) (pb : Int) (oa : Int) (ob : Int) (m : Int) (a : Int) (b : Int) (i : Int) (r1_0 : Int) (r2_0 : Int) (k_0 : Nat) (r1_1 : Int) (r2_1 : Int) (k_1 : Nat) (r_2 : Int) (r_3 : Int) (r_4 : Int)
    (d_0 : decide (i ≤ (IntKind.wrap .i64 (n + 1))) = true)
    (h_0 : impl_ChanceOfDoubles.f k_0 n q i = some (r1_0, r2_0, true))
    (h_1 : impl_ChanceOfTimes.f k_1 n q i = some (r1_1, r2_1, true))
    (d_1 : (!((r1_0 == r1_1) && (r2_0 == r2_1))) = false)
    (h_2 : laws_iTimes.f r1_0 r2_0 c = some r_2)
    (d_2 : decide (r_2 < 0) = false)
    (h_3 : laws_iTimes.f r1_0 r2_0 c = some r_3)
    (h_4 : laws_iTimes.f r1_0 r2_0 c = some r_4)
     : RunOk Try.prog 533 (nav [true, true, true, true, true, true, true, true, true, true, true, true, true, true, true, true, false, true, false, true, false, true, false, false] (bodyOf Try.f3)) (lookA [(1, .sl (l1.map fun z_ => .val (.int .u8 z_))), (4, .val (.bool false)), (5, .val (.int .i64 n)), (6, .val (.int .i64 q)), (7, .val (.int .i64 c)), (11, .box (.agg [.val (.int .i64 ta), .val (.int .i64 tb)])), (15, .box (.agg [.val (.int .i64 ma), .val (.int .i64 mb)])), (19, .box (.agg [.val (.int .i64 pa), .val (.int .i64 pb)])), (23, .box (.agg [.val (.int .i64 oa), .val (.int .i64 ob)])), (27, .val (.int .i64 m)), (31, .val (.int .i64 a)), (32, .val (.int .i64 b)), (33, .val (.int .i64 i))]) .normal (lookA [(1, .sl (l1.map fun z_ => .val (.int .u8 z_))), (4, .val (.bool false)), (5, .val (.int .i64 n)), (6, .val (.int .i64 q)), (7, .val (.int .i64 c)), (11, .box (.agg [.val (.int .i64 ta), .val (.int .i64 tb)])), (15, .box (.agg [.val (.int .i64 ma), .val (.int .i64 mb)])), (19, .box (.agg [.val (.int .i64 pa), .val (.int .i64 pb)])), (23, .box (.agg [.val (.int .i64 oa), .val (.int .i64 ob)])), (27, .val (.int .i64 m)), (31, .val (.int .i64 (IntKind.wrap .i64 (a + r_3)))), (32, .val (.int .i64 (IntKind.wrap .i64 (b + (IntKind.wrap .i64 (i * r_4)))))), (33, .val (.int .i64 (IntKind.wrap .i64 (i + 1))))]) :=
  Goal.ok (fl := flOf [(315, 15, 0), (320, 15, 1), (521, 62, 0), (523, 66, 1), (526, 66, 0), (528, 62, 1)]) (s := [.val (.bool true),
    .go,
    .call (.tup [.agg [.val (.int .i64 r1_0), .val (.int .i64 r2_0)], .val (.bool true)]),
    .call (.tup [.agg [.val (.int .i64 r1_1), .val (.int .i64 r2_1)], .val (.bool true)]),
    .val (.bool false),
    .call (.val (.int .i64 r_2)),
    .val (.bool false),
    .go,
    .call (.val (.int .i64 r_3)),
    .call (.val (.int .i64 r_4))]) rfl (of_eq (And.intro (rfl : (.normal : Ex) = _) (And.intro (And.intro (rfl : some (.sl (l1.map fun z_ => .val (.int .u8 z_)) : AV) = some _) (And.intro (rfl : some (.val (.bool false) : AV) = some _) (And.intro (rfl : some (.val (.int .i64 n) : AV) = some _) (And.intro (rfl : some (.val (.int .i64 q) : AV) = some _) (And.intro (rfl : some (.val (.int .i64 c) : AV) = some _) (And.intro (rfl : some (.box (.agg [.val (.int .i64 ta), .val (.int .i64 tb)]) : AV) = some _) (And.intro (rfl : some (.box (.agg [.val (.int .i64 ma), .val (.int .i64 mb)]) : AV) = some _) (And.intro (rfl : some (.box (.agg [.val (.int .i64 pa), .val (.int .i64 pb)]) : AV) = some _) (And.intro (rfl : some (.box (.agg [.val (.int .i64 oa), .val (.int .i64 ob)]) : AV) = some _) (And.intro (rfl : some (.val (.int .i64 m) : AV) = some _) (And.intro (rfl : some (.val (.int .i64 (IntKind.wrap .i64 (a + r_3))) : AV) = some _) (And.intro (rfl : some (.val (.int .i64 (IntKind.wrap .i64 (b + (IntKind.wrap .i64 (i * r_4))))) : AV) = some _) (And.intro (rfl : some (.val (.int .i64 (IntKind.wrap .i64 (i + 1))) : AV) = some _) True.intro))))))))))))) (And.intro (int_leq (P := Try.prog) (t := 3) (k := .i64) (x := (.tmp 232)) (y := (.tmp 234)) d_0) (And.intro (ad_18 h_0) (And.intro (ad_19 h_1) (And.intro (And.intro (agg_29_neq (x := (.tmp 259)) (y := (.tmp 260)) d_1) (And.intro (ad_20 h_2) (int_lss (P := Try.prog) (t := 3) (k := .i64) (x := (.tmp 266)) (y := (.const (.int .i64 0))) d_2))) (And.intro (ad_20 h_3) (ad_20 h_4)))))))) (by kernel_rfl))

set_option maxRecDepth 100000 in
theorem l0_last (l1 : List Int) (n : Int) (q : Int) (c : Int) (ta : Int) (tb : Int) (ma : Int) (mb : Int) (pa : Int) (pb : Int) (oa : Int) (ob : Int) (m : Int) (a : Int) (b : Int) (i : Int)
    (d_0 : decide (i ≤ (IntKind.wrap .i64 (n + 1))) = false)
     : RunOk Try.prog 533 (nav [true, true, true, true, true, true, true, true, true, true, true, true, true, true, true, true, false, true, false, true, false, true, false, false] (bodyOf Try.f3)) (lookA [(1, .sl (l1.map fun z_ => .val (.int .u8 z_))), (4, .val (.bool false)), (5, .val (.int .i64 n)), (6, .val (.int .i64 q)), (7, .val (.int .i64 c)), (11, .box (.agg [.val (.int .i64 ta), .val (.int .i64 tb)])), (15, .box (.agg [.val (.int .i64 ma), .val (.int .i64 mb)])), (19, .box (.agg [.val (.int .i64 pa), .val (.int .i64 pb)])), (23, .box (.agg [.val (.int .i64 oa), .val (.int .i64 ob)])), (27, .val (.int .i64 m)), (31, .val (.int .i64 a)), (32, .val (.int .i64 b)), (33, .val (.int .i64 i))]) (.exit 0) (lookA [(1, .sl (l1.map fun z_ => .val (.int .u8 z_))), (4, .val (.bool false)), (5, .val (.int .i64 n)), (6, .val (.int .i64 q)), (7, .val (.int .i64 c)), (11, .box (.agg [.val (.int .i64 ta), .val (.int .i64 tb)])), (15, .box (.agg [.val (.int .i64 ma), .val (.int .i64 mb)])), (19, .box (.agg [.val (.int .i64 pa), .val (.int .i64 pb)])), (23, .box (.agg [.val (.int .i64 oa), .val (.int .i64 ob)])), (27, .val (.int .i64 m)), (31, .val (.int .i64 a)), (32, .val (.int .i64 b)), (33, .val (.int .i64 i))]) :=
  Goal.ok (fl := flOf [(315, 15, 0), (320, 15, 1), (521, 62, 0), (523, 66, 1), (526, 66, 0), (528, 62, 1)]) (s := [.val (.bool false),
    .go]) rfl (of_eq (And.intro (rfl : ((.exit 0) : Ex) = _) (And.intro (And.intro (rfl : some (.sl (l1.map fun z_ => .val (.int .u8 z_)) : AV) = some _) (And.intro (rfl : some (.val (.bool false) : AV) = some _) (And.intro (rfl : some (.val (.int .i64 n) : AV) = some _) (And.intro (rfl : some (.val (.int .i64 q) : AV) = some _) (And.intro (rfl : some (.val (.int .i64 c) : AV) = some _) (And.intro (rfl : some (.box (.agg [.val (.int .i64 ta), .val (.int .i64 tb)]) : AV) = some _) (And.intro (rfl : some (.box (.agg [.val (.int .i64 ma), .val (.int .i64 mb)]) : AV) = some _) (And.intro (rfl : some (.box (.agg [.val (.int .i64 pa), .val (.int .i64 pb)]) : AV) = some _) (And.intro (rfl : some (.box (.agg [.val (.int .i64 oa), .val (.int .i64 ob)]) : AV) = some _) (And.intro (rfl : some (.val (.int .i64 m) : AV) = some _) (And.intro (rfl : some (.val (.int .i64 a) : AV) = some _) (And.intro (rfl : some (.val (.int .i64 b) : AV) = some _) (And.intro (rfl : some (.val (.int .i64 i) : AV) = some _) True.intro))))))))))))) (int_leq (P := Try.prog) (t := 3) (k := .i64) (x := (.tmp 232)) (y := (.tmp 234)) d_0))) (by kernel_rfl))

set_option maxRecDepth 100000 in
theorem l1_last (l1 : List Int) (n : Int) (q : Int) (c : Int) (m : Int) (best : Int) (a : Int) (b : Int) (i : Int)
    (d_0 : decide (i ≤ 60) = false)
     : RunOk Try.prog 533 (nav [true, true, true, true, true, true, true, true, true, true, true, true, true, true, true, true, false, true, false, true, true, true, true, true, true, true, true, true, true, true, true, false, true, false, true, false, false] (bodyOf Try.f3)) (lookA [(1, .sl (l1.map fun z_ => .val (.int .u8 z_))), (4, .val (.bool false)), (5, .val (.int .i64 n)), (6, .val (.int .i64 q)), (7, .val (.int .i64 c)), (27, .val (.int .i64 m)), (48, .val (.int .i64 best)), (52, .val (.int .i64 a)), (53, .val (.int .i64 b)), (54, .val (.int .i64 i))]) (.exit 2) (lookA [(1, .sl (l1.map fun z_ => .val (.int .u8 z_))), (4, .val (.bool false)), (5, .val (.int .i64 n)), (6, .val (.int .i64 q)), (7, .val (.int .i64 c)), (27, .val (.int .i64 m)), (48, .val (.int .i64 best)), (52, .val (.int .i64 a)), (53, .val (.int .i64 b)), (54, .val (.int .i64 i))]) :=
  Goal.ok (fl := flOf [(315, 15, 0), (320, 15, 1), (521, 62, 0), (523, 66, 1), (526, 66, 0), (528, 62, 1)]) (s := [.val (.bool false),
    .go]) rfl (of_eq (And.intro (rfl : ((.exit 2) : Ex) = _) (And.intro (And.intro (rfl : some (.sl (l1.map fun z_ => .val (.int .u8 z_)) : AV) = some _) (And.intro (rfl : some (.val (.bool false) : AV) = some _) (And.intro (rfl : some (.val (.int .i64 n) : AV) = some _) (And.intro (rfl : some (.val (.int .i64 q) : AV) = some _) (And.intro (rfl : some (.val (.int .i64 c) : AV) = some _) (And.intro (rfl : some (.val (.int .i64 m) : AV) = some _) (And.intro (rfl : some (.val (.int .i64 best) : AV) = some _) (And.intro (rfl : some (.val (.int .i64 a) : AV) = some _) (And.intro (rfl : some (.val (.int .i64 b) : AV) = some _) (And.intro (rfl : some (.val (.int .i64 i) : AV) = some _) True.intro)))))))))) (int_leq (P := Try.prog) (t := 3) (k := .i64) (x := (.tmp 411)) (y := (.const (.int .i64 60))) d_0))) (by kernel_rfl))

set_option maxRecDepth 100000 in
theorem l1_step (l1 : List Int) (n : Int) (q : Int) (c : Int) (m : Int) (best : Int) (a : Int) (b : Int) (i : Int) (r1_0 : Int) (k_0 : Nat) (r1_1 : Int) (r2_1 : Int) (k_1 : Nat) (r_2 : Int)
    (d_0 : decide (i ≤ 60) = true)
    (h_0 : impl_CountWithPips.f k_0 n q i = some (r1_0, true))
    (h_1 : impl_ChanceOfPips.f k_1 n q i = some (r1_1, r2_1, true))
    (h_2 : laws_iTimes.f r1_1 r2_1 c = some r_2)
    (d_1 : (!(r_2 == r1_0)) = false)
    (d_2 : decide (r1_0 > best) = false)
    (d_3 : (r1_0 == best) = false)
     : RunOk Try.prog 533 (nav [true, true, true, true, true, true, true, true, true, true, true, true, true, true, true, true, false, true, false, true, true, true, true, true, true, true, true, true, true, true, true, false, true, false, true, false, false] (bodyOf Try.f3)) (lookA [(1, .sl (l1.map fun z_ => .val (.int .u8 z_))), (4, .val (.bool false)), (5, .val (.int .i64 n)), (6, .val (.int .i64 q)), (7, .val (.int .i64 c)), (27, .val (.int .i64 m)), (48, .val (.int .i64 best)), (52, .val (.int .i64 a)), (53, .val (.int .i64 b)), (54, .val (.int .i64 i))]) .normal (lookA [(1, .sl (l1.map fun z_ => .val (.int .u8 z_))), (4, .val (.bool false)), (5, .val (.int .i64 n)), (6, .val (.int .i64 q)), (7, .val (.int .i64 c)), (27, .val (.int .i64 m)), (48, .val (.int .i64 best)), (52, .val (.int .i64 (IntKind.wrap .i64 (a + r1_0)))), (53, .val (.int .i64 (IntKind.wrap .i64 (b + (IntKind.wrap .i64 (i * r1_0)))))), (54, .val (.int .i64 (IntKind.wrap .i64 (i + 1))))]) :=
  Goal.ok (fl := flOf [(315, 15, 0), (320, 15, 1), (521, 62, 0), (523, 66, 1), (526, 66, 0), (528, 62, 1)]) (s := [.val (.bool true),
    .go,
    .call (.tup [.val (.int .i64 r1_0), .val (.bool true)]),
    .call (.tup [.agg [.val (.int .i64 r1_1), .val (.int .i64 r2_1)], .val (.bool true)]),
    .call (.val (.int .i64 r_2)),
    .val (.bool false),
    .val (.bool false),
    .val (.bool false),
    .go]) rfl (of_eq (And.intro (rfl : (.normal : Ex) = _) (And.intro (And.intro (rfl : some (.sl (l1.map fun z_ => .val (.int .u8 z_)) : AV) = some _) (And.intro (rfl : some (.val (.bool false) : AV) = some _) (And.intro (rfl : some (.val (.int .i64 n) : AV) = some _) (And.intro (rfl : some (.val (.int .i64 q) : AV) = some _) (And.intro (rfl : some (.val (.int .i64 c) : AV) = some _) (And.intro (rfl : some (.val (.int .i64 m) : AV) = some _) (And.intro (rfl : some (.val (.int .i64 best) : AV) = some _) (And.intro (rfl : some (.val (.int .i64 (IntKind.wrap .i64 (a + r1_0))) : AV) = some _) (And.intro (rfl : some (.val (.int .i64 (IntKind.wrap .i64 (b + (IntKind.wrap .i64 (i * r1_0))))) : AV) = some _) (And.intro (rfl : some (.val (.int .i64 (IntKind.wrap .i64 (i + 1))) : AV) = some _) True.intro)))))))))) (And.intro (int_leq (P := Try.prog) (t := 3) (k := .i64) (x := (.tmp 411)) (y := (.const (.int .i64 60))) d_0) (And.intro (ad_23 h_0) (And.intro (ad_24 h_1) (And.intro (ad_20 h_2) (And.intro (int_neq (P := Try.prog) (t := 3) (k := .i64) (x := (.tmp 438)) (y := (.tmp 439)) d_1) (And.intro (int_gtr (P := Try.prog) (t := 3) (k := .i64) (x := (.tmp 443)) (y := (.tmp 444)) d_2) (int_eql (P := Try.prog) (t := 3) (k := .i64) (x := (.tmp 448)) (y := (.tmp 449)) d_3))))))))) (by kernel_rfl))

set_option maxRecDepth 100000 in
theorem l1_step2 (l1 : List Int) (n : Int) (q : Int) (c : Int) (m : Int) (best : Int) (a : Int) (b : Int) (i : Int) (r1_0 : Int) (k_0 : Nat) (r1_1 : Int) (r2_1 : Int) (k_1 : Nat) (r_2 : Int)
    (d_0 : decide (i ≤ 60) = true)
    (h_0 : impl_CountWithPips.f k_0 n q i = some (r1_0, true))
    (h_1 : impl_ChanceOfPips.f k_1 n q i = some (r1_1, r2_1, true))
    (h_2 : laws_iTimes.f r1_1 r2_1 c = some r_2)
    (d_1 : (!(r_2 == r1_0)) = false)
    (d_2 : decide (r1_0 > best) = false)
    (d_3 : (r1_0 == best) = true)
    (d_4 : decide (i < m) = false)
     : RunOk Try.prog 533 (nav [true, true, true, true, true, true, true, true, true, true, true, true, true, true, true, true, false, true, false, true, true, true, true, true, true, true, true, true, true, true, true, false, true, false, true, false, false] (bodyOf Try.f3)) (lookA [(1, .sl (l1.map fun z_ => .val (.int .u8 z_))), (4, .val (.bool false)), (5, .val (.int .i64 n)), (6, .val (.int .i64 q)), (7, .val (.int .i64 c)), (27, .val (.int .i64 m)), (48, .val (.int .i64 best)), (52, .val (.int .i64 a)), (53, .val (.int .i64 b)), (54, .val (.int .i64 i))]) .normal (lookA [(1, .sl (l1.map fun z_ => .val (.int .u8 z_))), (4, .val (.bool false)), (5, .val (.int .i64 n)), (6, .val (.int .i64 q)), (7, .val (.int .i64 c)), (27, .val (.int .i64 m)), (48, .val (.int .i64 best)), (52, .val (.int .i64 (IntKind.wrap .i64 (a + r1_0)))), (53, .val (.int .i64 (IntKind.wrap .i64 (b + (IntKind.wrap .i64 (i * r1_0)))))), (54, .val (.int .i64 (IntKind.wrap .i64 (i + 1))))]) :=
  Goal.ok (fl := flOf [(315, 15, 0), (320, 15, 1), (521, 62, 0), (523, 66, 1), (526, 66, 0), (528, 62, 1)]) (s := [.val (.bool true),
    .go,
    .call (.tup [.val (.int .i64 r1_0), .val (.bool true)]),
    .call (.tup [.agg [.val (.int .i64 r1_1), .val (.int .i64 r2_1)], .val (.bool true)]),
    .call (.val (.int .i64 r_2)),
    .val (.bool false),
    .val (.bool false),
    .val (.bool true),
    .val (.bool false),
    .go]) rfl (of_eq (And.intro (rfl : (.normal : Ex) = _) (And.intro (And.intro (rfl : some (.sl (l1.map fun z_ => .val (.int .u8 z_)) : AV) = some _) (And.intro (rfl : some (.val (.bool false) : AV) = some _) (And.intro (rfl : some (.val (.int .i64 n) : AV) = some _) (And.intro (rfl : some (.val (.int .i64 q) : AV) = some _) (And.intro (rfl : some (.val (.int .i64 c) : AV) = some _) (And.intro (rfl : some (.val (.int .i64 m) : AV) = some _) (And.intro (rfl : some (.val (.int .i64 best) : AV) = some _) (And.intro (rfl : some (.val (.int .i64 (IntKind.wrap .i64 (a + r1_0))) : AV) = some _) (And.intro (rfl : some (.val (.int .i64 (IntKind.wrap .i64 (b + (IntKind.wrap .i64 (i * r1_0))))) : AV) = some _) (And.intro (rfl : some (.val (.int .i64 (IntKind.wrap .i64 (i + 1))) : AV) = some _) True.intro)))))))))) (And.intro (int_leq (P := Try.prog) (t := 3) (k := .i64) (x := (.tmp 411)) (y := (.const (.int .i64 60))) d_0) (And.intro (ad_23 h_0) (And.intro (ad_24 h_1) (And.intro (ad_20 h_2) (And.intro (int_neq (P := Try.prog) (t := 3) (k := .i64) (x := (.tmp 438)) (y := (.tmp 439)) d_1) (And.intro (int_gtr (P := Try.prog) (t := 3) (k := .i64) (x := (.tmp 443)) (y := (.tmp 444)) d_2) (And.intro (int_eql (P := Try.prog) (t := 3) (k := .i64) (x := (.tmp 448)) (y := (.tmp 449)) d_3) (int_lss (P := Try.prog) (t := 3) (k := .i64) (x := (.tmp 452)) (y := (.tmp 453)) d_4)))))))))) (by kernel_rfl))


mutual
def laws_FnChancesOfHands.j0 : Nat → List Int → List Int → Option (Bool)
 | 0, _, _ => none
 | k + 1, x0, x1 => (spec_DrawCountHands.f x0).bind fun bt341 => ((impl_CountHands.f k bt341.1 bt341.2).bind fun bt343 => ((spec_CountHands.f k bt341.1 bt341.2).bind fun bt345 => ((impl_ChanceOfTile.f k bt341.1 bt341.2).bind fun bt347 => ((spec_ChanceOfTile.f k bt341.1 bt341.2).bind fun bt351 => ((impl_DoublesMean.f k bt341.1 bt341.2).bind fun bt355 => ((spec_DoublesMean.f k bt341.1 bt341.2).bind fun bt359 => ((impl_PipsMean.f bt341.1 bt341.2).bind fun bt363 => ((spec_PipsMean.f bt341.1 bt341.2).bind fun bt367 => ((impl_ChanceOfOpening.f k bt341.1 bt341.2).bind fun bt371 => ((spec_ChanceOfOpening.f k bt341.1 bt341.2).bind fun bt375 => ((impl_LikeliestPips.f k bt341.1 bt341.2).bind fun bt379 => ((spec_LikeliestPips.f k bt341.1 bt341.2).bind fun bt381 => (if (bt343.2 != bt345.2) = true then (none) else (if bt343.1 = bt345.1 then (if (bt347.2.2 != bt351.2.2) = true then (none) else (if (!(bt347.1 == bt351.1) || (!(bt347.2.1 == bt351.2.1))) = true then (none) else (if (bt355.2.2 != bt359.2.2) = true then (none) else (if (!(bt355.1 == bt359.1) || (!(bt355.2.1 == bt359.2.1))) = true then (none) else (if (bt363.2.2 != bt367.2.2) = true then (none) else (if (!(bt363.1 == bt367.1) || (!(bt363.2.1 == bt367.2.1))) = true then (none) else (if (bt371.2.2 != bt375.2.2) = true then (none) else (if (!(bt371.1 == bt375.1) || (!(bt371.2.1 == bt375.2.1))) = true then (none) else (if (bt379.2 != bt381.2) = true then (none) else (if bt379.1 = bt381.1 then (if (bt347.2.2 != bt343.2) = true then (none) else (if (bt355.2.2 != bt343.2) = true then (none) else (if (bt363.2.2 != bt343.2) = true then (none) else (if (bt371.2.2 != bt343.2) = true then (none) else (laws_FnChancesOfHands.j1 k x1 bt341.1 bt341.2 bt343.1 bt343.2 bt379.1 (bt379.2 != bt343.2) bt347.1 bt347.2.1 bt355.1 bt355.2.1 bt363.1 bt363.2.1 bt371.1 bt371.2.1))))) else (none))))))))))) else (none)))))))))))))))
def laws_FnChancesOfHands.j1 : Nat → List Int → Int → Int → Int → Bool → Int → Bool → Int → Int → Int → Int → Int → Int → Int → Int → Option (Bool)
 | 0, _, _, _, _, _, _, _, _, _, _, _, _, _, _, _ => none
 | k + 1, x1, x5, x6, x7, x8, x27, x230, x351000, x351001, x359000, x359001, x367000, x367001, x375000, x375001 => if x230 = true then (none) else (laws_FnChancesOfHands.j2 k x1 x5 x6 x7 x8 x27 x351000 x351001 x359000 x359001 x367000 x367001 x375000 x375001)
def laws_FnChancesOfHands.j2 : Nat → List Int → Int → Int → Int → Bool → Int → Int → Int → Int → Int → Int → Int → Int → Int → Option (Bool)
 | 0, _, _, _, _, _, _, _, _, _, _, _, _, _, _ => none
 | k + 1, x1, x5, x6, x7, x8, x27, x351000, x351001, x359000, x359001, x367000, x367001, x375000, x375001 => if x8 = true then (laws_FnChancesOfHands.l0 k x1 x5 x6 x7 x27 0 0 0 x351000 x351001 x359000 x359001 x367000 x367001 x375000 x375001) else (laws_FnChancesOfHands.j13 k x1)
def laws_FnChancesOfHands.j13 : Nat → List Int → Option (Bool)
 | 0, _ => none
 | k + 1, x1 => (spec_DrawChanceOfTiles.f x1).bind fun bt427 => ((impl_ChanceOfTiles.f k bt427.1 bt427.2.1 bt427.2.2).bind fun bt430 => ((spec_ChanceOfTiles.f k bt427.1 bt427.2.1 bt427.2.2).bind fun bt434 => (if (bt430.2.2 != bt434.2.2) = true then (none) else (laws_FnChancesOfHands.j14 k bt427.1 bt427.2.1 bt427.2.2 bt430.2.2 (!(bt430.1 == bt434.1) || (!(bt430.2.1 == bt434.2.1))) bt430.1 bt430.2.1))))
def laws_FnChancesOfHands.j14 : Nat → Int → Int → Int → Bool → Bool → Int → Int → Option (Bool)
 | 0, _, _, _, _, _, _, _ => none
 | k + 1, x59, x60, x61, x63, x504, x434000, x434001 => if x504 = true then (none) else (laws_FnChancesOfHands.j15 k x59 x60 x61 x63 x434000 x434001)
def laws_FnChancesOfHands.j15 : Nat → Int → Int → Int → Bool → Int → Int → Option (Bool)
 | 0, _, _, _, _, _, _ => none
 | k + 1, x59, x60, x61, x63, x434000, x434001 => if x63 = true then (laws_FnChancesOfHands.j16 k x59 x60 x61 (decide (x61 > 0)) x434000 x434001) else (laws_FnChancesOfHands.j16 k x59 x60 x61 false x434000 x434001)
def laws_FnChancesOfHands.j16 : Nat → Int → Int → Int → Bool → Int → Int → Option (Bool)
 | 0, _, _, _, _, _, _ => none
 | k + 1, x59, x60, x61, x509, x434000, x434001 => if x509 = true then ((impl_ChanceOfTiles.f k x59 x60 (wrap64 (x61 - 1))).bind fun bt438 => (if bt438.2.2 = true then (if (wrap64 (x434000 * bt438.2.1)) > (wrap64 (bt438.1 * x434001)) then (none) else (some true)) else (none))) else (some true)
def laws_FnChancesOfHands.j6 : Nat → List Int → Int → Int → Int → Int → Int → Int → Int → Int → Int → Int → Int → Int → Int → Int → Option (Bool)
 | 0, _, _, _, _, _, _, _, _, _, _, _, _, _, _, _ => none
 | k + 1, x1, x5, x6, x7, x27, x31, x32, x351000, x351001, x359000, x359001, x367000, x367001, x375000, x375001 => (impl_ChanceOfDoubles.f k x5 x6 0).bind fun bt394 => ((impl_ChanceOfTiles.f k x5 x6 1).bind fun bt398 => ((impl_ChanceWithout.f k x5 x6 0).bind fun bt402 => ((impl_ChanceWithout.f k x5 x6 1).bind fun bt406 => ((impl_ChanceOfTimes.f k x5 x6 0).bind fun bt410 => (if x31 = x7 then (if (wrap64 (x359000 * x7)) = (wrap64 (x32 * x359001)) then (if bt394.2.2 = true then ((laws_iTimes.f bt394.1 bt394.2.1 x7).bind fun t414 => ((laws_iTimes.f x375000 x375001 x7).bind fun t415 => (if (wrap64 (t414 + t415)) = x7 then (if bt398.2.2 = true then (if (!(bt398.1 == x351000) || (!(bt398.2.1 == x351001))) = true then (none) else (if bt402.2.2 = true then (if (!(bt402.1 == 1) || (!(bt402.2.1 == 1))) = true then (none) else (if bt406.2.2 = true then (if bt410.2.2 = true then (if (!(bt406.1 == bt410.1) || (!(bt406.2.1 == bt410.2.1))) = true then (none) else (laws_FnChancesOfHands.j7 k x1 x5 x6 x7 x27 (!(x367000 == (wrap64 (x6 * x5))) || (!(x367001 == 1))))) else (none)) else (none))) else (none))) else (none)) else (none)))) else (none)) else (none)) else (none))))))
def laws_FnChancesOfHands.j7 : Nat → List Int → Int → Int → Int → Int → Bool → Option (Bool)
 | 0, _, _, _, _, _, _ => none
 | k + 1, x1, x5, x6, x7, x27, x378 => if x378 = true then (none) else (laws_FnChancesOfHands.j8 k x1 x5 x6 x7 x27)
def laws_FnChancesOfHands.j8 : Nat → List Int → Int → Int → Int → Int → Option (Bool)
 | 0, _, _, _, _, _ => none
 | k + 1, x1, x5, x6, x7, x27 => (impl_CountWithPips.f k x5 x6 x27).bind fun bt416 => ((impl_CountWithPips.f k x5 x6 (wrap64 (x27 + 1))).bind fun bt418 => (if bt416.2 = true then (if bt418.2 = true then (if bt416.1 < bt418.1 then (none) else (laws_FnChancesOfHands.j9 k x1 x5 x6 x7 x27 bt416.1 (decide (bt416.1 < 1)))) else (none)) else (none)))
def laws_FnChancesOfHands.j9 : Nat → List Int → Int → Int → Int → Int → Int → Bool → Option (Bool)
 | 0, _, _, _, _, _, _, _ => none
 | k + 1, x1, x5, x6, x7, x27, x48, x408 => if x408 = true then (none) else (laws_FnChancesOfHands.j10 k x1 x5 x6 x7 x27 x48)
def laws_FnChancesOfHands.j10 : Nat → List Int → Int → Int → Int → Int → Int → Option (Bool)
 | 0, _, _, _, _, _, _ => none
 | k + 1, x1, x5, x6, x7, x27, x48 => if x5 ≤ 3 then (laws_FnChancesOfHands.l1 k x1 x5 x6 x7 x27 x48 0 0 0) else (laws_FnChancesOfHands.j13 k x1)
def laws_FnChancesOfHands.l1 : Nat → List Int → Int → Int → Int → Int → Int → Int → Int → Int → Option (Bool)
 | 0, _, _, _, _, _, _, _, _, _ => none
 | k + 1, x1, x5, x6, x7, x27, x48, x52, x53, x54 => if x54 ≤ 60 then (laws_FnChancesOfHands.j12 k x1 x5 x6 x7 x27 x48 x52 x53 x54) else (if x52 = x7 then (if x53 = (wrap64 ((wrap64 (x7 * x6)) * x5)) then (laws_FnChancesOfHands.j13 k x1) else (none)) else (none))
def laws_FnChancesOfHands.j12 : Nat → List Int → Int → Int → Int → Int → Int → Int → Int → Int → Option (Bool)
 | 0, _, _, _, _, _, _, _, _, _ => none
 | k + 1, x1, x5, x6, x7, x27, x48, x52, x53, x54 => (impl_CountWithPips.f k x5 x6 x54).bind fun bt420 => ((impl_ChanceOfPips.f k x5 x6 x54).bind fun bt422 => (if bt420.2 = true then (if bt422.2.2 = true then ((laws_iTimes.f bt422.1 bt422.2.1 x7).bind fun t426 => (if t426 = bt420.1 then (if bt420.1 > x48 then (none) else (if bt420.1 = x48 then (if x54 < x27 then (none) else (laws_FnChancesOfHands.l1 k x1 x5 x6 x7 x27 x48 (wrap64 (x52 + bt420.1)) (wrap64 (x53 + (wrap64 (x54 * bt420.1)))) (wrap64 (x54 + 1)))) else (laws_FnChancesOfHands.l1 k x1 x5 x6 x7 x27 x48 (wrap64 (x52 + bt420.1)) (wrap64 (x53 + (wrap64 (x54 * bt420.1)))) (wrap64 (x54 + 1))))) else (none))) else (none)) else (none)))
def laws_FnChancesOfHands.l0 : Nat → List Int → Int → Int → Int → Int → Int → Int → Int → Int → Int → Int → Int → Int → Int → Int → Int → Option (Bool)
 | 0, _, _, _, _, _, _, _, _, _, _, _, _, _, _, _, _ => none
 | k + 1, x1, x5, x6, x7, x27, x31, x32, x33, x351000, x351001, x359000, x359001, x367000, x367001, x375000, x375001 => if x33 ≤ (wrap64 (x5 + 1)) then (laws_FnChancesOfHands.j4 k x1 x5 x6 x7 x27 x31 x32 x33 x351000 x351001 x359000 x359001 x367000 x367001 x375000 x375001) else (laws_FnChancesOfHands.j6 k x1 x5 x6 x7 x27 x31 x32 x351000 x351001 x359000 x359001 x367000 x367001 x375000 x375001)
def laws_FnChancesOfHands.j4 : Nat → List Int → Int → Int → Int → Int → Int → Int → Int → Int → Int → Int → Int → Int → Int → Int → Int → Option (Bool)
 | 0, _, _, _, _, _, _, _, _, _, _, _, _, _, _, _, _ => none
 | k + 1, x1, x5, x6, x7, x27, x31, x32, x33, x351000, x351001, x359000, x359001, x367000, x367001, x375000, x375001 => (impl_ChanceOfDoubles.f k x5 x6 x33).bind fun bt383 => ((impl_ChanceOfTimes.f k x5 x6 x33).bind fun bt387 => (if bt383.2.2 = true then (if bt387.2.2 = true then (if (!(bt383.1 == bt387.1) || (!(bt383.2.1 == bt387.2.1))) = true then (none) else ((laws_iTimes.f bt383.1 bt383.2.1 x7).bind fun t391 => (laws_FnChancesOfHands.j5 k x1 x5 x6 x7 x27 x31 x32 x33 (decide (t391 < 0)) x351000 x351001 x359000 x359001 x367000 x367001 x375000 x375001 bt383.1 bt383.2.1))) else (none)) else (none)))
def laws_FnChancesOfHands.j5 : Nat → List Int → Int → Int → Int → Int → Int → Int → Int → Bool → Int → Int → Int → Int → Int → Int → Int → Int → Int → Int → Option (Bool)
 | 0, _, _, _, _, _, _, _, _, _, _, _, _, _, _, _, _, _, _, _ => none
 | k + 1, x1, x5, x6, x7, x27, x31, x32, x33, x268, x351000, x351001, x359000, x359001, x367000, x367001, x375000, x375001, x387000, x387001 => if x268 = true then (none) else ((laws_iTimes.f x387000 x387001 x7).bind fun t392 => ((laws_iTimes.f x387000 x387001 x7).bind fun t393 => (laws_FnChancesOfHands.l0 k x1 x5 x6 x7 x27 (wrap64 (x31 + t392)) (wrap64 (x32 + (wrap64 (x33 * t393)))) (wrap64 (x33 + 1)) x351000 x351001 x359000 x359001 x367000 x367001 x375000 x375001)))
end
def laws_FnChancesOfHands.f (k : Nat) (l0 : List Int) (l1 : List Int) : Option (Bool) := (laws_big.f l0 l1).bind fun t340 => (if t340 = true then (some true) else (laws_FnChancesOfHands.j0 k l0 l1))


theorem RunOk.seqRet {P : Program} {n : Nat} {c d : Code} {e e1 e2 : Env} {x : Ex} (h1 : RunOk P n c e .normal e1) (h2 : RunOk P n d e1 x e2) : RunOk P n (.seq c d) e x e2 :=
  fun w0 w N a Q I k => wp_seq (h1 w0 w N a _ I fun N' a' w' I' => h2 w0 w' N' a' Q I' k)
abbrev u8l (l : List Int) : AV := .sl (l.map fun z_ => .val (.int .u8 z_))
abbrev vi (x : Int) : AV := .val (.int .i64 x)
abbrev eL1 (l1 : List Int) (n q c m best a b i : Int) : List (Nat × AV) := [(1, u8l l1), (4, .val (.bool false)), (5, vi n), (6, vi q), (7, vi c), (27, vi m), (48, vi best), (52, vi a), (53, vi b), (54, vi i)]
theorem bneq {α : Type} [DecidableEq α] {a b : α} (h : a = b) : (!(a == b)) = false := by simp [h]
theorem l1_run (x1 : List Int) (n q c m best : Int) : ∀ (k : Nat) (a b i : Int), laws_FnChancesOfHands.l1 k x1 n q c m best a b i = some true →
    ∃ (E : Nat → Env) (M : Nat) (s t i' : Int), E 0 = lookA (eL1 x1 n q c m best a b i) ∧ (∀ j, j < M → RunOk Try.prog 533 (nav [true, true, true, true, true, true, true, true, true, true, true, true, true, true, true, true, false, true, false, true, true, true, true, true, true, true, true, true, true, true, true, false, true, false, true, false, false] (bodyOf Try.f3)) (E j) .normal (E (j + 1))) ∧ RunOk Try.prog 533 (nav [true, true, true, true, true, true, true, true, true, true, true, true, true, true, true, true, false, true, false, true, true, true, true, true, true, true, true, true, true, true, true, false, true, false, true, false, false] (bodyOf Try.f3)) (E M) (.exit 2) (lookA (eL1 x1 n q c m best s t i')) ∧ s = c ∧ t = IntKind.wrap .i64 (IntKind.wrap .i64 (c * q) * n) ∧ ∃ k', laws_FnChancesOfHands.j13 k' x1 = some true := by
  intro k
  induction k using Nat.strongRecOn with
  | _ k ih =>
  intro a b i h
  cases k with
  | zero => rw [laws_FnChancesOfHands.l1] at h; cases h
  | succ k =>
  rw [laws_FnChancesOfHands.l1] at h
  split at h
  · rename_i hi
    cases k with
    | zero => rw [laws_FnChancesOfHands.j12] at h; cases h
    | succ k =>
    rw [laws_FnChancesOfHands.j12] at h
    obtain ⟨⟨a0, a1⟩, h0, h⟩ := Option.bind_eq_some_iff.1 h
    obtain ⟨⟨b0, b1, b2⟩, h1, h⟩ := Option.bind_eq_some_iff.1 h
    dsimp only at h
    split at h
    · rename_i e1
      subst e1
      split at h
      · rename_i e2
        subst e2
        obtain ⟨t2, h2, h⟩ := Option.bind_eq_some_iff.1 h
        split at h
        · rename_i e3
          subst e3
          split at h
          · cases h
          · rename_i e4
            split at h
            · rename_i e5
              split at h
              · cases h
              · rename_i e6
                obtain ⟨E, M, s, t, i', g0, g1, g2, g3, g4, g5⟩ := ih k (by omega) _ _ _ h
                refine ⟨fun j => match j with | 0 => lookA (eL1 x1 n q c m best a b i) | j + 1 => E j, M + 1, s, t, i', rfl, fun j hj => ?_, g2, g3, g4, g5⟩
                cases j with
                | zero =>
                  simp only
                  rw [g0]
                  have := l1_step2 x1 n q c m best a b i t2 k b0 b1 k t2 (decide_eq_true hi) h0 h1 h2 (bneq rfl) (decide_eq_false e4) (by simp [e5]) (decide_eq_false e6)
                  simp only [IntWalk.i64_left] at this
                  exact this
                | succ j => exact g1 j (by omega)
            · rename_i e5
              obtain ⟨E, M, s, t, i', g0, g1, g2, g3, g4, g5⟩ := ih k (by omega) _ _ _ h
              refine ⟨fun j => match j with | 0 => lookA (eL1 x1 n q c m best a b i) | j + 1 => E j, M + 1, s, t, i', rfl, fun j hj => ?_, g2, g3, g4, g5⟩
              cases j with
              | zero =>
                simp only
                rw [g0]
                have := l1_step x1 n q c m best a b i t2 k b0 b1 k t2 (decide_eq_true hi) h0 h1 h2 (bneq rfl) (decide_eq_false e4) (by simp [e5])
                simp only [IntWalk.i64_left] at this
                exact this
              | succ j => exact g1 j (by omega)
        · cases h
      · cases h
    · cases h
  · rename_i hi
    split at h
    · rename_i e1
      split at h
      · rename_i e2
        refine ⟨fun _ => lookA (eL1 x1 n q c m best a b i), 0, a, b, i, rfl, fun j hj => absurd hj (Nat.not_lt_zero _), l1_last x1 n q c m best a b i (decide_eq_false hi), e1, ?_, k, h⟩
        simp only [IntWalk.i64_left]
        exact e2
      · cases h
    · cases h


abbrev rt (a b : Int) : AV := .box (.agg [vi a, vi b])
abbrev eL0 (l1 : List Int) (n q c ta tb ma mb pa pb oa ob m a b i : Int) : List (Nat × AV) := [(1, u8l l1), (4, .val (.bool false)), (5, vi n), (6, vi q), (7, vi c), (11, rt ta tb), (15, rt ma mb), (19, rt pa pb), (23, rt oa ob), (27, vi m), (31, vi a), (32, vi b), (33, vi i)]
theorem agg_of {a b c d : Int} (h : ¬((!(a == c) || (!(b == d))) = true)) : (!((a == c) && (b == d))) = false := by
  cases h1 : (a == c) <;> cases h2 : (b == d) <;> simp_all
theorem bne_of {α : Type} [BEq α] {a b : α} (h : ¬((a != b) = true)) : (!(a == b)) = false := by
  simpa [bne] using h
theorem if_yes {α : Type} {p : Prop} [Decidable p] {x : Option α} {r : α} (h : (if p then x else none) = some r) : p ∧ x = some r := by
  split at h
  · exact ⟨by assumption, h⟩
  · cases h
theorem if_no {α : Type} {p : Prop} [Decidable p] {x : Option α} {r : α} (h : (if p then none else x) = some r) : ¬ p ∧ x = some r := by
  split at h
  · cases h
  · exact ⟨by assumption, h⟩
theorem l0_run (x1 : List Int) (n q c ta tb ma mb pa pb oa ob m : Int) : ∀ (k : Nat) (a b i : Int), laws_FnChancesOfHands.l0 k x1 n q c m a b i ta tb ma mb pa pb oa ob = some true →
    ∃ (E : Nat → Env) (M : Nat) (s t i' : Int), E 0 = lookA (eL0 x1 n q c ta tb ma mb pa pb oa ob m a b i) ∧ (∀ j, j < M → RunOk Try.prog 533 (nav [true, true, true, true, true, true, true, true, true, true, true, true, true, true, true, true, false, true, false, true, false, true, false, false] (bodyOf Try.f3)) (E j) .normal (E (j + 1))) ∧ RunOk Try.prog 533 (nav [true, true, true, true, true, true, true, true, true, true, true, true, true, true, true, true, false, true, false, true, false, true, false, false] (bodyOf Try.f3)) (E M) (.exit 0) (lookA (eL0 x1 n q c ta tb ma mb pa pb oa ob m s t i')) ∧
      ∃ k', laws_FnChancesOfHands.j6 k' x1 n q c m s t ta tb ma mb pa pb oa ob = some true := by
  intro k
  induction k using Nat.strongRecOn with
  | _ k ih =>
  intro a b i h
  cases k with
  | zero => rw [laws_FnChancesOfHands.l0] at h; cases h
  | succ k =>
  rw [laws_FnChancesOfHands.l0] at h
  split at h
  · rename_i hi
    cases k with
    | zero => rw [laws_FnChancesOfHands.j4] at h; cases h
    | succ k =>
    rw [laws_FnChancesOfHands.j4] at h
    obtain ⟨⟨a0, a1, a2⟩, h0, h⟩ := Option.bind_eq_some_iff.1 h
    obtain ⟨⟨b0, b1, b2⟩, h1, h⟩ := Option.bind_eq_some_iff.1 h
    dsimp only at h
    split at h
    · rename_i e1
      subst e1
      split at h
      · rename_i e2
        subst e2
        split at h
        · cases h
        · rename_i e3
          obtain ⟨t2, h2, h⟩ := Option.bind_eq_some_iff.1 h
          cases k with
          | zero => rw [laws_FnChancesOfHands.j5] at h; cases h
          | succ k =>
          rw [laws_FnChancesOfHands.j5] at h
          split at h
          · cases h
          · rename_i e4
            obtain ⟨t3, h3, h⟩ := Option.bind_eq_some_iff.1 h
            obtain ⟨t4, h4, h⟩ := Option.bind_eq_some_iff.1 h
            obtain ⟨E, M, s, t, i', g0, g1, g2, g3⟩ := ih k (by omega) _ _ _ h
            refine ⟨fun j => match j with | 0 => lookA (eL0 x1 n q c ta tb ma mb pa pb oa ob m a b i) | j + 1 => E j, M + 1, s, t, i', rfl, fun j hj => ?_, g2, g3⟩
            cases j with
            | zero =>
              simp only
              rw [g0]
              have := l0_step x1 n q c ta tb ma mb pa pb oa ob m a b i a0 a1 _ b0 b1 _ t2 t3 t4 (by rw [IntWalk.i64_left]; exact decide_eq_true hi) h0 h1 (agg_of e3) h2 (by simpa using e4) h3 h4
              simp only [IntWalk.i64_left] at this
              exact this
            | succ j => exact g1 j (by omega)
      · cases h
    · cases h
  · rename_i hi
    exact ⟨fun _ => lookA (eL0 x1 n q c ta tb ma mb pa pb oa ob m a b i), 0, a, b, i, rfl, fun j hj => absurd hj (Nat.not_lt_zero _), l0_last x1 n q c ta tb ma mb pa pb oa ob m a b i (by rw [IntWalk.i64_left]; exact decide_eq_false hi), k, h⟩
/-- What is cut in the whole path: the part behind 'if ok'. -/
abbrev LB (x1 : List Int) (n q c ta tb ma mb pa pb oa ob m : Int) (v : Bool) : List (Nat × AV) := [(1, u8l x1), (4, .val (.bool false)), (5, vi n), (6, vi q), (7, vi c), (11, rt ta tb), (15, rt ma mb), (19, rt pa pb), (23, rt oa ob), (27, vi m), (231, .val (.bool v))]
abbrev LZ (x1 : List Int) : List (Nat × AV) := [(1, u8l x1), (4, .val (.bool false))]
abbrev LE (x1 : List Int) (n q c m best : Int) (v : Bool) : List (Nat × AV) := [(1, u8l x1), (4, .val (.bool false)), (5, vi n), (6, vi q), (7, vi c), (27, vi m), (48, vi best), (410, .val (.bool v))]
theorem e_run (x1 : List Int) (n q c m best : Int) {k : Nat} (h : laws_FnChancesOfHands.j10 k x1 n q c m best = some true) :
    RunOk Try.prog 533 (nav [true, true, true, true, true, true, true, true, true, true, true, true, true, true, true, true, false, true, false, true, true, true, true, true, true, true, true, true, true, true, true] (bodyOf Try.f3)) (lookA (LE x1 n q c m best (decide (n ≤ 3)))) .normal (lookA (LZ x1)) ∧ ∃ k', laws_FnChancesOfHands.j13 k' x1 = some true := by
  cases k with
  | zero => rw [laws_FnChancesOfHands.j10] at h; cases h
  | succ k =>
  rw [laws_FnChancesOfHands.j10] at h
  split at h
  · rename_i hn
    obtain ⟨E, M, s, t, i', g0, g1, g2, g3, g4, g5⟩ := l1_run x1 n q c m best k 0 0 0 h
    have hl := loop_ok (by nofun) g1 g2
    rw [g0] at hl
    have := p_Ey x1 n q c m best s t i' (bneq g3) (bneq g4) hl
    rw [decide_eq_true hn]
    exact ⟨this, g5⟩
  · rename_i hn
    rw [decide_eq_false hn]
    exact ⟨p_En x1 n q c m best, k, h⟩
theorem b_run (x1 : List Int) (n q c ta tb ma mb pa pb oa ob m : Int) (v : Bool) {k : Nat} (h : laws_FnChancesOfHands.j2 k x1 n q c v m ta tb ma mb pa pb oa ob = some true) :
    RunOk Try.prog 533 (nav [true, true, true, true, true, true, true, true, true, true, true, true, true, true, true, true, false, true] (bodyOf Try.f3)) (lookA (LB x1 n q c ta tb ma mb pa pb oa ob m v)) .normal (lookA (LZ x1)) ∧ ∃ k', laws_FnChancesOfHands.j13 k' x1 = some true := by
  cases k with
  | zero => rw [laws_FnChancesOfHands.j2] at h; cases h
  | succ k =>
  rw [laws_FnChancesOfHands.j2] at h
  split at h
  · rename_i e0
    subst e0
    obtain ⟨E, M, s, t, i', g0, g1, g2, k2, g3⟩ := l0_run x1 n q c ta tb ma mb pa pb oa ob m k 0 0 0 h
    have hl := loop_ok (by nofun) g1 g2
    rw [g0] at hl
    cases k2 with
    | zero => rw [laws_FnChancesOfHands.j6] at g3; cases g3
    | succ k2 =>
    rw [laws_FnChancesOfHands.j6] at g3
    obtain ⟨⟨a0, a1, a2⟩, h0, h⟩ := Option.bind_eq_some_iff.1 g3
    obtain ⟨⟨b0, b1, b2⟩, h1, h⟩ := Option.bind_eq_some_iff.1 h
    obtain ⟨⟨c0, c1, c2⟩, h2, h⟩ := Option.bind_eq_some_iff.1 h
    obtain ⟨⟨d0, d1, d2⟩, h3, h⟩ := Option.bind_eq_some_iff.1 h
    obtain ⟨⟨e0, e1, e2⟩, h4, h⟩ := Option.bind_eq_some_iff.1 h
    dsimp only at h
    obtain ⟨f0, h⟩ := if_yes h
    obtain ⟨f1, h⟩ := if_yes h
    obtain ⟨f2, h⟩ := if_yes h
    subst f2
    obtain ⟨t5, h5, h⟩ := Option.bind_eq_some_iff.1 h
    obtain ⟨t6, h6, h⟩ := Option.bind_eq_some_iff.1 h
    obtain ⟨f3, h⟩ := if_yes h
    obtain ⟨f4, h⟩ := if_yes h
    subst f4
    obtain ⟨f5, h⟩ := if_no h
    obtain ⟨f6, h⟩ := if_yes h
    subst f6
    obtain ⟨f7, h⟩ := if_no h
    obtain ⟨f8, h⟩ := if_yes h
    subst f8
    obtain ⟨f9, h⟩ := if_yes h
    subst f9
    obtain ⟨f10, h⟩ := if_no h
    cases k2 with
    | zero => rw [laws_FnChancesOfHands.j7] at h; cases h
    | succ k2 =>
    rw [laws_FnChancesOfHands.j7] at h
    obtain ⟨f11, h⟩ := if_no h
    cases k2 with
    | zero => rw [laws_FnChancesOfHands.j8] at h; cases h
    | succ k2 =>
    rw [laws_FnChancesOfHands.j8] at h
    obtain ⟨⟨u0, u1⟩, h7, h⟩ := Option.bind_eq_some_iff.1 h
    obtain ⟨⟨v0, v1⟩, h8, h⟩ := Option.bind_eq_some_iff.1 h
    dsimp only at h
    obtain ⟨f12, h⟩ := if_yes h
    subst f12
    obtain ⟨f13, h⟩ := if_yes h
    subst f13
    obtain ⟨f14, h⟩ := if_no h
    cases k2 with
    | zero => rw [laws_FnChancesOfHands.j9] at h; cases h
    | succ k2 =>
    rw [laws_FnChancesOfHands.j9] at h
    obtain ⟨f15, h⟩ := if_no h
    obtain ⟨hE, hz⟩ := e_run x1 n q c m u0 h
    refine ⟨?_, hz⟩
    exact p_By x1 n q c ta tb ma mb pa pb oa ob m s t i' a0 a1 _ b0 b1 _ c0 c1 _ d0 d1 _ e0 e1 _ t5 t6 u0 _ v0 _ (decide (n ≤ 3)) h0 h1 h2 h3 h4 (bneq f0) (bneq (by rw [IntWalk.i64_left, IntWalk.i64_left]; exact f1)) h5 h6 (bneq (by rw [IntWalk.i64_left]; exact f3)) (agg_of f5) (agg_of f7) (agg_of f10) (agg_of (by rw [IntWalk.i64_left]; exact f11)) h7 (by rw [IntWalk.i64_left]; exact h8) (decide_eq_false f14) (by simpa using f15) rfl hl hE
  · rename_i e0
    obtain rfl : v = false := by simpa using e0
    exact ⟨p_Bn x1 n q c ta tb ma mb pa pb oa ob m, k, h⟩


theorem rep_of_C {w : World} {k : IntKind} {l : List Int} {A : Option Addr} {c : Nat} (h : Kd.C (Kd.int k) w A l.length l) (hc : l.length ≤ c) : Rep w (fun b => b < w.heap.size) (.sl (l.map fun z_ => .val (.int k z_))) (.slice A l.length c) := by
  obtain ⟨_, h1, h2⟩ := h
  by_cases hn : 0 < l.length
  · obtain ⟨ad, rfl, h3⟩ := h2 hn
    have hcell : ∀ (j : Nat) (p : Int), l[j]? = some p → w.cell? (ad.add j) = some (.int k p) := by
      intro j p hj
      obtain ⟨cs, g1, g2, g3⟩ := h3 j p hj
      have g2 : cs = [.int k p] := g2
      subst g2
      have := g3 0 (.int k p) rfl
      simpa [show (Kd.int k).sz = 1 from rfl] using this
    have h0 := hcell 0 l[0] (List.getElem?_eq_getElem hn)
    have hadd : ad.add 0 = ad := rfl
    rw [hadd] at h0
    have hb : ad.block < w.heap.size ∧ ad.spot = none := by
      unfold World.cell? at h0
      split at h0
      · rename_i cells t f hb
        refine ⟨(Array.getElem?_eq_some_iff.1 hb).1, ?_⟩
        split at h0
        · cases h0
        · rename_i hs
          cases hsp : ad.spot with
          | none => rfl
          | some x => rw [hsp] at hs; exact absurd rfl hs
      · cases h0
    refine .sl _ _ _ _ 1 ad (fun i => [.int k (l.getD i 0)]) (by simp) ⟨hc, h1⟩ (fun _ => ⟨rfl, hb.1, hb.2⟩) (fun i x hx => ?_) (fun i _ => rfl) (fun i hi j u hu => ?_)
    · rw [List.getElem?_map] at hx
      obtain ⟨p, hp, rfl⟩ := Option.map_eq_some_iff.1 hx
      have : l.getD i 0 = p := by rw [List.getD_eq_getElem?_getD, hp]; rfl
      rw [this]
      exact .one _ _ rfl (.val _ rfl)
    · cases j with
      | zero =>
        simp only [List.getElem?_cons_zero, Option.some.injEq] at hu
        subst hu
        have := hcell i l[i] (List.getElem?_eq_getElem hi)
        rw [List.getD_eq_getElem?_getD, List.getElem?_eq_getElem hi]
        simpa using this
      | succ j => simp at hu
  · have h0 : l.length = 0 := by omega
    have hl := List.length_eq_zero_iff.1 h0
    subst hl
    exact .sl [] A 0 c 0 ⟨0, 0, none⟩ (fun _ => []) rfl ⟨hc, h1⟩ (fun h => absurd h (Nat.lt_irrefl _)) (fun i x hx => by simp at hx) (fun i hi => absurd hi (Nat.not_lt_zero _)) (fun i hi => absurd hi (Nat.not_lt_zero _))
theorem tail_run (x1 : List Int) {k : Nat} (h : laws_FnChancesOfHands.j13 k x1 = some true) : ∃ (k2 k3 k4 : Nat) (a b z u v s t : Int) (e e' : Bool), spec_DrawChanceOfTiles.f x1 = some (a, b, z) ∧ impl_ChanceOfTiles.f k2 a b z = some (u, v, e) ∧ spec_ChanceOfTiles.f k3 a b z = some (s, t, e') ∧
    (!(e == e')) = false ∧ (!((u == s) && (v == t))) = false ∧
    RunOk Try.prog 533 (nav [true, true, true, true, true, true, true, true, true, true, true, true, true, true, true, true, true, true, true, true, true, false, true] (bodyOf Try.f3)) (lookA [(59, vi a), (60, vi b), (61, vi z), (62, rt u v), (509, .val (.bool (e && decide (z > 0))))]) .normal (lookA []) := by
  cases k with
  | zero => rw [laws_FnChancesOfHands.j13] at h; cases h
  | succ k =>
  rw [laws_FnChancesOfHands.j13] at h
  obtain ⟨⟨a, b, z⟩, h0, h⟩ := Option.bind_eq_some_iff.1 h
  obtain ⟨⟨u, v, e⟩, h1, h⟩ := Option.bind_eq_some_iff.1 h
  obtain ⟨⟨s, t, e'⟩, h2, h⟩ := Option.bind_eq_some_iff.1 h
  dsimp only at h
  obtain ⟨f0, h⟩ := if_no h
  cases k with
  | zero => rw [laws_FnChancesOfHands.j14] at h; cases h
  | succ k =>
  rw [laws_FnChancesOfHands.j14] at h
  obtain ⟨f1, h'⟩ := if_no h
  clear h
  refine ⟨_, _, k, a, b, z, u, v, s, t, e, e', h0, h1, h2, bne_of f0, agg_of (by simpa using f1), ?_⟩
  have key : ∀ {k : Nat} {g : Bool}, laws_FnChancesOfHands.j16 k a b z g u v = some true → RunOk Try.prog 533 (nav [true, true, true, true, true, true, true, true, true, true, true, true, true, true, true, true, true, true, true, true, true, false, true] (bodyOf Try.f3)) (lookA [(59, vi a), (60, vi b), (61, vi z), (62, rt u v), (509, .val (.bool g))]) .normal (lookA []) := by
    intro k g h
    cases k with
    | zero => rw [laws_FnChancesOfHands.j16] at h; cases h
    | succ k =>
    rw [laws_FnChancesOfHands.j16] at h
    split at h
    · rename_i e0
      subst e0
      obtain ⟨⟨p0, p1, p2⟩, h3, h⟩ := Option.bind_eq_some_iff.1 h
      dsimp only at h
      obtain ⟨f2, h⟩ := if_yes h
      subst f2
      obtain ⟨f3, h⟩ := if_no h
      exact p_Dy a b z u v p0 p1 _ (by rw [IntWalk.i64_left]; exact h3) (decide_eq_false (by rw [IntWalk.i64_left, IntWalk.i64_left]; exact f3))
    · rename_i e0
      obtain rfl : g = false := by simpa using e0
      exact p_Dn a b z u v
  cases k with
  | zero => rw [laws_FnChancesOfHands.j15] at h'; cases h'
  | succ k =>
  rw [laws_FnChancesOfHands.j15] at h'
  split at h'
  · rename_i e0
    subst e0
    exact key h'
  · rename_i e0
    obtain rfl : e = false := by simpa using e0
    exact key h'
theorem law_run (x0 x1 : List Int) {k : Nat} (h : laws_FnChancesOfHands.f k x0 x1 = some true) : RunOk Try.prog 533 (bodyOf Try.f3) (lookA [(0, u8l x0), (1, u8l x1)]) .ret (lookA [(4, .val (.bool true))]) := by
  unfold laws_FnChancesOfHands.f at h
  obtain ⟨t0, h0, h⟩ := Option.bind_eq_some_iff.1 h
  cases t0 with
  | true => exact p_big x0 x1 h0
  | false =>
  simp only [Bool.false_eq_true, if_false] at h
  cases k with
  | zero => rw [laws_FnChancesOfHands.j0] at h; cases h
  | succ k =>
  rw [laws_FnChancesOfHands.j0] at h
  obtain ⟨⟨n, q⟩, h1, h⟩ := Option.bind_eq_some_iff.1 h
  obtain ⟨⟨a2, b2⟩, h2, h⟩ := Option.bind_eq_some_iff.1 h
  obtain ⟨⟨a3, b3⟩, h3, h⟩ := Option.bind_eq_some_iff.1 h
  obtain ⟨⟨a4, b4, c4⟩, h4, h⟩ := Option.bind_eq_some_iff.1 h
  obtain ⟨⟨a5, b5, c5⟩, h5, h⟩ := Option.bind_eq_some_iff.1 h
  obtain ⟨⟨a6, b6, c6⟩, h6, h⟩ := Option.bind_eq_some_iff.1 h
  obtain ⟨⟨a7, b7, c7⟩, h7, h⟩ := Option.bind_eq_some_iff.1 h
  obtain ⟨⟨a8, b8, c8⟩, h8, h⟩ := Option.bind_eq_some_iff.1 h
  obtain ⟨⟨a9, b9, c9⟩, h9, h⟩ := Option.bind_eq_some_iff.1 h
  obtain ⟨⟨a10, b10, c10⟩, h10, h⟩ := Option.bind_eq_some_iff.1 h
  obtain ⟨⟨a11, b11, c11⟩, h11, h⟩ := Option.bind_eq_some_iff.1 h
  obtain ⟨⟨a12, b12⟩, h12, h⟩ := Option.bind_eq_some_iff.1 h
  obtain ⟨⟨a13, b13⟩, h13, h⟩ := Option.bind_eq_some_iff.1 h
  dsimp only at h
  obtain ⟨f0, h⟩ := if_no h
  obtain ⟨f1, h⟩ := if_yes h
  obtain ⟨f2, h⟩ := if_no h
  obtain ⟨f3, h⟩ := if_no h
  obtain ⟨f4, h⟩ := if_no h
  obtain ⟨f5, h⟩ := if_no h
  obtain ⟨f6, h⟩ := if_no h
  obtain ⟨f7, h⟩ := if_no h
  obtain ⟨f8, h⟩ := if_no h
  obtain ⟨f9, h⟩ := if_no h
  obtain ⟨f10, h⟩ := if_no h
  obtain ⟨f11, h⟩ := if_yes h
  obtain ⟨f12, h⟩ := if_no h
  obtain ⟨f13, h⟩ := if_no h
  obtain ⟨f14, h⟩ := if_no h
  obtain ⟨f15, h⟩ := if_no h
  cases k with
  | zero => rw [laws_FnChancesOfHands.j1] at h; cases h
  | succ k =>
  rw [laws_FnChancesOfHands.j1] at h
  obtain ⟨f16, h⟩ := if_no h
  obtain ⟨hB, k', ht⟩ := b_run x1 n q a2 a4 b4 a6 b6 a8 b8 a10 b10 a12 b2 h
  obtain ⟨k2, k3, k4, a, b, z, u, v, s, t, e, e', g0, g1, g2, g3, g4, g5⟩ := tail_run x1 ht
  cases e with
  | true =>
    exact p_main x0 x1 n q a2 b2 _ a3 b3 _ a4 b4 c4 _ a5 b5 c5 _ a6 b6 c6 _ a7 b7 c7 _ a8 b8 c8 a9 b9 c9 a10 b10 c10 _ a11 b11 c11 _ a12 b12 _ a13 b13 _ a b z u v k2 s t e' k3 (decide (z > 0)) h0 h1 h2 h3 h4 h5 h6 h7 h8 h9 h10 h11 h12 h13
      (bne_of f0) (bneq f1) (bne_of f2) (agg_of f3) (bne_of f4) (agg_of f5) (bne_of f6) (agg_of f7) (bne_of f8) (agg_of f9) (bne_of f10) (bneq f11) (bne_of f12) (bne_of f13) (bne_of f14) (bne_of f15) (bne_of f16) g0 g1 g2 g3 g4 rfl hB g5
  | false =>
    exact p_main2 x0 x1 n q a2 b2 _ a3 b3 _ a4 b4 c4 _ a5 b5 c5 _ a6 b6 c6 _ a7 b7 c7 _ a8 b8 c8 a9 b9 c9 a10 b10 c10 _ a11 b11 c11 _ a12 b12 _ a13 b13 _ a b z u v k2 s t e' k3 h0 h1 h2 h3 h4 h5 h6 h7 h8 h9 h10 h11 h12 h13
      (bne_of f0) (bneq f1) (bne_of f2) (agg_of f3) (bne_of f4) (agg_of f5) (bne_of f6) (agg_of f7) (bne_of f8) (agg_of f9) (bne_of f10) (bneq f11) (bne_of f12) (bne_of f13) (bne_of f14) (bne_of f15) (bne_of f16) g0 g1 g2 g3 g4 hB g5
theorem laws_FnChancesOfHands.calls (k : Nat) (A0 : Option Addr) (c0 : Nat) (l0 : List Int) (A1 : Option Addr) (c1 : Nat) (l1 : List Int) (r : Bool) (w : World) (hr0 : Kd.C (Kd.int .u8) w A0 l0.length l0) (hc0 : l0.length ≤ c0) (hr1 : Kd.C (Kd.int .u8) w A1 l1.length l1) (hc1 : l1.length ≤ c1) (h : laws_FnChancesOfHands.f k l0 l1 = some r) (hr : r = true := by rfl) :
    Calls Try.prog 3 #[.slice A0 l0.length c0, .slice A1 l1.length c1] w fun e w' => e = .returned (.bool r) ∧ Below w.heap.size w w' := by
  subst hr
  have hl := law_run l0 l1 h
  have hco : CallOk Try.prog 3 [u8l l0, u8l l1] (.val (.bool true)) := call_ok Try.func3 rfl rfl (callFunc_ok Try.func3 rfl rfl) (show 2 ≤ 533 by decide) (Or.inr rfl) (RunOk.weak (L := [(0, u8l l0), (1, u8l l1)]) rfl ⟨rfl, rfl, trivial⟩ hl) rfl
  refine (hco.calls w (fun b => b < w.heap.size) [.slice A0 l0.length c0, .slice A1 l1.length c1] (fun b h => h) rfl (fun i x v hx hv => ?_)).mono ?_
  · match i with
    | 0 =>
      simp only [List.getElem?_cons_zero, Option.some.injEq] at hx hv
      subst hx hv
      exact rep_of_C hr0 hc0
    | 1 =>
      simp only [List.getElem?_cons_succ, List.getElem?_cons_zero, Option.some.injEq] at hx hv
      subst hx hv
      exact rep_of_C hr1 hc1
    | i + 2 => simp at hx
  · rintro e w' ⟨v, rfl, hv, hb⟩
    exact ⟨by rw [(rep_val hv).1], hb⟩

end Go.Proofs.Ytfaobohggphaaaa.QFnChancesOfHands
