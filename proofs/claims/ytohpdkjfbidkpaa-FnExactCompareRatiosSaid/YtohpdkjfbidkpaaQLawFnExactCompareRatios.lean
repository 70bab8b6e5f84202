-- WRITTEN BY A PROGRAM OF THIS CLAIM'S AUTHOR (wprint.py): the row of the law laws_FnExactCompareRatios.
import Derived.Test.YtohpdkjfbidkpaaRows
import Derived.Test.YtohpdkjfbidkpaaQFnExactCompareRatiosx4
import Derived.Test.YtohpdkjfbidkpaaQFnExactCompareRatiosx4
import Derived.Test.YtohpdkjfbidkpaaQPureFnExactCompareRatios
import Derived.Test.YtohpdkjfbidkpaaOpen
import Derived.WalkKit
import Derived.ProofKit
import Derived.OpenShut
import Derived.ShutString
import Derived.ChangeOld
import Derived.Below
import Derived.SizedLaws
namespace Go.Proofs.Ytohpdkjfbidkpaa.fnExactCompareRatios
open Go.ChangeShapes Go.WideShapes Go.ChangeAt Go.RowKit Go.Proofs.YtohpdkjfbidkpaaW.PrintWords Go.Proofs.Ytohpdkjfbidkpaa.Open Go.Proofs.Ytohpdkjfbidkpaa.QFnExactCompareRatios
open Go.ChangeMaps (open_string shut_string)
set_option linter.unusedVariables false
set_option linter.unusedSimpArgs false
theorem arr_ext {a b : Array Value} (h : a.toList = b.toList) : a = b := by cases a; cases b; simpa using h
theorem own : ownKnob Try.prog.godebug = none := by kernel_rfl
theorem laidOut : laidOutB Try.prog = true := by kernel_rfl
theorem opens_T30 : Opens Try.prog 30 (Kd.pair (Kd.int .i64) (Kd.int .i64)) (fun x => ((Lit.int .i64 x.1).wf = true ∧ (Lit.int .i64 x.2).wf = true)) := by
  intro H enc w base spare held n cs y h
  obtain ⟨ys, n', _, _, hl, hyl, hf⟩ := DataW.trod_struct Try.underlying30 h
  have hl' : cs.length = 2 := hl
  have hyl' : ys.length = 2 := hyl
  have h0 : DataW.trod enc Try.prog w base spare held n' 3 ((cs.drop 0).take 1) = ys[0]? := hf 0 _ rfl
  obtain ⟨y0, e0⟩ := at_some ys 0 (by omega)
  rw [e0] at h0
  obtain ⟨a0, k0_, o0⟩ := (opens_int Try.underlying3) n' _ _ h0
  have h1 : DataW.trod enc Try.prog w base spare held n' 3 ((cs.drop 1).take 1) = ys[1]? := hf 1 _ rfl
  obtain ⟨y1, e1⟩ := at_some ys 1 (by omega)
  rw [e1] at h1
  obtain ⟨a1, k1_, o1⟩ := (opens_int Try.underlying3) n' _ _ h1
  have hk : (Kd.pair (Kd.int .i64) (Kd.int .i64)).K w (a0, a1) (cs.drop 0) := ⟨_, _, cut cs 0 1, k0_, (by have z := k1_; rw [cut_last cs 1 1 (by omega)] at z; exact z)⟩
  exact ⟨(a0, a1), hk, o0, o1⟩
set_option maxRecDepth 100000 in
theorem lifted (os : Os) (started : os.Started) (H : Type) (enc : TypeId × Value → H) :
    ReturnsInHanded {} Try.checked os 6 .any (Rows.fnExactCompareRatiosSpec.pre6 enc Try.prog Try.f6 Rows.fnExactCompareRatiosRow.domain false) (Rows.fnExactCompareRatiosSpec.post enc Try.prog Try.f6 false true false false) := by
  refine returnsInHanded_of_change_sized (C := Try.checked) own started (by kernel_rfl) Try.func6
    (ChangeSpec.witness6 (enc := enc) (C := Try.checked) false ⟨#[], #[.agg #[.int .i64 0, .int .i64 0], .agg #[.int .i64 0, .int .i64 0]], []⟩ 8 (by kernel_rfl) (by kernel_rfl) (by kernel_rfl) (by kernel_rfl)) ?_
  intro W base args ds gs before hval0 hW hcnd hsz0 _
  have hsz : (DataW.weightsEach Try.prog (Try.f6.params.toList ++ Rows.fnExactCompareRatiosSpec.plain.varTypes Try.prog) (ds ++ gs)).all (· ≤ reachBytes) = true := hsz0
  have hval : ∀ (j : Nat) t v, Try.f6.params[j]? = some t → args[j]? = some v → Value.okWide Try.prog W .any base t v := hval0
  have hW' := hW
  obtain ⟨p, q, hA0, hV, rfl, hfz, hnd⟩ := hW
  have hA : DataW.TrodAll enc Try.prog W 0 (fun _ => true) true Try.f6.params.toList args.toList ds p := hA0
  rw [Try.params6] at hA hval hsz
  obtain ⟨v0, vs0, d0, ds0, p0, q0, hargs, rfl, rfl, h0, r0⟩ := trodAll_cons hA
  obtain ⟨v1, vs1, d1, ds1, p1, q1, rfl, rfl, rfl, h1, r1⟩ := trodAll_cons r0
  obtain ⟨rfl, rfl, rfl⟩ := trodAll_nil r1
  obtain rfl : args = #[v0, v1] := by cases args; simp_all
  obtain ⟨rfl, rfl⟩ := trodVars_none hV
  have t0 := h0
  have lt0 : ∀ x ∈ p0, x.block < W.heap.size := by obtain ⟨m, hm⟩ := t0; exact DataW.trod_lt m _ _ _ hm
  obtain ⟨cs0, rfl, _⟩ := okWide_struct Try.underlying30 (hval 0 30 v0 rfl rfl)
  obtain ⟨fu0, hf0⟩ := h0
  obtain ⟨x0, K0, ok0⟩ := opens_T30 fu0 _ _ hf0
  obtain ⟨a0_0, a0_1⟩ := x0
  have E0 : cs0 = #[.int .i64 a0_0, .int .i64 a0_1] := by
    have K' := K0
    obtain ⟨_, _, h_, rfl, rfl⟩ := K'
    exact arr_ext h_
  subst E0
  have t1 := h1
  have lt1 : ∀ x ∈ p1, x.block < W.heap.size := by obtain ⟨m, hm⟩ := t1; exact DataW.trod_lt m _ _ _ hm
  obtain ⟨cs1, rfl, _⟩ := okWide_struct Try.underlying30 (hval 1 30 v1 rfl rfl)
  obtain ⟨fu1, hf1⟩ := h1
  obtain ⟨x1, K1, ok1⟩ := opens_T30 fu1 _ _ hf1
  obtain ⟨a1_0, a1_1⟩ := x1
  have E1 : cs1 = #[.int .i64 a1_0, .int .i64 a1_1] := by
    have K' := K1
    obtain ⟨_, _, h_, rfl, rfl⟩ := K'
    exact arr_ext h_
  subst E1
  clear hA0 hval0 hsz0 hsz
  obtain ⟨k, hk⟩ := QPure.FnExactCompareRatios a0_0 a0_1 a1_0 a1_1 ok0.1 ok0.2 ok1.1 ok1.2
  refine (laws_FnExactCompareRatios.calls k a0_0 a0_1 a1_0 a1_1 true W  hk).mono fun e W' ⟨he, bel0⟩ => ?_
  have bel : Below W.heap.size W W' := bel0
  subst he
  exact ⟨_, rfl, _, _, _, [], _, [], hW', trodAll_mk1 (shut_bool Try.underlying4 _), (trodAll_cons_mk (Below.trod laidOut (by kernel_rfl) (of_decide_eq_true (by kernel_rfl)) t0 bel lt0) (trodAll_cons_mk (Below.trod laidOut (by kernel_rfl) (of_decide_eq_true (by kernel_rfl)) t1 bel lt1) trodAll_mk0)), rfl, bel.frame _, fun h => by cases h⟩
theorem over : Rows.fnExactCompareRatiosRow.holds Try.pinned (OpenSpec.ofChange Rows.fnExactCompareRatiosSpec) :=
  OpenClaim.holds_of_wide 6 Try.f6 rfl rfl rfl rfl rfl rfl rfl ⟨rfl, rfl, rfl, rfl, rfl⟩ rfl rfl rfl rfl rfl (by kernel_rfl) Try.func6 (by kernel_rfl)
    (of_decide_eq_true (by kernel_rfl)) (by unfold Func.isWrapper; first | (rw [if_pos (by decide +kernel)]; kernel_rfl) | (rw [if_neg (by decide +kernel)]; exact ⟨rfl, rfl⟩))
    (fun os started H enc _ => lifted os started H enc)
theorem proved : Rows.FnExactCompareRatiosSaid := over
#print axioms proved
end Go.Proofs.Ytohpdkjfbidkpaa.fnExactCompareRatios
namespace Go.Proofs.Ytohpdkjfbidkpaa
/-- The row, under a short name, for the claim. -/
theorem fnExactCompareRatios_holds : Rows.FnExactCompareRatiosSaid := fnExactCompareRatios.proved
end Go.Proofs.Ytohpdkjfbidkpaa
