-- WRITTEN BY A PROGRAM OF THIS CLAIM'S AUTHOR (wprint.py): the row of the law laws_FnExactRenamePuzzle.
import Derived.Test.YtncogkhhecgcbaaRows
import Derived.Test.YtncogkhhecgcbaaQFnExactRenamePuzzlex12
import Derived.Test.YtncogkhhecgcbaaQFnExactRenamePuzzlex12
import Derived.Test.YtncogkhhecgcbaaQPureFnExactRenamePuzzle
import Derived.Test.YtncogkhhecgcbaaQFnExactRenamePuzzleOpen
import Derived.WalkKit
import Derived.ProofKit
import Derived.OpenShut
import Derived.ShutString
import Derived.ChangeOld
import Derived.Below
import Derived.SizedLaws
namespace Go.Proofs.Ytncogkhhecgcbaa.fnExactRenamePuzzle
open Go.ChangeShapes Go.WideShapes Go.ChangeAt Go.RowKit Go.Proofs.YtncogkhhecgcbaaW.PrintWords Go.Proofs.Ytncogkhhecgcbaa.Open Go.Proofs.Ytncogkhhecgcbaa.QFnExactRenamePuzzle
open Go.ChangeMaps (open_string shut_string)
set_option linter.unusedVariables false
set_option linter.unusedSimpArgs false
theorem arr_ext {a b : Array Value} (h : a.toList = b.toList) : a = b := by cases a; cases b; simpa using h
theorem own : ownKnob Try.prog.godebug = none := by kernel_rfl
theorem laidOut : laidOutB Try.prog = true := by kernel_rfl
set_option maxRecDepth 100000 in
theorem opens_S74 : Opens Try.prog 74 k74 (fun x => ((Lit.int .i64 x.f0).wf = true ∧ (Lit.int .i64 x.f1).wf = true)) := by
  intro H enc w base spare held n cs y h
  obtain ⟨ys, n', _, _, hl, hyl, hf⟩ := DataW.trod_struct Try.underlying74 h
  have hl' : cs.length = 2 := hl
  have hyl' : ys.length = 2 := hyl
  have h0 : DataW.trod enc Try.prog w base spare held n' 3 ((cs.drop 0).take 1) = ys[0]? := hf 0 _ rfl
  obtain ⟨y0, e0⟩ := at_some ys 0 (by omega)
  rw [e0] at h0
  obtain ⟨a0, k0_, o0⟩ := (opens_int Try.underlying3) n' _ _ h0
  have h1 : DataW.trod enc Try.prog w base spare held n' 3 ((cs.drop 1).take 1) = ys[1]? := hf 1 _ rfl
  obtain ⟨y1, e1⟩ := at_some ys 1 (by omega)
  rw [e1] at h1
  obtain ⟨a1, k1_, o1⟩ := (opens_int Try.underlying3) n' _ _ h1
  have hk : k74.K w ⟨a0, a1⟩ (cs.drop 0) := ⟨_, _, cut cs 0 1, k0_, (by have z := k1_; rw [cut_last cs 1 1 (by omega)] at z; exact z)⟩
  exact ⟨⟨a0, a1⟩, hk, o0, o1⟩
set_option maxRecDepth 100000 in
theorem opens_T36 : Opens Try.prog 36 (Kd.pair (Kd.slice 74 k74) (Kd.slice 3 (Kd.int .i64))) (fun x => ((x.1.length ≤ 9223372036854775807 ∧ ∀ x_ ∈ x.1, ((Lit.int .i64 x_.f0).wf = true ∧ (Lit.int .i64 x_.f1).wf = true)) ∧ (x.2.length ≤ 9223372036854775807 ∧ ∀ x_ ∈ x.2, (Lit.int .i64 x_).wf = true))) := by
  intro H enc w base spare held n cs y h
  obtain ⟨ys, n', _, _, hl, hyl, hf⟩ := DataW.trod_struct Try.underlying36 h
  have hl' : cs.length = 2 := hl
  have hyl' : ys.length = 2 := hyl
  have h0 : DataW.trod enc Try.prog w base spare held n' 34 ((cs.drop 0).take 1) = ys[0]? := hf 0 _ rfl
  obtain ⟨y0, e0⟩ := at_some ys 0 (by omega)
  rw [e0] at h0
  obtain ⟨a0, k0_, o0⟩ := (opens_slice Try.underlying34 (by kernel_rfl) opens_S74) n' _ _ h0
  have h1 : DataW.trod enc Try.prog w base spare held n' 22 ((cs.drop 1).take 1) = ys[1]? := hf 1 _ rfl
  obtain ⟨y1, e1⟩ := at_some ys 1 (by omega)
  rw [e1] at h1
  obtain ⟨a1, k1_, o1⟩ := (opens_slice Try.underlying22 (by kernel_rfl) (opens_int Try.underlying3)) n' _ _ h1
  have hk : (Kd.pair (Kd.slice 74 k74) (Kd.slice 3 (Kd.int .i64))).K w (a0, a1) (cs.drop 0) := ⟨_, _, cut cs 0 1, k0_, (by have z := k1_; rw [cut_last cs 1 1 (by omega)] at z; exact z)⟩
  exact ⟨(a0, a1), hk, o0, o1⟩
set_option maxRecDepth 100000 in
theorem lifted (os : Os) (started : os.Started) (H : Type) (enc : TypeId × Value → H) :
    ReturnsInHanded {} Try.checked os 5 .any (Rows.fnExactRenamePuzzleSpec.pre6 enc Try.prog Try.f5 Rows.fnExactRenamePuzzleRow.domain false) (Rows.fnExactRenamePuzzleSpec.post enc Try.prog Try.f5 false true false false) := by
  refine returnsInHanded_of_change_sized (C := Try.checked) own started (by kernel_rfl) Try.func5
    (ChangeSpec.witness6 (enc := enc) (C := Try.checked) false ⟨#[], #[.agg #[.slice none 0 0, .slice none 0 0], .slice none 0 0], []⟩ 8 (by kernel_rfl) (by kernel_rfl) (by kernel_rfl) (by kernel_rfl)) ?_
  intro W base args ds gs before hval0 hW hcnd hsz0 _
  have hsz : (DataW.weightsEach Try.prog (Try.f5.params.toList ++ Rows.fnExactRenamePuzzleSpec.plain.varTypes Try.prog) (ds ++ gs)).all (· ≤ reachBytes) = true := hsz0
  have hval : ∀ (j : Nat) t v, Try.f5.params[j]? = some t → args[j]? = some v → Value.okWide Try.prog W .any base t v := hval0
  have hW' := hW
  obtain ⟨p, q, hA0, hV, rfl, hfz, hnd⟩ := hW
  have hA : DataW.TrodAll enc Try.prog W 0 (fun _ => true) true Try.f5.params.toList args.toList ds p := hA0
  rw [Try.params5] at hA hval hsz
  obtain ⟨v0, vs0, d0, ds0, p0, q0, hargs, rfl, rfl, h0, r0⟩ := trodAll_cons hA
  obtain ⟨v1, vs1, d1, ds1, p1, q1, rfl, rfl, rfl, h1, r1⟩ := trodAll_cons r0
  obtain ⟨rfl, rfl, rfl⟩ := trodAll_nil r1
  obtain rfl : args = #[v0, v1] := by cases args; simp_all
  obtain ⟨rfl, rfl⟩ := trodVars_none hV
  have t0 := h0
  have lt0 : ∀ x ∈ p0, x.block < W.heap.size := by obtain ⟨m, hm⟩ := t0; exact DataW.trod_lt m _ _ _ hm
  obtain ⟨cs0, rfl, _⟩ := okWide_struct Try.underlying36 (hval 0 36 v0 rfl rfl)
  obtain ⟨fu0, hf0⟩ := h0
  obtain ⟨x0, K0, ok0⟩ := opens_T36 fu0 _ _ hf0
  obtain ⟨l0_0, l0_1⟩ := x0
  obtain ⟨A0_0, c0_0, A0_1, c0_1, E0⟩ : ∃ (A0_0 : Option Addr) (c0_0 : Nat) (A0_1 : Option Addr) (c0_1 : Nat), cs0 = #[.slice A0_0 l0_0.length c0_0, .slice A0_1 l0_1.length c0_1] ∧ l0_0.length ≤ c0_0 ∧ Kd.C k74 W A0_0 l0_0.length l0_0 ∧ l0_1.length ≤ c0_1 ∧ Kd.C (Kd.int .i64) W A0_1 l0_1.length l0_1 := by
    have K' := K0
    obtain ⟨_, _, h_, ⟨A0_0, c0_0, rfl, hc0_0, hr0_0⟩, ⟨A0_1, c0_1, rfl, hc0_1, hr0_1⟩⟩ := K'
    exact ⟨A0_0, c0_0, A0_1, c0_1, arr_ext h_, hc0_0, hr0_0, hc0_1, hr0_1⟩
  obtain ⟨rfl, hc0_0, hr0_0, hc0_1, hr0_1⟩ := E0
  have t1 := h1
  have lt1 : ∀ x ∈ p1, x.block < W.heap.size := by obtain ⟨m, hm⟩ := t1; exact DataW.trod_lt m _ _ _ hm
  obtain ⟨a1, len1, cap1, rfl⟩ := okWide_slice Try.underlying22 (hval 1 22 v1 rfl rfl)
  obtain ⟨fu1, hf1⟩ := h1
  obtain ⟨l1, ⟨A1, c1, he1, hc1, hr1⟩, ok1⟩ := (opens_slice Try.underlying22 (by kernel_rfl) (opens_int Try.underlying3)) fu1 _ _ hf1
  obtain ⟨rfl, rfl, rfl⟩ : A1 = a1 ∧ l1.length = len1 ∧ c1 = cap1 := by have z := he1; simp [Value.cells] at z; exact ⟨z.1.symm, z.2.1.symm, z.2.2.symm⟩
  clear hA0 hval0 hsz0 hsz
  obtain ⟨k, hk⟩ := QPure.FnExactRenamePuzzle l0_0 l0_1 l1 ok0.1 ok0.2 ok1
  refine (laws_FnExactRenamePuzzle.calls k A0_0 c0_0 l0_0 A0_1 c0_1 l0_1 A1 c1 l1 true W hr0_0 hc0_0 hr0_1 hc0_1 hr1 hc1 hk).mono fun e W' ⟨he, bel0⟩ => ?_
  have bel : Below W.heap.size W W' := bel0
  subst he
  exact ⟨_, rfl, _, _, _, [], _, [], hW', trodAll_mk1 (shut_bool Try.underlying4 _), (trodAll_cons_mk (Below.trod laidOut (by kernel_rfl) (of_decide_eq_true (by kernel_rfl)) t0 bel lt0) (trodAll_cons_mk (Below.trod laidOut (by kernel_rfl) (of_decide_eq_true (by kernel_rfl)) t1 bel lt1) trodAll_mk0)), rfl, bel.frame _, fun h => by cases h⟩
theorem over : Rows.fnExactRenamePuzzleRow.holds Try.pinned (OpenSpec.ofChange Rows.fnExactRenamePuzzleSpec) :=
  OpenClaim.holds_of_wide 5 Try.f5 rfl rfl rfl rfl rfl rfl rfl ⟨rfl, rfl, rfl, rfl, rfl⟩ rfl rfl rfl rfl rfl (by kernel_rfl) Try.func5 (by kernel_rfl)
    (of_decide_eq_true (by kernel_rfl)) (by unfold Func.isWrapper; first | (rw [if_pos (by decide +kernel)]; kernel_rfl) | (rw [if_neg (by decide +kernel)]; exact ⟨rfl, rfl⟩))
    (fun os started H enc _ => lifted os started H enc)
theorem proved : Rows.FnExactRenamePuzzleSaid := over
#print axioms proved
end Go.Proofs.Ytncogkhhecgcbaa.fnExactRenamePuzzle
namespace Go.Proofs.Ytncogkhhecgcbaa
/-- The row, under a short name, for the claim. -/
theorem fnExactRenamePuzzle_holds : Rows.FnExactRenamePuzzleSaid := fnExactRenamePuzzle.proved
end Go.Proofs.Ytncogkhhecgcbaa
