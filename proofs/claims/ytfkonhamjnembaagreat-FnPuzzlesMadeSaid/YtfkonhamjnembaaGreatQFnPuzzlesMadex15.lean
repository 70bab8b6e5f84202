-- WRITTEN BY A PROGRAM OF THIS CLAIM'S AUTHOR (wprint.py)
import Derived.Test.YtfkonhamjnembaaGreatQFnPuzzlesMadex0
import Derived.Test.YtfkonhamjnembaaGreatQFnPuzzlesMadex4
import Derived.Test.YtfkonhamjnembaaGreatQFnPuzzlesMadex5
import Derived.Test.YtfkonhamjnembaaGreatQFnPuzzlesMadex6
import Derived.Test.YtfkonhamjnembaaGreatQFnPuzzlesMadex8
import Derived.Test.YtfkonhamjnembaaGreatQFnPuzzlesMadex13
import Derived.Test.YtfkonhamjnembaaGreatQFnPuzzlesMadex14
namespace Go.Proofs.YtfkonhamjnembaaGreat.QFnPuzzlesMade
open Go.RowKit Go.Proofs.YtfkonhamjnembaaGreatW.PrintWords Go.Proofs.YtfkonhamjnembaaGreatW.PrintLast Go.Proofs.YtfkonhamjnembaaGreatW.PrintMore
attribute [local go_sem] max2_int min2_int max_two min_two max_three min_three max_four min_four   -- for this text's walks alone
set_option linter.unusedVariables false
set_option linter.unusedSimpArgs false

/-! ### impl_Puzzle_solutions: function 59, by hand -/
/-! ### the search for solutions: the literal that calls itself -/
def impl_Puzzle_solutions_1.l (k : Nat) (rec : List Int → List S67 → List (List Int) → Option (Bool × List (List Int))) (hand : List S67) (pch chain : List Int) (left : List S67) : Nat → Int → List (List Int) → Option (Bool × List (List Int))
  | 0, _, _ => none
  | m + 1, n, out =>
    if n < 10 then
      ((impl_Puzzle_fits.f hand pch (chain.length : Int) n).bind fun ft =>
        if ft = true then
          (if 0 < chain.length then
            ((impl_tile.f (rd chain ((chain.length : Int) - 1)) n).bind fun t =>
              ((slices_Index_impl_Tile_impl_Tile.f k left t.1 t.2).bind fun q =>
                if 0 ≤ q then
                  (if q < (left.length : Int) then
                    ((slices_Clone_int_int.f chain).bind fun c2 =>
                      ((slices_Clone_impl_Tile_impl_Tile.f left).bind fun l2 =>
                        ((rec (c2 ++ [n]) (l2.eraseIdx q.toNat) out).bind fun r =>
                          if r.1 = true then impl_Puzzle_solutions_1.l k rec hand pch chain left m (n + 1) r.2 else some (false, r.2))))
                  else none)
                else impl_Puzzle_solutions_1.l k rec hand pch chain left m (n + 1) out))
          else none)
        else impl_Puzzle_solutions_1.l k rec hand pch chain left m (n + 1) out)
    else some (true, out)
def impl_Puzzle_solutions_1.f : Nat → List S67 → List Int → List Int → List S67 → List (List Int) → Option (Bool × List (List Int))
  | 0, _, _, _, _, _ => none
  | k + 1, hand, pch, chain, left, out =>
    if left.length = 0 then (if out.length < 1000 then some (decide ((out.length : Int) + 1 ≤ 200), out ++ [chain]) else none)
    else impl_Puzzle_solutions_1.l k (fun c l o => impl_Puzzle_solutions_1.f k hand pch c l o) hand pch chain left 11 0 out
theorem impl_Puzzle_solutions_1.info : (Tryz.prog.info? 24).map (fun i => (i.zero, i.size, i.bytes)) = some (some (.slice none 0 0), (Kd.slice 3 (Kd.int .i64)).sz, 24) := by kernel_rfl
/-- What lies in memory while the search goes on: the puzzle, the list so far, the literal itself. -/
structure impl_Puzzle_solutions_1.At (w : World) (Bp Bo Ba : Nat) (Ah : Option Addr) (ch : Nat) (hand : List S67) (Ac : Option Addr) (cc : Nat) (pch : List Int) (W : World) : Prop where
  below : Below w.heap.size w W
  hands : Kd.C k67 w Ah hand.length hand
  handc : hand.length ≤ ch
  pchs : Kd.C (Kd.int .i64) w Ac pch.length pch
  pchc : pch.length ≤ cc
  bp : W.heap[Bp]? = some (.cells #[.slice Ah hand.length ch, .slice Ac pch.length cc] 29 (0, 0))
  ba : W.heap[Ba]? = some (.cells #[.func (.func 90) #[] #[.pointer (some ⟨Bo, 0, none⟩), .pointer (some ⟨Bp, 0, none⟩), .pointer (some ⟨Ba, 0, none⟩)]] 95 (0, 0))
  bo : w.heap.size ≤ Bo
theorem impl_Puzzle_solutions_1.leaf_ok {w W : World} {ok : Nat → Prop} {vch vo : Value} {chain : List Int} {out : List (List Int)} (hC : Kd.R (Kd.int .i64) 3 W w.heap.size ok vch chain) (hS : Kd.S (Kd.slice 3 (Kd.int .i64)) 24 W w.heap.size (fun k => ok k ∧ some k ≠ vch.ownBlock) vo out) :
    ∀ k, some k = vch.ownBlock → ok k ∧ some k ≠ vo.ownBlock := fun k hk => ⟨hC.1 k hk.symm, fun e => by
  obtain ⟨_, h1⟩ := Kd.R_typed hC k hk.symm
  obtain ⟨_, h2⟩ := Kd.S_typed hS k e.symm
  rw [h1] at h2
  injection h2 with h2
  injection h2 with _ h2
  exact absurd h2 (by decide)⟩
theorem impl_Puzzle_solutions_1.leaf_cell {w W w1 : World} {ok : Nat → Prop} {vo u : Value} {Bo : Nat} {out : List (List Int)} (hO : W.heap[Bo]? = some (.cells #[u] 38 (0, 0))) (hS : Kd.S (Kd.slice 3 (Kd.int .i64)) 24 W w.heap.size ok vo out) (hg : W.grownBy w1 vo.ownBlock) :
    w1.heap[Bo]? = some (.cells #[u] 38 (0, 0)) := (hg.block Bo (blk_lt hO) (Kd.S_ne hS hO (by decide))).trans hO
set_option maxHeartbeats 8000000 in
set_option maxRecDepth 1000000 in
theorem impl_Puzzle_solutions_1.leaf (w : World) (Bp Bo Ba : Nat) (chain : List Int) (vch : Value) (Al : Option Addr) (cl : Nat) (out : List (List Int)) (vo : Value) (ok : Nat → Prop) (W : World)
    (hB : Below w.heap.size w W) (hbo : w.heap.size ≤ Bo) (hO : W.heap[Bo]? = some (.cells #[vo] 38 (0, 0))) (hS : Kd.S (Kd.slice 3 (Kd.int .i64)) 24 W w.heap.size (fun k => ok k ∧ some k ≠ vch.ownBlock) vo out)
    (hC : Kd.R (Kd.int .i64) 3 W w.heap.size ok vch chain) (hf : ∀ k, W.heap.size ≤ k → ok k) (ho : out.length < 1000) :
    Calls Tryz.prog 90 #[vch, .slice Al 0 cl, .pointer (some ⟨Bo, 0, none⟩), .pointer (some ⟨Bp, 0, none⟩), .pointer (some ⟨Ba, 0, none⟩)] W fun e W' => e = .returned (.bool (decide ((out.length : Int) + 1 ≤ 200))) ∧
      ∃ vo', W'.heap[Bo]? = some (.cells #[vo'] 38 (0, 0)) ∧ Kd.S (Kd.slice 3 (Kd.int .i64)) 24 W' w.heap.size ok vo' (out ++ [chain]) ∧ Below w.heap.size w W' ∧ KeepT 38 24 W W' := by
  obtain ⟨Ac, cc, rfl⟩ := Kd.R_slice hC
  obtain ⟨Av, cv, rfl⟩ := Kd.S_slice hS
  have hcell : W.cell? ⟨Bo, 0, none⟩ = some (.slice Av out.length cv) := (blk_cell hO 0).trans rfl
  have HS := Lib.hid hS
  have HC := Lib.hid hC
  have HO := Lib.hid hO
  have HF := Lib.hid hf
  have HB := Lib.hid hB
  clear hS hC hO hf hB
  go_enter Tryz.func90, Tryz.ntmps90
  go_wp2_with (first | ((with_reducible refine gate_builtin (b := .append) (xs := #[.tmp 13, .tmp 15]) rfl ?_); at_builtin; refine Kd.S_append (Kd.slice 3 (Kd.int .i64)) (w0 := w) w.heap.size rfl (.tmp 13) (.tmp 15) 38 24 (.slice none 0 0) 24 rfl Tryz.underlying38 impl_Puzzle_solutions_1.info rfl (by decide) (by omega) (.slice Av out.length cv) out chain [.slice Ac chain.length cc] ok (fun k => some k = (Value.slice Ac chain.length cc).ownBlock) rfl rfl ?aP ?aK ?aF ?aO ?aB ?aS ?aL ?_; (case aP => exact ⟨_, rfl, Kd.R_tight rfl HC.out⟩); (case aK => exact impl_Puzzle_solutions_1.leaf_ok HC.out HS.out); (case aF => exact HF.out); (case aO => exact Kd.S_mono HS.out (fun _ hk => ⟨hk.1, hk.2⟩)); (case aB => exact HB.out); (case aS => exact HB.out.size); (case aL => omega); intro v1 w1 ho1 hb1 hg1 hat1; obtain ⟨A1, c1, e1⟩ := Kd.S_slice ho1; rw [List.length_append, List.length_singleton] at e1; subst e1; have hO1 := impl_Puzzle_solutions_1.leaf_cell HO.out HS.out hg1; have hcell1 : w1.cell? ⟨Bo, 0, none⟩ = some (.slice Av out.length cv) := (blk_cell hO1 0).trans rfl; have hfr1 : w1.frozen? ⟨Bo, 0, none⟩ = false := blk_frozen hO1 0; have HO1 := Lib.hid hO1; have HS1 := Lib.hid ho1; have HB1 := Lib.hid hb1; have HG1 := Lib.hid hg1; clear hO1 ho1 hb1 hg1 hat1))
  go_ret
  exact ⟨by first | rfl | simp, _, (blk_set HO1.out 0 _).trans rfl, Kd.S_set HS1.out HO1.out (by decide) 0 _, below_set HB1.out hbo, (KeepT.row_of (Kd.S_R HS.out) HG1.out (.inr rfl)).trans (KeepT.set HO1.out (.inl rfl) 0 _)⟩
/-- What a search does, whoever it is that goes on. -/
def impl_Puzzle_solutions_1.Says (w : World) (Bp Bo Ba : Nat) (Ah : Option Addr) (ch : Nat) (hand : List S67) (Ac : Option Addr) (cc : Nat) (pch : List Int) (rec : List Int → List S67 → List (List Int) → Option (Bool × List (List Int))) : Prop :=
  ∀ (chain : List Int) (left : List S67) (vch : Value) (Al : Option Addr) (cl : Nat) (out : List (List Int)) (vo : Value) (ok : Nat → Prop) (W : World) (b : Bool) (out' : List (List Int)),
    impl_Puzzle_solutions_1.At w Bp Bo Ba Ah ch hand Ac cc pch W → W.heap[Bo]? = some (.cells #[vo] 38 (0, 0)) → Kd.S (Kd.slice 3 (Kd.int .i64)) 24 W w.heap.size (fun k => ok k ∧ some k ≠ vch.ownBlock) vo out →
    Kd.R (Kd.int .i64) 3 W w.heap.size ok vch chain → (∀ W', KeepT 38 24 W W' → Below w.heap.size w W' → Kd.C k67 W' Al left.length left) → left.length ≤ cl → (∀ k, W.heap.size ≤ k → ok k) →
    rec chain left out = some (b, out') →
    Calls Tryz.prog 90 #[vch, .slice Al left.length cl, .pointer (some ⟨Bo, 0, none⟩), .pointer (some ⟨Bp, 0, none⟩), .pointer (some ⟨Ba, 0, none⟩)] W fun e W' => e = .returned (.bool b) ∧
      ∃ vo', W'.heap[Bo]? = some (.cells #[vo'] 38 (0, 0)) ∧ Kd.S (Kd.slice 3 (Kd.int .i64)) 24 W' w.heap.size ok vo' out' ∧ Below w.heap.size w W' ∧ KeepT 38 24 W W'
/-- What holds at each round's head. -/
structure impl_Puzzle_solutions_1.Loop (w : World) (Bo : Nat) (ok : Nat → Prop) (vch : Value) (W wr : World) (vo : Value) (out : List (List Int)) : Prop where
  below : Below w.heap.size w wr
  keep : KeepT 38 24 W wr
  cell : wr.heap[Bo]? = some (.cells #[vo] 38 (0, 0))
  rows : Kd.S (Kd.slice 3 (Kd.int .i64)) 24 wr w.heap.size (fun k => ok k ∧ some k ≠ vch.ownBlock) vo out
theorem impl_Puzzle_solutions_1.Loop.step {w : World} {Bo : Nat} {ok : Nat → Prop} {vch : Value} {W wr w1 : World} {vo : Value} {out : List (List Int)} (h : impl_Puzzle_solutions_1.Loop w Bo ok vch W wr vo out) (hb : Below wr.heap.size wr w1) : impl_Puzzle_solutions_1.Loop w Bo ok vch W w1 vo out :=
  ⟨below_step h.below hb, h.keep.trans (KeepT.below hb), blk_below h.cell hb, Kd.S_below h.rows hb⟩
theorem impl_Puzzle_solutions_1.At.step {w : World} {Bp Bo Ba : Nat} {Ah : Option Addr} {ch : Nat} {hand : List S67} {Ac : Option Addr} {cc : Nat} {pch : List Int} {W W' : World} (h : impl_Puzzle_solutions_1.At w Bp Bo Ba Ah ch hand Ac cc pch W) (hb : Below w.heap.size w W') (hk : KeepT 38 24 W W') : impl_Puzzle_solutions_1.At w Bp Bo Ba Ah ch hand Ac cc pch W' :=
  ⟨hb, h.hands, h.handc, h.pchs, h.pchc, hk.blk h.bp (by decide) (by decide), hk.blk h.ba (by decide) (by decide), h.bo⟩
theorem impl_Puzzle_solutions_1.young {w W : World} {ok : Nat → Prop} {vch : Value} {chain : List Int} (hC : Kd.R (Kd.int .i64) 3 W w.heap.size ok vch chain) (hF : ∀ k, W.heap.size ≤ k → ok k) {k : Nat} (hk : W.heap.size ≤ k) : ok k ∧ some k ≠ vch.ownBlock :=
  ⟨hF k hk, fun e => by have := Kd.R_lt hC k e.symm; omega⟩
theorem impl_Puzzle_solutions_1.fresh {w W wq w9 : World} {ok : Nat → Prop} {vch v : Value} {chain xs : List Int} (hC : Kd.R (Kd.int .i64) 3 W w.heap.size ok vch chain) (hF : ∀ k, W.heap.size ≤ k → ok k) (hsz : W.heap.size ≤ wq.heap.size) (hb : w.heap.size ≤ wq.heap.size) (h : Kd.R (Kd.int .i64) 3 w9 wq.heap.size (fun _ => True) v xs) :
    Kd.R (Kd.int .i64) 3 w9 w.heap.size (fun k => ok k ∧ some k ≠ vch.ownBlock) v xs :=
  Kd.R_lower (Kd.R_mono (Kd.R_bound h) (fun _ hk => impl_Puzzle_solutions_1.young hC hF (Nat.le_trans hsz hk.2.1))) hb
set_option maxHeartbeats 8000000 in
set_option maxRecDepth 1000000 in
theorem impl_Puzzle_solutions_1.node (w : World) (Bp Bo Ba : Nat) (Ah : Option Addr) (ch : Nat) (hand : List S67) (Ac : Option Addr) (cc : Nat) (pch : List Int) (rec : List Int → List S67 → List (List Int) → Option (Bool × List (List Int)))
    (hrec : impl_Puzzle_solutions_1.Says w Bp Bo Ba Ah ch hand Ac cc pch rec) (k : Nat) (chain : List Int) (left : List S67) (vch : Value) (Al : Option Addr) (cl : Nat) (out : List (List Int)) (vo : Value) (ok : Nat → Prop) (W : World) (b : Bool) (out' : List (List Int))
    (hA : impl_Puzzle_solutions_1.At w Bp Bo Ba Ah ch hand Ac cc pch W) (hO : W.heap[Bo]? = some (.cells #[vo] 38 (0, 0))) (hS : Kd.S (Kd.slice 3 (Kd.int .i64)) 24 W w.heap.size (fun k => ok k ∧ some k ≠ vch.ownBlock) vo out)
    (hC : Kd.R (Kd.int .i64) 3 W w.heap.size ok vch chain) (hL : ∀ W', KeepT 38 24 W W' → Below w.heap.size w W' → Kd.C k67 W' Al left.length left) (hcl : left.length ≤ cl) (hf : ∀ k, W.heap.size ≤ k → ok k)
    (hne : ¬ left.length = 0) (h : impl_Puzzle_solutions_1.l k rec hand pch chain left 11 0 out = some (b, out')) :
    Calls Tryz.prog 90 #[vch, .slice Al left.length cl, .pointer (some ⟨Bo, 0, none⟩), .pointer (some ⟨Bp, 0, none⟩), .pointer (some ⟨Ba, 0, none⟩)] W fun e W' => e = .returned (.bool b) ∧
      ∃ vo', W'.heap[Bo]? = some (.cells #[vo'] 38 (0, 0)) ∧ Kd.S (Kd.slice 3 (Kd.int .i64)) 24 W' w.heap.size ok vo' out' ∧ Below w.heap.size w W' ∧ KeepT 38 24 W W' := by
  obtain ⟨Ax, cx, rfl⟩ := Kd.R_slice hC
  have HREC := Lib.hid hrec
  have HAT := Lib.hid hA
  have HC := Lib.hid hC
  have HL := Lib.hid hL
  have HCL := Lib.hid hcl
  have HF := Lib.hid hf
  have HNE := Lib.hid hne
  have H0 := Aside0.mk h
  have HLP := Lib.hid (show impl_Puzzle_solutions_1.Loop w Bo ok (.slice Ax chain.length cx) W W vo out from ⟨hA.below, KeepT.refl _ _ _, hO, hS⟩)
  have e0 : ((left.length : Int) == 0) = false := beq_eq_false_iff_ne.mpr (by omega)
  have e1 : (left.length == 0) = false := beq_eq_false_iff_ne.mpr hne
  clear hrec hA hO hS hC hL hcl hf h
  go_enter Tryz.func90, Tryz.ntmps90
  go_wp2_with (fail)
  go_loopg [20] 11 (fun kq v20 w' => ∃ (n : Int) (o : List (List Int)) (vq : Value), v20 = .int .i64 n ∧ Aside0 (0 ≤ n ∧ n ≤ 10) ∧ Aside0 (impl_Puzzle_solutions_1.l k rec hand pch chain left kq n o = some (b, out')) ∧ Aside0 (kq ≤ 11) ∧ Hid (impl_Puzzle_solutions_1.Loop w Bo ok (.slice Ax chain.length cx) W w' vq o))
  case atStart => exact ⟨0, out, vo, rfl, ⟨by omega, by omega⟩, H0, ⟨Nat.le_refl _⟩, HLP⟩
  case round =>
    clear H0 HLP e0 e1 vo
    obtain ⟨n, o, vq, rfl, ⟨hn0, hn1⟩, HQ, HK1, HLP⟩ := hrel
    cases gk with
    | zero => exact absurd HQ.out (by simp [impl_Puzzle_solutions_1.l])
    | succ k1 =>
      have H := HQ.out
      clear HQ
      simp only [impl_Puzzle_solutions_1.l] at H
      by_cases c1 : n < 10
      · rw [if_pos c1] at H
        have c1b : decide (n < 10) = true := decide_eq_true c1
        obtain ⟨ft, A1, H⟩ := Option.bind_eq_some_iff.mp H
        have hbp : wr.heap[Bp]? = some (.cells #[.slice Ah hand.length ch, .slice Ac pch.length cc] 29 (0, 0)) := HLP.out.keep.blk HAT.out.bp (by decide) (by decide)
        have hp0 : wr.cell? ⟨Bp, 0, none⟩ = some (.slice Ah hand.length ch) := (blk_cell hbp 0).trans rfl
        have hp1 : wr.cell? ⟨Bp, 1, none⟩ = some (.slice Ac pch.length cc) := (blk_cell hbp 1).trans rfl
        have hupz := Tryz.underlying29
        have hfit := impl_Puzzle_fits.calls Ah ch hand Ac cc pch (chain.length : Int) n ft wr (Kd.C_below HAT.out.hands HLP.out.below) HAT.out.handc (Kd.C_below HAT.out.pchs HLP.out.below) HAT.out.pchc A1
        have HBP := Lib.hid hbp
        clear hbp A1
        by_cases c2 : ft = true
        · subst c2
          rw [if_pos rfl] at H
          by_cases c3 : 0 < chain.length
          · rw [if_pos c3] at H
            obtain ⟨⟨t0, t1⟩, A2, H⟩ := Option.bind_eq_some_iff.mp H
            obtain ⟨q, A3, H⟩ := Option.bind_eq_some_iff.mp H
            have H9 := Aside0.mk H
            have hmx := Kd.C_max (Kd.R_reads' HC.out).2.2
            have hi0 : 0 ≤ (chain.length : Int) - 1 := by omega
            have hi1 : (chain.length : Int) - 1 < (chain.length : Int) := by omega
            have htile := fun (W2 : World) => impl_tile.calls (rd chain ((chain.length : Int) - 1)) n t0 t1 W2 A2
            have hidx := fun (W2 : World) (hw : Below w.heap.size w W2) (hk : KeepT 38 24 W W2) => slices_Index_impl_Tile_impl_Tile.calls k Al cl left t0 t1 q W2 (HL.out W2 hk hw) HCL.out A3
            clear H A2 A3
            go_wp2_with (first
              | (go_at_call 44; refine hfit.mono ?_; rintro e w1 ⟨rfl, hb1⟩; have HLP1 := Lib.hid (HLP.out.step hb1); clear hb1; have hR1 := HLP1.out.keep.row HC.out (by decide); obtain ⟨ad, ead, hx⟩ := Kd.at_int (Kd.R_reads' hR1).2.2 ((chain.length : Int) - 1) hi0 hi1; subst ead; rw [show ((chain.length : Int) - 1).toNat = chain.length - 1 from by omega] at hx; clear hR1)
              | (go_at_call 79; refine (htile _).mono ?_; rintro e w2 ⟨rfl, hb2⟩; have HLP2 := Lib.hid (HLP1.out.step hb2); clear hb2)
              | (go_at_call 91; refine (hidx _ HLP2.out.below HLP2.out.keep).mono ?_; rintro e w3 ⟨rfl, hb3⟩; have HLP3 := Lib.hid (HLP2.out.step hb3); clear hb3))
            have hcA : ∀ w', Below w.heap.size w w' → KeepT 38 24 W w' → w'.cell? ⟨Ba, 0, none⟩ = some (.func (.func 90) #[] #[.pointer (some ⟨Bo, 0, none⟩), .pointer (some ⟨Bp, 0, none⟩), .pointer (some ⟨Ba, 0, none⟩)]) := fun w' _ hk => (blk_cell (hk.blk HAT.out.ba (by decide) (by decide)) 0).trans rfl
            have HLQ0 := Lib.hid (HLP3.out.step (below_drew1 (Below.refl _ _)))
            have HCA := Lib.hid hcA
            clear hcA hfit htile hidx hp0 hp1 hupz HBP HLP HLP1 HLP2 HLP3 hx
            by_cases c4 : 0 ≤ q
            · have H := H9.out
              rw [if_pos c4] at H
              by_cases c5 : q < (left.length : Int)
              · rw [if_pos c5] at H
                obtain ⟨kq, rfl⟩ : ∃ kq : Nat, q = kq := ⟨q.toNat, by omega⟩
                obtain ⟨c2, A4, H⟩ := Option.bind_eq_some_iff.mp H
                obtain ⟨l2, A5, H⟩ := Option.bind_eq_some_iff.mp H
                obtain ⟨⟨rb, ro⟩, A6, H⟩ := Option.bind_eq_some_iff.mp H
                have hc2 : c2 = chain ∧ chain.length < 17592186044416 := by
                  unfold slices_Clone_int_int.f at A4
                  by_cases hl : chain.length < 17592186044416
                  · rw [if_pos hl] at A4
                    exact ⟨(Option.some.inj A4).symm, hl⟩
                  · rw [if_neg hl] at A4
                    cases A4
                obtain ⟨hc2, hclim⟩ := hc2
                subst hc2
                have hl2 : l2 = left := by
                  unfold slices_Clone_impl_Tile_impl_Tile.f at A5
                  by_cases hl : left.length < 8796093022208
                  · rw [if_pos hl] at A5
                    exact (Option.some.inj A5).symm
                  · rw [if_neg hl] at A5
                    cases A5
                subst hl2
                obtain ⟨m, hm⟩ : ∃ m, l2.length = m + 1 := ⟨l2.length - 1, by omega⟩
                have hkm : kq ≤ m := by omega
                have hkmax : l2.length ≤ 9223372036854775807 := Kd.C_max (HL.out W (KeepT.refl _ _ _) HAT.out.below)
                have hw64 : wrap64 ((kq : Int) + 1) = (kq : Int) + 1 := by unfold wrap64; omega
                have H8 := Aside0.mk H
                have hcx := (Kd.R_reads' HC.out).2.1
                have HCH := Lib.hid (show ∀ w', impl_Puzzle_solutions_1.Loop w Bo ok (.slice (some ad) c2.length cx) W w' vq o → Kd.C (Kd.int .i64) w' (some ad) c2.length c2 from fun w' h => (Kd.R_reads' (h.keep.row HC.out (by decide))).2.2)
                have HLF := Lib.hid (show ∀ w', impl_Puzzle_solutions_1.Loop w Bo ok (.slice (some ad) c2.length cx) W w' vq o → Kd.C k67 w' Al l2.length l2 from fun w' h => HL.out w' h.keep h.below)
                have HM := Lib.hid hm
                have HW := Lib.hid hw64
                have HA4 := Aside0.mk A4
                have HA5 := Aside0.mk A5
                have HA6 := Aside0.mk A6
                have HCX := Lib.hid hcx
                have HKM := Lib.hid hkm
                have HLIM := Lib.hid hclim
                have c4b : decide (0 ≤ (kq : Int)) = true := decide_eq_true c4
                clear hm hw64 hcx A4 A5 A6 H H9 hclim hkmax hkm
                refine start_ (n := 18) (S := fun w' => w'.cell? ⟨Ba, 0, none⟩ = some (.func (.func 90) #[] #[.pointer (some ⟨Bo, 0, none⟩), .pointer (some ⟨Bp, 0, none⟩), .pointer (some ⟨Ba, 0, none⟩)])) (ds := []) #[false, false, false, false, false, false, false, false, false, false, false, false, false, false, false, false, false, false] (by kernel_rfl) rfl rfl (HCA.out _ HLQ0.out.below HLQ0.out.keep) (fun hHeld => ?_)
                generalize w3.drew = wq at HLQ0 hHeld ⊢
                have HQ := Lib.hid (Below.refl wq.heap.size wq)
                refine pure_ (i := 0) (N := (some 39)) (v := ?_) (a' := ?_) #[true, false, false, false, false, false, false, false, false, false, false, false, false, false, false, false, false, false] rfl rfl (by kernel_rfl) (fun _ _ _ h => h) (Or.inl ⟨by rfl, ?_⟩) ?_ ?_
                rotate_left
                · intro w'
                  go_simp
                  with_reducible rfl
                rotate_left
                · simp only [Act.put, List.setIfInBounds_toArray, List.set_cons_zero, List.set_cons_succ, i64_w, i32_w]
                  rfl
                refine pure_ (i := 1) (N := (some 40)) (v := ?_) (a' := ?_) #[true, true, false, false, false, false, false, false, false, false, false, false, false, false, false, false, false, false] rfl rfl (by kernel_rfl) (fun _ _ _ h => h) (Or.inl ⟨by rfl, ?_⟩) ?_ ?_
                rotate_left
                · intro w'
                  go_simp
                  with_reducible rfl
                rotate_left
                · simp only [Act.put, List.setIfInBounds_toArray, List.set_cons_zero, List.set_cons_succ, i64_w, i32_w]
                  rfl
                refine pure_ (i := 2) (N := (some 41)) (v := ?_) (a' := ?_) #[true, true, true, false, false, false, false, false, false, false, false, false, false, false, false, false, false, false] rfl rfl (by kernel_rfl) (fun _ _ _ h => h) (Or.inl ⟨by rfl, ?_⟩) ?_ ?_
                rotate_left
                · intro w'
                  go_simp
                  with_reducible rfl
                rotate_left
                · simp only [Act.put, List.setIfInBounds_toArray, List.set_cons_zero, List.set_cons_succ, i64_w, i32_w]
                  rfl
                refine take_ (i := 3) (N := (some 42)) (v := ?_) (a' := ?_) #[true, true, true, true, false, false, false, false, false, false, false, false, false, false, false, false, false, false] rfl rfl (by kernel_rfl) (fun _ _ _ h => h) (Or.inl ⟨by rfl, ?_⟩) hHeld ?_ ?_
                rotate_left
                · intro w' s0
                  go_simp
                  with_reducible rfl
                rotate_left
                · simp only [Act.put, List.setIfInBounds_toArray, List.set_cons_zero, List.set_cons_succ, i64_w, i32_w]
                  rfl
                refine pure_ (i := 4) (N := (some 43)) (v := ?_) (a' := ?_) #[true, true, true, true, true, false, false, false, false, false, false, false, false, false, false, false, false, false] rfl rfl (by kernel_rfl) (fun _ _ _ h => h) (Or.inl ⟨by rfl, ?_⟩) ?_ ?_
                rotate_left
                · intro w'
                  go_simp
                  with_reducible rfl
                rotate_left
                · simp only [Act.put, List.setIfInBounds_toArray, List.set_cons_zero, List.set_cons_succ, i64_w, i32_w]
                  rfl
                refine pure_ (i := 6) (N := (some 45)) (v := ?_) (a' := ?_) #[true, true, true, true, true, false, true, false, false, false, false, false, false, false, false, false, false, false] rfl rfl (by kernel_rfl) (fun _ _ _ h => h) (Or.inl ⟨by rfl, ?_⟩) ?_ ?_
                rotate_left
                · intro w'
                  go_simp
                  with_reducible rfl
                rotate_left
                · simp only [Act.put, List.setIfInBounds_toArray, List.set_cons_zero, List.set_cons_succ, i64_w, i32_w]
                  rfl
                refine pure_ (i := 9) (N := (some 48)) (v := ?_) (a' := ?_) #[true, true, true, true, true, false, true, false, false, true, false, false, false, false, false, false, false, false] rfl rfl (by kernel_rfl) (fun _ _ _ h => h) (Or.inl ⟨by rfl, ?_⟩) ?_ ?_
                rotate_left
                · intro w'
                  go_simp
                  with_reducible rfl
                rotate_left
                · simp only [Act.put, List.setIfInBounds_toArray, List.set_cons_zero, List.set_cons_succ, i64_w, i32_w]
                  rfl
                refine pure_ (i := 11) (N := (some 50)) (v := ?_) (a' := ?_) #[true, true, true, true, true, false, true, false, false, true, false, true, false, false, false, false, false, false] rfl rfl (by kernel_rfl) (fun _ _ _ h => h) (Or.inl ⟨by rfl, ?_⟩) ?_ ?_
                rotate_left
                · intro w'
                  go_simp
                  with_reducible rfl
                rotate_left
                · simp only [Act.put, List.setIfInBounds_toArray, List.set_cons_zero, List.set_cons_succ, i64_w, i32_w]
                  rfl
                refine pure_ (i := 12) (N := (some 51)) (v := ?_) (a' := ?_) #[true, true, true, true, true, false, true, false, false, true, false, true, true, false, false, false, false, false] rfl rfl (by kernel_rfl) (fun _ _ _ h => h) (Or.inl ⟨by rfl, ?_⟩) ?_ ?_
                rotate_left
                · intro w'
                  go_simp
                  with_reducible rfl
                rotate_left
                · simp only [Act.put, List.setIfInBounds_toArray, List.set_cons_zero, List.set_cons_succ, i64_w, i32_w]
                  rfl
                refine pure_ (i := 13) (N := (some 52)) (v := ?_) (a' := ?_) #[true, true, true, true, true, false, true, false, false, true, false, true, true, true, false, false, false, false] rfl rfl (by kernel_rfl) (fun _ _ _ h => h) (Or.inl ⟨by rfl, ?_⟩) ?_ ?_
                rotate_left
                · intro w'
                  go_simp
                  with_reducible rfl
                rotate_left
                · simp only [Act.put, List.setIfInBounds_toArray, List.set_cons_zero, List.set_cons_succ, i64_w, i32_w]
                  rfl
                refine join_ (σ := Value × Value) 6 #[true, true, true, true, true, true, true, true, false, true, false, true, true, true, false, false, false, false] (fun s_ => [(44, s_.1), (46, s_.2)]) (fun s_ w' => Below wq.heap.size wq w' ∧ Kd.R (Kd.int .i64) 3 w' wq.heap.size (fun _ => True) s_.1 c2 ∧ Kd.R (Kd.int .i64) 3 w' wq.heap.size (fun _ => True) s_.2 [n]) ?_ ?_
                rotate_left
                · intro hCont
                  refine two_ (i := 5) (j := 7) (Ni := some 44) (Nj := some 46) #[true, true, true, true, true, true, true, false, false, true, false, true, true, true, false, false, false, false] #[true, true, true, true, true, false, true, true, false, true, false, true, true, true, false, false, false, false] rfl rfl rfl rfl (by kernel_rfl) (by decide) (by decide) (fun K hK => ?_) (fun K hK => ?_)
                  · refine goes_ Tryz.func36 (by kernel_rfl) rfl #[.slice (some ad) c2.length cx] (by rfl) rfl rfl (by (try simp only [List.map_toArray, List.map_cons, List.map_nil]); first | done | rfl) ?_
                    with_reducible refine (slices_Clone_int_int.calls (some ad) cx c2 c2 _ (HCH.out _ (HLQ0.out.step HQ.out)) HCX.out HA4.out).mono ?_
                    rintro e w4 ⟨v44, rfl, ho, hb⟩
                    refine ⟨_, rfl, ?_⟩
                    have H44 := Lib.hid (Kd.R_lower ho HQ.out.size)
                    have HQ4 := Lib.hid (below_step HQ.out hb)
                    clear ho hb
                    refine hK.out _ _ (HCA.out _ (HLQ0.out.step HQ4.out).below (HLQ0.out.step HQ4.out).keep) (fun hHeld => ?_)
                    clear hK K
                    refine norm_ (a' := ?_) ?_ ?_
                    rotate_left
                    · show Act.put _ (some 44) _ = _
                      simp only [Act.put, List.setIfInBounds_toArray, List.set_cons_zero, List.set_cons_succ, i64_w, i32_w]
                      rfl
                    refine one_ (i := 7) (N := some 46) #[true, true, true, true, true, true, true, true, false, true, false, true, true, true, false, false, false, false] rfl rfl (by kernel_rfl) (by decide) (fun K hK => ?_)
                    refine Kd.R_lit_step (Kd.int .i64) wq.heap.size 3 ?hg (N := 46) ?hd (xs := [n]) (inner := [.int .i64 n]) (ok := fun _ => True) (okp := fun _ => True) ?hr ?hp (fun _ hk => hk) trivial HQ4.out HQ4.out.size (by simp) ?_; (case hd => rfl); (case hg => rfl); (case hr => first | (go_simp; done) | (go_simp; rfl)); (case hp => exact Kd.reps_scalar (enc := Value.int .i64) [n])
                    intro v46 w5 ho hb hg hnew
                    have H44 := Lib.hid (Kd.R_grown H44.out hg (fun _ _ => by simp))
                    have H46 := Lib.hid ho
                    have HQ5 := Lib.hid hb
                    clear ho hb hg hnew
                    refine hK.out _ _ (HCA.out _ (HLQ0.out.step HQ5.out).below (HLQ0.out.step HQ5.out).keep) (fun hHeld => ?_)
                    clear hK K
                    refine norm_ (a' := ?_) ?_ ?_
                    rotate_left
                    · show Act.put _ (some 46) _ = _
                      simp only [Act.put, List.setIfInBounds_toArray, List.set_cons_zero, List.set_cons_succ, i64_w, i32_w]
                      rfl
                    exact norm_ (by simp only [putAll, Act.put, List.setIfInBounds_toArray, List.set_cons_zero, List.set_cons_succ]) (hCont (v44, v46) _ ⟨HQ5.out, H44.out, H46.out⟩)
                  · skip
                    refine Kd.R_lit_step (Kd.int .i64) wq.heap.size 3 ?hg (N := 46) ?hd (xs := [n]) (inner := [.int .i64 n]) (ok := fun _ => True) (okp := fun _ => True) ?hr ?hp (fun _ hk => hk) trivial HQ.out HQ.out.size (by simp) ?_; (case hd => rfl); (case hg => rfl); (case hr => first | (go_simp; done) | (go_simp; rfl)); (case hp => exact Kd.reps_scalar (enc := Value.int .i64) [n])
                    intro v46 w5 ho hb hg hnew
                    have H46 := Lib.hid ho
                    have HQ5 := Lib.hid hb
                    clear ho hb hg hnew
                    refine hK.out _ _ (HCA.out _ (HLQ0.out.step HQ5.out).below (HLQ0.out.step HQ5.out).keep) (fun hHeld => ?_)
                    clear hK K
                    refine norm_ (a' := ?_) ?_ ?_
                    rotate_left
                    · show Act.put _ (some 46) _ = _
                      simp only [Act.put, List.setIfInBounds_toArray, List.set_cons_zero, List.set_cons_succ, i64_w, i32_w]
                      rfl
                    refine one_ (i := 5) (N := some 44) #[true, true, true, true, true, true, true, true, false, true, false, true, true, true, false, false, false, false] rfl rfl (by kernel_rfl) (by decide) (fun K hK => ?_)
                    refine goes_ Tryz.func36 (by kernel_rfl) rfl #[.slice (some ad) c2.length cx] (by rfl) rfl rfl (by (try simp only [List.map_toArray, List.map_cons, List.map_nil]); first | done | rfl) ?_
                    with_reducible refine (slices_Clone_int_int.calls (some ad) cx c2 c2 _ (HCH.out _ (HLQ0.out.step HQ5.out)) HCX.out HA4.out).mono ?_
                    rintro e w4 ⟨v44, rfl, ho, hb⟩
                    refine ⟨_, rfl, ?_⟩
                    have H44 := Lib.hid (Kd.R_lower ho HQ5.out.size)
                    have H46 := Lib.hid (Kd.R_below H46.out hb)
                    have HQ4 := Lib.hid (below_step HQ5.out hb)
                    clear ho hb
                    refine hK.out _ _ (HCA.out _ (HLQ0.out.step HQ4.out).below (HLQ0.out.step HQ4.out).keep) (fun hHeld => ?_)
                    clear hK K
                    refine norm_ (a' := ?_) ?_ ?_
                    rotate_left
                    · show Act.put _ (some 44) _ = _
                      simp only [Act.put, List.setIfInBounds_toArray, List.set_cons_zero, List.set_cons_succ, i64_w, i32_w]
                      rfl
                    exact norm_ (by simp only [putAll, Act.put, List.setIfInBounds_toArray, List.set_cons_zero, List.set_cons_succ]) (hCont (v44, v46) _ ⟨HQ4.out, H44.out, H46.out⟩)
                clear HQ hHeld
                rintro ⟨v44, v46⟩ w6 ⟨hq, h44, h46⟩
                refine norm_ (a' := ?_) ?_ ?_
                rotate_left
                · simp only [putAll, Act.put, List.setIfInBounds_toArray, List.set_cons_zero, List.set_cons_succ]
                  rfl
                obtain ⟨A46, c46, rfl⟩ := Kd.R_slice h46
                have HQ := Lib.hid hq
                have H44 := Lib.hid h44
                have H46 := Lib.hid h46
                clear hq h44 h46
                refine one_ (i := 8) (N := some 47) #[true, true, true, true, true, true, true, true, true, true, false, true, true, true, false, false, false, false] rfl rfl (by kernel_rfl) (by decide) (fun K hK => ?_)
                refine Kd.R_append_rows_step (Kd.int .i64) (w0 := wq) wq.heap.size (by rfl) (.tmp 44) (.tmp 46) 24 3 (.int .i64 0) 8 rfl Tryz.underlying24 info3 rfl (by decide) (by omega) v44 c2 [n] A46 1 c46 (fun _ => True) (fun _ => False) rfl rfl ?aO ?aR (fun _ _ h => h) (fun _ h => h.elim) ?aF ?aB ?aS ?aL ?_
                (case aO => exact H44.out)
                (case aR => exact (Kd.R_reads' H46.out).2.2)
                (case aF => exact (fun _ _ => trivial))
                (case aB => exact HQ.out)
                (case aS => exact HQ.out.size)
                (case aL => have := HLIM.out; omega)
                intro v47 w7 ho hb hg hat
                have H47 := Lib.hid ho
                have HQ := Lib.hid hb
                clear ho hb hg hat H44 H46
                refine hK.out _ _ (HCA.out _ (HLQ0.out.step HQ.out).below (HLQ0.out.step HQ.out).keep) (fun hHeld => ?_)
                clear hK K
                refine norm_ (a' := ?_) ?_ ?_
                rotate_left
                · show Act.put _ (some 47) _ = _
                  simp only [Act.put, List.setIfInBounds_toArray, List.set_cons_zero, List.set_cons_succ, i64_w, i32_w]
                  rfl
                refine one_ (i := 10) (N := some 49) #[true, true, true, true, true, true, true, true, true, true, true, true, true, true, false, false, false, false] rfl rfl (by kernel_rfl) (by decide) (fun K hK => ?_)
                refine goes_ Tryz.func54 (by kernel_rfl) rfl #[.slice Al l2.length cl] (by rfl) rfl rfl (by (try simp only [List.map_toArray, List.map_cons, List.map_nil]); first | done | rfl) ?_
                with_reducible refine (slices_Clone_impl_Tile_impl_Tile.calls Al cl l2 l2 _ (HLF.out _ (HLQ0.out.step HQ.out)) HCL.out HA5.out).mono ?_
                rintro e w8 ⟨v49, rfl, ho, hb⟩
                refine ⟨_, rfl, ?_⟩
                have H49 := Lib.hid (Kd.R_lower ho HQ.out.size)
                have H47 := Lib.hid (Kd.R_below H47.out hb)
                have HQ := Lib.hid (below_step HQ.out hb)
                clear ho hb
                obtain ⟨g, cap, rfl, _, _, _⟩ := Kd.R_form H49.out (by have := HM.out; omega)
                have hdel := delT w8 wq.heap.size g cap kq m (fun _ => True) l2 HQ.out.size HM.out HKM.out (by have h := H49.out; rw [HM.out] at h; exact h)
                rw [← HM.out] at hdel
                have HDEL := Lib.hid hdel
                clear hdel
                refine hK.out _ _ (HCA.out _ (HLQ0.out.step HQ.out).below (HLQ0.out.step HQ.out).keep) (fun hHeld => ?_)
                clear hK K
                refine norm_ (a' := ?_) ?_ ?_
                rotate_left
                · show Act.put _ (some 49) _ = _
                  simp only [Act.put, List.setIfInBounds_toArray, List.set_cons_zero, List.set_cons_succ, i64_w, i32_w]
                  rfl
                refine one_ (i := 14) (N := some 53) #[true, true, true, true, true, true, true, true, true, true, true, true, true, true, true, false, false, false] rfl rfl (by kernel_rfl) (by decide) (fun K hK => ?_)
                first
                  | refine goes_ Tryz.func92 (by kernel_rfl) rfl #[.slice (some ⟨g, 0, none⟩) l2.length cap, .int .i64 (kq : Int), .int .i64 ((kq : Int) + 1)] (by rfl) rfl rfl (by (try simp only [List.map_toArray, List.map_cons, List.map_nil]); first | done | rfl) ?_
                  | (refine goes_ Tryz.func92 (by kernel_rfl) rfl #[.slice (some ⟨g, 0, none⟩) l2.length cap, .int .i64 (kq : Int), .int .i64 (wrap64 ((kq : Int) + 1))] (by rfl) rfl rfl (by (try simp only [List.map_toArray, List.map_cons, List.map_nil]); first | done | rfl) ?_
                     rw [HW.out])
                with_reducible refine HDEL.out.mono ?_
                rintro e w9 ⟨rfl, ho, hb, hg⟩
                refine ⟨_, rfl, ?_⟩
                have H53 := Lib.hid ho
                have H47 := Lib.hid ((KeepT.row_of (ta := 67) (tb := 67) H49.out hg (.inl rfl)).row H47.out (by decide))
                have HQ := Lib.hid (HQ.out.trans hb)
                clear ho hb hg H49 HDEL
                refine hK.out _ _ (HCA.out _ (HLQ0.out.step HQ.out).below (HLQ0.out.step HQ.out).keep) (fun hHeld => ?_)
                clear hK K
                refine norm_ (a' := ?_) ?_ ?_
                rotate_left
                · show Act.put _ (some 53) _ = _
                  simp only [Act.put, List.setIfInBounds_toArray, List.set_cons_zero, List.set_cons_succ, i64_w, i32_w]
                  rfl
                refine one_ (i := 15) (N := some 54) #[true, true, true, true, true, true, true, true, true, true, true, true, true, true, true, true, false, false] rfl rfl (by kernel_rfl) (by decide) (fun K hK => ?_)
                have hlen : (l2.eraseIdx kq).length = m := by rw [List.length_eraseIdx_of_lt (by have := HM.out; have := HKM.out; omega), HM.out]; rfl
                have hLP := HLQ0.out.step HQ.out
                have hsz : W.heap.size ≤ wq.heap.size := HLQ0.out.keep.1
                have hC2 := impl_Puzzle_solutions_1.fresh (ok := ok) HC.out HF.out hsz (HLQ0.out.below.size) H47.out
                have hf2 : ∀ k, w9.heap.size ≤ k → ok k ∧ some k ≠ (Value.slice (some ad) c2.length cx).ownBlock := fun k hk => impl_Puzzle_solutions_1.young HC.out HF.out (Nat.le_trans (Nat.le_trans hsz HQ.out.size) hk)
                have hL2 : ∀ W', KeepT 38 24 w9 W' → Below w.heap.size w W' → Kd.C k67 W' (some ⟨g, 0, none⟩) (l2.eraseIdx kq).length (l2.eraseIdx kq) := fun W' hk _ => (Kd.R_reads' (hk.row H53.out (by decide))).2.2
                have hcap : (l2.eraseIdx kq).length ≤ cap := by rw [hlen]; exact (Kd.R_reads' H53.out).2.1
                have hrc := HREC.out (c2 ++ [n]) (l2.eraseIdx kq) v47 (some ⟨g, 0, none⟩) cap o vq (fun k => ok k ∧ some k ≠ (Value.slice (some ad) c2.length cx).ownBlock) w9 rb ro (HAT.out.step hLP.below hLP.keep) hLP.cell (Kd.S_elder' HLQ0.out.rows (Kd.R_base H47.out) HQ.out) hC2 hL2 hcap hf2 HA6.out
                rw [hlen] at hrc
                have HRC := Lib.hid hrc
                clear hrc hC2 hf2 hL2 hcap hLP hsz
                refine call_ 90 #[v47, .slice (some ⟨g, 0, none⟩) m cap, .pointer (some ⟨Bo, 0, none⟩), .pointer (some ⟨Bp, 0, none⟩), .pointer (some ⟨Ba, 0, none⟩)] (by rfl) rfl ?_ ?_
                · have he := enters_of' Tryz.func90 (by kernel_rfl) rfl
                  simp [execOp, resolve, Deferred.ofValue, invoke, Act.eval, he]
                refine HRC.out.mono ?_
                rintro e w10 ⟨rfl, vr, hO', hS', hB', hK'⟩
                refine ⟨_, rfl, ?_⟩
                have HLR := Lib.hid (show impl_Puzzle_solutions_1.Loop w Bo ok (.slice (some ad) c2.length cx) W w10 vr ro from ⟨hB', (HLQ0.out.step HQ.out).keep.trans hK', hO', hS'⟩)
                clear hO' hS' hB' hK' HQ HLQ0 H47 H53 HRC
                refine hK.out _ _ (HCA.out _ HLR.out.below HLR.out.keep) (fun hHeld => ?_)
                clear hK K
                refine norm_ (a' := ?_) ?_ ?_
                rotate_left
                · show Act.put _ (some 54) _ = _
                  simp only [Act.put, List.setIfInBounds_toArray, List.set_cons_zero, List.set_cons_succ, i64_w, i32_w]
                  rfl
                refine pure_ (i := 16) (N := (some 55)) (v := ?_) (a' := ?_) #[true, true, true, true, true, true, true, true, true, true, true, true, true, true, true, true, true, false] rfl rfl (by kernel_rfl) (fun _ _ _ h => h) (Or.inl ⟨by rfl, ?_⟩) ?_ ?_
                rotate_left
                · intro w'
                  go_simp
                  with_reducible rfl
                rotate_left
                · simp only [Act.put, List.setIfInBounds_toArray, List.set_cons_zero, List.set_cons_succ, i64_w, i32_w]
                  rfl
                refine pure_ (i := 17) (N := (some 56)) (v := ?_) (a' := ?_) #[true, true, true, true, true, true, true, true, true, true, true, true, true, true, true, true, true, true] rfl rfl (by kernel_rfl) (fun _ _ _ h => h) (Or.inl ⟨by rfl, ?_⟩) ?_ ?_
                rotate_left
                · intro w'
                  go_simp
                  with_reducible rfl
                rotate_left
                · simp only [Act.put, List.setIfInBounds_toArray, List.set_cons_zero, List.set_cons_succ, i64_w, i32_w]
                  rfl
                refine done_ (by kernel_rfl) ?_
                cases rb with
                | true =>
                  go_wp2_with (fail)
                  go_roundg k1
                  case measure => have := HK1.out; omega
                  case rel => exact ⟨n + 1, ro, vr, rfl, ⟨by omega, by omega⟩, ⟨H8.out⟩, ⟨by have := HK1.out; omega⟩, HLR⟩
                | false =>
                  have H7 := H8.out
                  clear H8
                  simp only [Bool.false_eq_true, if_false, Option.some.injEq, Prod.mk.injEq] at H7
                  obtain ⟨rfl, rfl⟩ := H7
                  go_wp2_with (fail)
                  go_ret
                  exact ⟨rfl, vr, HLR.out.cell, Kd.S_drop HLR.out.rows, HLR.out.below, HLR.out.keep⟩
              · rw [if_neg c5] at H
                exact absurd H (by simp)
            · have H := H9.out
              rw [if_neg c4] at H
              have H8 := Aside0.mk H
              clear H9 H
              have c4b : decide (0 ≤ q) = false := decide_eq_false c4
              refine start_ (n := 18) (S := fun w' => w'.cell? ⟨Ba, 0, none⟩ = some (.func (.func 90) #[] #[.pointer (some ⟨Bo, 0, none⟩), .pointer (some ⟨Bp, 0, none⟩), .pointer (some ⟨Ba, 0, none⟩)])) (ds := []) #[false, false, false, false, false, false, false, false, false, false, false, false, false, false, false, false, false, false] (by kernel_rfl) rfl rfl (HCA.out _ HLQ0.out.below HLQ0.out.keep) (fun hHeld => ?_)
              generalize w3.drew = wq at HLQ0 hHeld ⊢
              refine pure_ (i := 0) (N := (some 39)) (v := ?_) (a' := ?_) #[true, false, false, false, false, false, false, false, false, false, false, false, false, false, false, false, false, false] rfl rfl (by kernel_rfl) (fun _ _ _ h => h) (Or.inl ⟨by rfl, ?_⟩) ?_ ?_
              rotate_left
              · intro w'
                go_simp
                with_reducible rfl
              rotate_left
              · simp only [Act.put, List.setIfInBounds_toArray, List.set_cons_zero, List.set_cons_succ, i64_w, i32_w]
                rfl
              refine pure_ (i := 1) (N := (some 40)) (v := ?_) (a' := ?_) #[true, true, false, false, false, false, false, false, false, false, false, false, false, false, false, false, false, false] rfl rfl (by kernel_rfl) (fun _ _ _ h => h) (Or.inl ⟨by rfl, ?_⟩) ?_ ?_
              rotate_left
              · intro w'
                go_simp
                with_reducible rfl
              rotate_left
              · simp only [Act.put, List.setIfInBounds_toArray, List.set_cons_zero, List.set_cons_succ, i64_w, i32_w]
                rfl
              refine pure_ (i := 2) (N := (some 41)) (v := ?_) (a' := ?_) #[true, true, true, false, false, false, false, false, false, false, false, false, false, false, false, false, false, false] rfl rfl (by kernel_rfl) (fun _ _ _ h => h) (Or.inl ⟨by rfl, ?_⟩) ?_ ?_
              rotate_left
              · intro w'
                go_simp
                with_reducible rfl
              rotate_left
              · simp only [Act.put, List.setIfInBounds_toArray, List.set_cons_zero, List.set_cons_succ, i64_w, i32_w]
                rfl
              refine pure_ (i := 3) (N := (some 42)) (v := undef) (a' := ?_) #[true, true, true, true, false, false, false, false, false, false, false, false, false, false, false, false, false, false] rfl rfl (by kernel_rfl) (fun _ _ _ h => h) (Or.inr ⟨by rfl, rfl⟩) ?_ ?_
              rotate_left
              · simp only [Act.put, List.setIfInBounds_toArray, List.set_cons_zero, List.set_cons_succ, i64_w, i32_w]
                rfl
              refine pure_ (i := 4) (N := (some 43)) (v := undef) (a' := ?_) #[true, true, true, true, true, false, false, false, false, false, false, false, false, false, false, false, false, false] rfl rfl (by kernel_rfl) (fun _ _ _ h => h) (Or.inr ⟨by rfl, rfl⟩) ?_ ?_
              rotate_left
              · simp only [Act.put, List.setIfInBounds_toArray, List.set_cons_zero, List.set_cons_succ, i64_w, i32_w]
                rfl
              refine pure_ (i := 5) (N := (some 44)) (v := undef) (a' := ?_) #[true, true, true, true, true, true, false, false, false, false, false, false, false, false, false, false, false, false] rfl rfl (by kernel_rfl) (fun _ _ _ h => h) (Or.inr ⟨by rfl, rfl⟩) ?_ ?_
              rotate_left
              · simp only [Act.put, List.setIfInBounds_toArray, List.set_cons_zero, List.set_cons_succ, i64_w, i32_w]
                rfl
              refine pure_ (i := 6) (N := (some 45)) (v := undef) (a' := ?_) #[true, true, true, true, true, true, true, false, false, false, false, false, false, false, false, false, false, false] rfl rfl (by kernel_rfl) (fun _ _ _ h => h) (Or.inr ⟨by rfl, rfl⟩) ?_ ?_
              rotate_left
              · simp only [Act.put, List.setIfInBounds_toArray, List.set_cons_zero, List.set_cons_succ, i64_w, i32_w]
                rfl
              refine pure_ (i := 7) (N := (some 46)) (v := undef) (a' := ?_) #[true, true, true, true, true, true, true, true, false, false, false, false, false, false, false, false, false, false] rfl rfl (by kernel_rfl) (fun _ _ _ h => h) (Or.inr ⟨by rfl, rfl⟩) ?_ ?_
              rotate_left
              · simp only [Act.put, List.setIfInBounds_toArray, List.set_cons_zero, List.set_cons_succ, i64_w, i32_w]
                rfl
              refine pure_ (i := 8) (N := (some 47)) (v := undef) (a' := ?_) #[true, true, true, true, true, true, true, true, true, false, false, false, false, false, false, false, false, false] rfl rfl (by kernel_rfl) (fun _ _ _ h => h) (Or.inr ⟨by rfl, rfl⟩) ?_ ?_
              rotate_left
              · simp only [Act.put, List.setIfInBounds_toArray, List.set_cons_zero, List.set_cons_succ, i64_w, i32_w]
                rfl
              refine pure_ (i := 9) (N := (some 48)) (v := undef) (a' := ?_) #[true, true, true, true, true, true, true, true, true, true, false, false, false, false, false, false, false, false] rfl rfl (by kernel_rfl) (fun _ _ _ h => h) (Or.inr ⟨by rfl, rfl⟩) ?_ ?_
              rotate_left
              · simp only [Act.put, List.setIfInBounds_toArray, List.set_cons_zero, List.set_cons_succ, i64_w, i32_w]
                rfl
              refine pure_ (i := 10) (N := (some 49)) (v := undef) (a' := ?_) #[true, true, true, true, true, true, true, true, true, true, true, false, false, false, false, false, false, false] rfl rfl (by kernel_rfl) (fun _ _ _ h => h) (Or.inr ⟨by rfl, rfl⟩) ?_ ?_
              rotate_left
              · simp only [Act.put, List.setIfInBounds_toArray, List.set_cons_zero, List.set_cons_succ, i64_w, i32_w]
                rfl
              refine pure_ (i := 11) (N := (some 50)) (v := undef) (a' := ?_) #[true, true, true, true, true, true, true, true, true, true, true, true, false, false, false, false, false, false] rfl rfl (by kernel_rfl) (fun _ _ _ h => h) (Or.inr ⟨by rfl, rfl⟩) ?_ ?_
              rotate_left
              · simp only [Act.put, List.setIfInBounds_toArray, List.set_cons_zero, List.set_cons_succ, i64_w, i32_w]
                rfl
              refine pure_ (i := 12) (N := (some 51)) (v := undef) (a' := ?_) #[true, true, true, true, true, true, true, true, true, true, true, true, true, false, false, false, false, false] rfl rfl (by kernel_rfl) (fun _ _ _ h => h) (Or.inr ⟨by rfl, rfl⟩) ?_ ?_
              rotate_left
              · simp only [Act.put, List.setIfInBounds_toArray, List.set_cons_zero, List.set_cons_succ, i64_w, i32_w]
                rfl
              refine pure_ (i := 13) (N := (some 52)) (v := undef) (a' := ?_) #[true, true, true, true, true, true, true, true, true, true, true, true, true, true, false, false, false, false] rfl rfl (by kernel_rfl) (fun _ _ _ h => h) (Or.inr ⟨by rfl, rfl⟩) ?_ ?_
              rotate_left
              · simp only [Act.put, List.setIfInBounds_toArray, List.set_cons_zero, List.set_cons_succ, i64_w, i32_w]
                rfl
              refine pure_ (i := 14) (N := (some 53)) (v := undef) (a' := ?_) #[true, true, true, true, true, true, true, true, true, true, true, true, true, true, true, false, false, false] rfl rfl (by kernel_rfl) (fun _ _ _ h => h) (Or.inr ⟨by rfl, rfl⟩) ?_ ?_
              rotate_left
              · simp only [Act.put, List.setIfInBounds_toArray, List.set_cons_zero, List.set_cons_succ, i64_w, i32_w]
                rfl
              refine pure_ (i := 15) (N := (some 54)) (v := undef) (a' := ?_) #[true, true, true, true, true, true, true, true, true, true, true, true, true, true, true, true, false, false] rfl rfl (by kernel_rfl) (fun _ _ _ h => h) (Or.inr ⟨by rfl, rfl⟩) ?_ ?_
              rotate_left
              · simp only [Act.put, List.setIfInBounds_toArray, List.set_cons_zero, List.set_cons_succ, i64_w, i32_w]
                rfl
              refine pure_ (i := 16) (N := (some 55)) (v := undef) (a' := ?_) #[true, true, true, true, true, true, true, true, true, true, true, true, true, true, true, true, true, false] rfl rfl (by kernel_rfl) (fun _ _ _ h => h) (Or.inr ⟨by rfl, rfl⟩) ?_ ?_
              rotate_left
              · simp only [Act.put, List.setIfInBounds_toArray, List.set_cons_zero, List.set_cons_succ, i64_w, i32_w]
                rfl
              refine pure_ (i := 17) (N := (some 56)) (v := ?_) (a' := ?_) #[true, true, true, true, true, true, true, true, true, true, true, true, true, true, true, true, true, true] rfl rfl (by kernel_rfl) (fun _ _ _ h => h) (Or.inl ⟨by rfl, ?_⟩) ?_ ?_
              rotate_left
              · intro w'
                go_simp
                with_reducible rfl
              rotate_left
              · simp only [Act.put, List.setIfInBounds_toArray, List.set_cons_zero, List.set_cons_succ, i64_w, i32_w]
                rfl
              refine done_ (by kernel_rfl) ?_
              go_wp2_with (fail)
              go_roundg k1
              case measure => have := HK1.out; omega
              case rel => exact ⟨n + 1, o, vq, rfl, ⟨by omega, by omega⟩, H8, ⟨by have := HK1.out; omega⟩, HLQ0⟩
          · rw [if_neg c3] at H
            exact absurd H (by simp)
        · rw [if_neg c2] at H
          have c2b : ft = false := by simpa using c2
          subst c2b
          have H9 := Aside0.mk H
          clear H
          go_wp2_with (go_at_call 44; refine hfit.mono ?_; rintro e w1 ⟨rfl, hb1⟩; have HB1 := Lib.hid hb1; clear hb1)
          go_roundg k1
          case measure => have := HK1.out; omega
          case rel => exact ⟨n + 1, o, vq, rfl, ⟨by omega, by omega⟩, H9, ⟨by have := HK1.out; omega⟩, Lib.hid (HLP.out.step HB1.out)⟩
      · rw [if_neg c1] at H
        have c1b : decide (n < 10) = false := decide_eq_false c1
        simp only [Option.some.injEq, Prod.mk.injEq] at H
        obtain ⟨rfl, rfl⟩ := H
        go_wp2_with (fail)
        go_ret
        exact ⟨rfl, vq, HLP.out.cell, Kd.S_drop HLP.out.rows, HLP.out.below, HLP.out.keep⟩
theorem impl_Puzzle_solutions_1.says (w : World) (Bp Bo Ba : Nat) (Ah : Option Addr) (ch : Nat) (hand : List S67) (Ac : Option Addr) (cc : Nat) (pch : List Int) : ∀ k, impl_Puzzle_solutions_1.Says w Bp Bo Ba Ah ch hand Ac cc pch (fun c l o => impl_Puzzle_solutions_1.f k hand pch c l o) := by
  intro k
  induction k with
  | zero =>
    intro chain left vch Al cl out vo ok W b out' _ _ _ _ _ _ _ h
    simp [impl_Puzzle_solutions_1.f] at h
  | succ k ih =>
    intro chain left vch Al cl out vo ok W b out' hA hO hS hC hL hcl hf h
    simp only [impl_Puzzle_solutions_1.f] at h
    by_cases h0 : left.length = 0
    · rw [if_pos h0] at h
      by_cases h1 : out.length < 1000
      · rw [if_pos h1] at h
        simp only [Option.some.injEq, Prod.mk.injEq] at h
        obtain ⟨rfl, rfl⟩ := h
        rw [h0]
        exact impl_Puzzle_solutions_1.leaf w Bp Bo Ba chain vch Al cl out vo ok W hA.below hA.bo hO hS hC hf h1
      · rw [if_neg h1] at h
        cases h
    · rw [if_neg h0] at h
      exact impl_Puzzle_solutions_1.node w Bp Bo Ba Ah ch hand Ac cc pch _ ih k chain left vch Al cl out vo ok W b out' hA hO hS hC hL hcl hf h0 h
/-! ### all solutions -/
def impl_Puzzle_solutions.l (k : Nat) (hand : List S67) (pch : List Int) : Nat → Int → List (List Int) → Option (List (List Int) × Bool)
  | 0, _, _ => none
  | m + 1, n, out => if n < 10 then ((impl_Puzzle_fits.f hand pch 0 n).bind fun ft => if ft = true then ((impl_Puzzle_solutions_1.f k hand pch [n] hand out).bind fun r => if r.1 = true then impl_Puzzle_solutions.l k hand pch m (n + 1) r.2 else some ([], false)) else impl_Puzzle_solutions.l k hand pch m (n + 1) out) else some (out, true)
def impl_Puzzle_solutions.f (k : Nat) (hand : List S67) (pch : List Int) : Option (List (List Int) × Bool) := impl_Puzzle_solutions.l k hand pch 11 0 []
theorem impl_Puzzle_solutions.one (W : World) (n : Int) : Kd.R (Kd.int .i64) 3 (W.alloc (.cells #[.int .i64 n] 3 (0, 0))) W.heap.size (fun _ => True) (.slice (some ⟨W.heap.size, 0, none⟩) 1 1) [n] :=
  Kd.R_of_own (own_lit W W.heap.size 3 .i64 [n] (Nat.le_refl _) (by simp)) (fun _ _ => trivial)
theorem impl_Puzzle_solutions.start {w w1 w2 w3 w4 : World} {Bp Bo Ba : Nat} {Ah : Option Addr} {ch : Nat} {hand : List S67} {Ac : Option Addr} {cc : Nat} {pch : List Int} {A7 : Option Addr} {c7 : Nat} {cs : Array Value}
    (hr0 : Kd.C k67 w Ah hand.length hand) (hc0 : hand.length ≤ ch) (hr1 : Kd.C (Kd.int .i64) w Ac pch.length pch) (hc1 : pch.length ≤ cc)
    (hbp : w1.heap[Bp]? = some (.cells #[.slice Ah hand.length ch, .slice Ac pch.length cc] 29 (0, 0))) (hb1 : Below w.heap.size w w1)
    (hS : Kd.S (Kd.slice 3 (Kd.int .i64)) 24 w2 w.heap.size (fun _ => True) (.slice A7 0 c7) []) (hb2 : Below w.heap.size w w2) (hg2 : w1.grownBy w2 none)
    (hbo : w3.heap[Bo]? = some (.cells #[.slice none 0 0] 38 (0, 0))) (hb3 : Below w2.heap.size w2 w3) (hgo : Bo = w2.heap.size)
    (hba : w4.heap[Ba]? = some (.cells cs 95 (0, 0))) (hb4 : Below (w3.setCell ⟨Bo, 0, none⟩ (.slice A7 0 c7)).heap.size (w3.setCell ⟨Bo, 0, none⟩ (.slice A7 0 c7)) w4) (hga : Ba = (w3.setCell ⟨Bo, 0, none⟩ (.slice A7 0 c7)).heap.size) (hcs : cs = #[.nilFunc] := by rfl) :
    impl_Puzzle_solutions_1.At w Bp Bo Ba Ah ch hand Ac cc pch (w4.setCell ⟨Ba, 0, none⟩ (.func (.func 90) #[] #[.pointer (some ⟨Bo, 0, none⟩), .pointer (some ⟨Bp, 0, none⟩), .pointer (some ⟨Ba, 0, none⟩)])) ∧
    (w4.setCell ⟨Ba, 0, none⟩ (.func (.func 90) #[] #[.pointer (some ⟨Bo, 0, none⟩), .pointer (some ⟨Bp, 0, none⟩), .pointer (some ⟨Ba, 0, none⟩)])).heap[Bo]? = some (.cells #[.slice A7 0 c7] 38 (0, 0)) ∧
    Kd.S (Kd.slice 3 (Kd.int .i64)) 24 (w4.setCell ⟨Ba, 0, none⟩ (.func (.func 90) #[] #[.pointer (some ⟨Bo, 0, none⟩), .pointer (some ⟨Bp, 0, none⟩), .pointer (some ⟨Ba, 0, none⟩)])) w.heap.size (fun _ => True) (.slice A7 0 c7) [] := by
  subst hcs
  have b1 := blk_grown hbp hg2 (by simp)
  have b2 := blk_below b1 hb3
  have n1 : Bp ≠ Bo := by have := blk_lt b1; omega
  have b3 := blk_far (p := ⟨Bo, 0, none⟩) b2 n1 (.slice A7 0 c7)
  have b4 := blk_below b3 hb4
  have n2 : Bp ≠ Ba := by have := blk_lt b3; omega
  have o1 := (blk_set hbo 0 (.slice A7 0 c7)).trans rfl
  have o2 := blk_below o1 hb4
  have n3 : Bo ≠ Ba := by have := blk_lt o1; omega
  have h3 := below_step hb2 hb3
  have g1 : w.heap.size ≤ Bo := by rw [hgo]; exact hb2.size
  have h4 := below_step (below_set (j := 0) (v := .slice A7 0 c7) h3 g1) hb4
  have g2 : w.heap.size ≤ Ba := by rw [hga]; exact (below_set (j := 0) (v := .slice A7 0 c7) h3 g1).size
  refine ⟨⟨below_set h4 g2, hr0, hc0, hr1, hc1, blk_far (p := ⟨Ba, 0, none⟩) b4 n2 _, (blk_set hba 0 _).trans rfl, g1⟩, (blk_far (p := ⟨Ba, 0, none⟩) o2 n3 _).trans rfl, ?_⟩
  exact Kd.S_set (Kd.S_below (Kd.S_set (Kd.S_below hS hb3) hbo (by decide) 0 _) hb4) hba (by decide) 0 _
theorem impl_Puzzle_solutions.step {w : World} {Bp Bo Ba : Nat} {Ah : Option Addr} {ch : Nat} {hand : List S67} {Ac : Option Addr} {cc : Nat} {pch : List Int} {wr w1 : World} {vq : Value} {o : List (List Int)}
    (h : impl_Puzzle_solutions_1.At w Bp Bo Ba Ah ch hand Ac cc pch wr ∧ wr.heap[Bo]? = some (.cells #[vq] 38 (0, 0)) ∧ Kd.S (Kd.slice 3 (Kd.int .i64)) 24 wr w.heap.size (fun _ => True) vq o) (hb : Below wr.heap.size wr w1) :
    impl_Puzzle_solutions_1.At w Bp Bo Ba Ah ch hand Ac cc pch w1 ∧ w1.heap[Bo]? = some (.cells #[vq] 38 (0, 0)) ∧ Kd.S (Kd.slice 3 (Kd.int .i64)) 24 w1 w.heap.size (fun _ => True) vq o :=
  ⟨h.1.step (below_step h.1.below hb) (KeepT.below hb), blk_below h.2.1 hb, Kd.S_below h.2.2 hb⟩
set_option maxHeartbeats 8000000 in
set_option maxRecDepth 1000000 in
theorem impl_Puzzle_solutions.calls (k : Nat) (A0_0 : Option Addr) (c0_0 : Nat) (l0_0 : List (S67)) (A0_1 : Option Addr) (c0_1 : Nat) (l0_1 : List Int) (r1 : List (List Int)) (r2 : Bool) (w : World) (hr0_0 : Kd.C k67 w A0_0 l0_0.length l0_0) (hc0_0 : l0_0.length ≤ c0_0) (hr0_1 : Kd.C (Kd.int .i64) w A0_1 l0_1.length l0_1) (hc0_1 : l0_1.length ≤ c0_1) (h : impl_Puzzle_solutions.f k l0_0 l0_1 = some (r1, r2)) :
    Calls Tryz.prog 59 #[.agg #[.slice A0_0 l0_0.length c0_0, .slice A0_1 l0_1.length c0_1]] w fun e w' => ∃ v0_ : Value, e = .returned (.tuple #[v0_, .bool r2]) ∧ Kd.S (Kd.slice 3 (Kd.int .i64)) 24 w' w.heap.size (fun _ => True) v0_ r1 ∧ Below w.heap.size w w' := by
  have HR0 := Lib.hid hr0_0
  have HC0 := Lib.hid hc0_0
  have HR1 := Lib.hid hr0_1
  have HC1 := Lib.hid hc0_1
  have H0 := Aside0.mk h
  clear hr0_0 hc0_0 hr0_1 hc0_1 h
  go_enter Tryz.func59, Tryz.ntmps59
  go_wp2_with (first
    | ((with_reducible refine gate_dst (N := 1) rfl ?_); refine box_event ?hg (N := 1) ?hd (cs := #[.slice A0_0 l0_0.length c0_0, .slice A0_1 l0_1.length c0_1]) (t := 29) ?hr ?_; (case hd => rfl); (case hg => rfl); (case hr => first | (go_simp; done) | (go_simp; rfl)); intro Bp hg w1 hbp hb; have HBP := Lib.hid hbp; have HB1 := Lib.hid hb; clear hg hbp hb)
    | ((with_reducible refine gate_dst (N := 7) rfl ?_); refine Kd.S_lit (Kd.slice 3 (Kd.int .i64)) w.heap.size 24 ?hg (N := 7) ?hd (xs := ([] : List (List Int))) (inner := []) (ok := fun _ => True) (okp := fun _ => True) ?hr ?hp (fun _ hk => hk) trivial HB1.out HB1.out.size (by simp) ?_; (case hd => rfl); (case hg => rfl); (case hr => first | (go_simp; done) | (go_simp; rfl)); (case hp => exact (Reps.none _ _)); intro v7 w2 ho hb hg _; obtain ⟨A7, c7, e7⟩ := Kd.S_slice ho; rw [List.length_nil] at e7; subst e7; have HS := Lib.hid ho; have HB2 := Lib.hid hb; have HG2 := Lib.hid hg; clear ho hb hg)
    | ((with_reducible refine gate_dst (N := 4) rfl ?_); refine box_event ?hg (N := 4) ?hd (cs := #[.slice none 0 0]) (t := 38) ?hr ?_; (case hd => rfl); (case hg => rfl); (case hr => first | (go_simp; done) | (go_simp; rfl)); intro Bo hg w3 hbo hb; have HBO := Lib.hid hbo; have HB3 := Lib.hid hb; have HGO := Lib.hid hg; have hc3 : w3.cell? ⟨Bo, 0, none⟩ = some (.slice none 0 0) := (blk_cell hbo 0).trans rfl; have hf3 : w3.frozen? ⟨Bo, 0, none⟩ = false := blk_frozen hbo 0; clear hg hbo hb)
    | ((with_reducible refine gate_dst (N := 5) rfl ?_); refine box_event ?hg (N := 5) ?hd (cs := #[.nilFunc]) (t := 95) ?hr ?_; (case hd => rfl); (case hg => rfl); (case hr => first | (go_simp; done) | (go_simp; rfl)); intro Ba hg w4 hba hb; have HBA := Lib.hid hba; have HB4 := Lib.hid hb; have HGA := Lib.hid hg; have hc4 : w4.cell? ⟨Ba, 0, none⟩ = some .nilFunc := (blk_cell hba 0).trans rfl; have hf4 : w4.frozen? ⟨Ba, 0, none⟩ = false := blk_frozen hba 0; clear hg hba hb))
  have hgo := HGO.out
  have hst := impl_Puzzle_solutions.start (ch := c0_0) (cc := c0_1) HR0.out HC0.out HR1.out HC1.out HBP.out HB1.out HS.out HB2.out HG2.out HBO.out HB3.out hgo HBA.out HB4.out HGA.out
  have HST := Lib.hid hst
  clear hst hgo hc3 hf3 hc4 hf4 HBP HB1 HS HB2 HG2 HBO HB3 HGO HBA HB4 HGA
  generalize World.setCell w4 _ _ = W0 at HST ⊢
  go_loopg [9] 11 (fun kq v9 w' => ∃ (n : Int) (o : List (List Int)) (vq : Value), v9 = .int .i64 n ∧ Aside0 (0 ≤ n ∧ n ≤ 10) ∧ Aside0 (impl_Puzzle_solutions.l k l0_0 l0_1 kq n o = some (r1, r2)) ∧ Aside0 (kq ≤ 11) ∧ Hid (impl_Puzzle_solutions_1.At w Bp Bo Ba A0_0 c0_0 l0_0 A0_1 c0_1 l0_1 w' ∧ w'.heap[Bo]? = some (.cells #[vq] 38 (0, 0)) ∧ Kd.S (Kd.slice 3 (Kd.int .i64)) 24 w' w.heap.size (fun _ => True) vq o))
  case atStart => exact ⟨0, [], .slice A7 0 c7, rfl, ⟨by omega, by omega⟩, H0, ⟨Nat.le_refl _⟩, HST⟩
  case round =>
    clear H0 HST
    obtain ⟨n, o, vq, rfl, ⟨hn0, hn1⟩, HQ, HK1, HST⟩ := hrel
    cases gk with
    | zero => exact absurd HQ.out (by simp [impl_Puzzle_solutions.l])
    | succ k1 =>
      have H := HQ.out
      clear HQ
      simp only [impl_Puzzle_solutions.l] at H
      by_cases c1 : n < 10
      · rw [if_pos c1] at H
        have c1b : decide (n < 10) = true := decide_eq_true c1
        obtain ⟨ft, A1, H⟩ := Option.bind_eq_some_iff.mp H
        have hp0 : wr.cell? ⟨Bp, 0, none⟩ = some (.slice A0_0 l0_0.length c0_0) := (blk_cell HST.out.1.bp 0).trans rfl
        have hp1 : wr.cell? ⟨Bp, 1, none⟩ = some (.slice A0_1 l0_1.length c0_1) := (blk_cell HST.out.1.bp 1).trans rfl
        have hupz := Tryz.underlying29
        have hfit := impl_Puzzle_fits.calls A0_0 c0_0 l0_0 A0_1 c0_1 l0_1 0 n ft wr (Kd.C_below HR0.out HST.out.1.below) HC0.out (Kd.C_below HR1.out HST.out.1.below) HC1.out A1
        by_cases c2 : ft = true
        · subst c2
          rw [if_pos rfl] at H
          obtain ⟨⟨rb, ro⟩, A2, H⟩ := Option.bind_eq_some_iff.mp H
          have H8 := Aside0.mk H
          have HA2 := Aside0.mk A2
          clear H A1 A2
          go_wp2_with (first
            | (go_at_call 44; refine hfit.mono ?_; rintro e w1 ⟨rfl, hb1⟩; have HST1 := Lib.hid (impl_Puzzle_solutions.step HST.out hb1); clear hb1; have hca : w1.cell? ⟨Ba, 0, none⟩ = some (.func (.func 90) #[] #[.pointer (some ⟨Bo, 0, none⟩), .pointer (some ⟨Bp, 0, none⟩), .pointer (some ⟨Ba, 0, none⟩)]) := (blk_cell HST1.out.1.ba 0).trans rfl; have HST2 := Lib.hid (impl_Puzzle_solutions.step HST1.out (below_alloc (Below.refl _ w1) (.cells #[.int .i64 n] 3 (0, 0)))); have hp5 : (w1.alloc (.cells #[.int .i64 n] 3 (0, 0))).cell? ⟨Bp, 0, none⟩ = some (.slice A0_0 l0_0.length c0_0) := (blk_cell HST2.out.1.bp 0).trans rfl; have HSAY := Lib.hid (impl_Puzzle_solutions_1.says w Bp Bo Ba A0_0 c0_0 l0_0 A0_1 c0_1 l0_1 k [n] l0_0 (.slice (some ⟨w1.heap.size, 0, none⟩) 1 1) A0_0 c0_0 o vq (fun _ => True) (w1.alloc (.cells #[.int .i64 n] 3 (0, 0))) rb ro HST2.out.1 HST2.out.2.1 (Kd.S_elder' HST1.out.2.2 (Kd.R_base (impl_Puzzle_solutions.one w1 n)) (below_alloc (Below.refl _ w1) _)) (Kd.R_lower (impl_Puzzle_solutions.one w1 n) HST1.out.1.below.size) (fun W' _ hw => Kd.C_below HR0.out hw) HC0.out (fun _ _ => trivial) HA2.out))
            | (refine HSAY.out.mono ?_; rintro e w6 ⟨rfl, vr, ho, hs, hb, hk⟩; have HST3 := Lib.hid (show impl_Puzzle_solutions_1.At w Bp Bo Ba A0_0 c0_0 l0_0 A0_1 c0_1 l0_1 w6 ∧ w6.heap[Bo]? = some (.cells #[vr] 38 (0, 0)) ∧ Kd.S (Kd.slice 3 (Kd.int .i64)) 24 w6 w.heap.size (fun _ => True) vr ro from ⟨HST2.out.1.step hb hk, ho, hs⟩); clear ho hs hb hk; cases rb))
          · have H7 := H8.out
            clear H8
            simp only [Bool.false_eq_true, if_false, Option.some.injEq, Prod.mk.injEq] at H7
            obtain ⟨rfl, rfl⟩ := H7
            go_wp2_with (fail)
            go_ret2
            exact ⟨.slice none 0 0, rfl, Kd.S_nil _ _ _ _ _, HST3.out.1.below⟩
          · go_wp2_with (fail)
            go_roundg k1
            case measure => have := HK1.out; omega
            case rel => exact ⟨n + 1, ro, vr, rfl, ⟨by omega, by omega⟩, ⟨H8.out⟩, ⟨by have := HK1.out; omega⟩, HST3⟩
        · rw [if_neg c2] at H
          have c2b : ft = false := by simpa using c2
          subst c2b
          have H9 := Aside0.mk H
          clear H A1
          go_wp2_with (go_at_call 44; refine hfit.mono ?_; rintro e w1 ⟨rfl, hb1⟩; have HST1 := Lib.hid (impl_Puzzle_solutions.step HST.out hb1); clear hb1)
          go_roundg k1
          case measure => have := HK1.out; omega
          case rel => exact ⟨n + 1, o, vq, rfl, ⟨by omega, by omega⟩, H9, ⟨by have := HK1.out; omega⟩, HST1⟩
      · rw [if_neg c1] at H
        have c1b : decide (n < 10) = false := decide_eq_false c1
        simp only [Option.some.injEq, Prod.mk.injEq] at H
        obtain ⟨rfl, rfl⟩ := H
        have hp0 : wr.cell? ⟨Bo, 0, none⟩ = some vq := (blk_cell HST.out.2.1 0).trans rfl
        obtain ⟨Aq, cq, rfl⟩ := Kd.S_slice HST.out.2.2
        go_wp2_with (fail)
        go_ret2
        exact ⟨_, rfl, HST.out.2.2, HST.out.1.below⟩

/-! ### impl_Puzzle_isSingle: function 53 -/
def impl_Puzzle_isSingle.f (k : Nat) (l0_0 : List (S67)) (l0_1 : List Int) : Option (Bool) := (impl_Puzzle_solutions.f k l0_0 l0_1).bind fun bt488 => (some ((bt488.1.length : Int) == 1))
end Go.Proofs.YtfkonhamjnembaaGreat.QFnPuzzlesMade
