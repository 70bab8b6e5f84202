-- WRITTEN BY A PROGRAM OF THIS CLAIM'S AUTHOR (wprint.py)
import Derived.Test.YtkofmaeffgbelaaQFnChainsListedx0
import Derived.Test.YtkofmaeffgbelaaQFnChainsListedx2
import Derived.Test.YtkofmaeffgbelaaQFnChainsListedx3
namespace Go.Proofs.Ytkofmaeffgbelaa.QFnChainsListed
open Go.RowKit Go.Proofs.YtkofmaeffgbelaaW.PrintWords Go.Proofs.YtkofmaeffgbelaaW.PrintLast Go.Proofs.YtkofmaeffgbelaaW.PrintMore
attribute [local go_sem] max2_int min2_int max_two min_two max_three min_three max_four min_four   -- for this text's walks alone
set_option linter.unusedVariables false
set_option linter.unusedSimpArgs false

/-! ### spec_haLook_look: function 52, by hand -/
/-! ### the reference's search for chains: (*haLook).look -/
def plx (t0 t1 : Int) : List S39 → Nat → Int
 | [], _ => -1
 | x :: xs, i => if x.f0 = t0 ∧ x.f1 = t1 then (i : Int) else plx t0 t1 xs (i + 1)
theorem g_mid (pre : List S39) (x : S39) (xs : List S39) : rd_T39 (pre ++ x :: xs) (pre.length : Int) = x := by
 unfold rd_T39
 rw [show ((pre.length : Int)).toNat = pre.length from rfl, List.getD_eq_getElem?_getD, List.getElem?_append_right (Nat.le_refl _), Nat.sub_self]
 rfl
theorem g_wrap (n : Int) (h : -1000000000 ≤ n) (h' : n ≤ 1000000000) : wrap64 n = n := by
 unfold wrap64
 omega
theorem place_l (t0 t1 : Int) : ∀ (rest pre : List S39) (k : Nat), pre.length + rest.length ≤ 1000 → rest.length < k →
  spec_tiPlace.l0 k (pre ++ rest) ((pre.length + rest.length : Nat) : Int) (pre.length : Int) t0 t1 = some (plx t0 t1 rest pre.length) := by
 intro rest
 induction rest with
 | nil =>
  intro pre k h0 h3
  obtain ⟨k, rfl⟩ : ∃ m, k = m + 1 := ⟨k - 1, by omega⟩
  simp only [spec_tiPlace.l0, List.length_nil]
  rw [if_neg (by omega)]
  rfl
 | cons x xs ih =>
  intro pre k h0 h3
  have hl2 : (x :: xs).length = xs.length + 1 := rfl
  obtain ⟨k, rfl⟩ : ∃ m, k = m + 1 := ⟨k - 1, by omega⟩
  have hln : (pre ++ x :: xs).length = pre.length + (x :: xs).length := by simp
  simp only [spec_tiPlace.l0]
  rw [if_pos (by omega), if_pos (by omega), hln, if_pos (by omega), g_mid]
  unfold plx
  have hi := ih (pre ++ [x]) k (by simp; omega) (by omega)
  have e1 : pre ++ [x] ++ xs = pre ++ x :: xs := by simp
  have e2 : (pre ++ [x]).length + xs.length = pre.length + (x :: xs).length := by simp; omega
  have e3 : (((pre ++ [x]).length : Nat) : Int) = (pre.length : Int) + 1 := by simp
  have e4 : (pre ++ [x]).length = pre.length + 1 := by simp
  rw [e1, e2, e3, e4] at hi
  by_cases h : x.f0 = t0 ∧ x.f1 = t1
  ·rw [if_pos h, if_pos (by simp [h.1, h.2])]
  ·have hb : ¬ (x.f0 == t0 && (x.f1 == t1)) = true := by
    rw [Bool.and_eq_true, beq_iff_eq, beq_iff_eq]
    exact h
   rw [if_neg h, if_neg hb, g_wrap ((pre.length : Int) + 1) (by omega) (by omega), hi]
theorem place_f (t0 t1 : Int) (l : List S39) (h : l.length ≤ 1000) : spec_tiPlace.f 1001 l t0 t1 = some (plx t0 t1 l 0) := by
 have := place_l t0 t1 l [] 1001 (by simpa using h) (by omega)
 simpa [spec_tiPlace.f] using this
/-- Where the tile lies by which a chain goes on. -/
def nxt (hand : List S39) (chain : List Int) (n : Int) : Int := plx (if rd chain ((chain.length : Int) - 1) < n then rd chain ((chain.length : Int) - 1) else n) (if rd chain ((chain.length : Int) - 1) > n then rd chain ((chain.length : Int) - 1) else n) hand 0
def lookLoop (rec : List Int → List Bool → List Int → List Int) (hand : List S39) (chain : List Int) (used : List Bool) : Nat → Int → List Int → List Int
 | 0, _, lo => lo
 | m + 1, n, lo => if nxt hand chain n < 0 then lookLoop rec hand chain used m (n + 1) lo else (if rdOf false used (nxt hand chain n) = true then lookLoop rec hand chain used m (n + 1) lo else lookLoop rec hand chain used m (n + 1) (rec (chain ++ [n]) (used.set (nxt hand chain n).toNat true) lo))
def longer (chain lo : List Int) : List Int := if lo.length < chain.length then chain else lo
/-- The longest chain that is found from a chain on. -/
def lookL (hand : List S39) : Nat → List Int → List Bool → List Int → List Int
 | 0, chain, _, lo => longer chain lo
 | d + 1, chain, used, lo => lookLoop (fun c u l => lookL hand d c u l) hand chain used 10 0 (longer chain lo)
/-! #### what lies in memory -/
structure K3 (B gC gU : Nat) (W W' : World) : Prop where
 size : W.heap.size ≤ W'.heap.size
 same : ∀ i, i < W.heap.size → i ≠ B → i ≠ gC → i ≠ gU → W'.heap[i]? = W.heap[i]?
theorem K3.refl (B gC gU : Nat) (W : World) : K3 B gC gU W W := ⟨Nat.le_refl _, fun _ _ _ _ _ => rfl⟩
theorem K3.trans {B gC gU : Nat} {W W1 W2 : World} (h : K3 B gC gU W W1) (k : K3 B gC gU W1 W2) : K3 B gC gU W W2 := ⟨Nat.le_trans h.1 k.1, fun i hi a b c => (k.2 i (Nat.lt_of_lt_of_le hi h.1) a b c).trans (h.2 i hi a b c)⟩
theorem K3.below {B gC gU : Nat} {W W' : World} (h : Below W.heap.size W W') : K3 B gC gU W W' := ⟨h.size, fun i hi _ _ _ => h.block i hi⟩
theorem K3.set {B gC gU X : Nat} (W : World) (hX : X = B ∨ X = gC ∨ X = gU) (j : Nat) (u : Value) : K3 B gC gU W (W.setCell ⟨X, j, none⟩ u) := ⟨by rw [World.size_setCell]; exact Nat.le_refl _, fun i _ a b c => Below.heap_setCell W ⟨X, j, none⟩ u i (by rintro rfl; rcases hX with h | h | h <;> first | exact a h | exact b h | exact c h)⟩
theorem K3.row {B gC gU : Nat} {W W' : World} {base : Nat} {v : Value} {xs : List Int} (h : K3 B gC gU W W') (hR : Kd.R (Kd.int .i64) 3 W base (fun k => k ≠ gC) v xs) {cb cu : Array Value} {tb tu : Nat} (hB : W.heap[B]? = some (.cells cb tb (0, 0))) (hU : W.heap[gU]? = some (.cells cu tu (0, 0))) (hb : 3 ≠ tb) (hu : 3 ≠ tu) : Kd.R (Kd.int .i64) 3 W' base (fun k => k ≠ gC) v xs := by
 have h1 := Kd.R_types (Kd.R_types hR hB (by intro q hq; simp at hq; rcases hq with rfl | hq; exact hb; cases hq)) hU (by intro q hq; simp at hq; rcases hq with rfl | hq; exact hu; cases hq)
 exact Kd.R_mono (Kd.R_step h1 (fun k hk hlt => h.same k hlt hk.1.2 hk.1.1 hk.2)) (fun _ hk => hk.1.1)
structure spec_haLook_look.Lk (w : World) (B gC cC gU cU : Nat) (Ah : Option Addr) (ch : Nat) (hand : List S39) (U : List Bool) (lo : List Int) (W : World) : Prop where
 below : Below w.heap.size w W
 yB : w.heap.size ≤ B
 cells : ∃ (cnt : Int) (vL vlo : Value), W.heap[B]? = some (.cells #[.slice Ah hand.length ch, .int .i64 0, .int .i64 cnt, .slice (some ⟨gC, 0, none⟩) hand.length cC, vL, vlo] 52 (0, 0)) ∧ (vL = .slice none 0 0 ∨ ∃ a c, vL = .slice (some a) 1 c) ∧ Kd.R (Kd.int .i64) 3 W w.heap.size (fun k => k ≠ gC) vlo lo
 counts : ∃ cl : List Int, cl.length = hand.length ∧ Kd.R (Kd.int .i64) 3 W w.heap.size (fun _ => True) (.slice (some ⟨gC, 0, none⟩) cl.length cC) cl
 used : Kd.R Kd.bool 4 W w.heap.size (fun _ => True) (.slice (some ⟨gU, 0, none⟩) U.length cU) U
 ulen : U.length = hand.length
section
variable {w : World} {B gC cC gU cU : Nat} {Ah : Option Addr} {ch : Nat} {hand : List S39} {U : List Bool} {lo : List Int} {W W' : World}
theorem spec_haLook_look.Lk.step (h : spec_haLook_look.Lk w B gC cC gU cU Ah ch hand U lo W) (hb : Below W.heap.size W W') : spec_haLook_look.Lk w B gC cC gU cU Ah ch hand U lo W' := by
 obtain ⟨cnt, vL, vlo, c1, c2, c3⟩ := h.cells
 obtain ⟨cl, d1, d2⟩ := h.counts
 exact ⟨h.below.trans (hb.mono h.below.size), h.yB, ⟨cnt, vL, vlo, blk_below c1 hb, c2, Kd.R_below c3 hb⟩, ⟨cl, d1, Kd.R_below d2 hb⟩, Kd.R_below h.used hb, h.ulen⟩
theorem spec_haLook_look.Lk.put (h : spec_haLook_look.Lk w B gC cC gU cU Ah ch hand U lo W) (j : Nat) (u : Value) (lo' : List Int)
  (hc : ∀ cnt vL vlo, (vL = .slice none 0 0 ∨ ∃ a c, vL = .slice (some a) 1 c) → Kd.R (Kd.int .i64) 3 W w.heap.size (fun k => k ≠ gC) vlo lo → ∃ cnt' vL' vlo', #[Value.slice Ah hand.length ch, .int .i64 0, .int .i64 cnt, .slice (some ⟨gC, 0, none⟩) hand.length cC, vL, vlo].setIfInBounds j u = #[Value.slice Ah hand.length ch, .int .i64 0, .int .i64 cnt', .slice (some ⟨gC, 0, none⟩) hand.length cC, vL', vlo'] ∧ (vL' = .slice none 0 0 ∨ ∃ a c, vL' = .slice (some a) 1 c) ∧ Kd.R (Kd.int .i64) 3 W w.heap.size (fun k => k ≠ gC) vlo' lo') :
  spec_haLook_look.Lk w B gC cC gU cU Ah ch hand U lo' (W.setCell ⟨B, j, none⟩ u) := by
 obtain ⟨cnt, vL, vlo, c1, c2, c3⟩ := h.cells
 obtain ⟨cl, d1, d2⟩ := h.counts
 obtain ⟨cnt', vL', vlo', e1, e2, e3⟩ := hc cnt vL vlo c2 c3
 exact ⟨h.below.setCell h.yB _, h.yB, ⟨cnt', vL', vlo', blk_put c1 j u e1, e2, Kd.R_set e3 c1 (by decide) j u⟩, ⟨cl, d1, Kd.R_set d2 c1 (by decide) j u⟩, Kd.R_set h.used c1 (by decide) j u, h.ulen⟩
end
/-- What a search does. -/
def spec_haLook_look.Says (w : World) (B gC cC gU cU : Nat) (Ah : Option Addr) (ch : Nat) (hand : List S39) (d : Nat) : Prop :=
 ∀ (chain : List Int) (Ac : Option Addr) (cc : Nat) (U : List Bool) (lo : List Int) (W : World), spec_haLook_look.Lk w B gC cC gU cU Ah ch hand U lo W → 1 ≤ chain.length → chain.length + d = hand.length + 1 → (∀ x ∈ chain, 0 ≤ x ∧ x ≤ 9) →
  (∀ W', K3 B gC gU W W' → Below w.heap.size w W' → Kd.C (Kd.int .i64) W' Ac chain.length chain) → chain.length ≤ cc →
  Calls Try.prog 52 #[.pointer (some ⟨B, 0, none⟩), .slice Ac chain.length cc, .slice (some ⟨gU, 0, none⟩) hand.length cU] W fun e W' => e = .returned (.tuple #[]) ∧
   spec_haLook_look.Lk w B gC cC gU cU Ah ch hand U (lookL hand d chain U lo) W' ∧ K3 B gC gU W W'
theorem own_f (l : List Int) (h : l.length ≤ 1000000) : spec_l1Own.f l = some l := by
 unfold spec_l1Own.f
 simp only [Option.bind_some, List.length_nil, List.nil_append]
 rw [if_pos (by omega)]
theorem spec_haLook_look.info : (Try.prog.info? 29).map (fun i => (i.zero, i.size, i.bytes)) = some (some (.slice none 0 0), (Kd.slice 3 (Kd.int .i64)).sz, 24) := by kernel_rfl
end Go.Proofs.Ytkofmaeffgbelaa.QFnChainsListed
