-- WRITTEN BY A PROGRAM OF THIS CLAIM'S AUTHOR (wprint.py)
import Derived.Test.YtafcjfilhdpgdaaQFnChancesComparedx0
import Derived.Test.YtafcjfilhdpgdaaQFnChancesComparedx7
namespace Go.Proofs.Ytafcjfilhdpgdaa.QFnChancesCompared
open Go.RowKit Go.Proofs.YtafcjfilhdpgdaaW.PrintWords Go.Proofs.YtafcjfilhdpgdaaW.PrintLast Go.Proofs.YtafcjfilhdpgdaaW.PrintMore
attribute [local go_sem] max2_int min2_int max_two min_two max_three min_three max_four min_four   -- for this text's walks alone
set_option linter.unusedVariables false
set_option linter.unusedSimpArgs false

/-! ### spec_haLook_look: function 72, by hand -/
/-! ### the reference's search for chains: (*haLook).look -/
def plx (t0 t1 : Int) : List S53 → Nat → Int
  | [], _ => -1
  | x :: xs, i => if x.f0 = t0 ∧ x.f1 = t1 then (i : Int) else plx t0 t1 xs (i + 1)
theorem plx_range (t0 t1 : Int) : ∀ (l : List S53) (i : Nat), plx t0 t1 l i < 0 ∨ ((i : Int) ≤ plx t0 t1 l i ∧ plx t0 t1 l i < (i + l.length : Nat))
  | [], _ => .inl (by simp [plx])
  | x :: xs, i => by
    unfold plx
    rw [List.length_cons]
    split
    · exact .inr (by omega)
    · rcases plx_range t0 t1 xs (i + 1) with h | h
      · exact .inl h
      · exact .inr (by omega)
theorem g_mid (pre : List S53) (x : S53) (xs : List S53) : rd_T53 (pre ++ x :: xs) (pre.length : Int) = x := by
  unfold rd_T53
  rw [show ((pre.length : Int)).toNat = pre.length from rfl, List.getD_eq_getElem?_getD, List.getElem?_append_right (Nat.le_refl _), Nat.sub_self]
  rfl
theorem g_wrap (n : Int) (h : -1000000000 ≤ n) (h' : n ≤ 1000000000) : wrap64 n = n := by
  unfold wrap64
  omega
theorem place_l (t0 t1 : Int) : ∀ (rest pre : List S53) (k : Nat), pre.length + rest.length ≤ 1000 → rest.length < k →
    spec_tiPlace.l0 k (pre ++ rest) ((pre.length + rest.length : Nat) : Int) (pre.length : Int) t0 t1 = some (plx t0 t1 rest pre.length) := by
  intro rest
  induction rest with
  | nil =>
    intro pre k h0 h3
    obtain ⟨k, rfl⟩ : ∃ m, k = m + 1 := ⟨k - 1, by omega⟩
    simp only [spec_tiPlace.l0, List.length_nil]
    rw [if_neg (by omega)]
    rfl
  | cons x xs ih =>
    intro pre k h0 h3
    have hl2 : (x :: xs).length = xs.length + 1 := rfl
    obtain ⟨k, rfl⟩ : ∃ m, k = m + 1 := ⟨k - 1, by omega⟩
    have hln : (pre ++ x :: xs).length = pre.length + (x :: xs).length := by simp
    simp only [spec_tiPlace.l0]
    rw [if_pos (by omega), if_pos (by omega), hln, if_pos (by omega), g_mid]
    unfold plx
    have hi := ih (pre ++ [x]) k (by simp; omega) (by omega)
    have e1 : pre ++ [x] ++ xs = pre ++ x :: xs := by simp
    have e2 : (pre ++ [x]).length + xs.length = pre.length + (x :: xs).length := by simp; omega
    have e3 : (((pre ++ [x]).length : Nat) : Int) = (pre.length : Int) + 1 := by simp
    have e4 : (pre ++ [x]).length = pre.length + 1 := by simp
    rw [e1, e2, e3, e4] at hi
    by_cases h : x.f0 = t0 ∧ x.f1 = t1
    · rw [if_pos h, if_pos (by simp [h.1, h.2])]
    · have hb : ¬ (x.f0 == t0 && (x.f1 == t1)) = true := by
        rw [Bool.and_eq_true, beq_iff_eq, beq_iff_eq]
        exact h
      rw [if_neg h, if_neg hb, g_wrap ((pre.length : Int) + 1) (by omega) (by omega), hi]
theorem place_f (t0 t1 : Int) (l : List S53) (h : l.length ≤ 1000) : spec_tiPlace.f 1001 l t0 t1 = some (plx t0 t1 l 0) := by
  have := place_l t0 t1 l [] 1001 (by simpa using h) (by omega)
  simpa [spec_tiPlace.f] using this
/-- Where the tile lies by which a chain goes on. -/
def nxt (hand : List S53) (chain : List Int) (n : Int) : Int := plx (if rd chain ((chain.length : Int) - 1) < n then rd chain ((chain.length : Int) - 1) else n) (if rd chain ((chain.length : Int) - 1) > n then rd chain ((chain.length : Int) - 1) else n) hand 0
theorem of_f (a b : Int) : spec_tiOf.f a b = some (if a < b then a else b, if a > b then a else b) := by
  unfold spec_tiOf.f spec_l1Least.f spec_l1Most.f
  by_cases h1 : a < b <;> by_cases h2 : a > b <;> simp [h1, h2]
def lookLoop (rec : List Int → List Bool → List Int → List Int) (hand : List S53) (chain : List Int) (used : List Bool) : Nat → Int → List Int → List Int
  | 0, _, lo => lo
  | m + 1, n, lo => if nxt hand chain n < 0 then lookLoop rec hand chain used m (n + 1) lo else (if rdOf false used (nxt hand chain n) = true then lookLoop rec hand chain used m (n + 1) lo else lookLoop rec hand chain used m (n + 1) (rec (chain ++ [n]) (used.set (nxt hand chain n).toNat true) lo))
def longer (chain lo : List Int) : List Int := if lo.length < chain.length then chain else lo
/-- The longest chain that is found from a chain on. -/
def lookL (hand : List S53) : Nat → List Int → List Bool → List Int → List Int
  | 0, chain, _, lo => longer chain lo
  | d + 1, chain, used, lo => lookLoop (fun c u l => lookL hand d c u l) hand chain used 10 0 (longer chain lo)
/-! #### what lies in memory -/
theorem blk_typ {W : World} {X Y : Nat} {c c' : Array Value} {t t' : TypeId} (hX : W.heap[X]? = some (.cells c t (0, 0))) (hY : W.heap[Y]? = some (.cells c' t' (0, 0))) (h : t ≠ t') : X ≠ Y := by
  rintro rfl
  rw [hX] at hY
  injection hY with hY
  injection hY with _ e
  exact h e
structure K3 (B gC gU : Nat) (W W' : World) : Prop where
  size : W.heap.size ≤ W'.heap.size
  same : ∀ i, i < W.heap.size → i ≠ B → i ≠ gC → i ≠ gU → W'.heap[i]? = W.heap[i]?
theorem K3.refl (B gC gU : Nat) (W : World) : K3 B gC gU W W := ⟨Nat.le_refl _, fun _ _ _ _ _ => rfl⟩
theorem K3.trans {B gC gU : Nat} {W W1 W2 : World} (h : K3 B gC gU W W1) (k : K3 B gC gU W1 W2) : K3 B gC gU W W2 := ⟨Nat.le_trans h.1 k.1, fun i hi a b c => (k.2 i (Nat.lt_of_lt_of_le hi h.1) a b c).trans (h.2 i hi a b c)⟩
theorem K3.below {B gC gU : Nat} {W W' : World} (h : Below W.heap.size W W') : K3 B gC gU W W' := ⟨h.size, fun i hi _ _ _ => h.block i hi⟩
theorem K3.set {B gC gU X : Nat} (W : World) (hX : X = B ∨ X = gC ∨ X = gU) (j : Nat) (u : Value) : K3 B gC gU W (W.setCell ⟨X, j, none⟩ u) := ⟨by rw [World.size_setCell]; exact Nat.le_refl _, fun i _ a b c => Below.heap_setCell W ⟨X, j, none⟩ u i (by rintro rfl; rcases hX with h | h | h <;> first | exact a h | exact b h | exact c h)⟩
theorem K3.row {B gC gU : Nat} {W W' : World} {base : Nat} {v : Value} {xs : List Int} (h : K3 B gC gU W W') (hR : Kd.R (Kd.int .i64) 3 W base (fun k => k ≠ gC) v xs) {cb cu : Array Value} {tb tu : Nat} (hB : W.heap[B]? = some (.cells cb tb (0, 0))) (hU : W.heap[gU]? = some (.cells cu tu (0, 0))) (hb : 3 ≠ tb) (hu : 3 ≠ tu) : Kd.R (Kd.int .i64) 3 W' base (fun k => k ≠ gC) v xs := by
  have h1 := Kd.R_types (Kd.R_types hR hB (by intro q hq; simp at hq; rcases hq with rfl | hq; exact hb; cases hq)) hU (by intro q hq; simp at hq; rcases hq with rfl | hq; exact hu; cases hq)
  exact Kd.R_mono (Kd.R_step h1 (fun k hk hlt => h.same k hlt hk.1.2 hk.1.1 hk.2)) (fun _ hk => hk.1.1)
structure spec_haLook_look.Lk (w : World) (B gC cC gU cU : Nat) (Ah : Option Addr) (ch : Nat) (hand : List S53) (U : List Bool) (lo : List Int) (W : World) : Prop where
  below : Below w.heap.size w W
  yB : w.heap.size ≤ B
  cells : ∃ (cnt : Int) (vL vlo : Value), W.heap[B]? = some (.cells #[.slice Ah hand.length ch, .int .i64 0, .int .i64 cnt, .slice (some ⟨gC, 0, none⟩) hand.length cC, vL, vlo] 71 (0, 0)) ∧ (vL = .slice none 0 0 ∨ ∃ a c, vL = .slice (some a) 1 c) ∧ Kd.R (Kd.int .i64) 3 W w.heap.size (fun k => k ≠ gC) vlo lo
  counts : ∃ cl : List Int, cl.length = hand.length ∧ Kd.R (Kd.int .i64) 3 W w.heap.size (fun _ => True) (.slice (some ⟨gC, 0, none⟩) cl.length cC) cl
  used : Kd.R Kd.bool 4 W w.heap.size (fun _ => True) (.slice (some ⟨gU, 0, none⟩) U.length cU) U
  ulen : U.length = hand.length
section
variable {w : World} {B gC cC gU cU : Nat} {Ah : Option Addr} {ch : Nat} {hand : List S53} {U : List Bool} {lo : List Int} {W W' : World}
theorem spec_haLook_look.Lk.step (h : spec_haLook_look.Lk w B gC cC gU cU Ah ch hand U lo W) (hb : Below W.heap.size W W') : spec_haLook_look.Lk w B gC cC gU cU Ah ch hand U lo W' := by
  obtain ⟨cnt, vL, vlo, c1, c2, c3⟩ := h.cells
  obtain ⟨cl, d1, d2⟩ := h.counts
  exact ⟨h.below.trans (hb.mono h.below.size), h.yB, ⟨cnt, vL, vlo, blk_below c1 hb, c2, Kd.R_below c3 hb⟩, ⟨cl, d1, Kd.R_below d2 hb⟩, Kd.R_below h.used hb, h.ulen⟩
theorem spec_haLook_look.Lk.bblk (h : spec_haLook_look.Lk w B gC cC gU cU Ah ch hand U lo W) : ∃ cs, W.heap[B]? = some (.cells cs 71 (0, 0)) := by
  obtain ⟨cnt, vL, vlo, c1, _⟩ := h.cells
  exact ⟨_, c1⟩
theorem spec_haLook_look.Lk.cblk (h : spec_haLook_look.Lk w B gC cC gU cU Ah ch hand U lo W) : ∃ cs, W.heap[gC]? = some (.cells cs 3 (0, 0)) := by
  obtain ⟨cl, d1, d2⟩ := h.counts
  exact Kd.R_typed d2 gC rfl
theorem spec_haLook_look.Lk.ublk (h : spec_haLook_look.Lk w B gC cC gU cU Ah ch hand U lo W) : ∃ cs, W.heap[gU]? = some (.cells cs 4 (0, 0)) := Kd.R_typed h.used gU rfl
/-- A cell of the struct is written. -/
theorem spec_haLook_look.Lk.put (h : spec_haLook_look.Lk w B gC cC gU cU Ah ch hand U lo W) (j : Nat) (u : Value) (lo' : List Int)
    (hc : ∀ cnt vL vlo, (vL = .slice none 0 0 ∨ ∃ a c, vL = .slice (some a) 1 c) → Kd.R (Kd.int .i64) 3 W w.heap.size (fun k => k ≠ gC) vlo lo → ∃ cnt' vL' vlo', #[Value.slice Ah hand.length ch, .int .i64 0, .int .i64 cnt, .slice (some ⟨gC, 0, none⟩) hand.length cC, vL, vlo].setIfInBounds j u = #[Value.slice Ah hand.length ch, .int .i64 0, .int .i64 cnt', .slice (some ⟨gC, 0, none⟩) hand.length cC, vL', vlo'] ∧ (vL' = .slice none 0 0 ∨ ∃ a c, vL' = .slice (some a) 1 c) ∧ Kd.R (Kd.int .i64) 3 W w.heap.size (fun k => k ≠ gC) vlo' lo') :
    spec_haLook_look.Lk w B gC cC gU cU Ah ch hand U lo' (W.setCell ⟨B, j, none⟩ u) := by
  obtain ⟨cnt, vL, vlo, c1, c2, c3⟩ := h.cells
  obtain ⟨cl, d1, d2⟩ := h.counts
  obtain ⟨cnt', vL', vlo', e1, e2, e3⟩ := hc cnt vL vlo c2 c3
  exact ⟨h.below.setCell h.yB _, h.yB, ⟨cnt', vL', vlo', blk_put c1 j u e1, e2, Kd.R_set e3 c1 (by decide) j u⟩, ⟨cl, d1, Kd.R_set d2 c1 (by decide) j u⟩, Kd.R_set h.used c1 (by decide) j u, h.ulen⟩
theorem spec_haLook_look.Lk.count (h : spec_haLook_look.Lk w B gC cC gU cU Ah ch hand U lo W) (x : Int) : spec_haLook_look.Lk w B gC cC gU cU Ah ch hand U lo (W.setCell ⟨B, 2, none⟩ (.int .i64 x)) := h.put 2 _ lo (fun _ vL vlo c2 c3 => ⟨x, vL, vlo, rfl, c2, c3⟩)
theorem spec_haLook_look.Lk.list (h : spec_haLook_look.Lk w B gC cC gU cU Ah ch hand U lo W) (a : Addr) (c : Nat) : spec_haLook_look.Lk w B gC cC gU cU Ah ch hand U lo (W.setCell ⟨B, 4, none⟩ (.slice (some a) 1 c)) := h.put 4 _ lo (fun cnt _ vlo _ c3 => ⟨cnt, _, vlo, rfl, .inr ⟨a, c, rfl⟩, c3⟩)
theorem spec_haLook_look.Lk.long (h : spec_haLook_look.Lk w B gC cC gU cU Ah ch hand U lo W) (v : Value) (l : List Int) (hR : Kd.R (Kd.int .i64) 3 W w.heap.size (fun k => k ≠ gC) v l) : spec_haLook_look.Lk w B gC cC gU cU Ah ch hand U l (W.setCell ⟨B, 5, none⟩ v) := h.put 5 v l (fun cnt vL _ c2 _ => ⟨cnt, vL, v, rfl, c2, hR⟩)
theorem spec_haLook_look.Lk.tally (h : spec_haLook_look.Lk w B gC cC gU cU Ah ch hand U lo W) (i x : Int) : spec_haLook_look.Lk w B gC cC gU cU Ah ch hand U lo (W.setCell ⟨gC, i.toNat, none⟩ (.int .i64 x)) := by
  obtain ⟨cnt, vL, vlo, c1, c2, c3⟩ := h.cells
  obtain ⟨cl, d1, d2⟩ := h.counts
  obtain ⟨cs, hcs⟩ := h.cblk
  have hp := Kd.R_put d2 i x
  have hlen : (cl.set i.toNat x).length = cl.length := List.length_set ..
  exact ⟨h.below.setCell (Kd.R_base d2 gC rfl) _, h.yB, ⟨cnt, vL, vlo, (Below.heap_setCell W ⟨gC, i.toNat, none⟩ _ B (blk_typ c1 hcs (by decide))).trans c1, c2, Kd.R_far (p := ⟨gC, i.toNat, none⟩) c3 (fun k hk => hk) _⟩, ⟨cl.set i.toNat x, by rw [hlen]; exact d1, by rw [hlen]; exact hp.1⟩, Kd.R_set h.used hcs (by decide) _ _, h.ulen⟩
theorem spec_haLook_look.Lk.mark (h : spec_haLook_look.Lk w B gC cC gU cU Ah ch hand U lo W) (i : Int) (b : Bool) : spec_haLook_look.Lk w B gC cC gU cU Ah ch hand (U.set i.toNat b) lo (W.setCell ⟨gU, i.toNat, none⟩ (.bool b)) := by
  obtain ⟨cnt, vL, vlo, c1, c2, c3⟩ := h.cells
  obtain ⟨cl, d1, d2⟩ := h.counts
  obtain ⟨cs, hcs⟩ := h.ublk
  have hp := Kd.R_put (enc := Value.bool) h.used i b
  have hlen : (U.set i.toNat b).length = U.length := List.length_set ..
  exact ⟨h.below.setCell (Kd.R_base h.used gU rfl) _, h.yB, ⟨cnt, vL, vlo, (Below.heap_setCell W ⟨gU, i.toNat, none⟩ _ B (blk_typ c1 hcs (by decide))).trans c1, c2, Kd.R_set c3 hcs (by decide) _ _⟩, ⟨cl, d1, Kd.R_set d2 hcs (by decide) _ _⟩, by rw [hlen]; exact hp.1, by rw [hlen]; exact h.ulen⟩
end
/-- What a search does. -/
def spec_haLook_look.Says (w : World) (B gC cC gU cU : Nat) (Ah : Option Addr) (ch : Nat) (hand : List S53) (d : Nat) : Prop :=
  ∀ (chain : List Int) (Ac : Option Addr) (cc : Nat) (U : List Bool) (lo : List Int) (W : World), spec_haLook_look.Lk w B gC cC gU cU Ah ch hand U lo W → 1 ≤ chain.length → chain.length + d = hand.length + 1 → (∀ x ∈ chain, 0 ≤ x ∧ x ≤ 9) →
    (∀ W', K3 B gC gU W W' → Below w.heap.size w W' → Kd.C (Kd.int .i64) W' Ac chain.length chain) → chain.length ≤ cc →
    Calls Try.prog 72 #[.pointer (some ⟨B, 0, none⟩), .slice Ac chain.length cc, .slice (some ⟨gU, 0, none⟩) hand.length cU] W fun e W' => e = .returned (.tuple #[]) ∧
      spec_haLook_look.Lk w B gC cC gU cU Ah ch hand U (lookL hand d chain U lo) W' ∧ K3 B gC gU W W'
theorem own_f (l : List Int) (h : l.length ≤ 1000000) : spec_l1Own.f l = some l := by
  unfold spec_l1Own.f
  simp only [Option.bind_some, List.length_nil, List.nil_append]
  rw [if_pos (by omega)]
theorem below_grown_no {w w' : World} (h : w.grownBy w' (Value.slice none 0 0).ownBlock) : Below w.heap.size w w' := ⟨h.os, h.tape, h.output, h.size, fun i hi => h.block i hi (by simp [Value.ownBlock])⟩
theorem spec_haLook_look.info : (Try.prog.info? 62).map (fun i => (i.zero, i.size, i.bytes)) = some (some (.slice none 0 0), (Kd.slice 3 (Kd.int .i64)).sz, 24) := by kernel_rfl
theorem fresh_gC {w W w1 : World} {gC : Nat} {v : Value} {xs : List Int} (h : Kd.R (Kd.int .i64) 3 w1 W.heap.size (fun _ => True) v xs) (hg : gC < W.heap.size) (hw : w.heap.size ≤ W.heap.size) : Kd.R (Kd.int .i64) 3 w1 w.heap.size (fun k => k ≠ gC) v xs :=
  Kd.R_lower (Kd.R_mono (Kd.R_bound h) (fun k hk => by have := hk.2.1; omega)) hw
set_option maxHeartbeats 8000000 in
set_option maxRecDepth 1000000 in
theorem spec_haLook_look.leaf (w : World) (B gC cC gU cU : Nat) (Ah : Option Addr) (ch : Nat) (hand : List S53) (hh : hand.length ≤ 1000) : spec_haLook_look.Says w B gC cC gU cU Ah ch hand 0 := by
  intro chain Ac cc U lo W hL h1 hd hc hC hcc
  obtain ⟨cnt, vL, vlo, b1, b2, b3⟩ := hL.cells
  obtain ⟨Alo, clo, rfl⟩ := Kd.R_slice b3
  obtain ⟨cl, d1, d2⟩ := hL.counts
  have hb0 : W.cell? ⟨B, 0, none⟩ = some (.slice Ah hand.length ch) := (blk_cell b1 0).trans rfl
  have hb3 : W.cell? ⟨B, 3, none⟩ = some (.slice (some ⟨gC, 0, none⟩) hand.length cC) := (blk_cell b1 3).trans rfl
  have hb5 : W.cell? ⟨B, 5, none⟩ = some (.slice Alo lo.length clo) := (blk_cell b1 5).trans rfl
  have hbf : W.frozen? ⟨B, 5, none⟩ = false := blk_frozen b1 5
  have hown := fun (W' : World) (k : K3 B gC gU W W') (b : Below w.heap.size w W') => spec_l1Own.calls Ac cc chain chain W' (hC W' k b) hcc (own_f chain (by omega))
  have HLK := Lib.hid hL
  have HC := Lib.hid hC
  have HCC := Lib.hid hcc
  have HOWN := Lib.hid hown
  have HCH := Lib.hid hc
  have HR5 := Lib.hid b3
  have HB := Lib.hid b1
  have hust := Try.underlying71
  clear hL hC hcc hown hc b3 d2 d1
  rcases Nat.lt_or_ge lo.length chain.length with c1 | c1
  · rcases Nat.lt_or_ge 1 chain.length with c2 | c2
    · have c1b : decide ((lo.length : Int) < (chain.length : Int)) = true := decide_eq_true (by omega)
      have c2b : decide (1 < (chain.length : Int)) = true := decide_eq_true (by omega)
      have c1n : decide (lo.length < chain.length) = true := decide_eq_true (by omega)
      have hlg : longer chain lo = chain := by unfold longer; rw [if_pos c1]
      have HLG := Lib.hid hlg
      clear hlg
      have c3b : decide ((chain.length : Int) = (hand.length : Int) + 1) = true := decide_eq_true (by omega)
      have c3c : ((chain.length : Int) == (hand.length : Int) + 1) = true := by rw [beq_iff_eq]; omega
      have hgC : gC < W.heap.size := by obtain ⟨_, h⟩ := HLK.out.cblk; exact blk_lt h
      go_enter Try.func72, Try.ntmps72
      go_wp2_with (go_at_call 74; refine (HOWN.out _ (K3.refl _ _ _ _) HLK.out.below).mono ?_; rintro e w1 ⟨v18, rfl, ho, hb⟩; obtain ⟨A18, c18, e18⟩ := Kd.R_slice ho; subst e18; have hz5 : w1.cell? ⟨B, 5, none⟩ = some (.slice Alo lo.length clo) := (blk_cell (blk_below HB.out hb) 5).trans rfl; have hzf : w1.frozen? ⟨B, 5, none⟩ = false := blk_frozen (blk_below HB.out hb) 5
                   have HX := Lib.hid ((HLK.out.step hb).long (.slice A18 chain.length c18) chain (fresh_gC ho hgC HLK.out.below.size))
                   have HKX := Lib.hid ((K3.below (B := B) (gC := gC) (gU := gU) hb).trans (K3.set w1 (.inl rfl) 5 (.slice A18 chain.length c18)))
                   obtain ⟨cnt1, vL1, vlo1, bx, bx2, _⟩ := HX.out.cells
                   have hx0 : (w1.setCell ⟨B, 5, none⟩ (.slice A18 chain.length c18)).cell? ⟨B, 0, none⟩ = some (.slice Ah hand.length ch) := (blk_cell bx 0).trans rfl
                   have hx3 : (w1.setCell ⟨B, 5, none⟩ (.slice A18 chain.length c18)).cell? ⟨B, 3, none⟩ = some (.slice (some ⟨gC, 0, none⟩) hand.length cC) := (blk_cell bx 3).trans rfl
                   obtain ⟨cl1, e1, e2⟩ := HX.out.counts
                   have hi0 : 0 ≤ (chain.length : Int) - 2 := by omega
                   have hi1 : (chain.length : Int) - 2 < (hand.length : Int) := by omega
                   obtain ⟨hxc, hxf⟩ := Kd.R_cell (0 : Int) e2 ((chain.length : Int) - 2) hi0 (by omega)
                   have htn : ((chain.length : Int) - 2).toNat = chain.length - 2 := by omega
                   have hty := HX.out.tally ((chain.length : Int) - 2) (wrap64 (rdOf (0 : Int) cl1 ((chain.length : Int) - 2) + 1))
                   have hkx := HKX.out.trans (K3.set (B := B) (gC := gC) (gU := gU) (w1.setCell ⟨B, 5, none⟩ (.slice A18 chain.length c18)) (.inr (.inl rfl)) ((chain.length : Int) - 2).toNat (.int .i64 (wrap64 (rdOf (0 : Int) cl1 ((chain.length : Int) - 2) + 1))))
                   rw [htn] at hxc hxf hty hkx
                   generalize rdOf (0 : Int) cl1 ((chain.length : Int) - 2) = x9 at hxc hty hkx
                   have HF := Lib.hid hty
                   have HKF := Lib.hid hkx
                   clear hty hkx e1 e2 htn cl1
                   obtain ⟨cnt9, vL9, vlo9, by9, bv9, _⟩ := HF.out.cells
                   have hy0 : ((w1.setCell ⟨B, 5, none⟩ (.slice A18 chain.length c18)).setCell ⟨gC, chain.length - 2, none⟩ (.int .i64 (wrap64 (x9 + 1)))).cell? ⟨B, 0, none⟩ = some (.slice Ah hand.length ch) := (blk_cell by9 0).trans rfl
                   have hy1 : ((w1.setCell ⟨B, 5, none⟩ (.slice A18 chain.length c18)).setCell ⟨gC, chain.length - 2, none⟩ (.int .i64 (wrap64 (x9 + 1)))).cell? ⟨B, 1, none⟩ = some (.int .i64 0) := (blk_cell by9 1).trans rfl
                   have hy2 : ((w1.setCell ⟨B, 5, none⟩ (.slice A18 chain.length c18)).setCell ⟨gC, chain.length - 2, none⟩ (.int .i64 (wrap64 (x9 + 1)))).cell? ⟨B, 2, none⟩ = some (.int .i64 cnt9) := (blk_cell by9 2).trans rfl
                   have hy4 : ((w1.setCell ⟨B, 5, none⟩ (.slice A18 chain.length c18)).setCell ⟨gC, chain.length - 2, none⟩ (.int .i64 (wrap64 (x9 + 1)))).cell? ⟨B, 4, none⟩ = some (vL9) := (blk_cell by9 4).trans rfl
                   have hyf : ((w1.setCell ⟨B, 5, none⟩ (.slice A18 chain.length c18)).setCell ⟨gC, chain.length - 2, none⟩ (.int .i64 (wrap64 (x9 + 1)))).frozen? ⟨B, 2, none⟩ = false := blk_frozen by9 2)
      have by10 := blk_put by9 2 (.int .i64 (wrap64 (cnt9 + 1))) rfl
      have HG := Lib.hid (HF.out.count (wrap64 (cnt9 + 1)))
      have HKG := Lib.hid (HKF.out.trans (K3.set (B := B) (gC := gC) (gU := gU) ((w1.setCell ⟨B, 5, none⟩ (.slice A18 chain.length c18)).setCell ⟨gC, chain.length - 2, none⟩ (.int .i64 (wrap64 (x9 + 1)))) (.inl rfl) 2 (.int .i64 (wrap64 (cnt9 + 1)))))
      generalize ((w1.setCell ⟨B, 5, none⟩ (.slice A18 chain.length c18)).setCell ⟨gC, chain.length - 2, none⟩ (.int .i64 (wrap64 (x9 + 1)))).setCell ⟨B, 2, none⟩ (.int .i64 (wrap64 (cnt9 + 1))) = wz at by10 HG HKG ⊢
      have hz1 : wz.cell? ⟨B, 1, none⟩ = some (.int .i64 0) := (blk_cell by10 1).trans rfl
      rcases bv9 with rfl | ⟨a9, c9, rfl⟩
      · have hz4 : wz.cell? ⟨B, 4, none⟩ = some (.slice none 0 0) := (blk_cell by10 4).trans rfl
        go_quiet (fail)
        go_wp2
        have hb7 : Below wz.heap.size wz (wz.drewN nq).drew := below_drew1 (pw_below_drewN (Below.refl _ _) _)
        have BY := Lib.hid (blk_below by10 hb7)
        have HQ := Lib.hid (HG.out.step hb7)
        have HKQ := Lib.hid (HKG.out.trans (K3.below hb7))
        refine start_ (n := 12) (S := fun w' => w'.cell? ⟨B, 4, none⟩ = some (.slice none 0 0)) (ds := [11]) #[false, false, false, false, false, false, false, false, false, false, false, false] (by kernel_rfl) rfl rfl ((blk_cell BY.out 4).trans rfl) (fun hHeld => ?_)
        clear hb7
        generalize (wz.drewN nq).drew = wq at BY HQ HKQ hHeld ⊢
        refine pure_ (i := 0) (N := (some 61)) (v := ?_) (a' := ?_) #[true, false, false, false, false, false, false, false, false, false, false, false] rfl rfl (by kernel_rfl) (fun _ _ _ h => h) (Or.inl ⟨by rfl, ?_⟩) ?_ ?_
        rotate_left
        · intro w'
          go_simp
          with_reducible rfl
        rotate_left
        · simp only [Act.put, List.setIfInBounds_toArray, List.set_cons_zero, List.set_cons_succ, i64_w, i32_w]
          rfl
        refine pure_ (i := 1) (N := (some 62)) (v := ?_) (a' := ?_) #[true, true, false, false, false, false, false, false, false, false, false, false] rfl rfl (by kernel_rfl) (fun _ _ _ h => h) (Or.inl ⟨by rfl, ?_⟩) ?_ ?_
        rotate_left
        · intro w'
          go_simp
          with_reducible rfl
        rotate_left
        · simp only [Act.put, List.setIfInBounds_toArray, List.set_cons_zero, List.set_cons_succ, i64_w, i32_w]
          rfl
        refine pure_ (i := 2) (N := (some 63)) (v := ?_) (a' := ?_) #[true, true, true, false, false, false, false, false, false, false, false, false] rfl rfl (by kernel_rfl) (fun _ _ _ h => h) (Or.inl ⟨by rfl, ?_⟩) ?_ ?_
        rotate_left
        · intro w'
          go_simp
          with_reducible rfl
        rotate_left
        · simp only [Act.put, List.setIfInBounds_toArray, List.set_cons_zero, List.set_cons_succ, i64_w, i32_w]
          rfl
        refine pure_ (i := 3) (N := (some 64)) (v := ?_) (a' := ?_) #[true, true, true, true, false, false, false, false, false, false, false, false] rfl rfl (by kernel_rfl) (fun _ _ _ h => h) (Or.inl ⟨by rfl, ?_⟩) ?_ ?_
        rotate_left
        · intro w'
          go_simp
          with_reducible rfl
        rotate_left
        · simp only [Act.put, List.setIfInBounds_toArray, List.set_cons_zero, List.set_cons_succ, i64_w, i32_w]
          rfl
        refine take_ (i := 4) (N := (some 65)) (v := ?_) (a' := ?_) #[true, true, true, true, true, false, false, false, false, false, false, false] rfl rfl (by kernel_rfl) (fun _ _ _ h => h) (Or.inl ⟨by rfl, ?_⟩) hHeld ?_ ?_
        rotate_left
        · intro w' s0
          go_simp
          with_reducible rfl
        rotate_left
        · simp only [Act.put, List.setIfInBounds_toArray, List.set_cons_zero, List.set_cons_succ, i64_w, i32_w]
          rfl
        refine pure_ (i := 5) (N := (some 66)) (v := ?_) (a' := ?_) #[true, true, true, true, true, true, false, false, false, false, false, false] rfl rfl (by kernel_rfl) (fun _ _ _ h => h) (Or.inl ⟨by rfl, ?_⟩) ?_ ?_
        rotate_left
        · intro w'
          go_simp
          with_reducible rfl
        rotate_left
        · simp only [Act.put, List.setIfInBounds_toArray, List.set_cons_zero, List.set_cons_succ, i64_w, i32_w]
          rfl
        refine one_ (i := 6) (N := some 67) #[true, true, true, true, true, true, true, false, false, false, false, false] rfl rfl (by kernel_rfl) (by decide) (fun K hK => ?_)
        refine goes_ Try.func74 (by kernel_rfl) rfl #[.slice Ac chain.length cc] (by rfl) rfl rfl (by (try simp only [List.map_toArray, List.map_cons, List.map_nil]); first | done | rfl) ?_
        with_reducible refine (HOWN.out _ HKQ.out HQ.out.below).mono ?_
        rintro e w4 ⟨v67, rfl, ho7, hb7⟩
        refine ⟨_, rfl, ?_⟩
        have H67 := Lib.hid ho7
        have BY4 := Lib.hid (blk_below BY.out hb7)
        have HQ4 := Lib.hid (HQ.out.step hb7)
        have HK4 := Lib.hid (HKQ.out.trans (K3.below hb7))
        clear ho7 hb7
        refine hK.out _ _ ((blk_cell BY4.out 4).trans rfl) (fun hHeld => ?_)
        clear hK K
        refine norm_ (a' := ?_) ?_ ?_
        rotate_left
        · show Act.put _ (some 67) _ = _
          simp only [Act.put, List.setIfInBounds_toArray, List.set_cons_zero, List.set_cons_succ, i64_w, i32_w]
          rfl
        obtain ⟨A67, c67, rfl⟩ := Kd.R_slice H67.out
        refine one_ (i := 7) (N := some 68) #[true, true, true, true, true, true, true, true, false, false, false, false] rfl rfl (by kernel_rfl) (by decide) (fun K hK => ?_)
        refine value_ (w1 := ?_) (v := ?_) (by rfl) rfl ?_ ?_
        rotate_left 2
        · go_simp
          constructor
          · rfl
          · rfl
        refine hK.out _ _ ((blk_cell (blk_below BY4.out (below_alloc (Below.refl _ _) _)) 4).trans rfl) (fun hHeld => ?_)
        clear hK K
        refine norm_ (a' := ?_) ?_ ?_
        rotate_left
        · show Act.put _ (some 68) _ = _
          simp only [Act.put, List.setIfInBounds_toArray, List.set_cons_zero, List.set_cons_succ, i64_w, i32_w]
          rfl
        refine one_ (i := 8) (N := some 69) #[true, true, true, true, true, true, true, true, true, false, false, false] rfl rfl (by kernel_rfl) (by decide) (fun K hK => ?_)
        refine Kd.S_append_step (Kd.slice 3 (Kd.int .i64)) (w0 := w) w.heap.size (by rfl) (.tmp 65) (.tmp 68) 67 62 (.slice none 0 0) 24 rfl Try.underlying67 spec_haLook_look.info rfl (by decide) (by omega) (.slice none 0 0) [] chain [.slice A67 chain.length c67] (fun _ => True) (fun _ => True) rfl rfl ?aP ?aK ?aF ?aO ?aB ?aS ?aL ?_
        (case aP => exact ⟨_, rfl, Kd.R_lower H67.out HQ.out.below.size⟩)
        (case aK => exact fun k _ => ⟨trivial, by simp [Value.ownBlock]⟩)
        (case aF => exact fun _ _ => trivial)
        (case aO => exact Kd.S_nil _ _ _ _ _)
        (case aB => exact HQ4.out.below)
        (case aS => exact HQ4.out.below.size)
        (case aL => simp)
        intro v69 w5 ho9 hb9 hg9 hat9
        have hb9' := below_grown_no hg9
        obtain ⟨g69, c69, e69, _⟩ := Kd.R_form (Kd.S_R ho9) (by simp)
        rw [show (([] : List (List Int)) ++ [chain]).length = 1 from rfl] at e69
        subst e69
        have BY5 := Lib.hid (blk_below BY4.out hb9')
        have HQ5 := Lib.hid (HQ4.out.step hb9')
        have HK5 := Lib.hid (HK4.out.trans (K3.below hb9'))
        clear ho9 hb9 hg9 hat9 hb9'
        refine hK.out _ _ ((blk_cell BY5.out 4).trans rfl) (fun hHeld => ?_)
        clear hK K
        refine norm_ (a' := ?_) ?_ ?_
        rotate_left
        · show Act.put _ (some 69) _ = _
          simp only [Act.put, List.setIfInBounds_toArray, List.set_cons_zero, List.set_cons_succ, i64_w, i32_w]
          rfl
        refine pure_ (i := 9) (N := (some 70)) (v := ?_) (a' := ?_) #[true, true, true, true, true, true, true, true, true, true, false, false] rfl rfl (by kernel_rfl) (fun _ _ _ h => h) (Or.inl ⟨by rfl, ?_⟩) ?_ ?_
        rotate_left
        · intro w'
          go_simp
          with_reducible rfl
        rotate_left
        · simp only [Act.put, List.setIfInBounds_toArray, List.set_cons_zero, List.set_cons_succ, i64_w, i32_w]
          rfl
        refine pure_ (i := 10) (N := (some 71)) (v := ?_) (a' := ?_) #[true, true, true, true, true, true, true, true, true, true, true, false] rfl rfl (by kernel_rfl) (fun _ _ _ h => h) (Or.inl ⟨by rfl, ?_⟩) ?_ ?_
        rotate_left
        · intro w'
          go_simp
          with_reducible rfl
        rotate_left
        · simp only [Act.put, List.setIfInBounds_toArray, List.set_cons_zero, List.set_cons_succ, i64_w, i32_w]
          rfl
        refine last_ (i := 11) (N := none) #[true, true, true, true, true, true, true, true, true, true, true, true] rfl rfl (by kernel_rfl) (by decide) (fun K hK => ?_)
        have hf5 : w5.frozen? ⟨B, 4, none⟩ = false := blk_frozen BY5.out 4
        refine skip_ (w1 := ?_) (by rfl) rfl ?_ ?_
        rotate_left
        · go_simp
          rfl
        refine hK.out _ _ ?_
        clear hK K
        refine done_ (by kernel_rfl) ?_
        go_wp2_with (fail)
        first | go_end0 | skip
        exact bodyPost_ret (v := .tuple #[]) (by simp [results, Try.results72, go_sem]) rfl ⟨rfl, by rw [show lookL hand 0 chain U lo = longer chain lo from rfl, HLG.out]; exact HQ5.out.list _ _, HK5.out.trans (K3.set w5 (.inl rfl) 4 _)⟩
      · have hz4 : wz.cell? ⟨B, 4, none⟩ = some (.slice (some a9) 1 c9) := (blk_cell by10 4).trans rfl
        go_quiet (fail)
        go_wp2_with (fail)
        have hb7 : Below wz.heap.size wz (wz.drewN nq) := pw_below_drewN (Below.refl _ _) _
        first | go_end0 | skip
        exact bodyPost_ret (v := .tuple #[]) (by simp [results, Try.results72, go_sem]) rfl ⟨rfl, by rw [show lookL hand 0 chain U lo = longer chain lo from rfl, HLG.out]; exact HG.out.step hb7, HKG.out.trans (K3.below hb7)⟩
    · have c1b : decide ((lo.length : Int) < (chain.length : Int)) = true := decide_eq_true (by omega)
      have c2b : decide (1 < (chain.length : Int)) = false := decide_eq_false (by omega)
      have c1n : decide (lo.length < chain.length) = true := decide_eq_true (by omega)
      have hlg : longer chain lo = chain := by unfold longer; rw [if_pos c1]
      have HLG := Lib.hid hlg
      clear hlg
      have c3b : decide ((chain.length : Int) = (hand.length : Int) + 1) = true := decide_eq_true (by omega)
      have c3c : ((chain.length : Int) == (hand.length : Int) + 1) = true := by rw [beq_iff_eq]; omega
      have hgC : gC < W.heap.size := by obtain ⟨_, h⟩ := HLK.out.cblk; exact blk_lt h
      go_enter Try.func72, Try.ntmps72
      go_wp2_with (go_at_call 74; refine (HOWN.out _ (K3.refl _ _ _ _) HLK.out.below).mono ?_; rintro e w1 ⟨v18, rfl, ho, hb⟩; obtain ⟨A18, c18, e18⟩ := Kd.R_slice ho; subst e18; have hz5 : w1.cell? ⟨B, 5, none⟩ = some (.slice Alo lo.length clo) := (blk_cell (blk_below HB.out hb) 5).trans rfl; have hzf : w1.frozen? ⟨B, 5, none⟩ = false := blk_frozen (blk_below HB.out hb) 5
                   have HX := Lib.hid ((HLK.out.step hb).long (.slice A18 chain.length c18) chain (fresh_gC ho hgC HLK.out.below.size))
                   have HKX := Lib.hid ((K3.below (B := B) (gC := gC) (gU := gU) hb).trans (K3.set w1 (.inl rfl) 5 (.slice A18 chain.length c18)))
                   obtain ⟨cnt1, vL1, vlo1, bx, bx2, _⟩ := HX.out.cells
                   have hx0 : (w1.setCell ⟨B, 5, none⟩ (.slice A18 chain.length c18)).cell? ⟨B, 0, none⟩ = some (.slice Ah hand.length ch) := (blk_cell bx 0).trans rfl
                   have hx3 : (w1.setCell ⟨B, 5, none⟩ (.slice A18 chain.length c18)).cell? ⟨B, 3, none⟩ = some (.slice (some ⟨gC, 0, none⟩) hand.length cC) := (blk_cell bx 3).trans rfl
                   have HF := HX
                   have HKF := HKX
                   obtain ⟨cnt9, vL9, vlo9, by9, bv9, _⟩ := HF.out.cells
                   have hy0 : (w1.setCell ⟨B, 5, none⟩ (.slice A18 chain.length c18)).cell? ⟨B, 0, none⟩ = some (.slice Ah hand.length ch) := (blk_cell by9 0).trans rfl
                   have hy1 : (w1.setCell ⟨B, 5, none⟩ (.slice A18 chain.length c18)).cell? ⟨B, 1, none⟩ = some (.int .i64 0) := (blk_cell by9 1).trans rfl
                   have hy2 : (w1.setCell ⟨B, 5, none⟩ (.slice A18 chain.length c18)).cell? ⟨B, 2, none⟩ = some (.int .i64 cnt9) := (blk_cell by9 2).trans rfl
                   have hy4 : (w1.setCell ⟨B, 5, none⟩ (.slice A18 chain.length c18)).cell? ⟨B, 4, none⟩ = some (vL9) := (blk_cell by9 4).trans rfl
                   have hyf : (w1.setCell ⟨B, 5, none⟩ (.slice A18 chain.length c18)).frozen? ⟨B, 2, none⟩ = false := blk_frozen by9 2)
      have by10 := blk_put by9 2 (.int .i64 (wrap64 (cnt9 + 1))) rfl
      have HG := Lib.hid (HF.out.count (wrap64 (cnt9 + 1)))
      have HKG := Lib.hid (HKF.out.trans (K3.set (B := B) (gC := gC) (gU := gU) (w1.setCell ⟨B, 5, none⟩ (.slice A18 chain.length c18)) (.inl rfl) 2 (.int .i64 (wrap64 (cnt9 + 1)))))
      generalize (w1.setCell ⟨B, 5, none⟩ (.slice A18 chain.length c18)).setCell ⟨B, 2, none⟩ (.int .i64 (wrap64 (cnt9 + 1))) = wz at by10 HG HKG ⊢
      have hz1 : wz.cell? ⟨B, 1, none⟩ = some (.int .i64 0) := (blk_cell by10 1).trans rfl
      rcases bv9 with rfl | ⟨a9, c9, rfl⟩
      · have hz4 : wz.cell? ⟨B, 4, none⟩ = some (.slice none 0 0) := (blk_cell by10 4).trans rfl
        go_quiet (fail)
        go_wp2
        have hb7 : Below wz.heap.size wz (wz.drewN nq).drew := below_drew1 (pw_below_drewN (Below.refl _ _) _)
        have BY := Lib.hid (blk_below by10 hb7)
        have HQ := Lib.hid (HG.out.step hb7)
        have HKQ := Lib.hid (HKG.out.trans (K3.below hb7))
        refine start_ (n := 12) (S := fun w' => w'.cell? ⟨B, 4, none⟩ = some (.slice none 0 0)) (ds := [11]) #[false, false, false, false, false, false, false, false, false, false, false, false] (by kernel_rfl) rfl rfl ((blk_cell BY.out 4).trans rfl) (fun hHeld => ?_)
        clear hb7
        generalize (wz.drewN nq).drew = wq at BY HQ HKQ hHeld ⊢
        refine pure_ (i := 0) (N := (some 61)) (v := ?_) (a' := ?_) #[true, false, false, false, false, false, false, false, false, false, false, false] rfl rfl (by kernel_rfl) (fun _ _ _ h => h) (Or.inl ⟨by rfl, ?_⟩) ?_ ?_
        rotate_left
        · intro w'
          go_simp
          with_reducible rfl
        rotate_left
        · simp only [Act.put, List.setIfInBounds_toArray, List.set_cons_zero, List.set_cons_succ, i64_w, i32_w]
          rfl
        refine pure_ (i := 1) (N := (some 62)) (v := ?_) (a' := ?_) #[true, true, false, false, false, false, false, false, false, false, false, false] rfl rfl (by kernel_rfl) (fun _ _ _ h => h) (Or.inl ⟨by rfl, ?_⟩) ?_ ?_
        rotate_left
        · intro w'
          go_simp
          with_reducible rfl
        rotate_left
        · simp only [Act.put, List.setIfInBounds_toArray, List.set_cons_zero, List.set_cons_succ, i64_w, i32_w]
          rfl
        refine pure_ (i := 2) (N := (some 63)) (v := ?_) (a' := ?_) #[true, true, true, false, false, false, false, false, false, false, false, false] rfl rfl (by kernel_rfl) (fun _ _ _ h => h) (Or.inl ⟨by rfl, ?_⟩) ?_ ?_
        rotate_left
        · intro w'
          go_simp
          with_reducible rfl
        rotate_left
        · simp only [Act.put, List.setIfInBounds_toArray, List.set_cons_zero, List.set_cons_succ, i64_w, i32_w]
          rfl
        refine pure_ (i := 3) (N := (some 64)) (v := ?_) (a' := ?_) #[true, true, true, true, false, false, false, false, false, false, false, false] rfl rfl (by kernel_rfl) (fun _ _ _ h => h) (Or.inl ⟨by rfl, ?_⟩) ?_ ?_
        rotate_left
        · intro w'
          go_simp
          with_reducible rfl
        rotate_left
        · simp only [Act.put, List.setIfInBounds_toArray, List.set_cons_zero, List.set_cons_succ, i64_w, i32_w]
          rfl
        refine take_ (i := 4) (N := (some 65)) (v := ?_) (a' := ?_) #[true, true, true, true, true, false, false, false, false, false, false, false] rfl rfl (by kernel_rfl) (fun _ _ _ h => h) (Or.inl ⟨by rfl, ?_⟩) hHeld ?_ ?_
        rotate_left
        · intro w' s0
          go_simp
          with_reducible rfl
        rotate_left
        · simp only [Act.put, List.setIfInBounds_toArray, List.set_cons_zero, List.set_cons_succ, i64_w, i32_w]
          rfl
        refine pure_ (i := 5) (N := (some 66)) (v := ?_) (a' := ?_) #[true, true, true, true, true, true, false, false, false, false, false, false] rfl rfl (by kernel_rfl) (fun _ _ _ h => h) (Or.inl ⟨by rfl, ?_⟩) ?_ ?_
        rotate_left
        · intro w'
          go_simp
          with_reducible rfl
        rotate_left
        · simp only [Act.put, List.setIfInBounds_toArray, List.set_cons_zero, List.set_cons_succ, i64_w, i32_w]
          rfl
        refine one_ (i := 6) (N := some 67) #[true, true, true, true, true, true, true, false, false, false, false, false] rfl rfl (by kernel_rfl) (by decide) (fun K hK => ?_)
        refine goes_ Try.func74 (by kernel_rfl) rfl #[.slice Ac chain.length cc] (by rfl) rfl rfl (by (try simp only [List.map_toArray, List.map_cons, List.map_nil]); first | done | rfl) ?_
        with_reducible refine (HOWN.out _ HKQ.out HQ.out.below).mono ?_
        rintro e w4 ⟨v67, rfl, ho7, hb7⟩
        refine ⟨_, rfl, ?_⟩
        have H67 := Lib.hid ho7
        have BY4 := Lib.hid (blk_below BY.out hb7)
        have HQ4 := Lib.hid (HQ.out.step hb7)
        have HK4 := Lib.hid (HKQ.out.trans (K3.below hb7))
        clear ho7 hb7
        refine hK.out _ _ ((blk_cell BY4.out 4).trans rfl) (fun hHeld => ?_)
        clear hK K
        refine norm_ (a' := ?_) ?_ ?_
        rotate_left
        · show Act.put _ (some 67) _ = _
          simp only [Act.put, List.setIfInBounds_toArray, List.set_cons_zero, List.set_cons_succ, i64_w, i32_w]
          rfl
        obtain ⟨A67, c67, rfl⟩ := Kd.R_slice H67.out
        refine one_ (i := 7) (N := some 68) #[true, true, true, true, true, true, true, true, false, false, false, false] rfl rfl (by kernel_rfl) (by decide) (fun K hK => ?_)
        refine value_ (w1 := ?_) (v := ?_) (by rfl) rfl ?_ ?_
        rotate_left 2
        · go_simp
          constructor
          · rfl
          · rfl
        refine hK.out _ _ ((blk_cell (blk_below BY4.out (below_alloc (Below.refl _ _) _)) 4).trans rfl) (fun hHeld => ?_)
        clear hK K
        refine norm_ (a' := ?_) ?_ ?_
        rotate_left
        · show Act.put _ (some 68) _ = _
          simp only [Act.put, List.setIfInBounds_toArray, List.set_cons_zero, List.set_cons_succ, i64_w, i32_w]
          rfl
        refine one_ (i := 8) (N := some 69) #[true, true, true, true, true, true, true, true, true, false, false, false] rfl rfl (by kernel_rfl) (by decide) (fun K hK => ?_)
        refine Kd.S_append_step (Kd.slice 3 (Kd.int .i64)) (w0 := w) w.heap.size (by rfl) (.tmp 65) (.tmp 68) 67 62 (.slice none 0 0) 24 rfl Try.underlying67 spec_haLook_look.info rfl (by decide) (by omega) (.slice none 0 0) [] chain [.slice A67 chain.length c67] (fun _ => True) (fun _ => True) rfl rfl ?aP ?aK ?aF ?aO ?aB ?aS ?aL ?_
        (case aP => exact ⟨_, rfl, Kd.R_lower H67.out HQ.out.below.size⟩)
        (case aK => exact fun k _ => ⟨trivial, by simp [Value.ownBlock]⟩)
        (case aF => exact fun _ _ => trivial)
        (case aO => exact Kd.S_nil _ _ _ _ _)
        (case aB => exact HQ4.out.below)
        (case aS => exact HQ4.out.below.size)
        (case aL => simp)
        intro v69 w5 ho9 hb9 hg9 hat9
        have hb9' := below_grown_no hg9
        obtain ⟨g69, c69, e69, _⟩ := Kd.R_form (Kd.S_R ho9) (by simp)
        rw [show (([] : List (List Int)) ++ [chain]).length = 1 from rfl] at e69
        subst e69
        have BY5 := Lib.hid (blk_below BY4.out hb9')
        have HQ5 := Lib.hid (HQ4.out.step hb9')
        have HK5 := Lib.hid (HK4.out.trans (K3.below hb9'))
        clear ho9 hb9 hg9 hat9 hb9'
        refine hK.out _ _ ((blk_cell BY5.out 4).trans rfl) (fun hHeld => ?_)
        clear hK K
        refine norm_ (a' := ?_) ?_ ?_
        rotate_left
        · show Act.put _ (some 69) _ = _
          simp only [Act.put, List.setIfInBounds_toArray, List.set_cons_zero, List.set_cons_succ, i64_w, i32_w]
          rfl
        refine pure_ (i := 9) (N := (some 70)) (v := ?_) (a' := ?_) #[true, true, true, true, true, true, true, true, true, true, false, false] rfl rfl (by kernel_rfl) (fun _ _ _ h => h) (Or.inl ⟨by rfl, ?_⟩) ?_ ?_
        rotate_left
        · intro w'
          go_simp
          with_reducible rfl
        rotate_left
        · simp only [Act.put, List.setIfInBounds_toArray, List.set_cons_zero, List.set_cons_succ, i64_w, i32_w]
          rfl
        refine pure_ (i := 10) (N := (some 71)) (v := ?_) (a' := ?_) #[true, true, true, true, true, true, true, true, true, true, true, false] rfl rfl (by kernel_rfl) (fun _ _ _ h => h) (Or.inl ⟨by rfl, ?_⟩) ?_ ?_
        rotate_left
        · intro w'
          go_simp
          with_reducible rfl
        rotate_left
        · simp only [Act.put, List.setIfInBounds_toArray, List.set_cons_zero, List.set_cons_succ, i64_w, i32_w]
          rfl
        refine last_ (i := 11) (N := none) #[true, true, true, true, true, true, true, true, true, true, true, true] rfl rfl (by kernel_rfl) (by decide) (fun K hK => ?_)
        have hf5 : w5.frozen? ⟨B, 4, none⟩ = false := blk_frozen BY5.out 4
        refine skip_ (w1 := ?_) (by rfl) rfl ?_ ?_
        rotate_left
        · go_simp
          rfl
        refine hK.out _ _ ?_
        clear hK K
        refine done_ (by kernel_rfl) ?_
        go_wp2_with (fail)
        first | go_end0 | skip
        exact bodyPost_ret (v := .tuple #[]) (by simp [results, Try.results72, go_sem]) rfl ⟨rfl, by rw [show lookL hand 0 chain U lo = longer chain lo from rfl, HLG.out]; exact HQ5.out.list _ _, HK5.out.trans (K3.set w5 (.inl rfl) 4 _)⟩
      · have hz4 : wz.cell? ⟨B, 4, none⟩ = some (.slice (some a9) 1 c9) := (blk_cell by10 4).trans rfl
        go_quiet (fail)
        go_wp2_with (fail)
        have hb7 : Below wz.heap.size wz (wz.drewN nq) := pw_below_drewN (Below.refl _ _) _
        first | go_end0 | skip
        exact bodyPost_ret (v := .tuple #[]) (by simp [results, Try.results72, go_sem]) rfl ⟨rfl, by rw [show lookL hand 0 chain U lo = longer chain lo from rfl, HLG.out]; exact HG.out.step hb7, HKG.out.trans (K3.below hb7)⟩
  · rcases Nat.lt_or_ge 1 chain.length with c2 | c2
    · have c1b : decide ((lo.length : Int) < (chain.length : Int)) = false := decide_eq_false (by omega)
      have c2b : decide (1 < (chain.length : Int)) = true := decide_eq_true (by omega)
      have c1n : decide (lo.length < chain.length) = false := decide_eq_false (by omega)
      have hlg : longer chain lo = lo := by unfold longer; rw [if_neg (by omega)]
      have HLG := Lib.hid hlg
      clear hlg
      have c3b : decide ((chain.length : Int) = (hand.length : Int) + 1) = true := decide_eq_true (by omega)
      have c3c : ((chain.length : Int) == (hand.length : Int) + 1) = true := by rw [beq_iff_eq]; omega
      have hgC : gC < W.heap.size := by obtain ⟨_, h⟩ := HLK.out.cblk; exact blk_lt h
      have HX := HLK
      have HKX := Lib.hid (K3.refl B gC gU W)
      obtain ⟨cnt1, vL1, vlo1, bx, bx2, _⟩ := HX.out.cells
      have hx0 : W.cell? ⟨B, 0, none⟩ = some (.slice Ah hand.length ch) := (blk_cell bx 0).trans rfl
      have hx3 : W.cell? ⟨B, 3, none⟩ = some (.slice (some ⟨gC, 0, none⟩) hand.length cC) := (blk_cell bx 3).trans rfl
      obtain ⟨cl1, e1, e2⟩ := HX.out.counts
      have hi0 : 0 ≤ (chain.length : Int) - 2 := by omega
      have hi1 : (chain.length : Int) - 2 < (hand.length : Int) := by omega
      obtain ⟨hxc, hxf⟩ := Kd.R_cell (0 : Int) e2 ((chain.length : Int) - 2) hi0 (by omega)
      have htn : ((chain.length : Int) - 2).toNat = chain.length - 2 := by omega
      have hty := HX.out.tally ((chain.length : Int) - 2) (wrap64 (rdOf (0 : Int) cl1 ((chain.length : Int) - 2) + 1))
      have hkx := HKX.out.trans (K3.set (B := B) (gC := gC) (gU := gU) W (.inr (.inl rfl)) ((chain.length : Int) - 2).toNat (.int .i64 (wrap64 (rdOf (0 : Int) cl1 ((chain.length : Int) - 2) + 1))))
      rw [htn] at hxc hxf hty hkx
      generalize rdOf (0 : Int) cl1 ((chain.length : Int) - 2) = x9 at hxc hty hkx
      have HF := Lib.hid hty
      have HKF := Lib.hid hkx
      clear hty hkx e1 e2 htn cl1
      obtain ⟨cnt9, vL9, vlo9, by9, bv9, _⟩ := HF.out.cells
      have hy0 : (W.setCell ⟨gC, chain.length - 2, none⟩ (.int .i64 (wrap64 (x9 + 1)))).cell? ⟨B, 0, none⟩ = some (.slice Ah hand.length ch) := (blk_cell by9 0).trans rfl
      have hy1 : (W.setCell ⟨gC, chain.length - 2, none⟩ (.int .i64 (wrap64 (x9 + 1)))).cell? ⟨B, 1, none⟩ = some (.int .i64 0) := (blk_cell by9 1).trans rfl
      have hy2 : (W.setCell ⟨gC, chain.length - 2, none⟩ (.int .i64 (wrap64 (x9 + 1)))).cell? ⟨B, 2, none⟩ = some (.int .i64 cnt9) := (blk_cell by9 2).trans rfl
      have hy4 : (W.setCell ⟨gC, chain.length - 2, none⟩ (.int .i64 (wrap64 (x9 + 1)))).cell? ⟨B, 4, none⟩ = some (vL9) := (blk_cell by9 4).trans rfl
      have hyf : (W.setCell ⟨gC, chain.length - 2, none⟩ (.int .i64 (wrap64 (x9 + 1)))).frozen? ⟨B, 2, none⟩ = false := blk_frozen by9 2
      go_enter Try.func72, Try.ntmps72
      go_wp2_with (fail)
      have by10 := blk_put by9 2 (.int .i64 (wrap64 (cnt9 + 1))) rfl
      have HG := Lib.hid (HF.out.count (wrap64 (cnt9 + 1)))
      have HKG := Lib.hid (HKF.out.trans (K3.set (B := B) (gC := gC) (gU := gU) (W.setCell ⟨gC, chain.length - 2, none⟩ (.int .i64 (wrap64 (x9 + 1)))) (.inl rfl) 2 (.int .i64 (wrap64 (cnt9 + 1)))))
      generalize (W.setCell ⟨gC, chain.length - 2, none⟩ (.int .i64 (wrap64 (x9 + 1)))).setCell ⟨B, 2, none⟩ (.int .i64 (wrap64 (cnt9 + 1))) = wz at by10 HG HKG ⊢
      have hz1 : wz.cell? ⟨B, 1, none⟩ = some (.int .i64 0) := (blk_cell by10 1).trans rfl
      rcases bv9 with rfl | ⟨a9, c9, rfl⟩
      · have hz4 : wz.cell? ⟨B, 4, none⟩ = some (.slice none 0 0) := (blk_cell by10 4).trans rfl
        go_quiet (fail)
        go_wp2
        have hb7 : Below wz.heap.size wz (wz.drewN nq).drew := below_drew1 (pw_below_drewN (Below.refl _ _) _)
        have BY := Lib.hid (blk_below by10 hb7)
        have HQ := Lib.hid (HG.out.step hb7)
        have HKQ := Lib.hid (HKG.out.trans (K3.below hb7))
        refine start_ (n := 12) (S := fun w' => w'.cell? ⟨B, 4, none⟩ = some (.slice none 0 0)) (ds := [11]) #[false, false, false, false, false, false, false, false, false, false, false, false] (by kernel_rfl) rfl rfl ((blk_cell BY.out 4).trans rfl) (fun hHeld => ?_)
        clear hb7
        generalize (wz.drewN nq).drew = wq at BY HQ HKQ hHeld ⊢
        refine pure_ (i := 0) (N := (some 61)) (v := ?_) (a' := ?_) #[true, false, false, false, false, false, false, false, false, false, false, false] rfl rfl (by kernel_rfl) (fun _ _ _ h => h) (Or.inl ⟨by rfl, ?_⟩) ?_ ?_
        rotate_left
        · intro w'
          go_simp
          with_reducible rfl
        rotate_left
        · simp only [Act.put, List.setIfInBounds_toArray, List.set_cons_zero, List.set_cons_succ, i64_w, i32_w]
          rfl
        refine pure_ (i := 1) (N := (some 62)) (v := ?_) (a' := ?_) #[true, true, false, false, false, false, false, false, false, false, false, false] rfl rfl (by kernel_rfl) (fun _ _ _ h => h) (Or.inl ⟨by rfl, ?_⟩) ?_ ?_
        rotate_left
        · intro w'
          go_simp
          with_reducible rfl
        rotate_left
        · simp only [Act.put, List.setIfInBounds_toArray, List.set_cons_zero, List.set_cons_succ, i64_w, i32_w]
          rfl
        refine pure_ (i := 2) (N := (some 63)) (v := ?_) (a' := ?_) #[true, true, true, false, false, false, false, false, false, false, false, false] rfl rfl (by kernel_rfl) (fun _ _ _ h => h) (Or.inl ⟨by rfl, ?_⟩) ?_ ?_
        rotate_left
        · intro w'
          go_simp
          with_reducible rfl
        rotate_left
        · simp only [Act.put, List.setIfInBounds_toArray, List.set_cons_zero, List.set_cons_succ, i64_w, i32_w]
          rfl
        refine pure_ (i := 3) (N := (some 64)) (v := ?_) (a' := ?_) #[true, true, true, true, false, false, false, false, false, false, false, false] rfl rfl (by kernel_rfl) (fun _ _ _ h => h) (Or.inl ⟨by rfl, ?_⟩) ?_ ?_
        rotate_left
        · intro w'
          go_simp
          with_reducible rfl
        rotate_left
        · simp only [Act.put, List.setIfInBounds_toArray, List.set_cons_zero, List.set_cons_succ, i64_w, i32_w]
          rfl
        refine take_ (i := 4) (N := (some 65)) (v := ?_) (a' := ?_) #[true, true, true, true, true, false, false, false, false, false, false, false] rfl rfl (by kernel_rfl) (fun _ _ _ h => h) (Or.inl ⟨by rfl, ?_⟩) hHeld ?_ ?_
        rotate_left
        · intro w' s0
          go_simp
          with_reducible rfl
        rotate_left
        · simp only [Act.put, List.setIfInBounds_toArray, List.set_cons_zero, List.set_cons_succ, i64_w, i32_w]
          rfl
        refine pure_ (i := 5) (N := (some 66)) (v := ?_) (a' := ?_) #[true, true, true, true, true, true, false, false, false, false, false, false] rfl rfl (by kernel_rfl) (fun _ _ _ h => h) (Or.inl ⟨by rfl, ?_⟩) ?_ ?_
        rotate_left
        · intro w'
          go_simp
          with_reducible rfl
        rotate_left
        · simp only [Act.put, List.setIfInBounds_toArray, List.set_cons_zero, List.set_cons_succ, i64_w, i32_w]
          rfl
        refine one_ (i := 6) (N := some 67) #[true, true, true, true, true, true, true, false, false, false, false, false] rfl rfl (by kernel_rfl) (by decide) (fun K hK => ?_)
        refine goes_ Try.func74 (by kernel_rfl) rfl #[.slice Ac chain.length cc] (by rfl) rfl rfl (by (try simp only [List.map_toArray, List.map_cons, List.map_nil]); first | done | rfl) ?_
        with_reducible refine (HOWN.out _ HKQ.out HQ.out.below).mono ?_
        rintro e w4 ⟨v67, rfl, ho7, hb7⟩
        refine ⟨_, rfl, ?_⟩
        have H67 := Lib.hid ho7
        have BY4 := Lib.hid (blk_below BY.out hb7)
        have HQ4 := Lib.hid (HQ.out.step hb7)
        have HK4 := Lib.hid (HKQ.out.trans (K3.below hb7))
        clear ho7 hb7
        refine hK.out _ _ ((blk_cell BY4.out 4).trans rfl) (fun hHeld => ?_)
        clear hK K
        refine norm_ (a' := ?_) ?_ ?_
        rotate_left
        · show Act.put _ (some 67) _ = _
          simp only [Act.put, List.setIfInBounds_toArray, List.set_cons_zero, List.set_cons_succ, i64_w, i32_w]
          rfl
        obtain ⟨A67, c67, rfl⟩ := Kd.R_slice H67.out
        refine one_ (i := 7) (N := some 68) #[true, true, true, true, true, true, true, true, false, false, false, false] rfl rfl (by kernel_rfl) (by decide) (fun K hK => ?_)
        refine value_ (w1 := ?_) (v := ?_) (by rfl) rfl ?_ ?_
        rotate_left 2
        · go_simp
          constructor
          · rfl
          · rfl
        refine hK.out _ _ ((blk_cell (blk_below BY4.out (below_alloc (Below.refl _ _) _)) 4).trans rfl) (fun hHeld => ?_)
        clear hK K
        refine norm_ (a' := ?_) ?_ ?_
        rotate_left
        · show Act.put _ (some 68) _ = _
          simp only [Act.put, List.setIfInBounds_toArray, List.set_cons_zero, List.set_cons_succ, i64_w, i32_w]
          rfl
        refine one_ (i := 8) (N := some 69) #[true, true, true, true, true, true, true, true, true, false, false, false] rfl rfl (by kernel_rfl) (by decide) (fun K hK => ?_)
        refine Kd.S_append_step (Kd.slice 3 (Kd.int .i64)) (w0 := w) w.heap.size (by rfl) (.tmp 65) (.tmp 68) 67 62 (.slice none 0 0) 24 rfl Try.underlying67 spec_haLook_look.info rfl (by decide) (by omega) (.slice none 0 0) [] chain [.slice A67 chain.length c67] (fun _ => True) (fun _ => True) rfl rfl ?aP ?aK ?aF ?aO ?aB ?aS ?aL ?_
        (case aP => exact ⟨_, rfl, Kd.R_lower H67.out HQ.out.below.size⟩)
        (case aK => exact fun k _ => ⟨trivial, by simp [Value.ownBlock]⟩)
        (case aF => exact fun _ _ => trivial)
        (case aO => exact Kd.S_nil _ _ _ _ _)
        (case aB => exact HQ4.out.below)
        (case aS => exact HQ4.out.below.size)
        (case aL => simp)
        intro v69 w5 ho9 hb9 hg9 hat9
        have hb9' := below_grown_no hg9
        obtain ⟨g69, c69, e69, _⟩ := Kd.R_form (Kd.S_R ho9) (by simp)
        rw [show (([] : List (List Int)) ++ [chain]).length = 1 from rfl] at e69
        subst e69
        have BY5 := Lib.hid (blk_below BY4.out hb9')
        have HQ5 := Lib.hid (HQ4.out.step hb9')
        have HK5 := Lib.hid (HK4.out.trans (K3.below hb9'))
        clear ho9 hb9 hg9 hat9 hb9'
        refine hK.out _ _ ((blk_cell BY5.out 4).trans rfl) (fun hHeld => ?_)
        clear hK K
        refine norm_ (a' := ?_) ?_ ?_
        rotate_left
        · show Act.put _ (some 69) _ = _
          simp only [Act.put, List.setIfInBounds_toArray, List.set_cons_zero, List.set_cons_succ, i64_w, i32_w]
          rfl
        refine pure_ (i := 9) (N := (some 70)) (v := ?_) (a' := ?_) #[true, true, true, true, true, true, true, true, true, true, false, false] rfl rfl (by kernel_rfl) (fun _ _ _ h => h) (Or.inl ⟨by rfl, ?_⟩) ?_ ?_
        rotate_left
        · intro w'
          go_simp
          with_reducible rfl
        rotate_left
        · simp only [Act.put, List.setIfInBounds_toArray, List.set_cons_zero, List.set_cons_succ, i64_w, i32_w]
          rfl
        refine pure_ (i := 10) (N := (some 71)) (v := ?_) (a' := ?_) #[true, true, true, true, true, true, true, true, true, true, true, false] rfl rfl (by kernel_rfl) (fun _ _ _ h => h) (Or.inl ⟨by rfl, ?_⟩) ?_ ?_
        rotate_left
        · intro w'
          go_simp
          with_reducible rfl
        rotate_left
        · simp only [Act.put, List.setIfInBounds_toArray, List.set_cons_zero, List.set_cons_succ, i64_w, i32_w]
          rfl
        refine last_ (i := 11) (N := none) #[true, true, true, true, true, true, true, true, true, true, true, true] rfl rfl (by kernel_rfl) (by decide) (fun K hK => ?_)
        have hf5 : w5.frozen? ⟨B, 4, none⟩ = false := blk_frozen BY5.out 4
        refine skip_ (w1 := ?_) (by rfl) rfl ?_ ?_
        rotate_left
        · go_simp
          rfl
        refine hK.out _ _ ?_
        clear hK K
        refine done_ (by kernel_rfl) ?_
        go_wp2_with (fail)
        first | go_end0 | skip
        exact bodyPost_ret (v := .tuple #[]) (by simp [results, Try.results72, go_sem]) rfl ⟨rfl, by rw [show lookL hand 0 chain U lo = longer chain lo from rfl, HLG.out]; exact HQ5.out.list _ _, HK5.out.trans (K3.set w5 (.inl rfl) 4 _)⟩
      · have hz4 : wz.cell? ⟨B, 4, none⟩ = some (.slice (some a9) 1 c9) := (blk_cell by10 4).trans rfl
        go_quiet (fail)
        go_wp2_with (fail)
        have hb7 : Below wz.heap.size wz (wz.drewN nq) := pw_below_drewN (Below.refl _ _) _
        first | go_end0 | skip
        exact bodyPost_ret (v := .tuple #[]) (by simp [results, Try.results72, go_sem]) rfl ⟨rfl, by rw [show lookL hand 0 chain U lo = longer chain lo from rfl, HLG.out]; exact HG.out.step hb7, HKG.out.trans (K3.below hb7)⟩
    · have c1b : decide ((lo.length : Int) < (chain.length : Int)) = false := decide_eq_false (by omega)
      have c2b : decide (1 < (chain.length : Int)) = false := decide_eq_false (by omega)
      have c1n : decide (lo.length < chain.length) = false := decide_eq_false (by omega)
      have hlg : longer chain lo = lo := by unfold longer; rw [if_neg (by omega)]
      have HLG := Lib.hid hlg
      clear hlg
      have c3b : decide ((chain.length : Int) = (hand.length : Int) + 1) = true := decide_eq_true (by omega)
      have c3c : ((chain.length : Int) == (hand.length : Int) + 1) = true := by rw [beq_iff_eq]; omega
      have hgC : gC < W.heap.size := by obtain ⟨_, h⟩ := HLK.out.cblk; exact blk_lt h
      have HX := HLK
      have HKX := Lib.hid (K3.refl B gC gU W)
      obtain ⟨cnt1, vL1, vlo1, bx, bx2, _⟩ := HX.out.cells
      have hx0 : W.cell? ⟨B, 0, none⟩ = some (.slice Ah hand.length ch) := (blk_cell bx 0).trans rfl
      have hx3 : W.cell? ⟨B, 3, none⟩ = some (.slice (some ⟨gC, 0, none⟩) hand.length cC) := (blk_cell bx 3).trans rfl
      have HF := HX
      have HKF := HKX
      obtain ⟨cnt9, vL9, vlo9, by9, bv9, _⟩ := HF.out.cells
      have hy0 : W.cell? ⟨B, 0, none⟩ = some (.slice Ah hand.length ch) := (blk_cell by9 0).trans rfl
      have hy1 : W.cell? ⟨B, 1, none⟩ = some (.int .i64 0) := (blk_cell by9 1).trans rfl
      have hy2 : W.cell? ⟨B, 2, none⟩ = some (.int .i64 cnt9) := (blk_cell by9 2).trans rfl
      have hy4 : W.cell? ⟨B, 4, none⟩ = some (vL9) := (blk_cell by9 4).trans rfl
      have hyf : W.frozen? ⟨B, 2, none⟩ = false := blk_frozen by9 2
      go_enter Try.func72, Try.ntmps72
      go_wp2_with (fail)
      have by10 := blk_put by9 2 (.int .i64 (wrap64 (cnt9 + 1))) rfl
      have HG := Lib.hid (HF.out.count (wrap64 (cnt9 + 1)))
      have HKG := Lib.hid (HKF.out.trans (K3.set (B := B) (gC := gC) (gU := gU) W (.inl rfl) 2 (.int .i64 (wrap64 (cnt9 + 1)))))
      generalize W.setCell ⟨B, 2, none⟩ (.int .i64 (wrap64 (cnt9 + 1))) = wz at by10 HG HKG ⊢
      have hz1 : wz.cell? ⟨B, 1, none⟩ = some (.int .i64 0) := (blk_cell by10 1).trans rfl
      rcases bv9 with rfl | ⟨a9, c9, rfl⟩
      · have hz4 : wz.cell? ⟨B, 4, none⟩ = some (.slice none 0 0) := (blk_cell by10 4).trans rfl
        go_quiet (fail)
        go_wp2
        have hb7 : Below wz.heap.size wz (wz.drewN nq).drew := below_drew1 (pw_below_drewN (Below.refl _ _) _)
        have BY := Lib.hid (blk_below by10 hb7)
        have HQ := Lib.hid (HG.out.step hb7)
        have HKQ := Lib.hid (HKG.out.trans (K3.below hb7))
        refine start_ (n := 12) (S := fun w' => w'.cell? ⟨B, 4, none⟩ = some (.slice none 0 0)) (ds := [11]) #[false, false, false, false, false, false, false, false, false, false, false, false] (by kernel_rfl) rfl rfl ((blk_cell BY.out 4).trans rfl) (fun hHeld => ?_)
        clear hb7
        generalize (wz.drewN nq).drew = wq at BY HQ HKQ hHeld ⊢
        refine pure_ (i := 0) (N := (some 61)) (v := ?_) (a' := ?_) #[true, false, false, false, false, false, false, false, false, false, false, false] rfl rfl (by kernel_rfl) (fun _ _ _ h => h) (Or.inl ⟨by rfl, ?_⟩) ?_ ?_
        rotate_left
        · intro w'
          go_simp
          with_reducible rfl
        rotate_left
        · simp only [Act.put, List.setIfInBounds_toArray, List.set_cons_zero, List.set_cons_succ, i64_w, i32_w]
          rfl
        refine pure_ (i := 1) (N := (some 62)) (v := ?_) (a' := ?_) #[true, true, false, false, false, false, false, false, false, false, false, false] rfl rfl (by kernel_rfl) (fun _ _ _ h => h) (Or.inl ⟨by rfl, ?_⟩) ?_ ?_
        rotate_left
        · intro w'
          go_simp
          with_reducible rfl
        rotate_left
        · simp only [Act.put, List.setIfInBounds_toArray, List.set_cons_zero, List.set_cons_succ, i64_w, i32_w]
          rfl
        refine pure_ (i := 2) (N := (some 63)) (v := ?_) (a' := ?_) #[true, true, true, false, false, false, false, false, false, false, false, false] rfl rfl (by kernel_rfl) (fun _ _ _ h => h) (Or.inl ⟨by rfl, ?_⟩) ?_ ?_
        rotate_left
        · intro w'
          go_simp
          with_reducible rfl
        rotate_left
        · simp only [Act.put, List.setIfInBounds_toArray, List.set_cons_zero, List.set_cons_succ, i64_w, i32_w]
          rfl
        refine pure_ (i := 3) (N := (some 64)) (v := ?_) (a' := ?_) #[true, true, true, true, false, false, false, false, false, false, false, false] rfl rfl (by kernel_rfl) (fun _ _ _ h => h) (Or.inl ⟨by rfl, ?_⟩) ?_ ?_
        rotate_left
        · intro w'
          go_simp
          with_reducible rfl
        rotate_left
        · simp only [Act.put, List.setIfInBounds_toArray, List.set_cons_zero, List.set_cons_succ, i64_w, i32_w]
          rfl
        refine take_ (i := 4) (N := (some 65)) (v := ?_) (a' := ?_) #[true, true, true, true, true, false, false, false, false, false, false, false] rfl rfl (by kernel_rfl) (fun _ _ _ h => h) (Or.inl ⟨by rfl, ?_⟩) hHeld ?_ ?_
        rotate_left
        · intro w' s0
          go_simp
          with_reducible rfl
        rotate_left
        · simp only [Act.put, List.setIfInBounds_toArray, List.set_cons_zero, List.set_cons_succ, i64_w, i32_w]
          rfl
        refine pure_ (i := 5) (N := (some 66)) (v := ?_) (a' := ?_) #[true, true, true, true, true, true, false, false, false, false, false, false] rfl rfl (by kernel_rfl) (fun _ _ _ h => h) (Or.inl ⟨by rfl, ?_⟩) ?_ ?_
        rotate_left
        · intro w'
          go_simp
          with_reducible rfl
        rotate_left
        · simp only [Act.put, List.setIfInBounds_toArray, List.set_cons_zero, List.set_cons_succ, i64_w, i32_w]
          rfl
        refine one_ (i := 6) (N := some 67) #[true, true, true, true, true, true, true, false, false, false, false, false] rfl rfl (by kernel_rfl) (by decide) (fun K hK => ?_)
        refine goes_ Try.func74 (by kernel_rfl) rfl #[.slice Ac chain.length cc] (by rfl) rfl rfl (by (try simp only [List.map_toArray, List.map_cons, List.map_nil]); first | done | rfl) ?_
        with_reducible refine (HOWN.out _ HKQ.out HQ.out.below).mono ?_
        rintro e w4 ⟨v67, rfl, ho7, hb7⟩
        refine ⟨_, rfl, ?_⟩
        have H67 := Lib.hid ho7
        have BY4 := Lib.hid (blk_below BY.out hb7)
        have HQ4 := Lib.hid (HQ.out.step hb7)
        have HK4 := Lib.hid (HKQ.out.trans (K3.below hb7))
        clear ho7 hb7
        refine hK.out _ _ ((blk_cell BY4.out 4).trans rfl) (fun hHeld => ?_)
        clear hK K
        refine norm_ (a' := ?_) ?_ ?_
        rotate_left
        · show Act.put _ (some 67) _ = _
          simp only [Act.put, List.setIfInBounds_toArray, List.set_cons_zero, List.set_cons_succ, i64_w, i32_w]
          rfl
        obtain ⟨A67, c67, rfl⟩ := Kd.R_slice H67.out
        refine one_ (i := 7) (N := some 68) #[true, true, true, true, true, true, true, true, false, false, false, false] rfl rfl (by kernel_rfl) (by decide) (fun K hK => ?_)
        refine value_ (w1 := ?_) (v := ?_) (by rfl) rfl ?_ ?_
        rotate_left 2
        · go_simp
          constructor
          · rfl
          · rfl
        refine hK.out _ _ ((blk_cell (blk_below BY4.out (below_alloc (Below.refl _ _) _)) 4).trans rfl) (fun hHeld => ?_)
        clear hK K
        refine norm_ (a' := ?_) ?_ ?_
        rotate_left
        · show Act.put _ (some 68) _ = _
          simp only [Act.put, List.setIfInBounds_toArray, List.set_cons_zero, List.set_cons_succ, i64_w, i32_w]
          rfl
        refine one_ (i := 8) (N := some 69) #[true, true, true, true, true, true, true, true, true, false, false, false] rfl rfl (by kernel_rfl) (by decide) (fun K hK => ?_)
        refine Kd.S_append_step (Kd.slice 3 (Kd.int .i64)) (w0 := w) w.heap.size (by rfl) (.tmp 65) (.tmp 68) 67 62 (.slice none 0 0) 24 rfl Try.underlying67 spec_haLook_look.info rfl (by decide) (by omega) (.slice none 0 0) [] chain [.slice A67 chain.length c67] (fun _ => True) (fun _ => True) rfl rfl ?aP ?aK ?aF ?aO ?aB ?aS ?aL ?_
        (case aP => exact ⟨_, rfl, Kd.R_lower H67.out HQ.out.below.size⟩)
        (case aK => exact fun k _ => ⟨trivial, by simp [Value.ownBlock]⟩)
        (case aF => exact fun _ _ => trivial)
        (case aO => exact Kd.S_nil _ _ _ _ _)
        (case aB => exact HQ4.out.below)
        (case aS => exact HQ4.out.below.size)
        (case aL => simp)
        intro v69 w5 ho9 hb9 hg9 hat9
        have hb9' := below_grown_no hg9
        obtain ⟨g69, c69, e69, _⟩ := Kd.R_form (Kd.S_R ho9) (by simp)
        rw [show (([] : List (List Int)) ++ [chain]).length = 1 from rfl] at e69
        subst e69
        have BY5 := Lib.hid (blk_below BY4.out hb9')
        have HQ5 := Lib.hid (HQ4.out.step hb9')
        have HK5 := Lib.hid (HK4.out.trans (K3.below hb9'))
        clear ho9 hb9 hg9 hat9 hb9'
        refine hK.out _ _ ((blk_cell BY5.out 4).trans rfl) (fun hHeld => ?_)
        clear hK K
        refine norm_ (a' := ?_) ?_ ?_
        rotate_left
        · show Act.put _ (some 69) _ = _
          simp only [Act.put, List.setIfInBounds_toArray, List.set_cons_zero, List.set_cons_succ, i64_w, i32_w]
          rfl
        refine pure_ (i := 9) (N := (some 70)) (v := ?_) (a' := ?_) #[true, true, true, true, true, true, true, true, true, true, false, false] rfl rfl (by kernel_rfl) (fun _ _ _ h => h) (Or.inl ⟨by rfl, ?_⟩) ?_ ?_
        rotate_left
        · intro w'
          go_simp
          with_reducible rfl
        rotate_left
        · simp only [Act.put, List.setIfInBounds_toArray, List.set_cons_zero, List.set_cons_succ, i64_w, i32_w]
          rfl
        refine pure_ (i := 10) (N := (some 71)) (v := ?_) (a' := ?_) #[true, true, true, true, true, true, true, true, true, true, true, false] rfl rfl (by kernel_rfl) (fun _ _ _ h => h) (Or.inl ⟨by rfl, ?_⟩) ?_ ?_
        rotate_left
        · intro w'
          go_simp
          with_reducible rfl
        rotate_left
        · simp only [Act.put, List.setIfInBounds_toArray, List.set_cons_zero, List.set_cons_succ, i64_w, i32_w]
          rfl
        refine last_ (i := 11) (N := none) #[true, true, true, true, true, true, true, true, true, true, true, true] rfl rfl (by kernel_rfl) (by decide) (fun K hK => ?_)
        have hf5 : w5.frozen? ⟨B, 4, none⟩ = false := blk_frozen BY5.out 4
        refine skip_ (w1 := ?_) (by rfl) rfl ?_ ?_
        rotate_left
        · go_simp
          rfl
        refine hK.out _ _ ?_
        clear hK K
        refine done_ (by kernel_rfl) ?_
        go_wp2_with (fail)
        first | go_end0 | skip
        exact bodyPost_ret (v := .tuple #[]) (by simp [results, Try.results72, go_sem]) rfl ⟨rfl, by rw [show lookL hand 0 chain U lo = longer chain lo from rfl, HLG.out]; exact HQ5.out.list _ _, HK5.out.trans (K3.set w5 (.inl rfl) 4 _)⟩
      · have hz4 : wz.cell? ⟨B, 4, none⟩ = some (.slice (some a9) 1 c9) := (blk_cell by10 4).trans rfl
        go_quiet (fail)
        go_wp2_with (fail)
        have hb7 : Below wz.heap.size wz (wz.drewN nq) := pw_below_drewN (Below.refl _ _) _
        first | go_end0 | skip
        exact bodyPost_ret (v := .tuple #[]) (by simp [results, Try.results72, go_sem]) rfl ⟨rfl, by rw [show lookL hand 0 chain U lo = longer chain lo from rfl, HLG.out]; exact HG.out.step hb7, HKG.out.trans (K3.below hb7)⟩
set_option maxHeartbeats 8000000 in
set_option maxRecDepth 1000000 in
theorem spec_haLook_look.node (w : World) (B gC cC gU cU : Nat) (Ah : Option Addr) (ch : Nat) (hand : List S53) (hh : hand.length ≤ 1000) (hH : Kd.C k53 w Ah hand.length hand) (hch : hand.length ≤ ch) (d : Nat) (hrec : spec_haLook_look.Says w B gC cC gU cU Ah ch hand d) : spec_haLook_look.Says w B gC cC gU cU Ah ch hand (d + 1) := by
  intro chain Ac cc U lo W hL h1 hd hc hC hcc
  obtain ⟨cnt, vL, vlo, b1, b2, b3⟩ := hL.cells
  obtain ⟨Alo, clo, rfl⟩ := Kd.R_slice b3
  obtain ⟨cl, d1, d2⟩ := hL.counts
  have hb0 : W.cell? ⟨B, 0, none⟩ = some (.slice Ah hand.length ch) := (blk_cell b1 0).trans rfl
  have hb3 : W.cell? ⟨B, 3, none⟩ = some (.slice (some ⟨gC, 0, none⟩) hand.length cC) := (blk_cell b1 3).trans rfl
  have hb5 : W.cell? ⟨B, 5, none⟩ = some (.slice Alo lo.length clo) := (blk_cell b1 5).trans rfl
  have hbf : W.frozen? ⟨B, 5, none⟩ = false := blk_frozen b1 5
  have hown := fun (W' : World) (k : K3 B gC gU W W') (b : Below w.heap.size w W') => spec_l1Own.calls Ac cc chain chain W' (hC W' k b) hcc (own_f chain (by omega))
  have HLK := Lib.hid hL
  have HC := Lib.hid hC
  have HCC := Lib.hid hcc
  have HOWN := Lib.hid hown
  have HCH := Lib.hid hc
  have HR5 := Lib.hid b3
  have HB := Lib.hid b1
  have HREC := Lib.hid hrec
  have hust := Try.underlying71
  clear hL hC hcc hown hc b3 d2 d1
  rcases Nat.lt_or_ge lo.length chain.length with c1 | c1
  case' inl => rcases Nat.lt_or_ge 1 chain.length with c2 | c2
  case' inr => rcases Nat.lt_or_ge 1 chain.length with c2 | c2
  case' inl.inl =>
    have c1b : decide ((lo.length : Int) < (chain.length : Int)) = true := decide_eq_true (by omega)
    have c2b : decide (1 < (chain.length : Int)) = true := decide_eq_true (by omega)
    have c1n : decide (lo.length < chain.length) = true := decide_eq_true (by omega)
    have hlg : longer chain lo = chain := by unfold longer; rw [if_pos c1]
    have HLG := Lib.hid hlg
    clear hlg
    have c3b : decide ((chain.length : Int) = (hand.length : Int) + 1) = false := decide_eq_false (by omega)
    have c3c : ((chain.length : Int) == (hand.length : Int) + 1) = false := by rw [beq_eq_false_iff_ne]; omega
    have hgC : gC < W.heap.size := by obtain ⟨_, h⟩ := HLK.out.cblk; exact blk_lt h
    go_enter Try.func72, Try.ntmps72
    go_wp2_with (go_at_call 74; refine (HOWN.out _ (K3.refl _ _ _ _) HLK.out.below).mono ?_; rintro e w1 ⟨v18, rfl, ho, hb⟩; obtain ⟨A18, c18, e18⟩ := Kd.R_slice ho; subst e18; have hz5 : w1.cell? ⟨B, 5, none⟩ = some (.slice Alo lo.length clo) := (blk_cell (blk_below HB.out hb) 5).trans rfl; have hzf : w1.frozen? ⟨B, 5, none⟩ = false := blk_frozen (blk_below HB.out hb) 5
                 have HX := Lib.hid ((HLK.out.step hb).long (.slice A18 chain.length c18) chain (fresh_gC ho hgC HLK.out.below.size))
                 have HKX := Lib.hid ((K3.below (B := B) (gC := gC) (gU := gU) hb).trans (K3.set w1 (.inl rfl) 5 (.slice A18 chain.length c18)))
                 obtain ⟨cnt1, vL1, vlo1, bx, bx2, _⟩ := HX.out.cells
                 have hx0 : (w1.setCell ⟨B, 5, none⟩ (.slice A18 chain.length c18)).cell? ⟨B, 0, none⟩ = some (.slice Ah hand.length ch) := (blk_cell bx 0).trans rfl
                 have hx3 : (w1.setCell ⟨B, 5, none⟩ (.slice A18 chain.length c18)).cell? ⟨B, 3, none⟩ = some (.slice (some ⟨gC, 0, none⟩) hand.length cC) := (blk_cell bx 3).trans rfl
                 obtain ⟨cl1, e1, e2⟩ := HX.out.counts
                 have hi0 : 0 ≤ (chain.length : Int) - 2 := by omega
                 have hi1 : (chain.length : Int) - 2 < (hand.length : Int) := by omega
                 obtain ⟨hxc, hxf⟩ := Kd.R_cell (0 : Int) e2 ((chain.length : Int) - 2) hi0 (by omega)
                 have htn : ((chain.length : Int) - 2).toNat = chain.length - 2 := by omega
                 have hty := HX.out.tally ((chain.length : Int) - 2) (wrap64 (rdOf (0 : Int) cl1 ((chain.length : Int) - 2) + 1))
                 have hkx := HKX.out.trans (K3.set (B := B) (gC := gC) (gU := gU) (w1.setCell ⟨B, 5, none⟩ (.slice A18 chain.length c18)) (.inr (.inl rfl)) ((chain.length : Int) - 2).toNat (.int .i64 (wrap64 (rdOf (0 : Int) cl1 ((chain.length : Int) - 2) + 1))))
                 rw [htn] at hxc hxf hty hkx
                 generalize rdOf (0 : Int) cl1 ((chain.length : Int) - 2) = x9 at hxc hty hkx
                 have HF := Lib.hid hty
                 have HKF := Lib.hid hkx
                 clear hty hkx e1 e2 htn cl1
                 obtain ⟨cnt9, vL9, vlo9, by9, bv9, _⟩ := HF.out.cells
                 have hy0 : ((w1.setCell ⟨B, 5, none⟩ (.slice A18 chain.length c18)).setCell ⟨gC, chain.length - 2, none⟩ (.int .i64 (wrap64 (x9 + 1)))).cell? ⟨B, 0, none⟩ = some (.slice Ah hand.length ch) := (blk_cell by9 0).trans rfl
                 have hy1 : ((w1.setCell ⟨B, 5, none⟩ (.slice A18 chain.length c18)).setCell ⟨gC, chain.length - 2, none⟩ (.int .i64 (wrap64 (x9 + 1)))).cell? ⟨B, 1, none⟩ = some (.int .i64 0) := (blk_cell by9 1).trans rfl
                 have hy2 : ((w1.setCell ⟨B, 5, none⟩ (.slice A18 chain.length c18)).setCell ⟨gC, chain.length - 2, none⟩ (.int .i64 (wrap64 (x9 + 1)))).cell? ⟨B, 2, none⟩ = some (.int .i64 cnt9) := (blk_cell by9 2).trans rfl
                 have hy4 : ((w1.setCell ⟨B, 5, none⟩ (.slice A18 chain.length c18)).setCell ⟨gC, chain.length - 2, none⟩ (.int .i64 (wrap64 (x9 + 1)))).cell? ⟨B, 4, none⟩ = some (vL9) := (blk_cell by9 4).trans rfl
                 have hyf : ((w1.setCell ⟨B, 5, none⟩ (.slice A18 chain.length c18)).setCell ⟨gC, chain.length - 2, none⟩ (.int .i64 (wrap64 (x9 + 1)))).frozen? ⟨B, 2, none⟩ = false := blk_frozen by9 2)
    have HG := HF
    have HKG := HKF
    have HE0 := Lib.hid (show lookLoop (fun c u l => lookL hand d c u l) hand chain U (10 - 0) ((0 : Nat) : Int) (longer chain lo) = lookL hand (d + 1) chain U lo from rfl)
    rw [HLG.out] at HE0
    generalize ((w1.setCell ⟨B, 5, none⟩ (.slice A18 chain.length c18)).setCell ⟨gC, chain.length - 2, none⟩ (.int .i64 (wrap64 (x9 + 1)))) = wz at HG HKG ⊢
  case' inl.inr =>
    have c1b : decide ((lo.length : Int) < (chain.length : Int)) = true := decide_eq_true (by omega)
    have c2b : decide (1 < (chain.length : Int)) = false := decide_eq_false (by omega)
    have c1n : decide (lo.length < chain.length) = true := decide_eq_true (by omega)
    have hlg : longer chain lo = chain := by unfold longer; rw [if_pos c1]
    have HLG := Lib.hid hlg
    clear hlg
    have c3b : decide ((chain.length : Int) = (hand.length : Int) + 1) = false := decide_eq_false (by omega)
    have c3c : ((chain.length : Int) == (hand.length : Int) + 1) = false := by rw [beq_eq_false_iff_ne]; omega
    have hgC : gC < W.heap.size := by obtain ⟨_, h⟩ := HLK.out.cblk; exact blk_lt h
    go_enter Try.func72, Try.ntmps72
    go_wp2_with (go_at_call 74; refine (HOWN.out _ (K3.refl _ _ _ _) HLK.out.below).mono ?_; rintro e w1 ⟨v18, rfl, ho, hb⟩; obtain ⟨A18, c18, e18⟩ := Kd.R_slice ho; subst e18; have hz5 : w1.cell? ⟨B, 5, none⟩ = some (.slice Alo lo.length clo) := (blk_cell (blk_below HB.out hb) 5).trans rfl; have hzf : w1.frozen? ⟨B, 5, none⟩ = false := blk_frozen (blk_below HB.out hb) 5
                 have HX := Lib.hid ((HLK.out.step hb).long (.slice A18 chain.length c18) chain (fresh_gC ho hgC HLK.out.below.size))
                 have HKX := Lib.hid ((K3.below (B := B) (gC := gC) (gU := gU) hb).trans (K3.set w1 (.inl rfl) 5 (.slice A18 chain.length c18)))
                 obtain ⟨cnt1, vL1, vlo1, bx, bx2, _⟩ := HX.out.cells
                 have hx0 : (w1.setCell ⟨B, 5, none⟩ (.slice A18 chain.length c18)).cell? ⟨B, 0, none⟩ = some (.slice Ah hand.length ch) := (blk_cell bx 0).trans rfl
                 have hx3 : (w1.setCell ⟨B, 5, none⟩ (.slice A18 chain.length c18)).cell? ⟨B, 3, none⟩ = some (.slice (some ⟨gC, 0, none⟩) hand.length cC) := (blk_cell bx 3).trans rfl
                 have HF := HX
                 have HKF := HKX
                 obtain ⟨cnt9, vL9, vlo9, by9, bv9, _⟩ := HF.out.cells
                 have hy0 : (w1.setCell ⟨B, 5, none⟩ (.slice A18 chain.length c18)).cell? ⟨B, 0, none⟩ = some (.slice Ah hand.length ch) := (blk_cell by9 0).trans rfl
                 have hy1 : (w1.setCell ⟨B, 5, none⟩ (.slice A18 chain.length c18)).cell? ⟨B, 1, none⟩ = some (.int .i64 0) := (blk_cell by9 1).trans rfl
                 have hy2 : (w1.setCell ⟨B, 5, none⟩ (.slice A18 chain.length c18)).cell? ⟨B, 2, none⟩ = some (.int .i64 cnt9) := (blk_cell by9 2).trans rfl
                 have hy4 : (w1.setCell ⟨B, 5, none⟩ (.slice A18 chain.length c18)).cell? ⟨B, 4, none⟩ = some (vL9) := (blk_cell by9 4).trans rfl
                 have hyf : (w1.setCell ⟨B, 5, none⟩ (.slice A18 chain.length c18)).frozen? ⟨B, 2, none⟩ = false := blk_frozen by9 2)
    have HG := HF
    have HKG := HKF
    have HE0 := Lib.hid (show lookLoop (fun c u l => lookL hand d c u l) hand chain U (10 - 0) ((0 : Nat) : Int) (longer chain lo) = lookL hand (d + 1) chain U lo from rfl)
    rw [HLG.out] at HE0
    generalize (w1.setCell ⟨B, 5, none⟩ (.slice A18 chain.length c18)) = wz at HG HKG ⊢
  case' inr.inl =>
    have c1b : decide ((lo.length : Int) < (chain.length : Int)) = false := decide_eq_false (by omega)
    have c2b : decide (1 < (chain.length : Int)) = true := decide_eq_true (by omega)
    have c1n : decide (lo.length < chain.length) = false := decide_eq_false (by omega)
    have hlg : longer chain lo = lo := by unfold longer; rw [if_neg (by omega)]
    have HLG := Lib.hid hlg
    clear hlg
    have c3b : decide ((chain.length : Int) = (hand.length : Int) + 1) = false := decide_eq_false (by omega)
    have c3c : ((chain.length : Int) == (hand.length : Int) + 1) = false := by rw [beq_eq_false_iff_ne]; omega
    have hgC : gC < W.heap.size := by obtain ⟨_, h⟩ := HLK.out.cblk; exact blk_lt h
    have HX := HLK
    have HKX := Lib.hid (K3.refl B gC gU W)
    obtain ⟨cnt1, vL1, vlo1, bx, bx2, _⟩ := HX.out.cells
    have hx0 : W.cell? ⟨B, 0, none⟩ = some (.slice Ah hand.length ch) := (blk_cell bx 0).trans rfl
    have hx3 : W.cell? ⟨B, 3, none⟩ = some (.slice (some ⟨gC, 0, none⟩) hand.length cC) := (blk_cell bx 3).trans rfl
    obtain ⟨cl1, e1, e2⟩ := HX.out.counts
    have hi0 : 0 ≤ (chain.length : Int) - 2 := by omega
    have hi1 : (chain.length : Int) - 2 < (hand.length : Int) := by omega
    obtain ⟨hxc, hxf⟩ := Kd.R_cell (0 : Int) e2 ((chain.length : Int) - 2) hi0 (by omega)
    have htn : ((chain.length : Int) - 2).toNat = chain.length - 2 := by omega
    have hty := HX.out.tally ((chain.length : Int) - 2) (wrap64 (rdOf (0 : Int) cl1 ((chain.length : Int) - 2) + 1))
    have hkx := HKX.out.trans (K3.set (B := B) (gC := gC) (gU := gU) W (.inr (.inl rfl)) ((chain.length : Int) - 2).toNat (.int .i64 (wrap64 (rdOf (0 : Int) cl1 ((chain.length : Int) - 2) + 1))))
    rw [htn] at hxc hxf hty hkx
    generalize rdOf (0 : Int) cl1 ((chain.length : Int) - 2) = x9 at hxc hty hkx
    have HF := Lib.hid hty
    have HKF := Lib.hid hkx
    clear hty hkx e1 e2 htn cl1
    obtain ⟨cnt9, vL9, vlo9, by9, bv9, _⟩ := HF.out.cells
    have hy0 : (W.setCell ⟨gC, chain.length - 2, none⟩ (.int .i64 (wrap64 (x9 + 1)))).cell? ⟨B, 0, none⟩ = some (.slice Ah hand.length ch) := (blk_cell by9 0).trans rfl
    have hy1 : (W.setCell ⟨gC, chain.length - 2, none⟩ (.int .i64 (wrap64 (x9 + 1)))).cell? ⟨B, 1, none⟩ = some (.int .i64 0) := (blk_cell by9 1).trans rfl
    have hy2 : (W.setCell ⟨gC, chain.length - 2, none⟩ (.int .i64 (wrap64 (x9 + 1)))).cell? ⟨B, 2, none⟩ = some (.int .i64 cnt9) := (blk_cell by9 2).trans rfl
    have hy4 : (W.setCell ⟨gC, chain.length - 2, none⟩ (.int .i64 (wrap64 (x9 + 1)))).cell? ⟨B, 4, none⟩ = some (vL9) := (blk_cell by9 4).trans rfl
    have hyf : (W.setCell ⟨gC, chain.length - 2, none⟩ (.int .i64 (wrap64 (x9 + 1)))).frozen? ⟨B, 2, none⟩ = false := blk_frozen by9 2
    go_enter Try.func72, Try.ntmps72
    go_wp2_with (fail)
    have HG := HF
    have HKG := HKF
    have HE0 := Lib.hid (show lookLoop (fun c u l => lookL hand d c u l) hand chain U (10 - 0) ((0 : Nat) : Int) (longer chain lo) = lookL hand (d + 1) chain U lo from rfl)
    rw [HLG.out] at HE0
    generalize (W.setCell ⟨gC, chain.length - 2, none⟩ (.int .i64 (wrap64 (x9 + 1)))) = wz at HG HKG ⊢
  case' inr.inr =>
    have c1b : decide ((lo.length : Int) < (chain.length : Int)) = false := decide_eq_false (by omega)
    have c2b : decide (1 < (chain.length : Int)) = false := decide_eq_false (by omega)
    have c1n : decide (lo.length < chain.length) = false := decide_eq_false (by omega)
    have hlg : longer chain lo = lo := by unfold longer; rw [if_neg (by omega)]
    have HLG := Lib.hid hlg
    clear hlg
    have c3b : decide ((chain.length : Int) = (hand.length : Int) + 1) = false := decide_eq_false (by omega)
    have c3c : ((chain.length : Int) == (hand.length : Int) + 1) = false := by rw [beq_eq_false_iff_ne]; omega
    have hgC : gC < W.heap.size := by obtain ⟨_, h⟩ := HLK.out.cblk; exact blk_lt h
    have HX := HLK
    have HKX := Lib.hid (K3.refl B gC gU W)
    obtain ⟨cnt1, vL1, vlo1, bx, bx2, _⟩ := HX.out.cells
    have hx0 : W.cell? ⟨B, 0, none⟩ = some (.slice Ah hand.length ch) := (blk_cell bx 0).trans rfl
    have hx3 : W.cell? ⟨B, 3, none⟩ = some (.slice (some ⟨gC, 0, none⟩) hand.length cC) := (blk_cell bx 3).trans rfl
    have HF := HX
    have HKF := HKX
    obtain ⟨cnt9, vL9, vlo9, by9, bv9, _⟩ := HF.out.cells
    have hy0 : W.cell? ⟨B, 0, none⟩ = some (.slice Ah hand.length ch) := (blk_cell by9 0).trans rfl
    have hy1 : W.cell? ⟨B, 1, none⟩ = some (.int .i64 0) := (blk_cell by9 1).trans rfl
    have hy2 : W.cell? ⟨B, 2, none⟩ = some (.int .i64 cnt9) := (blk_cell by9 2).trans rfl
    have hy4 : W.cell? ⟨B, 4, none⟩ = some (vL9) := (blk_cell by9 4).trans rfl
    have hyf : W.frozen? ⟨B, 2, none⟩ = false := blk_frozen by9 2
    go_enter Try.func72, Try.ntmps72
    go_wp2_with (fail)
    have HG := HF
    have HKG := HKF
    have HE0 := Lib.hid (show lookLoop (fun c u l => lookL hand d c u l) hand chain U (10 - 0) ((0 : Nat) : Int) (longer chain lo) = lookL hand (d + 1) chain U lo from rfl)
    rw [HLG.out] at HE0
    have hwz := HG
    clear hwz
  all_goals
    go_loopg [6] 10 (fun gg s6 wr => ∃ (i : Nat) (l' : List Int), s6 = .int .i64 i ∧ i ≤ 10 ∧ 10 - i ≤ gg ∧ Hid (lookLoop (fun c u l => lookL hand d c u l) hand chain U (10 - i) (i : Int) l' = lookL hand (d + 1) chain U lo) ∧ Hid (spec_haLook_look.Lk w B gC cC gU cU Ah ch hand U l' wr ∧ K3 B gC gU W wr))
    case atStart => exact ⟨0, _, rfl, by omega, by omega, HE0, Lib.hid ⟨HG.out, HKG.out⟩⟩
    case round =>
      clear HE0 HG HKG
      obtain ⟨i, l', rfl, hi, hgg, HE, HP⟩ := hrel
      by_cases hlt : i < 10
      · have hltz : decide ((i : Int) ≤ 9) = true := decide_eq_true (by omega)
        obtain ⟨m, hm⟩ : ∃ m, 10 - i = m + 1 := ⟨9 - i, by omega⟩
        obtain ⟨ad, ead, hx⟩ := Kd.at_int (HC.out wr HP.out.2 HP.out.1.below) ((chain.length : Int) - 1) (by omega) (by omega)
        obtain ⟨L0, hL0⟩ : ∃ L0 : Nat, chain.length = L0 + 1 := ⟨chain.length - 1, by omega⟩
        obtain ⟨last, hlast⟩ : ∃ last, last = rd chain ((chain.length : Int) - 1) := ⟨_, rfl⟩
        obtain ⟨t0, ht0⟩ : ∃ t0 : Int, t0 = (if last < (i : Int) then last else (i : Int)) := ⟨_, rfl⟩
        obtain ⟨t1, ht1⟩ : ∃ t1 : Int, t1 = (if last > (i : Int) then last else (i : Int)) := ⟨_, rfl⟩
        obtain ⟨q, hq⟩ : ∃ q : Int, q = plx t0 t1 hand 0 := ⟨_, rfl⟩
        have hqn : nxt hand chain (i : Int) = q := by rw [hq, ht0, ht1, hlast]; rfl
        have hof := fun (W2 : World) => spec_tiOf.calls last (i : Int) t0 t1 W2 (by rw [of_f, ht0, ht1])
        have hpl := fun (W2 : World) (hb : Below w.heap.size w W2) => spec_tiPlace.calls 1001 Ah ch hand t0 t1 q W2 (Kd.C_below hH hb) hch (by rw [place_f t0 t1 hand hh, hq])
        have hqr := plx_range t0 t1 hand 0
        rw [← hq] at hqr
        have hSQ : ∀ (w' : World) (U' : List Bool) (l2 : List Int), spec_haLook_look.Lk w B gC cC gU cU Ah ch hand U' l2 w' → K3 B gC gU W w' → (w'.cell? ⟨B, 0, none⟩ = some (.slice Ah hand.length ch) ∧ w'.cell? (ad.add L0) = some (.int .i64 last)) := by
          intro w' U' l2 h1 h2
          obtain ⟨_, _, _, hb, _⟩ := h1.cells
          obtain ⟨ad2, e2, hx2⟩ := Kd.at_int (HC.out w' h2 h1.below) ((chain.length : Int) - 1) (by omega) (by omega)
          rw [ead] at e2
          injection e2 with e2
          rw [← e2, show ((chain.length : Int) - 1).toNat = L0 from by omega, ← hlast] at hx2
          exact ⟨(blk_cell hb 0).trans rfl, hx2⟩
        have HSQ := Lib.hid hSQ
        have HOF := Lib.hid hof
        have HPL := Lib.hid hpl
        have HQN := Lib.hid hqn
        have HQR := Lib.hid hqr
        subst ead
        clear hSQ hof hpl hqn hqr hx hlast ht0 ht1 hq
        go_wp2_with (fail)
        have hcj : (L0 : Int) < (chain.length : Int) := by omega
        have hwc : wrap64 ((chain.length : Int) - 1) = (L0 : Int) := by rw [g_wrap _ (by omega) (by omega)]; omega
        have HL0 := Lib.hid hL0
        clear hL0
        have hb11 : Below wr.heap.size wr wr.drew := below_drew1 (Below.refl _ _)
        refine start_ (n := 14) (S := fun w' => w'.cell? ⟨B, 0, none⟩ = some (.slice Ah hand.length ch) ∧ w'.cell? (ad.add L0) = some (.int .i64 last)) (ds := []) #[false, false, false, false, false, false, false, false, false, false, false, false, false, false] (by kernel_rfl) rfl rfl (HSQ.out _ _ _ (HP.out.1.step hb11) (HP.out.2.trans (K3.below hb11))) (fun hHeld => ?_)
        have HQ := Lib.hid (show spec_haLook_look.Lk w B gC cC gU cU Ah ch hand U l' wr.drew ∧ K3 B gC gU W wr.drew from ⟨HP.out.1.step hb11, HP.out.2.trans (K3.below hb11)⟩)
        clear hb11
        generalize wr.drew = wq at HQ hHeld ⊢
        refine pure_ (i := 0) (N := (some 76)) (v := ?_) (a' := ?_) #[true, false, false, false, false, false, false, false, false, false, false, false, false, false] rfl rfl (by kernel_rfl) (fun _ _ _ h => h) (Or.inl ⟨by rfl, ?_⟩) ?_ ?_
        rotate_left
        · intro w'
          go_simp
          with_reducible rfl
        rotate_left
        · simp only [Act.put, List.setIfInBounds_toArray, List.set_cons_zero, List.set_cons_succ, i64_w, i32_w]
          rfl
        refine pure_ (i := 1) (N := (some 77)) (v := ?_) (a' := ?_) #[true, true, false, false, false, false, false, false, false, false, false, false, false, false] rfl rfl (by kernel_rfl) (fun _ _ _ h => h) (Or.inl ⟨by rfl, ?_⟩) ?_ ?_
        rotate_left
        · intro w'
          go_simp
          with_reducible rfl
        rotate_left
        · simp only [Act.put, List.setIfInBounds_toArray, List.set_cons_zero, List.set_cons_succ, i64_w, i32_w]
          rfl
        refine pure_ (i := 2) (N := (some 78)) (v := ?_) (a' := ?_) #[true, true, true, false, false, false, false, false, false, false, false, false, false, false] rfl rfl (by kernel_rfl) (fun _ _ _ h => h) (Or.inl ⟨by rfl, ?_⟩) ?_ ?_
        rotate_left
        · intro w'
          go_simp
          with_reducible rfl
        rotate_left
        · simp only [Act.put, List.setIfInBounds_toArray, List.set_cons_zero, List.set_cons_succ, i64_w, i32_w]
          rfl
        refine take_ (i := 3) (N := (some 79)) (v := ?_) (a' := ?_) #[true, true, true, true, false, false, false, false, false, false, false, false, false, false] rfl rfl (by kernel_rfl) (fun _ _ _ h => h) (Or.inl ⟨by rfl, ?_⟩) hHeld ?_ ?_
        rotate_left
        · intro w' ⟨s0, s1⟩
          go_simp
          with_reducible rfl
        rotate_left
        · simp only [Act.put, List.setIfInBounds_toArray, List.set_cons_zero, List.set_cons_succ, i64_w, i32_w]
          rfl
        refine pure_ (i := 4) (N := (some 80)) (v := ?_) (a' := ?_) #[true, true, true, true, true, false, false, false, false, false, false, false, false, false] rfl rfl (by kernel_rfl) (fun _ _ _ h => h) (Or.inl ⟨by rfl, ?_⟩) ?_ ?_
        rotate_left
        · intro w'
          go_simp
          with_reducible rfl
        rotate_left
        · simp only [Act.put, List.setIfInBounds_toArray, List.set_cons_zero, List.set_cons_succ, i64_w, i32_w]
          rfl
        refine pure_ (i := 5) (N := (some 81)) (v := ?_) (a' := ?_) #[true, true, true, true, true, true, false, false, false, false, false, false, false, false] rfl rfl (by kernel_rfl) (fun _ _ _ h => h) (Or.inl ⟨by rfl, ?_⟩) ?_ ?_
        rotate_left
        · intro w'
          go_simp
          with_reducible rfl
        rotate_left
        · simp only [Act.put, List.setIfInBounds_toArray, List.set_cons_zero, List.set_cons_succ, i64_w, i32_w]
          rfl
        refine pure_ (i := 6) (N := (some 82)) (v := ?_) (a' := ?_) #[true, true, true, true, true, true, true, false, false, false, false, false, false, false] rfl rfl (by kernel_rfl) (fun _ _ _ h => h) (Or.inl ⟨by rfl, ?_⟩) ?_ ?_
        rotate_left
        · intro w'
          go_simp
          with_reducible rfl
        rotate_left
        · simp only [Act.put, List.setIfInBounds_toArray, List.set_cons_zero, List.set_cons_succ, i64_w, i32_w]
          rfl
        refine pure_ (i := 7) (N := (some 83)) (v := ?_) (a' := ?_) #[true, true, true, true, true, true, true, true, false, false, false, false, false, false] rfl rfl (by kernel_rfl) (fun _ _ _ h => h) (Or.inl ⟨by rfl, ?_⟩) ?_ ?_
        rotate_left
        · intro w'
          go_simp
          with_reducible rfl
        rotate_left
        · simp only [Act.put, List.setIfInBounds_toArray, List.set_cons_zero, List.set_cons_succ, i64_w, i32_w]
          rfl
        rw [hwc]
        refine pure_ (i := 8) (N := (some 84)) (v := ?_) (a' := ?_) #[true, true, true, true, true, true, true, true, true, false, false, false, false, false] rfl rfl (by kernel_rfl) (fun _ _ _ h => h) (Or.inl ⟨by rfl, ?_⟩) ?_ ?_
        rotate_left
        · intro w'
          go_simp
          with_reducible rfl
        rotate_left
        · simp only [Act.put, List.setIfInBounds_toArray, List.set_cons_zero, List.set_cons_succ, i64_w, i32_w]
          rfl
        refine take_ (i := 9) (N := (some 85)) (v := ?_) (a' := ?_) #[true, true, true, true, true, true, true, true, true, true, false, false, false, false] rfl rfl (by kernel_rfl) (fun _ _ _ h => h) (Or.inl ⟨by rfl, ?_⟩) hHeld ?_ ?_
        rotate_left
        · intro w' ⟨s0, s1⟩
          go_simp
          with_reducible rfl
        rotate_left
        · simp only [Act.put, List.setIfInBounds_toArray, List.set_cons_zero, List.set_cons_succ, i64_w, i32_w]
          rfl
        refine pure_ (i := 10) (N := (some 86)) (v := ?_) (a' := ?_) #[true, true, true, true, true, true, true, true, true, true, true, false, false, false] rfl rfl (by kernel_rfl) (fun _ _ _ h => h) (Or.inl ⟨by rfl, ?_⟩) ?_ ?_
        rotate_left
        · intro w'
          go_simp
          with_reducible rfl
        rotate_left
        · simp only [Act.put, List.setIfInBounds_toArray, List.set_cons_zero, List.set_cons_succ, i64_w, i32_w]
          rfl
        refine one_ (i := 11) (N := some 87) #[true, true, true, true, true, true, true, true, true, true, true, true, false, false] rfl rfl (by kernel_rfl) (by decide) (fun K hK => ?_)
        refine goes_ Try.func76 (by kernel_rfl) rfl #[.int .i64 last, .int .i64 (i : Int)] (by rfl) rfl rfl (by (try simp only [List.map_toArray, List.map_cons, List.map_nil]); first | done | rfl) ?_
        with_reducible refine (HOF.out _).mono ?_
        rintro e w12 ⟨rfl, hb12⟩
        refine ⟨_, rfl, ?_⟩
        have HQ2 := Lib.hid (show spec_haLook_look.Lk w B gC cC gU cU Ah ch hand U l' w12 ∧ K3 B gC gU W w12 from ⟨HQ.out.1.step hb12, HQ.out.2.trans (K3.below hb12)⟩)
        clear hb12
        refine hK.out _ _ (HSQ.out _ _ _ HQ2.out.1 HQ2.out.2) (fun hHeld => ?_)
        clear hK K
        refine norm_ (a' := ?_) ?_ ?_
        rotate_left
        · show Act.put _ (some 87) _ = _
          simp only [Act.put, List.setIfInBounds_toArray, List.set_cons_zero, List.set_cons_succ, i64_w, i32_w]
          rfl
        refine one_ (i := 12) (N := some 88) #[true, true, true, true, true, true, true, true, true, true, true, true, true, false] rfl rfl (by kernel_rfl) (by decide) (fun K hK => ?_)
        refine goes_ Try.func75 (by kernel_rfl) rfl #[.slice Ah hand.length ch, .agg #[.int .i64 t0, .int .i64 t1]] (by rfl) rfl rfl (by (try simp only [List.map_toArray, List.map_cons, List.map_nil]); first | done | rfl) ?_
        with_reducible refine (HPL.out _ HQ2.out.1.below).mono ?_
        rintro e w13 ⟨rfl, hb13⟩
        refine ⟨_, rfl, ?_⟩
        have HQ3 := Lib.hid (show spec_haLook_look.Lk w B gC cC gU cU Ah ch hand U l' w13 ∧ K3 B gC gU W w13 from ⟨HQ2.out.1.step hb13, HQ2.out.2.trans (K3.below hb13)⟩)
        clear hb13
        refine hK.out _ _ (HSQ.out _ _ _ HQ3.out.1 HQ3.out.2) (fun hHeld => ?_)
        clear hK K
        refine norm_ (a' := ?_) ?_ ?_
        rotate_left
        · show Act.put _ (some 88) _ = _
          simp only [Act.put, List.setIfInBounds_toArray, List.set_cons_zero, List.set_cons_succ, i64_w, i32_w]
          rfl
        refine pure_ (i := 13) (N := (some 7)) (v := ?_) (a' := ?_) #[true, true, true, true, true, true, true, true, true, true, true, true, true, true] rfl rfl (by kernel_rfl) (fun _ _ _ h => h) (Or.inl ⟨by rfl, ?_⟩) ?_ ?_
        rotate_left
        · intro w'
          go_simp
          with_reducible rfl
        rotate_left
        · simp only [Act.put, List.setIfInBounds_toArray, List.set_cons_zero, List.set_cons_succ, i64_w, i32_w]
          rfl
        refine done_ (by kernel_rfl) ?_
        have he := HE.out
        rw [hm] at he
        simp only [lookLoop] at he
        rw [HQN.out] at he
        have HE2 := Lib.hid he
        clear he HE
        by_cases hqc : q < 0
        · have hq1 : decide (q < 0) = true := decide_eq_true hqc
          go_wp2_with (fail)
          go_roundg (10 - (i + 1))
          case measure => omega
          case rel =>
            refine ⟨i + 1, l', by go_num, by omega, Nat.le_refl _, Lib.hid ?_, HQ3⟩
            have he := HE2.out
            rw [if_pos (by omega)] at he
            rw [show 10 - (i + 1) = m from by omega]
            exact he
        · have hq1 : decide (q < 0) = false := decide_eq_false hqc
          have hq2 : 0 ≤ q := by omega
          have hq3 : q < (hand.length : Int) := by rcases HQR.out with h | h <;> omega
          have hul := HQ3.out.1.ulen
          have p0 := eq_true hq2
          have q0 := eq_true hq3
          obtain ⟨hu0, hu1⟩ := Kd.R_cell (enc := Value.bool) false HQ3.out.1.used q hq2 (by omega)
          by_cases hub : rdOf false U q = true
          · rw [hub] at hu0
            go_wp2_with (fail)
            go_roundg (10 - (i + 1))
            case measure => omega
            case rel =>
              refine ⟨i + 1, l', by go_num, by omega, Nat.le_refl _, Lib.hid ?_, HQ3⟩
              have he := HE2.out
              rw [if_neg (by omega), if_pos hub] at he
              rw [show 10 - (i + 1) = m from by omega]
              exact he
          · have hub2 : rdOf false U q = false := by simpa using hub
            rw [hub2] at hu0
            have hms := HQ3.out.1.mark q true
            have hks := HQ3.out.2.trans (K3.set (B := B) (gC := gC) (gU := gU) w13 (.inr (.inr rfl)) q.toNat (.bool true))
            have hon := HOWN.out _ hks hms.below
            have HMS := Lib.hid hms
            have HKS := Lib.hid hks
            have HON := Lib.hid hon
            have hgCs : gC < (w13.setCell ⟨gU, q.toNat, none⟩ (.bool true)).heap.size := by obtain ⟨_, h⟩ := HMS.out.cblk; exact blk_lt h
            clear hms hks hon
            go_wp2_with (first
              | (go_at_call 74; refine HON.out.mono ?_; rintro e w14 ⟨v102, rfl, ho, hb⟩; obtain ⟨A102, c102, e102⟩ := Kd.R_slice ho; subst e102; have H102 := Lib.hid ho; have HB14 := Lib.hid hb; clear ho hb)
              | ((with_reducible refine gate_builtin (b := .append) (xs := #[.tmp 102, .tmp 104]) rfl ?_); at_builtin; refine Kd.R_append (Kd.int .i64) (w0 := w14) (w13.setCell ⟨gU, q.toNat, none⟩ (.bool true)).heap.size rfl (.tmp 102) (.tmp 104) 62 3 (.int .i64 0) 8 rfl Try.underlying62 info3 rfl (by decide) (by omega) (.slice A102 chain.length c102) chain (i : Int) [.int .i64 (i : Int)] (fun _ => True) (fun _ => False) rfl rfl ?aP (fun _ hk => hk.elim) ?aF ?aO ?aB ?aS ?aL ?_
                 (case aP => exact rfl)
                 (case aB => exact Below.refl _ _)
                 (case aF => exact (fun _ _ => trivial))
                 (case aO => exact H102.out)
                 (case aS => exact HB14.out.size)
                 (case aL => omega)
                 intro v105 w15 ho hb hg hat
                 obtain ⟨A105, c105, e105⟩ := Kd.R_slice ho
                 have hb15 : Below (w13.setCell ⟨gU, q.toNat, none⟩ (.bool true)).heap.size (w13.setCell ⟨gU, q.toNat, none⟩ (.bool true)) w15 := HB14.out.trans hb
                 have hL15 := HMS.out.step hb15
                 have hrow := fresh_gC (by rw [← e105]; exact ho) hgCs HMS.out.below.size (v := .slice A105 (chain ++ [(i : Int)]).length c105) (xs := chain ++ [(i : Int)])
                 have HK15 := Lib.hid (HKS.out.trans (K3.below hb15))
                 have hrc := HREC.out (chain ++ [(i : Int)]) A105 c105 (U.set q.toNat true) l' w15 hL15 (by simp) (by simp; omega) (by intro x hx; rcases List.mem_append.1 hx with h | h; exact HCH.out x h; simp at h; omega) (fun W' hk hb => by obtain ⟨_, hB⟩ := hL15.bblk; obtain ⟨_, hU⟩ := hL15.ublk; exact (Kd.R_reads' (hk.row hrow hB hU (by decide) (by decide))).2.2) (Kd.R_reads' (by rw [← e105]; exact ho)).2.1
                 rw [← e105] at hrc
                 have HRC := Lib.hid hrc
                 clear ho hb hg hat hb15 hL15 hrow hrc e105)
              | (go_at_call 72
                 refine HRC.out.mono ?_
                 rintro e w16 ⟨rfl, hL16, hK16⟩
                 have hul2 := hL16.ulen
                 have hux := (Kd.R_cell (enc := Value.bool) false hL16.used q hq2 (by omega)).1
                 have huf := (Kd.R_cell (enc := Value.bool) false hL16.used q hq2 (by omega)).2
                 have HL16 := Lib.hid hL16
                 have HK16 := Lib.hid (HK15.out.trans hK16)
                 clear hL16 hK16))
            go_roundg (10 - (i + 1))
            case measure => omega
            case rel =>
              have hset : (U.set q.toNat true).set q.toNat false = U := by
                rw [List.set_set]
                have hlt : q.toNat < U.length := by omega
                have h0 : U[q.toNat] = false := by
                  unfold rdOf at hub2
                  rw [List.getD_eq_getElem?_getD, List.getElem?_eq_getElem hlt] at hub2
                  exact hub2
                rw [← h0, List.set_getElem_self]
              have hfin := HL16.out.mark q false
              rw [hset] at hfin
              refine ⟨i + 1, _, by go_num, by omega, Nat.le_refl _, Lib.hid ?_, Lib.hid ⟨hfin, HK16.out.trans (K3.set _ (.inr (.inr rfl)) _ _)⟩⟩
              have he := HE2.out
              rw [if_neg (by omega), if_neg (by rw [hub2]; simp)] at he
              rw [show 10 - (i + 1) = m from by omega]
              exact he
      · obtain rfl : i = 10 := by omega
        have hltz : decide (((10 : Nat) : Int) ≤ 9) = false := by decide
        go_wp2_with (fail)
        have he := HE.out
        simp only [Nat.sub_self, lookLoop] at he
        go_end0
        exact ⟨rfl, by rw [← he]; exact HP.out.1, HP.out.2⟩

end Go.Proofs.Ytafcjfilhdpgdaa.QFnChancesCompared
