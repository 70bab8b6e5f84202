-- WRITTEN BY A PROGRAM OF THIS CLAIM'S AUTHOR (wprint.py)
import Derived.Test.YtafcjfilhdpgdaaQFnChancesComparedx0
import Derived.Test.YtafcjfilhdpgdaaQFnChancesComparedx3
import Derived.Test.YtafcjfilhdpgdaaQFnChancesComparedx4
import Derived.Test.YtafcjfilhdpgdaaQFnChancesComparedx5
namespace Go.Proofs.Ytafcjfilhdpgdaa.QFnChancesCompared
open Go.RowKit Go.Proofs.YtafcjfilhdpgdaaW.PrintWords Go.Proofs.YtafcjfilhdpgdaaW.PrintLast Go.Proofs.YtafcjfilhdpgdaaW.PrintMore
attribute [local go_sem] max2_int min2_int max_two min_two max_three min_three max_four min_four   -- for this text's walks alone
set_option linter.unusedVariables false
set_option linter.unusedSimpArgs false

/-! ### impl_ChanceOfChain: function 6, by hand -/
/-! ### impl.ChanceOfChain: the hands that are drawn -/
def ccan (l : List S53) : Bool := if ((grps l).length : Int) ≤ 1 then decide (((odds l).length : Int) ≤ 2) else false
theorem ccan_f (l : List S53) (h1 : l.length ≤ 1000) (h2 : l.all tok = true) : impl_canChain.f l = some (ccan l) := by
  unfold impl_canChain.f impl_groups.f impl_odd.f ccan
  rw [if_pos h1, if_pos h2]
  simp only [Option.bind_some]
  by_cases h : ((grps l).length : Int) ≤ 1
  · rw [if_pos h, if_pos h, if_pos h1]
    rfl
  · rw [if_neg h, if_neg h]
def sumFrom (f : Nat → Int) : Nat → Nat → Int
  | 0, _ => 0
  | n + 1, i => f i + sumFrom f n (i + 1)
def drawN (set : List S53) : Nat → List S53 → Nat → Int
  | 0, hand, _ => if ccan hand = true then 1 else 0
  | d + 1, hand, i => sumFrom (fun j => drawN set d (hand ++ [set.getD j z53]) (j + 1)) (set.length - i) i
theorem h_wrap2 (a b : Int) : wrap64 (wrap64 a + b) = wrap64 (a + b) := by
  unfold wrap64
  omega
theorem h_wrap3 (a : Int) : wrap64 (wrap64 a) = wrap64 a := by
  unfold wrap64
  omega
/-- Of what lay in W, one block alone is written. -/
def KeepM (B : Nat) (W W' : World) : Prop := W.heap.size ≤ W'.heap.size ∧ ∀ i, i < W.heap.size → i ≠ B → W'.heap[i]? = W.heap[i]?
theorem KeepM.refl (B : Nat) (W : World) : KeepM B W W := ⟨Nat.le_refl _, fun _ _ _ => rfl⟩
theorem KeepM.trans {B : Nat} {W W1 W2 : World} (h : KeepM B W W1) (k : KeepM B W1 W2) : KeepM B W W2 := ⟨Nat.le_trans h.1 k.1, fun i hi hn => (k.2 i (Nat.lt_of_lt_of_le hi h.1) hn).trans (h.2 i hi hn)⟩
theorem KeepM.below {B : Nat} {W W' : World} (h : Below W.heap.size W W') : KeepM B W W' := ⟨h.size, fun i hi _ => h.block i hi⟩
theorem KeepM.set {B : Nat} (W : World) (j : Nat) (u : Value) : KeepM B W (W.setCell ⟨B, j, none⟩ u) := ⟨by rw [World.size_setCell]; exact Nat.le_refl _, fun i _ hn => Below.heap_setCell W ⟨B, j, none⟩ u i hn⟩
theorem KeepM.row {B : Nat} {α : Type} {d : Kd α} {e base t : Nat} {ok : Nat → Prop} {W W' : World} {v : Value} {xs : List α} {cs : Array Value} (h : KeepM B W W') (hR : d.R e W base ok v xs) (hb : W.heap[B]? = some (.cells cs t (0, 0))) (ht : ∀ q, q ∈ e :: d.E → q ≠ t) : d.R e W' base ok v xs :=
  Kd.R_mono (Kd.R_step (Kd.R_types hR hb ht) (fun k hk hlt => h.2 k hlt hk.2)) (fun _ hk => hk.1)
/-- What lies in memory while hands are drawn. -/
structure impl_ChanceOfChain_1.At (w : World) (Bk Bm Bt Bd Bs kn : Nat) (As : Option Addr) (cs : Nat) (set : List S53) (m : Int) (W : World) : Prop where
  below : Below w.heap.size w W
  young : w.heap.size ≤ Bm
  bk : W.heap[Bk]? = some (.cells #[.int .i64 kn] 3 (0, 0))
  bm : W.heap[Bm]? = some (.cells #[.int .i64 m] 3 (0, 0))
  bt : W.heap[Bt]? = some (.cells #[.int .i64 (set.length : Int)] 3 (0, 0))
  bd : W.heap[Bd]? = some (.cells #[.func (.func 33) #[] #[.pointer (some ⟨Bk, 0, none⟩), .pointer (some ⟨Bm, 0, none⟩), .pointer (some ⟨Bt, 0, none⟩), .pointer (some ⟨Bd, 0, none⟩), .pointer (some ⟨Bs, 0, none⟩)]] 48 (0, 0))
  bs : W.heap[Bs]? = some (.cells #[.slice As set.length cs] 46 (0, 0))
  row : Kd.R k53 53 W w.heap.size (fun _ => True) (.slice As set.length cs) set
  nk : Bk ≠ Bm
  nt : Bt ≠ Bm
theorem impl_ChanceOfChain_1.At.step {w : World} {Bk Bm Bt Bd Bs kn : Nat} {As : Option Addr} {cs : Nat} {set : List S53} {m m' : Int} {W W' : World} (h : impl_ChanceOfChain_1.At w Bk Bm Bt Bd Bs kn As cs set m W) (hb : Below w.heap.size w W') (hk : KeepM Bm W W')
    (hm : W'.heap[Bm]? = some (.cells #[.int .i64 m'] 3 (0, 0))) : impl_ChanceOfChain_1.At w Bk Bm Bt Bd Bs kn As cs set m' W' := by
  have hne : ∀ {i : Nat} {c : Array Value} {t : TypeId}, W.heap[i]? = some (.cells c t (0, 0)) → t ≠ 3 → i ≠ Bm := by
    intro i c t hi ht e
    subst e
    rw [h.bm] at hi
    injection hi with hi
    injection hi with _ e
    exact ht e.symm
  exact ⟨hb, h.young, (hk.2 Bk (blk_lt h.bk) h.nk).trans h.bk, hm, (hk.2 Bt (blk_lt h.bt) h.nt).trans h.bt, (hk.2 Bd (blk_lt h.bd) (hne h.bd (by decide))).trans h.bd, (hk.2 Bs (blk_lt h.bs) (hne h.bs (by decide))).trans h.bs, hk.row h.row h.bm (by decide), h.nk, h.nt⟩
theorem impl_ChanceOfChain_1.At.below_ {w : World} {Bk Bm Bt Bd Bs kn : Nat} {As : Option Addr} {cs : Nat} {set : List S53} {m : Int} {W W' : World} (h : impl_ChanceOfChain_1.At w Bk Bm Bt Bd Bs kn As cs set m W) (hb : Below W.heap.size W W') : impl_ChanceOfChain_1.At w Bk Bm Bt Bd Bs kn As cs set m W' :=
  h.step (h.below.trans (hb.mono h.below.size)) (KeepM.below hb) (blk_below h.bm hb)
/-- What a drawing does. -/
def impl_ChanceOfChain_1.Says (w : World) (Bk Bm Bt Bd Bs kn : Nat) (As : Option Addr) (cs : Nat) (set : List S53) (d : Nat) : Prop :=
  ∀ (hand : List S53) (from_ : Nat) (Ah : Option Addr) (ch : Nat) (m : Int) (W : World), impl_ChanceOfChain_1.At w Bk Bm Bt Bd Bs kn As cs set m W → wrap64 m = m → hand.length + d = kn → hand.all tok = true →
    (∀ W', KeepM Bm W W' → Below w.heap.size w W' → Kd.C k53 W' Ah hand.length hand) → hand.length ≤ ch →
    Calls Try.prog 33 #[.slice Ah hand.length ch, .int .i64 (from_ : Int), .pointer (some ⟨Bk, 0, none⟩), .pointer (some ⟨Bm, 0, none⟩), .pointer (some ⟨Bt, 0, none⟩), .pointer (some ⟨Bd, 0, none⟩), .pointer (some ⟨Bs, 0, none⟩)] W fun e W' => e = .returned (.tuple #[]) ∧
      impl_ChanceOfChain_1.At w Bk Bm Bt Bd Bs kn As cs set (wrap64 (m + drawN set d hand from_)) W' ∧ KeepM Bm W W'
set_option maxHeartbeats 8000000 in
set_option maxRecDepth 1000000 in
theorem impl_ChanceOfChain_1.leaf (w : World) (Bk Bm Bt Bd Bs kn : Nat) (As : Option Addr) (cs : Nat) (set : List S53) (hkn : kn ≤ 1000) : impl_ChanceOfChain_1.Says w Bk Bm Bt Bd Bs kn As cs set 0 := by
  intro hand from_ Ah ch m W hA hm hlen htok hL hch
  have hcan := ccan_f hand (by omega) htok
  have hek : ((hand.length : Int) == (kn : Int)) = true := by rw [beq_iff_eq]; omega
  have hekd : decide ((hand.length : Int) = (kn : Int)) = true := decide_eq_true (by omega)
  have hck : W.cell? ⟨Bk, 0, none⟩ = some (.int .i64 (kn : Int)) := (blk_cell hA.bk 0).trans rfl
  have HA := Lib.hid hA
  have HL := Lib.hid hL
  have HCH := Lib.hid hch
  have HCAN := Aside0.mk hcan
  have HM := Lib.hid hm
  clear hA hL hch hcan hm htok
  go_enter Try.func33, Try.ntmps33
  go_wp2_with (fail)
  obtain ⟨bv, hbv⟩ : ∃ bv : Int, bv = drawN set 0 hand from_ := ⟨_, rfl⟩
  have hbit : impl_bit.f (ccan hand) = some bv := by rw [hbv]; unfold drawN; cases ccan hand <;> rfl
  have HBV := Lib.hid hbv
  clear hbv
  have HBIT := Aside0.mk hbit
  clear hbit
  refine start_ (n := 6) (S := fun w' => w'.cell? ⟨Bm, 0, none⟩ = some (.int .i64 m)) (ds := [5]) #[false, false, false, false, false, false] (by kernel_rfl) rfl rfl ((blk_cell (HA.out.below_ (below_drew1 (Below.refl _ _))).bm 0).trans rfl) (fun hHeld => ?_)
  have HQ := Lib.hid (show impl_ChanceOfChain_1.At w Bk Bm Bt Bd Bs kn As cs set m W.drew ∧ KeepM Bm W W.drew from ⟨HA.out.below_ (below_drew1 (Below.refl _ _)), KeepM.below (below_drew1 (Below.refl _ _))⟩)
  generalize W.drew = wq at HQ hHeld ⊢
  refine take_ (i := 0) (N := (some 14)) (v := ?_) (a' := ?_) #[true, false, false, false, false, false] rfl rfl (by kernel_rfl) (fun _ _ _ h => h) (Or.inl ⟨by rfl, ?_⟩) hHeld ?_ ?_
  rotate_left
  · intro w' s0
    go_simp
    with_reducible rfl
  rotate_left
  · simp only [Act.put, List.setIfInBounds_toArray, List.set_cons_zero, List.set_cons_succ, i64_w, i32_w]
    rfl
  refine pure_ (i := 1) (N := (some 15)) (v := ?_) (a' := ?_) #[true, true, false, false, false, false] rfl rfl (by kernel_rfl) (fun _ _ _ h => h) (Or.inl ⟨by rfl, ?_⟩) ?_ ?_
  rotate_left
  · intro w'
    go_simp
    with_reducible rfl
  rotate_left
  · simp only [Act.put, List.setIfInBounds_toArray, List.set_cons_zero, List.set_cons_succ, i64_w, i32_w]
    rfl
  refine one_ (i := 2) (N := some 16) #[true, true, true, false, false, false] rfl rfl (by kernel_rfl) (by decide) (fun K hK => ?_)
  refine goes_ Try.func35 (by kernel_rfl) rfl #[.slice Ah hand.length ch] (by rfl) rfl rfl (by (try simp only [List.map_toArray, List.map_cons, List.map_nil]); first | done | rfl) ?_
  with_reducible refine (impl_canChain.calls Ah ch hand (ccan hand) _ (HL.out _ HQ.out.2 HQ.out.1.below) HCH.out HCAN.out).mono ?_
  rintro e w4 ⟨rfl, hb⟩
  refine ⟨_, rfl, ?_⟩
  have HQ2 := Lib.hid (show impl_ChanceOfChain_1.At w Bk Bm Bt Bd Bs kn As cs set m w4 ∧ KeepM Bm W w4 from ⟨HQ.out.1.below_ hb, HQ.out.2.trans (KeepM.below hb)⟩)
  clear hb
  refine hK.out _ _ ((blk_cell HQ2.out.1.bm 0).trans rfl) (fun hHeld => ?_)
  clear hK K
  refine norm_ (a' := ?_) ?_ ?_
  rotate_left
  · show Act.put _ (some 16) _ = _
    simp only [Act.put, List.setIfInBounds_toArray, List.set_cons_zero, List.set_cons_succ, i64_w, i32_w]
    rfl
  refine one_ (i := 3) (N := some 17) #[true, true, true, true, false, false] rfl rfl (by kernel_rfl) (by decide) (fun K hK => ?_)
  refine goes_ Try.func34 (by kernel_rfl) rfl #[.bool (ccan hand)] (by rfl) rfl rfl (by (try simp only [List.map_toArray, List.map_cons, List.map_nil]); first | done | rfl) ?_
  with_reducible refine (impl_bit.calls (ccan hand) _ _ HBIT.out).mono ?_
  rintro e w5 ⟨rfl, nd, hw5⟩
  refine ⟨_, rfl, ?_⟩
  have hb5 : Below w4.heap.size w4 w5 := by rw [hw5]; exact pw_below_drewN (Below.refl _ _) _
  have HQ3 := Lib.hid (show impl_ChanceOfChain_1.At w Bk Bm Bt Bd Bs kn As cs set m w5 ∧ KeepM Bm W w5 from ⟨HQ2.out.1.below_ hb5, HQ2.out.2.trans (KeepM.below hb5)⟩)
  clear hb5 hw5
  refine hK.out _ _ ((blk_cell HQ3.out.1.bm 0).trans rfl) (fun hHeld => ?_)
  clear hK K
  refine norm_ (a' := ?_) ?_ ?_
  rotate_left
  · show Act.put _ (some 17) _ = _
    simp only [Act.put, List.setIfInBounds_toArray, List.set_cons_zero, List.set_cons_succ, i64_w, i32_w]
    rfl
  refine pure_ (i := 4) (N := (some 18)) (v := ?_) (a' := ?_) #[true, true, true, true, true, false] rfl rfl (by kernel_rfl) (fun _ _ _ h => h) (Or.inl ⟨by rfl, ?_⟩) ?_ ?_
  rotate_left
  · intro w'
    go_simp
    with_reducible rfl
  rotate_left
  · simp only [Act.put, List.setIfInBounds_toArray, List.set_cons_zero, List.set_cons_succ, i64_w, i32_w]
    rfl
  refine last_ (i := 5) (N := none) #[true, true, true, true, true, true] rfl rfl (by kernel_rfl) (by decide) (fun K hK => ?_)
  have hf5 : w5.frozen? ⟨Bm, 0, none⟩ = false := blk_frozen HQ3.out.1.bm 0
  refine skip_ (w1 := ?_) (by rfl) rfl ?_ ?_
  rotate_left
  · go_simp
    rfl
  refine hK.out _ _ ?_
  clear hK K
  refine done_ (by kernel_rfl) ?_
  go_wp2_with (fail)
  first | go_end0 | skip
  exact bodyPost_ret (v := .tuple #[]) (by simp [results, Try.results33, go_sem]) rfl ⟨rfl, HQ3.out.1.step (HQ3.out.1.below.setCell HQ3.out.1.young _) (KeepM.set _ _ _) (blk_put HQ3.out.1.bm 0 _ (by rw [← HBV.out]; rfl)), HQ3.out.2.trans (KeepM.set _ _ _)⟩
theorem impl_ChanceOfChain_1.one_tile (W : World) (base : Nat) (ok : Nat → Prop) (t : S53) : Reps (k53.M W base ok) k53.sz [t] [.int .i64 t.f0, .int .i64 t.f1] := by
  refine ⟨rfl, fun j p hj => ?_⟩
  cases j with
  | zero =>
    simp only [List.getElem?_cons_zero, Option.some.injEq] at hj
    subst hj
    exact k53_mkM _ _ _ t
  | succ j => simp at hj
set_option maxHeartbeats 8000000 in
set_option maxRecDepth 1000000 in
theorem impl_ChanceOfChain_1.node (w : World) (Bk Bm Bt Bd Bs kn : Nat) (As : Option Addr) (cs : Nat) (set : List S53) (hkn : kn ≤ 1000) (hset : set.length ≤ 1000) (hst : set.all tok = true) (d : Nat) (hrec : impl_ChanceOfChain_1.Says w Bk Bm Bt Bd Bs kn As cs set d) : impl_ChanceOfChain_1.Says w Bk Bm Bt Bd Bs kn As cs set (d + 1) := by
  intro hand from_ Ah ch m W hA hm hlen htok hL hch
  have hek : ((hand.length : Int) == (kn : Int)) = false := by rw [beq_eq_false_iff_ne]; omega
  have hekd : decide ((hand.length : Int) = (kn : Int)) = false := decide_eq_false (by omega)
  have hck : W.cell? ⟨Bk, 0, none⟩ = some (.int .i64 (kn : Int)) := (blk_cell hA.bk 0).trans rfl
  have HE0 := Lib.hid (show wrap64 (m + sumFrom (fun j => drawN set d (hand ++ [set.getD j z53]) (j + 1)) (set.length - from_) from_) = wrap64 (m + drawN set (d + 1) hand from_) from rfl)
  have HA := Lib.hid hA
  have HL := Lib.hid hL
  have HCH := Lib.hid hch
  have HM := Lib.hid hm
  have HREC := Lib.hid hrec
  have HST := Lib.hid hst
  have HTOK := Lib.hid htok
  generalize drawN set (d + 1) hand from_ = total at HE0 ⊢
  clear hA hL hch hm htok hrec hst
  go_enter Try.func33, Try.ntmps33
  go_wp2_with (fail)
  go_loopg [9] (set.length - from_) (fun gg s9 wr => ∃ (i : Nat) (m' : Int), s9 = .int .i64 i ∧ set.length - i ≤ gg ∧ Hid (wrap64 m' = m') ∧ Hid (wrap64 (m' + sumFrom (fun j => drawN set d (hand ++ [set.getD j z53]) (j + 1)) (set.length - i) i) = wrap64 (m + total)) ∧ Hid (impl_ChanceOfChain_1.At w Bk Bm Bt Bd Bs kn As cs set m' wr ∧ KeepM Bm W wr))
  case atStart => exact ⟨from_, m, rfl, Nat.le_refl _, HM, HE0, Lib.hid ⟨HA.out, KeepM.refl _ _⟩⟩
  case round =>
    clear HE0 HA HM
    obtain ⟨i, m', rfl, hgg, HM, HE, HA⟩ := hrel
    have hct : wr.cell? ⟨Bt, 0, none⟩ = some (.int .i64 (set.length : Int)) := (blk_cell HA.out.1.bt 0).trans rfl
    by_cases hlt : i < set.length
    · have hltz : decide ((i : Int) < (set.length : Int)) = true := decide_eq_true (by omega)
      obtain ⟨t, ht⟩ : ∃ t, t = rd_T53 set (i : Int) := ⟨_, rfl⟩
      have hSA : ∀ (m2 : Int) (w' : World), impl_ChanceOfChain_1.At w Bk Bm Bt Bd Bs kn As cs set m2 w' → ∃ ad, As = some ad ∧ w'.cell? (ad.add (i * 2)) = some (.int .i64 t.f0) ∧ w'.cell? ⟨(ad.add (i * 2)).block, (ad.add (i * 2)).off + 1, none⟩ = some (.int .i64 t.f1) := by
        intro m2 w' hA
        obtain ⟨ad, e, h0, h1⟩ := at_T53 (Kd.R_reads' hA.row).2.2 (i : Int) (by omega) (by omega)
        rw [show ((i : Int)).toNat = i from rfl, ← ht] at h0 h1
        exact ⟨ad, e, h0, h1⟩
      obtain ⟨ad, e, _⟩ := hSA m' wr HA.out.1
      subst e
      have HSQ := Lib.hid (show ∀ (m2 : Int) (w' : World), impl_ChanceOfChain_1.At w Bk Bm Bt Bd Bs kn (some ad) cs set m2 w' → (w'.cell? ⟨Bd, 0, none⟩ = some (.func (.func 33) #[] #[.pointer (some ⟨Bk, 0, none⟩), .pointer (some ⟨Bm, 0, none⟩), .pointer (some ⟨Bt, 0, none⟩), .pointer (some ⟨Bd, 0, none⟩), .pointer (some ⟨Bs, 0, none⟩)]) ∧ w'.cell? ⟨Bs, 0, none⟩ = some (.slice (some ad) set.length cs) ∧ w'.cell? (ad.add (i * 2)) = some (.int .i64 t.f0) ∧ w'.cell? ⟨(ad.add (i * 2)).block, (ad.add (i * 2)).off + 1, none⟩ = some (.int .i64 t.f1)) from fun m2 w' hA => by
        obtain ⟨ad2, e2, h0, h1⟩ := hSA m2 w' hA
        injection e2 with e2
        subst e2
        exact ⟨(blk_cell hA.bd 0).trans rfl, (blk_cell hA.bs 0).trans rfl, h0, h1⟩)
      have htt : tok t = true := by
        have hget : set[i]? = some t := by
          rw [ht]
          unfold rd_T53
          rw [show ((i : Int)).toNat = i from rfl, List.getD_eq_getElem?_getD, List.getElem?_eq_getElem hlt]
          rfl
        exact List.all_eq_true.1 HST.out _ (List.mem_of_getElem? hget)
      have HTT := Lib.hid htt
      have HT := Lib.hid ht
      clear hSA htt ht
      have hclf : slices_Clone_impl_Tile_impl_Tile.f hand = some hand := by
        unfold slices_Clone_impl_Tile_impl_Tile.f
        rw [if_pos (by omega)]
      have HCLF := Aside0.mk hclf
      clear hclf
      have hw64 : wrap64 ((i : Int) + 1) = ((i + 1 : Nat) : Int) := by
        rw [h_wrap _ (by omega) (by omega)]
        omega
      have HW := Lib.hid hw64
      clear hw64
      go_wp2_with (fail)
      have p0 : (0 ≤ (i : Int)) = True := eq_true (by omega)
      have q0 : ((i : Int) < (set.length : Int)) = True := eq_true (by omega)
      have huel := Try.underlying53
      refine start_ (n := 12) (S := fun w' => w'.cell? ⟨Bd, 0, none⟩ = some (.func (.func 33) #[] #[.pointer (some ⟨Bk, 0, none⟩), .pointer (some ⟨Bm, 0, none⟩), .pointer (some ⟨Bt, 0, none⟩), .pointer (some ⟨Bd, 0, none⟩), .pointer (some ⟨Bs, 0, none⟩)]) ∧ w'.cell? ⟨Bs, 0, none⟩ = some (.slice (some ad) set.length cs) ∧ w'.cell? (ad.add (i * 2)) = some (.int .i64 t.f0) ∧ w'.cell? ⟨(ad.add (i * 2)).block, (ad.add (i * 2)).off + 1, none⟩ = some (.int .i64 t.f1)) (ds := []) #[false, false, false, false, false, false, false, false, false, false, false, false] (by kernel_rfl) rfl rfl (HSQ.out m' _ (HA.out.1.below_ (below_drew1 (Below.refl _ _)))) (fun hHeld => ?_)
      have HQ0 := Lib.hid (show impl_ChanceOfChain_1.At w Bk Bm Bt Bd Bs kn (some ad) cs set m' wr.drew ∧ KeepM Bm W wr.drew from ⟨HA.out.1.below_ (below_drew1 (Below.refl _ _)), HA.out.2.trans (KeepM.below (below_drew1 (Below.refl _ _)))⟩)
      generalize wr.drew = wq at HQ0 hHeld ⊢
      have HQ := Lib.hid (Below.refl wq.heap.size wq)
      refine take_ (i := 0) (N := (some 25)) (v := ?_) (a' := ?_) #[true, false, false, false, false, false, false, false, false, false, false, false] rfl rfl (by kernel_rfl) (fun _ _ _ h => h) (Or.inl ⟨by rfl, ?_⟩) hHeld ?_ ?_
      rotate_left
      · intro w' ⟨s0, s1, s2, s3⟩
        go_simp
        with_reducible rfl
      rotate_left
      · simp only [Act.put, List.setIfInBounds_toArray, List.set_cons_zero, List.set_cons_succ, i64_w, i32_w]
        rfl
      refine pure_ (i := 1) (N := (some 26)) (v := ?_) (a' := ?_) #[true, true, false, false, false, false, false, false, false, false, false, false] rfl rfl (by kernel_rfl) (fun _ _ _ h => h) (Or.inl ⟨by rfl, ?_⟩) ?_ ?_
      rotate_left
      · intro w'
        go_simp
        with_reducible rfl
      rotate_left
      · simp only [Act.put, List.setIfInBounds_toArray, List.set_cons_zero, List.set_cons_succ, i64_w, i32_w]
        rfl
      refine take_ (i := 3) (N := (some 28)) (v := ?_) (a' := ?_) #[true, true, false, true, false, false, false, false, false, false, false, false] rfl rfl (by kernel_rfl) (fun _ _ _ h => h) (Or.inl ⟨by rfl, ?_⟩) hHeld ?_ ?_
      rotate_left
      · intro w' ⟨s0, s1, s2, s3⟩
        go_simp
        with_reducible rfl
      rotate_left
      · simp only [Act.put, List.setIfInBounds_toArray, List.set_cons_zero, List.set_cons_succ, i64_w, i32_w]
        rfl
      refine pure_ (i := 4) (N := (some 29)) (v := ?_) (a' := ?_) #[true, true, false, true, true, false, false, false, false, false, false, false] rfl rfl (by kernel_rfl) (fun _ _ _ h => h) (Or.inl ⟨by rfl, ?_⟩) ?_ ?_
      rotate_left
      · intro w'
        go_simp
        with_reducible rfl
      rotate_left
      · simp only [Act.put, List.setIfInBounds_toArray, List.set_cons_zero, List.set_cons_succ, i64_w, i32_w]
        rfl
      refine pure_ (i := 5) (N := (some 30)) (v := ?_) (a' := ?_) #[true, true, false, true, true, true, false, false, false, false, false, false] rfl rfl (by kernel_rfl) (fun _ _ _ h => h) (Or.inl ⟨by rfl, ?_⟩) ?_ ?_
      rotate_left
      · intro w'
        go_simp
        with_reducible rfl
      rotate_left
      · simp only [Act.put, List.setIfInBounds_toArray, List.set_cons_zero, List.set_cons_succ, i64_w, i32_w]
        rfl
      refine take_ (i := 6) (N := (some 31)) (v := ?_) (a' := ?_) #[true, true, false, true, true, true, true, false, false, false, false, false] rfl rfl (by kernel_rfl) (fun _ _ _ h => h) (Or.inl ⟨by rfl, ?_⟩) hHeld ?_ ?_
      rotate_left
      · intro w' ⟨s0, s1, s2, s3⟩
        go_simp
        with_reducible rfl
      rotate_left
      · simp only [Act.put, List.setIfInBounds_toArray, List.set_cons_zero, List.set_cons_succ, i64_w, i32_w]
        rfl
      refine pure_ (i := 9) (N := (some 34)) (v := ?_) (a' := ?_) #[true, true, false, true, true, true, true, false, false, true, false, false] rfl rfl (by kernel_rfl) (fun _ _ _ h => h) (Or.inl ⟨by rfl, ?_⟩) ?_ ?_
      rotate_left
      · intro w'
        go_simp
        with_reducible rfl
      rotate_left
      · simp only [Act.put, List.setIfInBounds_toArray, List.set_cons_zero, List.set_cons_succ, i64_w, i32_w]
        rfl
      refine pure_ (i := 10) (N := (some 35)) (v := ?_) (a' := ?_) #[true, true, false, true, true, true, true, false, false, true, true, false] rfl rfl (by kernel_rfl) (fun _ _ _ h => h) (Or.inl ⟨by rfl, ?_⟩) ?_ ?_
      rotate_left
      · intro w'
        go_simp
        with_reducible rfl
      rotate_left
      · simp only [Act.put, List.setIfInBounds_toArray, List.set_cons_zero, List.set_cons_succ, i64_w, i32_w]
        rfl
      refine join_ (σ := Value × Value) 2 #[true, true, true, true, true, true, true, true, false, true, true, false] (fun s_ => [(27, s_.1), (32, s_.2)]) (fun s_ w' => Below wq.heap.size wq w' ∧ Kd.R k53 53 w' wq.heap.size (fun _ => True) s_.1 hand ∧ Kd.R k53 53 w' wq.heap.size (fun _ => True) s_.2 [t]) ?_ ?_
      rotate_left
      · intro hCont
        refine two_ (i := 2) (j := 7) (Ni := some 27) (Nj := some 32) #[true, true, true, true, true, true, true, false, false, true, true, false] #[true, true, false, true, true, true, true, true, false, true, true, false] rfl rfl rfl rfl (by kernel_rfl) (by decide) (by decide) (fun K hK => ?_) (fun K hK => ?_)
        · refine goes_ Try.func36 (by kernel_rfl) rfl #[.slice Ah hand.length ch] (by rfl) rfl rfl (by (try simp only [List.map_toArray, List.map_cons, List.map_nil]); first | done | rfl) ?_
          with_reducible refine (slices_Clone_impl_Tile_impl_Tile.calls Ah ch hand hand _ (HL.out _ HQ0.out.2 HQ0.out.1.below) HCH.out HCLF.out).mono ?_
          rintro e w4 ⟨v27, rfl, ho, hb⟩
          refine ⟨_, rfl, ?_⟩
          have H27 := Lib.hid ho
          have HQ4 := Lib.hid hb
          clear ho hb
          refine hK.out _ _ (HSQ.out m' _ (HQ0.out.1.below_ HQ4.out)) (fun hHeld => ?_)
          clear hK K
          refine norm_ (a' := ?_) ?_ ?_
          rotate_left
          · show Act.put _ (some 27) _ = _
            simp only [Act.put, List.setIfInBounds_toArray, List.set_cons_zero, List.set_cons_succ, i64_w, i32_w]
            rfl
          refine one_ (i := 7) (N := some 32) #[true, true, true, true, true, true, true, true, false, true, true, false] rfl rfl (by kernel_rfl) (by decide) (fun K hK => ?_)
          refine Kd.R_lit_step k53 wq.heap.size 53 ?hg (N := 32) ?hd (xs := [t]) (inner := [.int .i64 t.f0, .int .i64 t.f1]) (ok := fun _ => True) (okp := fun _ => True) ?hr ?hp (fun _ hk => hk) trivial HQ4.out HQ4.out.size (by simp) ?_; (case hd => rfl); (case hg => rfl); (case hr => first | (go_simp; done) | (go_simp; rfl)); (case hp => exact impl_ChanceOfChain_1.one_tile _ _ _ t)
          intro v32 w5 ho hb hg hnew
          have H27 := Lib.hid (Kd.R_grown H27.out hg (fun _ _ => by simp))
          have H32 := Lib.hid ho
          have HQ5 := Lib.hid hb
          clear ho hb hg hnew
          refine hK.out _ _ (HSQ.out m' _ (HQ0.out.1.below_ HQ5.out)) (fun hHeld => ?_)
          clear hK K
          refine norm_ (a' := ?_) ?_ ?_
          rotate_left
          · show Act.put _ (some 32) _ = _
            simp only [Act.put, List.setIfInBounds_toArray, List.set_cons_zero, List.set_cons_succ, i64_w, i32_w]
            rfl
          exact norm_ (by simp only [putAll, Act.put, List.setIfInBounds_toArray, List.set_cons_zero, List.set_cons_succ]) (hCont (v27, v32) _ ⟨HQ5.out, H27.out, H32.out⟩)
        · skip
          refine Kd.R_lit_step k53 wq.heap.size 53 ?hg (N := 32) ?hd (xs := [t]) (inner := [.int .i64 t.f0, .int .i64 t.f1]) (ok := fun _ => True) (okp := fun _ => True) ?hr ?hp (fun _ hk => hk) trivial HQ.out HQ.out.size (by simp) ?_; (case hd => rfl); (case hg => rfl); (case hr => first | (go_simp; done) | (go_simp; rfl)); (case hp => exact impl_ChanceOfChain_1.one_tile _ _ _ t)
          intro v32 w5 ho hb hg hnew
          have H32 := Lib.hid ho
          have HQ5 := Lib.hid hb
          clear ho hb hg hnew
          refine hK.out _ _ (HSQ.out m' _ (HQ0.out.1.below_ HQ5.out)) (fun hHeld => ?_)
          clear hK K
          refine norm_ (a' := ?_) ?_ ?_
          rotate_left
          · show Act.put _ (some 32) _ = _
            simp only [Act.put, List.setIfInBounds_toArray, List.set_cons_zero, List.set_cons_succ, i64_w, i32_w]
            rfl
          refine one_ (i := 2) (N := some 27) #[true, true, true, true, true, true, true, true, false, true, true, false] rfl rfl (by kernel_rfl) (by decide) (fun K hK => ?_)
          refine goes_ Try.func36 (by kernel_rfl) rfl #[.slice Ah hand.length ch] (by rfl) rfl rfl (by (try simp only [List.map_toArray, List.map_cons, List.map_nil]); first | done | rfl) ?_
          with_reducible refine (slices_Clone_impl_Tile_impl_Tile.calls Ah ch hand hand _ (HL.out _ (HQ0.out.2.trans (KeepM.below HQ5.out)) (HQ0.out.1.below_ HQ5.out).below) HCH.out HCLF.out).mono ?_
          rintro e w4 ⟨v27, rfl, ho, hb⟩
          refine ⟨_, rfl, ?_⟩
          have H27 := Lib.hid (Kd.R_lower ho HQ5.out.size)
          have H32 := Lib.hid (Kd.R_below H32.out hb)
          have HQ4 := Lib.hid (below_step HQ5.out hb)
          clear ho hb
          refine hK.out _ _ (HSQ.out m' _ (HQ0.out.1.below_ HQ4.out)) (fun hHeld => ?_)
          clear hK K
          refine norm_ (a' := ?_) ?_ ?_
          rotate_left
          · show Act.put _ (some 27) _ = _
            simp only [Act.put, List.setIfInBounds_toArray, List.set_cons_zero, List.set_cons_succ, i64_w, i32_w]
            rfl
          exact norm_ (by simp only [putAll, Act.put, List.setIfInBounds_toArray, List.set_cons_zero, List.set_cons_succ]) (hCont (v27, v32) _ ⟨HQ4.out, H27.out, H32.out⟩)
      clear HQ hHeld
      rintro ⟨v27, v32⟩ w6 ⟨hq, h27, h32⟩
      refine norm_ (a' := ?_) ?_ ?_
      rotate_left
      · simp only [putAll, Act.put, List.setIfInBounds_toArray, List.set_cons_zero, List.set_cons_succ]
        rfl
      obtain ⟨A32, c32, rfl⟩ := Kd.R_slice h32
      have HQ := Lib.hid hq
      have H27 := Lib.hid h27
      have H32 := Lib.hid h32
      clear hq h27 h32
      refine one_ (i := 8) (N := some 33) #[true, true, true, true, true, true, true, true, true, true, true, false] rfl rfl (by kernel_rfl) (by decide) (fun K hK => ?_)
      refine Kd.R_append_rows_step k53 (w0 := wq) wq.heap.size (by rfl) (.tmp 27) (.tmp 32) 46 53 (.agg #[(.int .i64 0), (.int .i64 0)]) 16 rfl Try.underlying46 slices_Clone_impl_Tile_impl_Tile.info rfl (by decide) (by omega) v27 hand [t] A32 1 c32 (fun _ => True) (fun _ => False) rfl rfl ?aO ?aR (fun _ _ h => h) (fun _ h => h.elim) ?aF ?aB ?aS ?aL ?_
      (case aO => exact H27.out)
      (case aR => exact (Kd.R_reads' H32.out).2.2)
      (case aF => exact (fun _ _ => trivial))
      (case aB => exact HQ.out)
      (case aS => exact HQ.out.size)
      (case aL => first | omega | (simp only [List.length_singleton]; omega))
      intro v33 w7 ho hb hg hat
      have H33 := Lib.hid ho
      have HQ := Lib.hid hb
      clear ho hb hg hat H27 H32
      refine hK.out _ _ (HSQ.out m' _ (HQ0.out.1.below_ HQ.out)) (fun hHeld => ?_)
      clear hK K
      refine norm_ (a' := ?_) ?_ ?_
      rotate_left
      · show Act.put _ (some 33) _ = _
        simp only [Act.put, List.setIfInBounds_toArray, List.set_cons_zero, List.set_cons_succ, i64_w, i32_w]
        rfl
      refine one_ (i := 11) (N := some 36) #[true, true, true, true, true, true, true, true, true, true, true, true] rfl rfl (by kernel_rfl) (by decide) (fun K hK => ?_)
      obtain ⟨A33, c33, rfl⟩ := Kd.R_slice H33.out
      have hA7 := HQ0.out.1.below_ HQ.out
      have hrc := HREC.out (hand ++ [t]) (i + 1) A33 c33 m' w7 hA7 HM.out (by simp; omega) (by rw [List.all_append, HTOK.out]; simp [HTT.out]) (fun W' hk hb => (Kd.R_reads' (hk.row H33.out hA7.bm (by decide))).2.2) (Kd.R_reads' H33.out).2.1
      rw [← HW.out] at hrc
      have HRC := Lib.hid hrc
      have HK7 := Lib.hid (HQ0.out.2.trans (KeepM.below HQ.out))
      clear hrc hA7
      refine call_ 33 #[.slice A33 (hand ++ [t]).length c33, .int .i64 (wrap64 ((i : Int) + 1)), .pointer (some ⟨Bk, 0, none⟩), .pointer (some ⟨Bm, 0, none⟩), .pointer (some ⟨Bt, 0, none⟩), .pointer (some ⟨Bd, 0, none⟩), .pointer (some ⟨Bs, 0, none⟩)] (by rfl) rfl ?_ ?_
      · have he := enters_of' Try.func33 (by kernel_rfl) rfl
        simp [execOp, resolve, Deferred.ofValue, invoke, Act.eval, he]
      refine HRC.out.mono ?_
      rintro e w10 ⟨rfl, hA', hK'⟩
      refine ⟨_, rfl, ?_⟩
      have HLR := Lib.hid (show impl_ChanceOfChain_1.At w Bk Bm Bt Bd Bs kn (some ad) cs set (wrap64 (m' + drawN set d (hand ++ [t]) (i + 1))) w10 ∧ KeepM Bm W w10 from ⟨hA', HK7.out.trans hK'⟩)
      clear hA' hK' HQ HQ0 H33 HRC HK7
      refine hK.out _ _ (HSQ.out _ _ HLR.out.1) (fun hHeld => ?_)
      clear hK K
      refine norm_ (a' := ?_) ?_ ?_
      rotate_left
      · show Act.put _ (some 36) _ = _
        simp only [Act.put, List.setIfInBounds_toArray, List.set_cons_zero, List.set_cons_succ, i64_w, i32_w]
        rfl
      refine done_ (by kernel_rfl) ?_
      go_wp2_with (fail)
      go_roundg (set.length - (i + 1))
      case measure => omega
      case rel =>
        refine ⟨i + 1, _, by first | go_num | rw [← HW.out], Nat.le_refl _, Lib.hid (h_wrap3 _), Lib.hid ?_, HLR⟩
        have he := HE.out
        rw [show set.length - i = (set.length - (i + 1)) + 1 from by omega] at he
        simp only [sumFrom] at he
        rw [h_wrap2, ← he, HT.out]
        congr 1
        show m' + _ + _ = m' + (_ + _)
        rw [Int.add_assoc]
        rfl
    · have hltz : decide ((i : Int) < (set.length : Int)) = false := decide_eq_false (by omega)
      go_wp2_with (fail)
      have he := HE.out
      rw [show set.length - i = 0 from by omega] at he
      simp only [sumFrom, Int.add_zero] at he
      rw [HM.out] at he
      go_end0
      exact ⟨rfl, by rw [← he]; exact HA.out.1, HA.out.2⟩
theorem impl_ChanceOfChain_1.says (w : World) (Bk Bm Bt Bd Bs kn : Nat) (As : Option Addr) (cs : Nat) (set : List S53) (hkn : kn ≤ 1000) (hset : set.length ≤ 1000) (hst : set.all tok = true) : ∀ d, impl_ChanceOfChain_1.Says w Bk Bm Bt Bd Bs kn As cs set d
  | 0 => impl_ChanceOfChain_1.leaf w Bk Bm Bt Bd Bs kn As cs set hkn
  | d + 1 => impl_ChanceOfChain_1.node w Bk Bm Bt Bd Bs kn As cs set hkn hset hst d (impl_ChanceOfChain_1.says w Bk Bm Bt Bd Bs kn As cs set hkn hset hst d)
/-- What lies in memory once the variables n, k and the answer are there. -/
structure impl_ChanceOfChain.P1 (w : World) (Bk Br Bt : Nat) (a1 n : Int) (W : World) : Prop where
  below : Below w.heap.size w W
  bk : W.heap[Bk]? = some (.cells #[.int .i64 a1] 3 (0, 0))
  br : W.heap[Br]? = some (.cells #[.int .i64 0, .int .i64 0] 27 (0, 0))
  bt : W.heap[Bt]? = some (.cells #[.int .i64 n] 3 (0, 0))
  nk : Bk ≠ Bt
  nr : Br ≠ Bt
  young : w.heap.size ≤ Br
theorem impl_ChanceOfChain.P1.step {w : World} {Bk Br Bt : Nat} {a1 n : Int} {W W' : World} (h : impl_ChanceOfChain.P1 w Bk Br Bt a1 n W) (hb : Below W.heap.size W W') : impl_ChanceOfChain.P1 w Bk Br Bt a1 n W' :=
  ⟨h.below.trans (hb.mono h.below.size), blk_below h.bk hb, blk_below h.br hb, blk_below h.bt hb, h.nk, h.nr, h.young⟩
theorem impl_ChanceOfChain.P1.init {w w1 w2 w3 w4 : World} {Bk Br Bt : Nat} {a1 n : Int} (hbk : w1.heap[Bk]? = some (.cells #[.int .i64 a1] 3 (0, 0))) (hb1 : Below w.heap.size w w1)
    (hbr : w2.heap[Br]? = some (.cells #[.int .i64 0, .int .i64 0] 27 (0, 0))) (hgr : Br = w1.heap.size) (hb2 : Below w1.heap.size w1 w2) (hb3 : Below w2.heap.size w2 w3)
    (hbt : w4.heap[Bt]? = some (.cells #[.int .i64 0] 3 (0, 0))) (hgt : Bt = w3.heap.size) (hb4 : Below w3.heap.size w3 w4) : impl_ChanceOfChain.P1 w Bk Br Bt a1 n (w4.setCell ⟨Bt, 0, none⟩ (.int .i64 n)) := by
  have k3 := blk_below (blk_below hbk hb2) hb3
  have r3 := blk_below hbr hb3
  have hk3 := blk_lt k3
  have hr3 := blk_lt r3
  have nk : Bk ≠ Bt := by omega
  have nr : Br ≠ Bt := by omega
  have s1 := hb1.size
  have s2 := hb2.size
  have s3 := hb3.size
  refine ⟨Below.setCell ((hb1.trans (hb2.mono s1)).trans ((hb3.mono (Nat.le_trans s1 s2)).trans (hb4.mono (Nat.le_trans s1 (Nat.le_trans s2 s3))))) (by show w.heap.size ≤ Bt; omega) _, (blk_far (p := ⟨Bt, 0, none⟩) (blk_below k3 hb4) nk _), (blk_far (p := ⟨Bt, 0, none⟩) (blk_below r3 hb4) nr _), blk_put hbt 0 _ rfl, nk, nr, by omega⟩
theorem blk_types {W : World} {X Y : Nat} {c c' : Array Value} {t t' : TypeId} (hX : W.heap[X]? = some (.cells c t (0, 0))) (hY : W.heap[Y]? = some (.cells c' t' (0, 0))) (h : t ≠ t') : X ≠ Y := by
  rintro rfl
  rw [hX] at hY
  injection hY with hY
  injection hY with _ e
  exact h e
theorem impl_ChanceOfChain.at0 {w w7 w9 w10 : World} {Bk Br Bt Bm Bs Bd kn : Nat} {As : Option Addr} {cs : Nat} {set : List S53} (hp7 : impl_ChanceOfChain.P1 w Bk Br Bt (kn : Int) (set.length : Int) w7) (hgm : Bm = w7.heap.size) (hp9 : impl_ChanceOfChain.P1 w Bk Br Bt (kn : Int) (set.length : Int) w9)
    (hbm : w9.heap[Bm]? = some (.cells #[.int .i64 0] 3 (0, 0))) (hbs : w9.heap[Bs]? = some (.cells #[.slice none 0 0] 46 (0, 0))) (hyo : w.heap.size ≤ Bs) (hs : Kd.R k53 53 w9 w.heap.size (fun _ => True) (.slice As set.length cs) set)
    (hb10 : Below ((w9.setCell ⟨Bm, 0, none⟩ (.int .i64 0)).setCell ⟨Bs, 0, none⟩ (.slice As set.length cs)).heap.size ((w9.setCell ⟨Bm, 0, none⟩ (.int .i64 0)).setCell ⟨Bs, 0, none⟩ (.slice As set.length cs)) w10)
    (hbd : w10.heap[Bd]? = some (.cells #[.nilFunc] 48 (0, 0))) (hgd : Bd = ((w9.setCell ⟨Bm, 0, none⟩ (.int .i64 0)).setCell ⟨Bs, 0, none⟩ (.slice As set.length cs)).heap.size) :
    impl_ChanceOfChain_1.At w Bk Bm Bt Bd Bs kn As cs set 0 (w10.setCell ⟨Bd, 0, none⟩ (.func (.func 33) #[] #[.pointer (some ⟨Bk, 0, none⟩), .pointer (some ⟨Bm, 0, none⟩), .pointer (some ⟨Bt, 0, none⟩), .pointer (some ⟨Bd, 0, none⟩), .pointer (some ⟨Bs, 0, none⟩)])) ∧
    impl_ChanceOfChain.P1 w Bk Br Bt (kn : Int) (set.length : Int) (w10.setCell ⟨Bd, 0, none⟩ (.func (.func 33) #[] #[.pointer (some ⟨Bk, 0, none⟩), .pointer (some ⟨Bm, 0, none⟩), .pointer (some ⟨Bt, 0, none⟩), .pointer (some ⟨Bd, 0, none⟩), .pointer (some ⟨Bs, 0, none⟩)])) ∧ Br ≠ Bm := by
  have nkm : Bk ≠ Bm := by have := blk_lt hp7.bk; omega
  have ntm : Bt ≠ Bm := by have := blk_lt hp7.bt; omega
  have nrm : Br ≠ Bm := by have := blk_lt hp7.br; omega
  have nks := blk_types hp9.bk hbs (by decide)
  have nts := blk_types hp9.bt hbs (by decide)
  have nrs := blk_types hp9.br hbs (by decide)
  have nms := blk_types hbm hbs (by decide)
  have hym : w.heap.size ≤ Bm := by rw [hgm]; exact hp7.below.size
  have s1 := hp9.below.size
  have mv : ∀ {X : Nat} {o : Obj}, w9.heap[X]? = some o → X ≠ Bm → X ≠ Bs → (w10.setCell ⟨Bd, 0, none⟩ (.func (.func 33) #[] #[.pointer (some ⟨Bk, 0, none⟩), .pointer (some ⟨Bm, 0, none⟩), .pointer (some ⟨Bt, 0, none⟩), .pointer (some ⟨Bd, 0, none⟩), .pointer (some ⟨Bs, 0, none⟩)])).heap[X]? = some o := by
    intro X o h n1 n2
    have e1 := (Below.heap_setCell w9 ⟨Bm, 0, none⟩ (.int .i64 0) X n1).trans h
    have e2 := (Below.heap_setCell (w9.setCell ⟨Bm, 0, none⟩ (.int .i64 0)) ⟨Bs, 0, none⟩ (.slice As set.length cs) X n2).trans e1
    have hlt := (Array.getElem?_eq_some_iff.1 e2).1
    have e3 := (hb10.block X hlt).trans e2
    exact (Below.heap_setCell w10 ⟨Bd, 0, none⟩ _ X (by show X ≠ Bd; omega)).trans e3
  have m1 := blk_put hbm 0 (.int .i64 0) rfl
  have m2 := (Below.heap_setCell (w9.setCell ⟨Bm, 0, none⟩ (.int .i64 0)) ⟨Bs, 0, none⟩ (.slice As set.length cs) Bm nms).trans m1
  have m3 := (Below.heap_setCell w10 ⟨Bd, 0, none⟩ (.func (.func 33) #[] #[.pointer (some ⟨Bk, 0, none⟩), .pointer (some ⟨Bm, 0, none⟩), .pointer (some ⟨Bt, 0, none⟩), .pointer (some ⟨Bd, 0, none⟩), .pointer (some ⟨Bs, 0, none⟩)]) Bm (by have := blk_lt m2; show Bm ≠ Bd; omega)).trans (blk_below m2 hb10)
  have t1 := (Below.heap_setCell w9 ⟨Bm, 0, none⟩ (.int .i64 0) Bs (Ne.symm nms)).trans hbs
  have t2 := blk_put t1 0 (.slice As set.length cs) rfl
  have t3 := (Below.heap_setCell w10 ⟨Bd, 0, none⟩ (.func (.func 33) #[] #[.pointer (some ⟨Bk, 0, none⟩), .pointer (some ⟨Bm, 0, none⟩), .pointer (some ⟨Bt, 0, none⟩), .pointer (some ⟨Bd, 0, none⟩), .pointer (some ⟨Bs, 0, none⟩)]) Bs (by have := blk_lt t2; show Bs ≠ Bd; omega)).trans (blk_below t2 hb10)
  have b1 : Below w.heap.size w ((w9.setCell ⟨Bm, 0, none⟩ (.int .i64 0)).setCell ⟨Bs, 0, none⟩ (.slice As set.length cs)) := (hp9.below.setCell hym _).setCell hyo _
  have b2 := (b1.trans (hb10.mono b1.size)).setCell (p := ⟨Bd, 0, none⟩) (by show w.heap.size ≤ Bd; rw [hgd]; exact b1.size) (.func (.func 33) #[] #[.pointer (some ⟨Bk, 0, none⟩), .pointer (some ⟨Bm, 0, none⟩), .pointer (some ⟨Bt, 0, none⟩), .pointer (some ⟨Bd, 0, none⟩), .pointer (some ⟨Bs, 0, none⟩)])
  refine ⟨⟨b2, hym, mv hp9.bk nkm nks, m3, mv hp9.bt ntm nts, blk_put hbd 0 _ rfl, t3, ?_, nkm, ntm⟩, ⟨b2, mv hp9.bk nkm nks, mv hp9.br nrm nrs, mv hp9.bt ntm nts, hp9.nk, hp9.nr, hp9.young⟩, nrm⟩
  exact Kd.R_set (Kd.R_below (Kd.R_set (Kd.R_set hs hbm (by decide) 0 _) t1 (by decide) 0 _) hb10) hbd (by decide) 0 _
/-- The chance that a hand drawn is laid as one chain. -/
def impl_ChanceOfChain.f (k : Nat) (a0 a1 : Int) : Option (Int × Int × Bool) :=
  (impl_isDrawn.f a0 a1).bind fun bt => if bt.2 = true then ((impl_within.f a1 1 3).bind fun t => if t = true then ((impl_setOf.f k a0).bind fun set =>
    if bt.1 = (set.length : Int) ∧ set.length ≤ 1000 ∧ set.all tok = true ∧ 0 ≤ a1 ∧ a1 ≤ 1000 then ((impl_choose.f k bt.1 a1).bind fun c => ((impl_ratio.f k (wrap64 (0 + drawN set a1.toNat [] 0)) c).bind fun r => some (r.1, r.2, true))) else none) else some (0, 0, false)) else some (0, 0, false)
theorem impl_ChanceOfChain.mono : ∀ a0 a1 k, LeO (impl_ChanceOfChain.f k a0 a1) (impl_ChanceOfChain.f (k + 1) a0 a1) := by
  intro a0 a1 k
  unfold impl_ChanceOfChain.f
  refine LeO.bind (LeO.refl _) fun bt => LeO.ite (LeO.bind (LeO.refl _) fun t => LeO.ite (LeO.bind (impl_setOf.mono _ _) fun set => LeO.ite (LeO.bind (impl_choose.mono _ _ _) fun c => LeO.bind (impl_ratio.mono _ _ _) fun r => LeO.refl _) (LeO.refl _)) (LeO.refl _)) (LeO.refl _)
set_option maxHeartbeats 8000000 in
set_option maxRecDepth 1000000 in
theorem impl_ChanceOfChain.calls (k : Nat) (a0 : Int) (a1 : Int) (r1 : Int) (r2 : Int) (r3 : Bool) (w : World) (h : impl_ChanceOfChain.f k a0 a1 = some (r1, r2, r3)) :
    Calls Try.prog 6 #[.int .i64 a0, .int .i64 a1] w fun e w' => e = .returned (.tuple #[.agg #[.int .i64 r1, .int .i64 r2], .bool r3]) ∧ Below w.heap.size w w' := by
  have hu23 := Try.underlying27
  unfold impl_ChanceOfChain.f at h
  obtain ⟨⟨n, ok⟩, A1, H⟩ := Option.bind_eq_some_iff.mp h
  have hdr := fun (W : World) => impl_isDrawn.calls a0 a1 n ok W A1
  clear h A1
  cases ok with
  | false =>
    simp only [Bool.false_eq_true, if_false, Option.some.injEq, Prod.mk.injEq] at H
    obtain ⟨rfl, rfl, rfl⟩ := H
    go_enter Try.func6, Try.ntmps6
    go_wp2_with (first
      | ((with_reducible refine gate_dst (N := 3) rfl ?_); refine box_event ?hg (N := 3) ?hd (cs := #[.int .i64 a1]) (t := 3) ?hr ?_; (case hd => rfl); (case hg => rfl); (case hr => first | (go_simp; done) | (go_simp; rfl)); intro Bk hg w1 hbox hb; have HBK := Lib.hid hbox; have HB1 := Lib.hid hb; have HG1 := Lib.hid hg; clear hg hbox hb)
      | ((with_reducible refine gate_dst (N := 4) rfl ?_); refine box_event ?hg (N := 4) ?hd (cs := #[.int .i64 0, .int .i64 0]) (t := 27) ?hr ?_; (case hd => rfl); (case hg => rfl); (case hr => first | (go_simp; done) | (go_simp; rfl)); intro Br hg w2 hbox hb; have HBR := Lib.hid hbox; have HB2 := Lib.hid hb; have HGR := Lib.hid hg; have hck : w2.cell? ⟨Bk, 0, none⟩ = some (.int .i64 a1) := (blk_cell (blk_below HBK.out hb) 0).trans rfl; clear hg hbox hb)
      | (go_at_call 30; refine (hdr _).mono ?_; rintro e w3 ⟨rfl, nd, hw3⟩; have HB3 := Lib.hid (show Below w2.heap.size w2 w3 from by rw [hw3]; exact pw_below_drewN (Below.refl _ _) _); clear hw3)
      | ((with_reducible refine gate_dst (N := 6) rfl ?_); refine box_event ?hg (N := 6) ?hd (cs := #[.int .i64 0]) (t := 3) ?hr ?_; (case hd => rfl); (case hg => rfl); (case hr => first | (go_simp; done) | (go_simp; rfl)); intro Bt hg w4 hbox hb; have HP := Lib.hid (impl_ChanceOfChain.P1.init (n := n) HBK.out HB1.out HBR.out HGR.out HB2.out HB3.out hbox hg hb); have hct : w4.cell? ⟨Bt, 0, none⟩ = some (.int .i64 0) := (blk_cell hbox 0).trans rfl; have hft : w4.frozen? ⟨Bt, 0, none⟩ = false := blk_frozen hbox 0; have hk5 : (w4.setCell ⟨Bt, 0, none⟩ (.int .i64 n)).cell? ⟨Bk, 0, none⟩ = some (.int .i64 a1) := (blk_cell HP.out.bk 0).trans rfl; have hr50 : (w4.setCell ⟨Bt, 0, none⟩ (.int .i64 n)).cell? ⟨Br, 0, none⟩ = some (.int .i64 0) := (blk_cell HP.out.br 0).trans rfl; have hr51 : (w4.setCell ⟨Bt, 0, none⟩ (.int .i64 n)).cell? ⟨Br, 1, none⟩ = some (.int .i64 0) := (blk_cell HP.out.br 1).trans rfl; have hr5f : (w4.setCell ⟨Bt, 0, none⟩ (.int .i64 n)).frozen? ⟨Br, 0, none⟩ = false := blk_frozen HP.out.br 0; have hr5g : (w4.setCell ⟨Bt, 0, none⟩ (.int .i64 n)).frozen? ⟨Br, 1, none⟩ = false := blk_frozen HP.out.br 1; clear hg hbox hb))
    refine bodyPost_ret (results_ct rfl _ _ Br 27 #[.int .i64 0, .int .i64 0] (0, 0) _ rfl (blk_put (blk_put HP.out.br 0 (.int .i64 0) rfl) 1 (.int .i64 0) rfl) Try.underlying27 rfl (by kernel_rfl)) rfl ?_
    exact ⟨rfl, (HP.out.below.setCell HP.out.young _).setCell HP.out.young _⟩
  | true =>
    simp only [if_true] at H
    obtain ⟨t, A2, H⟩ := Option.bind_eq_some_iff.mp H
    have hwi := fun (W : World) => impl_within.calls a1 1 3 t W A2
    clear A2
    cases t with
    | false =>
      simp only [Bool.false_eq_true, if_false, Option.some.injEq, Prod.mk.injEq] at H
      obtain ⟨rfl, rfl, rfl⟩ := H
      go_enter Try.func6, Try.ntmps6
      go_wp2_with (first
        | ((with_reducible refine gate_dst (N := 3) rfl ?_); refine box_event ?hg (N := 3) ?hd (cs := #[.int .i64 a1]) (t := 3) ?hr ?_; (case hd => rfl); (case hg => rfl); (case hr => first | (go_simp; done) | (go_simp; rfl)); intro Bk hg w1 hbox hb; have HBK := Lib.hid hbox; have HB1 := Lib.hid hb; have HG1 := Lib.hid hg; clear hg hbox hb)
        | ((with_reducible refine gate_dst (N := 4) rfl ?_); refine box_event ?hg (N := 4) ?hd (cs := #[.int .i64 0, .int .i64 0]) (t := 27) ?hr ?_; (case hd => rfl); (case hg => rfl); (case hr => first | (go_simp; done) | (go_simp; rfl)); intro Br hg w2 hbox hb; have HBR := Lib.hid hbox; have HB2 := Lib.hid hb; have HGR := Lib.hid hg; have hck : w2.cell? ⟨Bk, 0, none⟩ = some (.int .i64 a1) := (blk_cell (blk_below HBK.out hb) 0).trans rfl; clear hg hbox hb)
        | (go_at_call 30; refine (hdr _).mono ?_; rintro e w3 ⟨rfl, nd, hw3⟩; have HB3 := Lib.hid (show Below w2.heap.size w2 w3 from by rw [hw3]; exact pw_below_drewN (Below.refl _ _) _); clear hw3)
        | ((with_reducible refine gate_dst (N := 6) rfl ?_); refine box_event ?hg (N := 6) ?hd (cs := #[.int .i64 0]) (t := 3) ?hr ?_; (case hd => rfl); (case hg => rfl); (case hr => first | (go_simp; done) | (go_simp; rfl)); intro Bt hg w4 hbox hb; have HP := Lib.hid (impl_ChanceOfChain.P1.init (n := n) HBK.out HB1.out HBR.out HGR.out HB2.out HB3.out hbox hg hb); have hct : w4.cell? ⟨Bt, 0, none⟩ = some (.int .i64 0) := (blk_cell hbox 0).trans rfl; have hft : w4.frozen? ⟨Bt, 0, none⟩ = false := blk_frozen hbox 0; have hk5 : (w4.setCell ⟨Bt, 0, none⟩ (.int .i64 n)).cell? ⟨Bk, 0, none⟩ = some (.int .i64 a1) := (blk_cell HP.out.bk 0).trans rfl; have hr50 : (w4.setCell ⟨Bt, 0, none⟩ (.int .i64 n)).cell? ⟨Br, 0, none⟩ = some (.int .i64 0) := (blk_cell HP.out.br 0).trans rfl; have hr51 : (w4.setCell ⟨Bt, 0, none⟩ (.int .i64 n)).cell? ⟨Br, 1, none⟩ = some (.int .i64 0) := (blk_cell HP.out.br 1).trans rfl; have hr5f : (w4.setCell ⟨Bt, 0, none⟩ (.int .i64 n)).frozen? ⟨Br, 0, none⟩ = false := blk_frozen HP.out.br 0; have hr5g : (w4.setCell ⟨Bt, 0, none⟩ (.int .i64 n)).frozen? ⟨Br, 1, none⟩ = false := blk_frozen HP.out.br 1; clear hg hbox hb)
        | (go_at_call 31; refine (hwi _).mono ?_; rintro e w6 ⟨rfl, nd, hw6⟩; have hb6 : Below (w4.setCell ⟨Bt, 0, none⟩ (.int .i64 n)).heap.size (w4.setCell ⟨Bt, 0, none⟩ (.int .i64 n)) w6 := by rw [hw6]; exact pw_below_drewN (Below.refl _ _) _
           have HP6 := Lib.hid (HP.out.step hb6); have hr60 : w6.cell? ⟨Br, 0, none⟩ = some (.int .i64 0) := (blk_cell HP6.out.br 0).trans rfl; have hr61 : w6.cell? ⟨Br, 1, none⟩ = some (.int .i64 0) := (blk_cell HP6.out.br 1).trans rfl; have hr6f : w6.frozen? ⟨Br, 0, none⟩ = false := blk_frozen HP6.out.br 0; have hr6g : w6.frozen? ⟨Br, 1, none⟩ = false := blk_frozen HP6.out.br 1; clear hw6 hb6))
      refine bodyPost_ret (results_ct rfl _ _ Br 27 #[.int .i64 0, .int .i64 0] (0, 0) _ rfl (blk_put (blk_put HP6.out.br 0 (.int .i64 0) rfl) 1 (.int .i64 0) rfl) Try.underlying27 rfl (by kernel_rfl)) rfl ?_
      exact ⟨rfl, (HP6.out.below.setCell HP6.out.young _).setCell HP6.out.young _⟩
    | true =>
      simp only [if_true] at H
      obtain ⟨set, A3, H⟩ := Option.bind_eq_some_iff.mp H
      by_cases hc : n = (set.length : Int) ∧ set.length ≤ 1000 ∧ set.all tok = true ∧ 0 ≤ a1 ∧ a1 ≤ 1000
      · rw [if_pos hc] at H
        obtain ⟨c, A4, H⟩ := Option.bind_eq_some_iff.mp H
        obtain ⟨⟨q1, q2⟩, A5, H⟩ := Option.bind_eq_some_iff.mp H
        simp only [Option.some.injEq, Prod.mk.injEq] at H
        obtain ⟨rfl, rfl, rfl⟩ := H
        obtain ⟨h1, h2, h3, h4, h5⟩ := hc
        obtain ⟨kn, rfl⟩ : ∃ kn : Nat, a1 = (kn : Int) := ⟨a1.toNat, by omega⟩
        have h5' : kn ≤ 1000 := by omega
        subst h1
        have hse := fun (W : World) => impl_setOf.calls k a0 set W A3
        have hch := fun (W : World) => impl_choose.calls k (set.length : Int) (kn : Int) c W A4
        rw [show ((kn : Int)).toNat = kn from rfl] at A5
        have hra := fun (W : World) => impl_ratio.calls k _ c q1 q2 W A5
        clear A3 A4 A5
        have HSE := Lib.hid hse
        have HCH := Lib.hid hch
        have HRA := Lib.hid hra
        have HST := Lib.hid h3
        clear hse hch hra h3
        have hmf : ∀ (fn : Fn) (first cap : Array Value) (w : World), (Instr.makeFunc fn first cap).run Try.prog w = .ok (.func fn first cap) w := fun _ _ _ _ => rfl
        go_enter Try.func6, Try.ntmps6
        go_wp2_with (first
          | ((with_reducible refine gate_dst (N := 3) rfl ?_); refine box_event ?hg (N := 3) ?hd (cs := #[.int .i64 (kn : Int)]) (t := 3) ?hr ?_; (case hd => rfl); (case hg => rfl); (case hr => first | (go_simp; done) | (go_simp; rfl)); intro Bk hg w1 hbox hb; have HBK := Lib.hid hbox; have HB1 := Lib.hid hb; have HG1 := Lib.hid hg; clear hg hbox hb)
          | ((with_reducible refine gate_dst (N := 4) rfl ?_); refine box_event ?hg (N := 4) ?hd (cs := #[.int .i64 0, .int .i64 0]) (t := 27) ?hr ?_; (case hd => rfl); (case hg => rfl); (case hr => first | (go_simp; done) | (go_simp; rfl)); intro Br hg w2 hbox hb; have HBR := Lib.hid hbox; have HB2 := Lib.hid hb; have HGR := Lib.hid hg; have hck : w2.cell? ⟨Bk, 0, none⟩ = some (.int .i64 (kn : Int)) := (blk_cell (blk_below HBK.out hb) 0).trans rfl; clear hg hbox hb)
          | (go_at_call 30; refine (hdr _).mono ?_; rintro e w3 ⟨rfl, nd, hw3⟩; have HB3 := Lib.hid (show Below w2.heap.size w2 w3 from by rw [hw3]; exact pw_below_drewN (Below.refl _ _) _); clear hw3)
          | ((with_reducible refine gate_dst (N := 6) rfl ?_); refine box_event ?hg (N := 6) ?hd (cs := #[.int .i64 0]) (t := 3) ?hr ?_; (case hd => rfl); (case hg => rfl); (case hr => first | (go_simp; done) | (go_simp; rfl)); intro Bt hg w4 hbox hb; have HP := Lib.hid (impl_ChanceOfChain.P1.init (n := (set.length : Int)) HBK.out HB1.out HBR.out HGR.out HB2.out HB3.out hbox hg hb); have hct : w4.cell? ⟨Bt, 0, none⟩ = some (.int .i64 0) := (blk_cell hbox 0).trans rfl; have hft : w4.frozen? ⟨Bt, 0, none⟩ = false := blk_frozen hbox 0; have hk5 : (w4.setCell ⟨Bt, 0, none⟩ (.int .i64 (set.length : Int))).cell? ⟨Bk, 0, none⟩ = some (.int .i64 (kn : Int)) := (blk_cell HP.out.bk 0).trans rfl; have hr50 : (w4.setCell ⟨Bt, 0, none⟩ (.int .i64 (set.length : Int))).cell? ⟨Br, 0, none⟩ = some (.int .i64 0) := (blk_cell HP.out.br 0).trans rfl; have hr51 : (w4.setCell ⟨Bt, 0, none⟩ (.int .i64 (set.length : Int))).cell? ⟨Br, 1, none⟩ = some (.int .i64 0) := (blk_cell HP.out.br 1).trans rfl; have hr5f : (w4.setCell ⟨Bt, 0, none⟩ (.int .i64 (set.length : Int))).frozen? ⟨Br, 0, none⟩ = false := blk_frozen HP.out.br 0; have hr5g : (w4.setCell ⟨Bt, 0, none⟩ (.int .i64 (set.length : Int))).frozen? ⟨Br, 1, none⟩ = false := blk_frozen HP.out.br 1; clear hg hbox hb)
          | (go_at_call 31; refine (hwi _).mono ?_; rintro e w6 ⟨rfl, nd, hw6⟩; have hb6 : Below (w4.setCell ⟨Bt, 0, none⟩ (.int .i64 (set.length : Int))).heap.size (w4.setCell ⟨Bt, 0, none⟩ (.int .i64 (set.length : Int))) w6 := by rw [hw6]; exact pw_below_drewN (Below.refl _ _) _
             have HP6 := Lib.hid (HP.out.step hb6); have hr60 : w6.cell? ⟨Br, 0, none⟩ = some (.int .i64 0) := (blk_cell HP6.out.br 0).trans rfl; have hr61 : w6.cell? ⟨Br, 1, none⟩ = some (.int .i64 0) := (blk_cell HP6.out.br 1).trans rfl; have hr6f : w6.frozen? ⟨Br, 0, none⟩ = false := blk_frozen HP6.out.br 0; have hr6g : w6.frozen? ⟨Br, 1, none⟩ = false := blk_frozen HP6.out.br 1; clear hw6 hb6)
          | (go_at_call 32; refine (HSE.out _).mono ?_; rintro e w7 ⟨v26, rfl, ho, hb⟩; obtain ⟨As, cs, e26⟩ := Kd.R_slice ho; subst e26; have HS7 := Lib.hid (Kd.R_lower ho HP6.out.below.size); have HP7 := Lib.hid (HP6.out.step hb); clear ho hb)
          | ((with_reducible refine gate_dst (N := 8) rfl ?_); refine box_event ?hg (N := 8) ?hd (cs := #[.int .i64 0]) (t := 3) ?hr ?_; (case hd => rfl); (case hg => rfl); (case hr => first | (go_simp; done) | (go_simp; rfl)); intro Bm hg w8 hbox hb; have HBM := Lib.hid hbox; have HGM := Lib.hid hg; have HP8 := Lib.hid (HP7.out.step hb); have HS8 := Lib.hid (Kd.R_below HS7.out hb); clear hg hbox hb)
          | ((with_reducible refine gate_dst (N := 9) rfl ?_); refine box_event ?hg (N := 9) ?hd (cs := #[.slice none 0 0]) (t := 46) ?hr ?_; (case hd => rfl); (case hg => rfl); (case hr => first | (go_simp; done) | (go_simp; rfl)); intro Bs hg w9 hbox hb; have HBS := Lib.hid hbox; have HGS := Lib.hid hg; have HP9 := Lib.hid (HP8.out.step hb); have HBM9 := Lib.hid (blk_below HBM.out hb); have HS9 := Lib.hid (Kd.R_below HS8.out hb); have hm9 : w9.cell? ⟨Bm, 0, none⟩ = some (.int .i64 0) := (blk_cell HBM9.out 0).trans rfl; have hm9f : w9.frozen? ⟨Bm, 0, none⟩ = false := blk_frozen HBM9.out 0; have hs9 : (w9.setCell ⟨Bm, 0, none⟩ (.int .i64 0)).cell? ⟨Bs, 0, none⟩ = some (.slice none 0 0) := (blk_cell (blk_far (p := ⟨Bm, 0, none⟩) hbox (by have := blk_lt HBM.out; show Bs ≠ Bm; omega) _) 0).trans rfl; have hs9f : (w9.setCell ⟨Bm, 0, none⟩ (.int .i64 0)).frozen? ⟨Bs, 0, none⟩ = false := blk_frozen (blk_far (p := ⟨Bm, 0, none⟩) hbox (by have := blk_lt HBM.out; show Bs ≠ Bm; omega) (.int .i64 0)) 0; clear hg hbox hb)
          | ((with_reducible refine gate_dst (N := 10) rfl ?_); refine box_event ?hg (N := 10) ?hd (cs := #[.nilFunc]) (t := 48) ?hr ?_; (case hd => rfl); (case hg => rfl); (case hr => first | (go_simp; done) | (go_simp; rfl)); intro Bd hg w10 hbox hb; have HBD := Lib.hid hbox; have HGD := Lib.hid hg; have HB10 := Lib.hid hb; have hc10 : w10.cell? ⟨Bd, 0, none⟩ = some .nilFunc := (blk_cell hbox 0).trans rfl; have hf10 : w10.frozen? ⟨Bd, 0, none⟩ = false := blk_frozen hbox 0; have HAT := Lib.hid (impl_ChanceOfChain.at0 HP7.out HGM.out HP9.out HBM9.out HBS.out (by rw [HGS.out]; exact HP8.out.below.size) HS9.out hb hbox hg); have HSAY := Lib.hid (show Calls Try.prog 33 #[.slice none 0 0, .int .i64 0, .pointer (some ⟨Bk, 0, none⟩), .pointer (some ⟨Bm, 0, none⟩), .pointer (some ⟨Bt, 0, none⟩), .pointer (some ⟨Bd, 0, none⟩), .pointer (some ⟨Bs, 0, none⟩)] (w10.setCell ⟨Bd, 0, none⟩ (.func (.func 33) #[] #[.pointer (some ⟨Bk, 0, none⟩), .pointer (some ⟨Bm, 0, none⟩), .pointer (some ⟨Bt, 0, none⟩), .pointer (some ⟨Bd, 0, none⟩), .pointer (some ⟨Bs, 0, none⟩)])) (fun e W' => e = .returned (.tuple #[]) ∧ impl_ChanceOfChain_1.At w Bk Bm Bt Bd Bs kn As cs set (wrap64 (0 + drawN set kn [] 0)) W' ∧ KeepM Bm (w10.setCell ⟨Bd, 0, none⟩ (.func (.func 33) #[] #[.pointer (some ⟨Bk, 0, none⟩), .pointer (some ⟨Bm, 0, none⟩), .pointer (some ⟨Bt, 0, none⟩), .pointer (some ⟨Bd, 0, none⟩), .pointer (some ⟨Bs, 0, none⟩)])) W') from impl_ChanceOfChain_1.says w Bk Bm Bt Bd Bs kn As cs set h5' h2 HST.out kn [] 0 none 0 0 _ HAT.out.1 (h_wrap 0 (by omega) (by omega)) (by simp) rfl (fun W' _ _ => (Kd.R_reads' (Kd.R_nil k53 53 W' 0 (fun _ => True))).2.2) (Nat.le_refl _)); clear hg hbox hb)
          | (refine HSAY.out.mono ?_; rintro e w11 ⟨rfl, hA', hK'⟩
             have HA := Lib.hid hA'
             have HR11 := Lib.hid ((hK'.2 Br (blk_lt HAT.out.2.1.br) HAT.out.2.2).trans HAT.out.2.1.br)
             clear hA' hK'))
        generalize wrap64 (0 + drawN set kn [] 0) = many at HA HRA
        have hq0 : Below w11.heap.size w11 w11.drew := below_drew1 (Below.refl _ _)
        refine start_ (n := 7) (S := fun w' => w'.cell? ⟨Bm, 0, none⟩ = some (.int .i64 many) ∧ w'.cell? ⟨Bt, 0, none⟩ = some (.int .i64 (set.length : Int)) ∧ w'.cell? ⟨Bk, 0, none⟩ = some (.int .i64 (kn : Int))) (ds := []) #[false, false, false, false, false, false, false] (by kernel_rfl) rfl rfl ⟨(blk_cell (HA.out.below_ hq0).bm 0).trans rfl, (blk_cell (HA.out.below_ hq0).bt 0).trans rfl, (blk_cell (HA.out.below_ hq0).bk 0).trans rfl⟩ (fun hHeld => ?_)
        have HQ := Lib.hid (show impl_ChanceOfChain_1.At w Bk Bm Bt Bd Bs kn As cs set many w11.drew ∧ w11.drew.heap[Br]? = some (.cells #[.int .i64 0, .int .i64 0] 27 (0, 0)) from ⟨HA.out.below_ hq0, blk_below HR11.out hq0⟩)
        have HSQ := Lib.hid (show ∀ w', impl_ChanceOfChain_1.At w Bk Bm Bt Bd Bs kn As cs set many w' → (w'.cell? ⟨Bm, 0, none⟩ = some (.int .i64 many) ∧ w'.cell? ⟨Bt, 0, none⟩ = some (.int .i64 (set.length : Int)) ∧ w'.cell? ⟨Bk, 0, none⟩ = some (.int .i64 (kn : Int))) from fun w' h => ⟨(blk_cell h.bm 0).trans rfl, (blk_cell h.bt 0).trans rfl, (blk_cell h.bk 0).trans rfl⟩)
        clear hq0
        generalize w11.drew = wq at HQ hHeld ⊢
        refine take_ (i := 0) (N := (some 30)) (v := ?_) (a' := ?_) #[true, false, false, false, false, false, false] rfl rfl (by kernel_rfl) (fun _ _ _ h => h) (Or.inl ⟨by rfl, ?_⟩) hHeld ?_ ?_
        rotate_left
        · intro w' ⟨s0, s1, s2⟩
          go_simp
          with_reducible rfl
        rotate_left
        · simp only [Act.put, List.setIfInBounds_toArray, List.set_cons_zero, List.set_cons_succ, i64_w, i32_w]
          rfl
        refine take_ (i := 1) (N := (some 31)) (v := ?_) (a' := ?_) #[true, true, false, false, false, false, false] rfl rfl (by kernel_rfl) (fun _ _ _ h => h) (Or.inl ⟨by rfl, ?_⟩) hHeld ?_ ?_
        rotate_left
        · intro w' ⟨s0, s1, s2⟩
          go_simp
          with_reducible rfl
        rotate_left
        · simp only [Act.put, List.setIfInBounds_toArray, List.set_cons_zero, List.set_cons_succ, i64_w, i32_w]
          rfl
        refine take_ (i := 2) (N := (some 32)) (v := ?_) (a' := ?_) #[true, true, true, false, false, false, false] rfl rfl (by kernel_rfl) (fun _ _ _ h => h) (Or.inl ⟨by rfl, ?_⟩) hHeld ?_ ?_
        rotate_left
        · intro w' ⟨s0, s1, s2⟩
          go_simp
          with_reducible rfl
        rotate_left
        · simp only [Act.put, List.setIfInBounds_toArray, List.set_cons_zero, List.set_cons_succ, i64_w, i32_w]
          rfl
        refine one_ (i := 3) (N := some 33) #[true, true, true, true, false, false, false] rfl rfl (by kernel_rfl) (by decide) (fun K hK => ?_)
        refine goes_ Try.func38 (by kernel_rfl) rfl #[.int .i64 (set.length : Int), .int .i64 (kn : Int)] (by rfl) rfl rfl (by (try simp only [List.map_toArray, List.map_cons, List.map_nil]); first | done | rfl) ?_
        with_reducible refine (HCH.out _).mono ?_
        rintro e w12 ⟨rfl, nd, hw12⟩
        refine ⟨_, rfl, ?_⟩
        have hb12 : Below wq.heap.size wq w12 := by rw [hw12]; exact pw_below_drewN (Below.refl _ _) _
        have HQ2 := Lib.hid (show impl_ChanceOfChain_1.At w Bk Bm Bt Bd Bs kn As cs set many w12 ∧ w12.heap[Br]? = some (.cells #[.int .i64 0, .int .i64 0] 27 (0, 0)) from ⟨HQ.out.1.below_ hb12, blk_below HQ.out.2 hb12⟩)
        clear hb12 hw12
        refine hK.out _ _ (HSQ.out _ HQ2.out.1) (fun hHeld => ?_)
        clear hK K
        refine norm_ (a' := ?_) ?_ ?_
        rotate_left
        · show Act.put _ (some 33) _ = _
          simp only [Act.put, List.setIfInBounds_toArray, List.set_cons_zero, List.set_cons_succ, i64_w, i32_w]
          rfl
        refine one_ (i := 4) (N := some 34) #[true, true, true, true, true, false, false] rfl rfl (by kernel_rfl) (by decide) (fun K hK => ?_)
        refine goes_ Try.func37 (by kernel_rfl) rfl #[.int .i64 many, .int .i64 c] (by rfl) rfl rfl (by (try simp only [List.map_toArray, List.map_cons, List.map_nil]); first | done | rfl) ?_
        with_reducible refine (HRA.out _).mono ?_
        rintro e w13 ⟨rfl, hb13⟩
        refine ⟨_, rfl, ?_⟩
        have HQ3 := Lib.hid (show impl_ChanceOfChain_1.At w Bk Bm Bt Bd Bs kn As cs set many w13 ∧ w13.heap[Br]? = some (.cells #[.int .i64 0, .int .i64 0] 27 (0, 0)) from ⟨HQ2.out.1.below_ hb13, blk_below HQ2.out.2 hb13⟩)
        clear hb13
        refine hK.out _ _ (HSQ.out _ HQ3.out.1) (fun hHeld => ?_)
        clear hK K
        refine norm_ (a' := ?_) ?_ ?_
        rotate_left
        · show Act.put _ (some 34) _ = _
          simp only [Act.put, List.setIfInBounds_toArray, List.set_cons_zero, List.set_cons_succ, i64_w, i32_w]
          rfl
        refine one_ (i := 5) (N := none) #[true, true, true, true, true, true, false] rfl rfl (by kernel_rfl) (by decide) (fun K hK => ?_)
        have hr0 : w13.cell? ⟨Br, 0, none⟩ = some (.int .i64 0) := (blk_cell HQ3.out.2 0).trans rfl
        have hr1 : w13.cell? ⟨Br, 1, none⟩ = some (.int .i64 0) := (blk_cell HQ3.out.2 1).trans rfl
        have hf0 : w13.frozen? ⟨Br, 0, none⟩ = false := blk_frozen HQ3.out.2 0
        have hf1 : w13.frozen? ⟨Br, 1, none⟩ = false := blk_frozen HQ3.out.2 1
        refine skip_ (w1 := ?_) (by rfl) rfl ?_ ?_
        rotate_left
        · go_simp
          rfl
        have hn1 := HAT.out.2.2
        have nkr := blk_types HQ3.out.1.bk HQ3.out.2 (by decide)
        have ntr := blk_types HQ3.out.1.bt HQ3.out.2 (by decide)
        have hcf : ∀ X : Nat, X ≠ Br → ((w13.setCell ⟨Br, 0, none⟩ (.int .i64 q1)).setCell ⟨Br, 1, none⟩ (.int .i64 q2)).cell? ⟨X, 0, none⟩ = w13.cell? ⟨X, 0, none⟩ := fun X hX => (World.cell?_of_block (Below.heap_setCell _ ⟨Br, 1, none⟩ _ X hX)).trans (World.cell?_of_block (Below.heap_setCell w13 ⟨Br, 0, none⟩ _ X hX))
        refine hK.out _ _ ⟨(hcf Bm (Ne.symm hn1)).trans hHeld.1, (hcf Bt ntr).trans hHeld.2.1, (hcf Bk nkr).trans hHeld.2.2⟩ (fun hHeld => ?_)
        clear hK K
        refine pure_ (i := 6) (N := (some 5)) (v := ?_) (a' := ?_) #[true, true, true, true, true, true, true] rfl rfl (by kernel_rfl) (fun _ _ _ h => h) (Or.inl ⟨by rfl, ?_⟩) ?_ ?_
        rotate_left
        · intro w'
          go_simp
          with_reducible rfl
        rotate_left
        · simp only [Act.put, List.setIfInBounds_toArray, List.set_cons_zero, List.set_cons_succ, i64_w, i32_w]
          rfl
        refine done_ (by kernel_rfl) ?_
        try go_wp2
        refine bodyPost_ret (results_ct rfl _ _ Br 27 #[.int .i64 q1, .int .i64 q2] (0, 0) _ rfl (blk_put (blk_put HQ3.out.2 0 (.int .i64 q1) rfl) 1 (.int .i64 q2) rfl) Try.underlying27 rfl (by kernel_rfl)) rfl ?_
        exact ⟨rfl, (HQ3.out.1.below.setCell HAT.out.2.1.young _).setCell HAT.out.2.1.young _⟩
      · rw [if_neg hc] at H
        cases H

/-! ### spec_l1In: function 40 -/
def spec_l1In.f (a0 : Int) (a1 : Int) (a2 : Int) : Option (Bool) := if a0 ≥ a1 then (some (decide (a0 ≤ a2))) else (some false)
set_option maxHeartbeats 8000000 in
set_option maxRecDepth 100000 in
theorem spec_l1In.calls (a0 : Int) (a1 : Int) (a2 : Int) (r : Bool) (w : World) (h : spec_l1In.f a0 a1 a2 = some r) :
    Calls Try.prog 40 #[.int .i64 a0, .int .i64 a1, .int .i64 a2] w fun e w' => e = .returned (.bool r) ∧ Drawn0 w w' := by
  have H : (if a0 ≥ a1 then (some (decide (a0 ≤ a2))) else (some false)) = some r := h
  clear h
  by_cases c4 : a0 ≥ a1
  · rw [if_pos c4] at H
    have c4b0 : decide (a1 ≤ a0) = true := decide_eq_true c4
    clear c4
    obtain rfl := Option.some.inj H
    go_enter Try.func40, Try.ntmps40
    go_wp2
    go_ret
    exact ⟨by first | rfl | (simp; done) | (simp [*]; done), by repeat (first | exact Drawn0.refl _ | apply Drawn0.step)⟩
  · rw [if_neg c4] at H
    have c4b0 : decide (a1 ≤ a0) = false := decide_eq_false c4
    clear c4
    obtain rfl := Option.some.inj H
    go_enter Try.func40, Try.ntmps40
    go_wp2
    go_ret
    exact ⟨by first | rfl | (simp; done) | (simp [*]; done), by repeat (first | exact Drawn0.refl _ | apply Drawn0.step)⟩

/-! ### spec_dcTiles: function 45 -/
def spec_dcTiles.f (a0 : Int) : Option (Int) := some (wrap64 (Int.tdiv (wrap64 ((wrap64 (a0 + 1)) * (wrap64 (a0 + 2)))) 2))
set_option maxHeartbeats 8000000 in
set_option maxRecDepth 100000 in
theorem spec_dcTiles.calls (a0 : Int) (r : Int) (w : World) (h : spec_dcTiles.f a0 = some r) :
    Calls Try.prog 45 #[.int .i64 a0] w fun e w' => e = .returned (.int .i64 r) ∧ Drawn0 w w' := by
  have H : (some (wrap64 (Int.tdiv (wrap64 ((wrap64 (a0 + 1)) * (wrap64 (a0 + 2)))) 2))) = some r := h
  clear h
  obtain rfl := Option.some.inj H
  go_enter Try.func45, Try.ntmps45
  go_wp2
  go_ret
  exact ⟨by first | rfl | (simp; done) | (simp [*]; done), by repeat (first | exact Drawn0.refl _ | apply Drawn0.step)⟩

/-! ### spec_dcGood: function 39 -/
def spec_dcGood.f (a0 : Int) (a1 : Int) : Option (Bool) := (spec_l1In.f a0 0 6).bind fun t143 => (if t143 = true then ((spec_dcTiles.f a0).bind fun t144 => ((spec_l1In.f a1 0 t144).bind fun t145 => (some t145))) else (some false))
set_option maxHeartbeats 8000000 in
set_option maxRecDepth 100000 in
theorem spec_dcGood.calls (a0 : Int) (a1 : Int) (r : Bool) (w : World) (h : spec_dcGood.f a0 a1 = some r) :
    Calls Try.prog 39 #[.int .i64 a0, .int .i64 a1] w fun e w' => e = .returned (.bool r) ∧ Drawn0 w w' := by
  have H : ((spec_l1In.f a0 0 6).bind fun t143 => (if t143 = true then ((spec_dcTiles.f a0).bind fun t144 => ((spec_l1In.f a1 0 t144).bind fun t145 => (some t145))) else (some false))) = some r := h
  clear h
  replace H := Option.bind_eq_some_iff.mp H
  obtain ⟨t143, A30, H⟩ := H
  replace H : (if t143 = true then ((spec_dcTiles.f a0).bind fun t144 => ((spec_l1In.f a1 0 t144).bind fun t145 => (some t145))) else (some false)) = some r := H
  have A3 := Aside0.mk A30
  clear A30
  by_cases c4 : t143 = true
  · subst c4
    have H1 : ((spec_dcTiles.f a0).bind fun t144 => ((spec_l1In.f a1 0 t144).bind fun t145 => (some t145))) = some r := by rw [if_pos rfl] at H; exact H
    clear H
    have H := H1
    clear H1
    replace H := Option.bind_eq_some_iff.mp H
    obtain ⟨t144, A50, H⟩ := H
    replace H : ((spec_l1In.f a1 0 t144).bind fun t145 => (some t145)) = some r := H
    have A5 := Aside0.mk A50
    clear A50
    replace H := Option.bind_eq_some_iff.mp H
    obtain ⟨t145, A60, H⟩ := H
    replace H : (some t145) = some r := H
    have A6 := Aside0.mk A60
    clear A60
    obtain rfl := Option.some.inj H
    go_enter Try.func39, Try.ntmps39
    go_wp2_with (first | ((with_reducible refine gate_callee (f := 40) rfl ?_); refine goesL_ (some 6) rfl rfl Try.func40 (by kernel_rfl) rfl #[.int .i64 a0, .int .i64 0, .int .i64 6] rfl (by simp only [List.map_toArray, List.map_cons, List.map_nil] <;> rfl) ?_; (with_reducible refine (spec_l1In.calls a0 0 6 true _ A3.out).mono ?_); rintro e w' ⟨rfl, ⟨nd, rfl⟩⟩; refine ⟨_, rfl, ?_⟩) | (go_at_call 45; (with_reducible refine (spec_dcTiles.calls a0 t144 _ A5.out).mono ?_); rintro e w' ⟨rfl, ⟨nd, rfl⟩⟩) | (go_at_call 40; (with_reducible refine (spec_l1In.calls a1 0 t144 t145 _ A6.out).mono ?_); rintro e w' ⟨rfl, ⟨nd, rfl⟩⟩))
    go_ret
    exact ⟨by first | rfl | (simp; done) | (simp [*]; done), by repeat (first | exact Drawn0.refl _ | apply Drawn0.step)⟩
  · replace c4 := Bool.eq_false_iff.mpr c4
    subst c4
    have H1 : (some false) = some r := by rw [if_neg (show ¬ (false = true) by decide)] at H; exact H
    clear H
    have H := H1
    clear H1
    obtain rfl := Option.some.inj H
    go_enter Try.func39, Try.ntmps39
    go_wp2_with (first | ((with_reducible refine gate_callee (f := 40) rfl ?_); refine goesL_ (some 6) rfl rfl Try.func40 (by kernel_rfl) rfl #[.int .i64 a0, .int .i64 0, .int .i64 6] rfl (by simp only [List.map_toArray, List.map_cons, List.map_nil] <;> rfl) ?_; (with_reducible refine (spec_l1In.calls a0 0 6 false _ A3.out).mono ?_); rintro e w' ⟨rfl, ⟨nd, rfl⟩⟩; refine ⟨_, rfl, ?_⟩))
    go_ret
    exact ⟨by first | rfl | (simp; done) | (simp [*]; done), by repeat (first | exact Drawn0.refl _ | apply Drawn0.step)⟩

end Go.Proofs.Ytafcjfilhdpgdaa.QFnChancesCompared
