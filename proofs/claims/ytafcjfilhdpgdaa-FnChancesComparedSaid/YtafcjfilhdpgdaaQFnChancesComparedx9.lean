-- WRITTEN BY A PROGRAM OF THIS CLAIM'S AUTHOR (wprint.py)
import Derived.Test.YtafcjfilhdpgdaaQFnChancesComparedx0
import Derived.Test.YtafcjfilhdpgdaaQFnChancesComparedx7
import Derived.Test.YtafcjfilhdpgdaaQFnChancesComparedx8
namespace Go.Proofs.Ytafcjfilhdpgdaa.QFnChancesCompared
open Go.RowKit Go.Proofs.YtafcjfilhdpgdaaW.PrintWords Go.Proofs.YtafcjfilhdpgdaaW.PrintLast Go.Proofs.YtafcjfilhdpgdaaW.PrintMore
attribute [local go_sem] max2_int min2_int max_two min_two max_three min_three max_four min_four   -- for this text's walks alone
set_option linter.unusedVariables false
set_option linter.unusedSimpArgs false

/-! ### spec_haAll: function 63, by hand -/
theorem spec_haLook_look.says (w : World) (B gC cC gU cU : Nat) (Ah : Option Addr) (ch : Nat) (hand : List S53) (hh : hand.length ≤ 1000) (hH : Kd.C k53 w Ah hand.length hand) (hch : hand.length ≤ ch) : ∀ d, spec_haLook_look.Says w B gC cC gU cU Ah ch hand d
  | 0 => spec_haLook_look.leaf w B gC cC gU cU Ah ch hand hh
  | d + 1 => spec_haLook_look.node w B gC cC gU cU Ah ch hand hh hH hch d (spec_haLook_look.says w B gC cC gU cU Ah ch hand hh hH hch d)
/-! ### spec.haAll: the longest chain of a hand -/
def tmz (n : Int) : List S53 → Int
  | [] => 0
  | t :: ts => (if t.f0 = n then 1 else 0) + (if t.f1 = n then 1 else 0) + tmz n ts
theorem tmz_range (n : Int) : ∀ l : List S53, 0 ≤ tmz n l ∧ tmz n l ≤ 2 * l.length
  | [] => by simp [tmz]
  | t :: ts => by
    have := tmz_range n ts
    unfold tmz
    rw [List.length_cons]
    split <;> split <;> omega
theorem timz_l (n : Int) : ∀ (rest pre : List S53) (acc : Int) (k : Nat), pre.length + rest.length ≤ 1000 → 0 ≤ acc → acc ≤ 2 * pre.length → rest.length < k →
    spec_tiTimes.l0 k n acc (pre ++ rest) ((pre.length + rest.length : Nat) : Int) (pre.length : Int) = some (acc + tmz n rest) := by
  intro rest
  induction rest with
  | nil =>
    intro pre acc k h0 h1 h2 h3
    obtain ⟨k, rfl⟩ : ∃ m, k = m + 1 := ⟨k - 1, by omega⟩
    simp only [spec_tiTimes.l0, List.length_nil]
    rw [if_neg (by omega)]
    simp [tmz]
  | cons x xs ih =>
    intro pre acc k h0 h1 h2 h3
    have hl2 : (x :: xs).length = xs.length + 1 := rfl
    obtain ⟨k, rfl⟩ : ∃ m, k = m + 1 := ⟨k - 1, by omega⟩
    have hln : (pre ++ x :: xs).length = pre.length + (x :: xs).length := by simp
    have e1 : pre ++ [x] ++ xs = pre ++ x :: xs := by simp
    have e2 : (pre ++ [x]).length + xs.length = pre.length + (x :: xs).length := by simp; omega
    have e3 : (((pre ++ [x]).length : Nat) : Int) = (pre.length : Int) + 1 := by simp
    have hi := fun (a : Int) (h1 : 0 ≤ a) (h2 : a ≤ 2 * (pre.length : Int) + 2) => ih (pre ++ [x]) a k (by simp; omega) h1 (by rw [List.length_append, List.length_singleton]; omega) (by omega)
    rw [e1, e2, e3] at hi
    simp only [spec_tiTimes.l0]
    rw [if_pos (by omega), if_pos (by omega), hln, if_pos (by omega), g_mid, g_wrap ((pre.length : Int) + 1) (by omega) (by omega)]
    unfold tmz
    by_cases c0 : x.f0 = n
    · rw [if_pos c0, if_pos c0]
      by_cases c1 : x.f1 = n
      · rw [if_pos c1, if_pos c1, g_wrap (acc + 1) (by omega) (by omega), g_wrap (acc + 1 + 1) (by omega) (by omega), hi _ (by omega) (by omega)]
        congr 1
        omega
      · rw [if_neg c1, if_neg c1, g_wrap (acc + 1) (by omega) (by omega), hi _ (by omega) (by omega)]
        congr 1
        omega
    · rw [if_neg c0, if_neg c0]
      by_cases c1 : x.f1 = n
      · rw [if_pos c1, if_pos c1, g_wrap (acc + 1) (by omega) (by omega), hi _ (by omega) (by omega)]
        congr 1
        omega
      · rw [if_neg c1, if_neg c1, hi _ (by omega) (by omega)]
        congr 1
        omega
theorem timz_f (n : Int) (l : List S53) (h : l.length ≤ 1000) : spec_tiTimes.f 1001 l n = some (tmz n l) := by
  have := timz_l n l [] 0 1001 (by simpa using h) (by omega) (by simp) (by omega)
  simpa [spec_tiTimes.f] using this
def haLoop (hand : List S53) : Nat → Int → List Int → List Int
  | 0, _, lo => lo
  | m + 1, n, lo => if 0 < tmz n hand then haLoop hand m (n + 1) (lookL hand hand.length [n] (List.replicate hand.length false) lo) else haLoop hand m (n + 1) lo
def haLong (hand : List S53) : List Int := haLoop hand 10 0 []
/-- What lies in memory between two searches. -/
structure spec_haAll.Lb (w : World) (B gC cC : Nat) (Ah : Option Addr) (ch : Nat) (hand : List S53) (lo : List Int) (W : World) : Prop where
  below : Below w.heap.size w W
  yB : w.heap.size ≤ B
  cells : ∃ (cnt : Int) (vL vlo : Value), W.heap[B]? = some (.cells #[.slice Ah hand.length ch, .int .i64 0, .int .i64 cnt, .slice (some ⟨gC, 0, none⟩) hand.length cC, vL, vlo] 71 (0, 0)) ∧ (vL = .slice none 0 0 ∨ ∃ a c, vL = .slice (some a) 1 c) ∧ Kd.R (Kd.int .i64) 3 W w.heap.size (fun k => k ≠ gC) vlo lo
  counts : ∃ cl : List Int, cl.length = hand.length ∧ Kd.R (Kd.int .i64) 3 W w.heap.size (fun _ => True) (.slice (some ⟨gC, 0, none⟩) cl.length cC) cl
theorem spec_haLook_look.Lk.base {w : World} {B gC cC gU cU : Nat} {Ah : Option Addr} {ch : Nat} {hand : List S53} {U : List Bool} {lo : List Int} {W : World} (h : spec_haLook_look.Lk w B gC cC gU cU Ah ch hand U lo W) : spec_haAll.Lb w B gC cC Ah ch hand lo W := ⟨h.below, h.yB, h.cells, h.counts⟩
theorem spec_haAll.Lb.step {w : World} {B gC cC : Nat} {Ah : Option Addr} {ch : Nat} {hand : List S53} {lo : List Int} {W W' : World} (h : spec_haAll.Lb w B gC cC Ah ch hand lo W) (hb : Below W.heap.size W W') : spec_haAll.Lb w B gC cC Ah ch hand lo W' := by
  obtain ⟨cnt, vL, vlo, c1, c2, c3⟩ := h.cells
  obtain ⟨cl, d1, d2⟩ := h.counts
  exact ⟨h.below.trans (hb.mono h.below.size), h.yB, ⟨cnt, vL, vlo, blk_below c1 hb, c2, Kd.R_below c3 hb⟩, ⟨cl, d1, Kd.R_below d2 hb⟩⟩
theorem spec_haAll.Lb.with_ {w : World} {B gC cC gU cU : Nat} {Ah : Option Addr} {ch : Nat} {hand : List S53} {lo : List Int} {W : World} {U : List Bool} (h : spec_haAll.Lb w B gC cC Ah ch hand lo W) (hR : Kd.R Kd.bool 4 W w.heap.size (fun _ => True) (.slice (some ⟨gU, 0, none⟩) U.length cU) U) (hl : U.length = hand.length) : spec_haLook_look.Lk w B gC cC gU cU Ah ch hand U lo W := ⟨h.below, h.yB, h.cells, h.counts, hR, hl⟩
theorem info_bool : (Try.prog.info? 4).map (fun i => (i.zero, i.size, i.bytes)) = some (some (.bool false), Kd.bool.sz, 1) := by kernel_rfl
set_option maxHeartbeats 8000000 in
set_option maxRecDepth 1000000 in
theorem spec_haAll.calls (Ah : Option Addr) (ch : Nat) (hand : List S53) (w : World) (hH : Kd.C k53 w Ah hand.length hand) (hch : hand.length ≤ ch) (h1 : 1 ≤ hand.length) (hh : hand.length ≤ 1000) :
    Calls Try.prog 63 #[.slice Ah hand.length ch, .int .i64 0] w fun e w' => ∃ (B : Nat) (A : Option Addr) (c : Nat), e = .returned (.pointer (some ⟨B, 0, none⟩)) ∧ w'.cell? ⟨B, 5, none⟩ = some (.slice A (haLong hand).length c) ∧ Below w.heap.size w w' := by
  have htim := fun (n : Int) (W : World) (hb : Below w.heap.size w W) => spec_tiTimes.calls 1001 Ah ch hand n (tmz n hand) W (Kd.C_below hH hb) hch (timz_f n hand hh)
  have HTIM := Lib.hid htim
  have hz0 : (0 : Int) ≤ (hand.length : Int) := by omega
  have hz1 : ((hand.length : Int)).toNat ≤ 1000 := by omega
  have hust := Try.underlying71
  clear htim
  go_enter Try.func63, Try.ntmps63
  go_wp2_with (first
    | ((with_reducible refine gate_dst (N := 11) rfl ?_); refine Kd.R_make (Kd.int .i64) _ 3 rfl (N := 11) rfl 62 _ _ rfl (hand.length : Int) rfl rfl Try.underlying62 (.int .i64 0) 8 info3 rfl (by decide) (by omega) 0 (ok := fun _ => True) (okp := fun _ => True) rfl (fun _ hk => hk) trivial hz0 (by omega) (Below.refl _ _) (Nat.le_refl _) ?_; intro v11 w1 ho hb hg hn; obtain ⟨gC, cC, e11, _⟩ := Kd.R_form ho (by rw [List.length_replicate]; omega); rw [List.length_replicate, Int.toNat_natCast] at e11; rw [Int.toNat_natCast] at ho; subst e11; have H11 := Lib.hid ho; have HB1 := Lib.hid hb; clear ho hb hg hn)
    | ((with_reducible refine gate_dst (N := 13) rfl ?_); refine box_event ?hg (N := 13) ?hd (cs := #[.slice Ah hand.length ch, .int .i64 0, .int .i64 0, .slice (some ⟨gC, 0, none⟩) hand.length cC, .slice none 0 0, .slice none 0 0]) (t := 71) ?hr ?_; (case hd => rfl); (case hg => rfl); (case hr => first | (go_simp; done) | (go_simp; rfl)); intro B hg w2 hbox hb; have HL0 := Lib.hid (show spec_haAll.Lb w B gC cC Ah ch hand [] w2 from ⟨HB1.out.trans (hb.mono HB1.out.size), by rw [hg]; exact HB1.out.size, ⟨0, .slice none 0 0, .slice none 0 0, hbox, .inl rfl, Kd.R_nil _ _ _ _ _⟩, ⟨List.replicate hand.length 0, List.length_replicate, Kd.R_below (by rw [List.length_replicate]; exact H11.out) hb⟩⟩); clear hg hbox hb))
  go_loopg [6] 10 (fun gg s6 wr => ∃ (i : Nat) (lo : List Int), s6 = .int .i64 i ∧ i ≤ 10 ∧ 10 - i ≤ gg ∧ Hid (haLoop hand (10 - i) (i : Int) lo = haLong hand) ∧ Hid (spec_haAll.Lb w B gC cC Ah ch hand lo wr))
  case atStart => exact ⟨0, [], rfl, by omega, by omega, Lib.hid rfl, HL0⟩
  case round =>
    clear HL0 H11 HB1
    obtain ⟨i, lo, rfl, hi, hgg, HE, HL⟩ := hrel
    by_cases hlt : i < 10
    · have hltz : decide ((i : Int) ≤ 9) = true := decide_eq_true (by omega)
      obtain ⟨m, hm⟩ : ∃ m, 10 - i = m + 1 := ⟨9 - i, by omega⟩
      have hpz : decide (0 < (hand.length : Int)) = true := decide_eq_true (by omega)
      have hpz2 : 0 < (hand.length : Int) := by omega
      have he := HE.out
      rw [hm, haLoop] at he
      have HE2 := Lib.hid he
      clear he HE
      obtain ⟨tm, htm⟩ : ∃ tm, tm = tmz (i : Int) hand := ⟨_, rfl⟩
      have ht := HTIM.out (i : Int)
      rw [← htm] at ht HE2
      have HT := Lib.hid ht
      clear ht htm
      by_cases hc : 0 < tm
      · have hc1 : decide (0 < tm) = true := decide_eq_true hc
        go_wp2_with (first
          | (go_at_call 71; refine (HT.out _ HL.out.below).mono ?_; rintro e w3 ⟨rfl, hb⟩; have HL3 := Lib.hid (HL.out.step hb); clear hb)
          | ((with_reducible refine gate_dst (N := 29) rfl ?_); refine Kd.R_lit (Kd.int .i64) (w0 := w3) w3.heap.size 3 ?hg (N := 29) ?hd (xs := [(i : Int)]) (inner := [.int .i64 (i : Int)]) (ok := fun _ => True) (okp := fun _ => True) ?hr ?hp (fun _ hk => hk) trivial (Below.refl _ _) (Nat.le_refl _) (by simp) ?_; (case hd => rfl); (case hg => rfl); (case hr => first | (go_simp; done) | (go_simp; rfl)); (case hp => exact Kd.reps_scalar (enc := Value.int .i64) [(i : Int)]); intro v29 w4 ho hb hg hn; have H29 := Lib.hid ho; have HB4 := Lib.hid hb; clear ho hb hg hn)
          | ((with_reducible refine gate_dst (N := 32) rfl ?_); refine Kd.R_make Kd.bool (w0 := w4) w4.heap.size 4 rfl (N := 32) rfl 79 _ _ rfl (hand.length : Int) rfl rfl Try.underlying79 (.bool false) 1 info_bool rfl (by decide) (by omega) false (ok := fun _ => True) (okp := fun _ => True) rfl (fun _ hk => hk) trivial hz0 (by omega) (Below.refl _ _) (Nat.le_refl _) ?_; intro v32 w5 ho hb hg hn; obtain ⟨gU, cU, e32, _⟩ := Kd.R_form ho (by rw [List.length_replicate]; omega); rw [List.length_replicate, Int.toNat_natCast] at e32; rw [Int.toNat_natCast] at ho; subst e32; have H32 := Lib.hid ho; have HB5 := Lib.hid hb; clear ho hb hg hn
             obtain ⟨A29, c29, e29⟩ := Kd.R_slice H29.out
             have hb4 := HB4.out
             have hb35 : Below w3.heap.size w3 w5 := hb4.trans (HB5.out.mono hb4.size)
             have hLk := (HL3.out.step hb35).with_ (gU := gU) (cU := cU) (U := List.replicate hand.length false) (by rw [List.length_replicate]; exact Kd.R_lower H32.out (Nat.le_trans HL3.out.below.size hb4.size)) List.length_replicate
             have hgC3 : gC < w3.heap.size := by obtain ⟨cl, _, d2⟩ := HL3.out.counts; exact Kd.R_lt d2 gC rfl
             have hrow := fresh_gC (w := w) (Kd.R_below H29.out HB5.out) hgC3 HL3.out.below.size
             have hsay := spec_haLook_look.says w B gC cC gU cU Ah ch hand hh hH hch hand.length [(i : Int)] A29 c29 (List.replicate hand.length false) lo w5 hLk (Nat.le_refl _) (by simp; omega) (by intro x hx; simp at hx; omega) (fun W' hk hb => by obtain ⟨_, hB⟩ := hLk.bblk; obtain ⟨_, hU⟩ := hLk.ublk; rw [e29] at hrow; exact (Kd.R_reads' (hk.row hrow hB hU (by decide) (by decide))).2.2) (by have h := Kd.R_below H29.out HB5.out; rw [e29] at h; exact (Kd.R_reads' h).2.1)
             rw [← e29] at hsay
             have HSAY := Lib.hid hsay
             clear hsay hLk hrow hb35 hb4 hgC3 e29)
          | (go_at_call 72; refine HSAY.out.mono ?_; rintro e w6 ⟨rfl, hL6, _⟩; have HL6 := Lib.hid hL6.base; clear hL6))
        go_roundg (10 - (i + 1))
        case measure => omega
        case rel =>
          refine ⟨i + 1, _, by go_num, by omega, Nat.le_refl _, Lib.hid ?_, HL6⟩
          have he := HE2.out
          rw [if_pos hc] at he
          rw [show 10 - (i + 1) = m from by omega]
          exact he
      · have hc1 : decide (0 < tm) = false := decide_eq_false hc
        go_wp2_with (go_at_call 71; refine (HT.out _ HL.out.below).mono ?_; rintro e w3 ⟨rfl, hb⟩; have HL3 := Lib.hid (HL.out.step hb); clear hb)
        go_roundg (10 - (i + 1))
        case measure => omega
        case rel =>
          refine ⟨i + 1, lo, by go_num, by omega, Nat.le_refl _, Lib.hid ?_, HL3⟩
          have he := HE2.out
          rw [if_neg (by omega)] at he
          rw [show 10 - (i + 1) = m from by omega]
          exact he
    · obtain rfl : i = 10 := by omega
      have hltz : decide (((10 : Nat) : Int) ≤ 9) = false := by decide
      go_wp2_with (fail)
      go_ret
      have he := HE.out
      simp only [Nat.sub_self, haLoop] at he
      obtain ⟨cnt, vL, vlo, c1, _, c3⟩ := HL.out.cells
      obtain ⟨A, c, rfl⟩ := Kd.R_slice c3
      exact ⟨B, A, c, rfl, by rw [← he]; exact (blk_cell c1 5).trans rfl, HL.out.below⟩

/-! ### spec_dcChains: function 42, by hand -/
/-! ### spec.dcChains: how many hands are laid as one chain -/
def dcLoop (f : List S53 → List S53 → Int) (begun : List S53) : List S53 → Int
  | [] => 0
  | t :: ts => f ts (begun ++ [t]) + dcLoop f begun ts
def dcN : Nat → List S53 → List S53 → Int
  | 0, _, begun => if ((haLong begun).length : Int) = (begun.length : Int) + 1 then 1 else 0
  | k + 1, set, begun => dcLoop (fun s b => dcN k s b) begun set
def spec_dcChains.Says (k : Nat) : Prop :=
  ∀ (set begun : List S53) (A : Option Addr) (c : Nat) (A2 : Option Addr) (c2 : Nat) (W : World), Kd.C k53 W A set.length set → set.length ≤ c → Kd.C k53 W A2 begun.length begun → begun.length ≤ c2 → set.length ≤ 1000 → begun.length + k ≤ 1000 → 1 ≤ begun.length + k →
    Calls Try.prog 42 #[.slice A set.length c, .int .i64 (k : Int), .slice A2 begun.length c2] W fun e W' => e = .returned (.int .i64 (wrap64 (dcN k set begun))) ∧ Below W.heap.size W W'
set_option maxHeartbeats 4000000 in
set_option maxRecDepth 1000000 in
theorem spec_dcChains.leaf : spec_dcChains.Says 0 := by
  intro set begun A c A2 c2 W hs hc hb hc2 h1 h2 h3
  have hha := spec_haAll.calls A2 c2 begun W hb hc2 (by omega) (by omega)
  have hw : wrap64 ((begun.length : Int) + 1) = (begun.length : Int) + 1 := g_wrap _ (by omega) (by omega)
  have hw0 : wrap64 0 = 0 := g_wrap _ (by omega) (by omega)
  have hw1 : wrap64 1 = 1 := g_wrap _ (by omega) (by omega)
  clear hs hb
  by_cases hq : ((haLong begun).length : Int) = (begun.length : Int) + 1
  · have hq1 : decide (((haLong begun).length : Int) = (begun.length : Int) + 1) = true := decide_eq_true hq
    have hq2 : (((haLong begun).length : Int) == (begun.length : Int) + 1) = true := by rw [beq_iff_eq]; exact hq
    have hd : dcN 0 set begun = 1 := by unfold dcN; rw [if_pos hq]
    rw [hd, hw1]
    clear hq
    go_enter Try.func42, Try.ntmps42
    go_wp2_with (go_at_call 63; refine hha.mono ?_; rintro e w1 ⟨B, A5, c5, rfl, hcell, hb1⟩)
    go_ret
    exact ⟨rfl, hb1⟩
  · have hq1 : decide (((haLong begun).length : Int) = (begun.length : Int) + 1) = false := decide_eq_false hq
    have hq2 : (((haLong begun).length : Int) == (begun.length : Int) + 1) = false := by rw [beq_eq_false_iff_ne]; exact hq
    have hd : dcN 0 set begun = 0 := by unfold dcN; rw [if_neg hq]
    rw [hd, hw0]
    clear hq
    go_enter Try.func42, Try.ntmps42
    go_wp2_with (go_at_call 63; refine hha.mono ?_; rintro e w1 ⟨B, A5, c5, rfl, hcell, hb1⟩)
    go_ret
    exact ⟨rfl, hb1⟩
theorem spec_dcChains.info : (Try.prog.info? 53).map (fun i => (i.zero, i.size, i.bytes)) = some (some (.agg #[(.int .i64 0), (.int .i64 0)]), k53.sz, 16) := by kernel_rfl
theorem spec_dcChains.one_tile (W : World) (base : Nat) (ok : Nat → Prop) (t : S53) : Reps (k53.M W base ok) k53.sz [t] [.int .i64 t.f0, .int .i64 t.f1] := by
  refine ⟨rfl, fun j p hj => ?_⟩
  cases j with
  | zero =>
    simp only [List.getElem?_cons_zero, Option.some.injEq] at hj
    subst hj
    exact k53_mkM _ _ _ t
  | succ j => simp at hj
set_option maxHeartbeats 4000000 in
set_option maxRecDepth 1000000 in
theorem spec_dcChains.node (k : Nat) (hrec : spec_dcChains.Says k) : spec_dcChains.Says (k + 1) := by
  intro set begun A c A2 c2 W hs hc hb hc2 h1 h2 h3
  have HE0 := Lib.hid (show wrap64 (0 + dcLoop (fun s b => dcN k s b) begun (set.drop 0)) = wrap64 (dcN (k + 1) set begun) from by rw [List.drop_zero, Int.zero_add]; rfl)
  have hk0 : (((k + 1 : Nat) : Int) == 0) = false := by rw [beq_eq_false_iff_ne]; omega
  have hk1 : decide (((k + 1 : Nat) : Int) = 0) = false := decide_eq_false (by omega)
  have HS := Lib.hid hs
  have HB := Lib.hid hb
  have HREC := Lib.hid hrec
  clear hs hb hrec
  generalize wrap64 (dcN (k + 1) set begun) = total at HE0 ⊢
  generalize hkk : ((k + 1 : Nat) : Int) = kk at hk0 hk1 ⊢
  have HKK := Lib.hid hkk
  clear hkk
  go_enter Try.func42, Try.ntmps42
  go_wp2_with (fail)
  go_loopg [7, 24] set.length (fun gg s7 s24 wr => ∃ (i : Nat) (n : Int), s7 = .int .i64 n ∧ s24 = .int .i64 i ∧ i ≤ set.length ∧ set.length - i ≤ gg ∧ Hid (wrap64 n = n) ∧ Hid (wrap64 (n + dcLoop (fun s b => dcN k s b) begun (set.drop i)) = total) ∧ Hid (Below W.heap.size W wr))
  case atStart => exact ⟨0, 0, rfl, rfl, by omega, by omega, Lib.hid (g_wrap 0 (by omega) (by omega)), HE0, Lib.hid (Below.refl _ _)⟩
  case round =>
    clear HE0
    obtain ⟨i, n, rfl, rfl, hi, hgg, HN, HE, HBW⟩ := hrel
    by_cases hlt : i < set.length
    · obtain ⟨ad, e, hx0, hx1⟩ := at_T53 HS.out (i : Int) (by omega) (by omega)
      subst e
      rw [show ((i : Int)).toNat = i from rfl] at hx0 hx1
      replace hx0 := (HBW.out.cell (World.block_lt_of_cell? W _ hx0)).trans hx0
      replace hx1 := (HBW.out.cell (World.block_lt_of_cell? W _ hx1)).trans hx1
      have hdrop : set.drop i = rd_T53 set (i : Int) :: set.drop (i + 1) := by
        rw [List.drop_eq_getElem_cons hlt]
        congr 1
        unfold rd_T53
        rw [show ((i : Int)).toNat = i from rfl, List.getD_eq_getElem?_getD, List.getElem?_eq_getElem hlt]
        rfl
      generalize rd_T53 set (i : Int) = t at hx0 hx1 hdrop
      have he := HE.out
      rw [hdrop, dcLoop] at he
      have HE2 := Lib.hid he
      have hltz : (i : Int) < (set.length : Int) := by omega
      have huel := Try.underlying53
      clear he hdrop HE
      go_wp2_with (((with_reducible refine gate_dst (N := 9) rfl ?_); refine box_event ?hg (N := 9) ?hd (cs := #[.int .i64 0, .int .i64 0]) (t := 53) ?hr ?_; (case hd => rfl); (case hg => rfl); (case hr => first | (go_simp; done) | (go_simp; rfl)); intro gb hg w8 hbox hb; have BK := Lib.hid hbox; have HGB := Lib.hid hg; have HB8 := Lib.hid hb; clear hb hbox hg; have hcz0 : w8.cell? ⟨gb, 0, none⟩ = some (.int .i64 0) := (blk_cell BK.out 0).trans rfl; have hcz1 : w8.cell? ⟨gb, 1, none⟩ = some (.int .i64 0) := (blk_cell BK.out 1).trans rfl; have hfz0 := blk_frozen BK.out 0; have hfz1 := blk_frozen BK.out 1))
      have hb2 := blk_put BK.out 0 (.int .i64 t.f0) rfl
      have hb3 := blk_put hb2 1 (.int .i64 t.f1) rfl
      have hbl : Below wr.heap.size wr ((w8.setCell ⟨gb, 0, none⟩ (.int .i64 t.f0)).setCell ⟨gb, 1, none⟩ (.int .i64 t.f1)) := (HB8.out.setCell (by rw [HGB.out]; exact Nat.le_refl _) _).setCell (by rw [HGB.out]; exact Nat.le_refl _) _
      clear hb2 hcz0 hcz1 hfz0 hfz1 BK HGB HB8
      generalize (w8.setCell ⟨gb, 0, none⟩ (.int .i64 t.f0)).setCell ⟨gb, 1, none⟩ (.int .i64 t.f1) = wa at hb3 hbl ⊢
      have hdr : Below wa.heap.size wa wa.drew := below_drew1 (Below.refl _ _)
      have HT := Lib.hid (blk_below hb3 hdr)
      have HW := Lib.hid (HBW.out.trans ((hbl.trans (hdr.mono hbl.size)).mono HBW.out.size))
      have hs0 : wa.drew.cell? ⟨gb, 0, none⟩ = some (.int .i64 t.f0) ∧ wa.drew.cell? ⟨gb, 1, none⟩ = some (.int .i64 t.f1) := ⟨(blk_cell HT.out 0).trans rfl, (blk_cell HT.out 1).trans rfl⟩
      have hwi : wrap64 ((i : Int) + 1) = ((i + 1 : Nat) : Int) := by rw [g_wrap _ (by omega) (by omega)]; omega
      have hwk : wrap64 (kk - 1) = (k : Int) := by rw [← HKK.out, g_wrap _ (by omega) (by omega)]; omega
      have hj0 : (0 ≤ ((i + 1 : Nat) : Int)) = True := eq_true (by omega)
      have hj1 : (((i + 1 : Nat) : Int) ≤ (set.length : Int)) = True := eq_true (by omega)
      have hj4 : (0 ≤ (i : Int) + 1) = True := eq_true (by omega)
      have hj5 : ((i : Int) + 1 ≤ (set.length : Int)) = True := eq_true (by omega)
      have hj2 : i + 1 ≤ set.length := by omega
      have hj3 : i + 1 ≤ c := by omega
      refine start_ (n := 16) (S := fun w' => w'.cell? ⟨gb, 0, none⟩ = some (.int .i64 t.f0) ∧ w'.cell? ⟨gb, 1, none⟩ = some (.int .i64 t.f1)) (ds := []) #[false, false, false, false, false, false, false, false, false, false, false, false, false, false, false, false] (by kernel_rfl) rfl rfl hs0 (fun hHeld => ?_)
      clear hs0 hb3 hbl hdr hx0 hx1
      generalize wa.drew = wq at HT HW hHeld ⊢
      have HSQ := Lib.hid (show ∀ w', Below wq.heap.size wq w' → (w'.cell? ⟨gb, 0, none⟩ = some (.int .i64 t.f0) ∧ w'.cell? ⟨gb, 1, none⟩ = some (.int .i64 t.f1)) from fun w' hb => ⟨(blk_cell (blk_below HT.out hb) 0).trans rfl, (blk_cell (blk_below HT.out hb) 1).trans rfl⟩)
      have HQ := Lib.hid (Below.refl wq.heap.size wq)
      refine pure_ (i := 0) (N := (some 29)) (v := ?_) (a' := ?_) #[true, false, false, false, false, false, false, false, false, false, false, false, false, false, false, false] rfl rfl (by kernel_rfl) (fun _ _ _ h => h) (Or.inl ⟨by rfl, ?_⟩) ?_ ?_
      rotate_left
      · intro w'
        go_simp
        with_reducible rfl
      rotate_left
      · simp only [Act.put, List.setIfInBounds_toArray, List.set_cons_zero, List.set_cons_succ, i64_w, i32_w]
        rfl
      refine pure_ (i := 1) (N := (some 30)) (v := ?_) (a' := ?_) #[true, true, false, false, false, false, false, false, false, false, false, false, false, false, false, false] rfl rfl (by kernel_rfl) (fun _ _ _ h => h) (Or.inl ⟨by rfl, ?_⟩) ?_ ?_
      rotate_left
      · intro w'
        go_simp
        with_reducible rfl
      rotate_left
      · simp only [Act.put, List.setIfInBounds_toArray, List.set_cons_zero, List.set_cons_succ, i64_w, i32_w]
        rfl
      refine pure_ (i := 2) (N := (some 31)) (v := ?_) (a' := ?_) #[true, true, true, false, false, false, false, false, false, false, false, false, false, false, false, false] rfl rfl (by kernel_rfl) (fun _ _ _ h => h) (Or.inl ⟨by rfl, ?_⟩) ?_ ?_
      rotate_left
      · intro w'
        go_simp
        with_reducible rfl
      rotate_left
      · simp only [Act.put, List.setIfInBounds_toArray, List.set_cons_zero, List.set_cons_succ, i64_w, i32_w]
        rfl
      refine pure_ (i := 3) (N := (some 32)) (v := ?_) (a' := ?_) #[true, true, true, true, false, false, false, false, false, false, false, false, false, false, false, false] rfl rfl (by kernel_rfl) (fun _ _ _ h => h) (Or.inl ⟨by rfl, ?_⟩) ?_ ?_
      rotate_left
      · intro w'
        go_simp
        with_reducible rfl
      rotate_left
      · simp only [Act.put, List.setIfInBounds_toArray, List.set_cons_zero, List.set_cons_succ, i64_w, i32_w]
        rfl
      rw [hwi]
      refine pure_ (i := 4) (N := (some 33)) (v := ?_) (a' := ?_) #[true, true, true, true, true, false, false, false, false, false, false, false, false, false, false, false] rfl rfl (by kernel_rfl) (fun _ _ _ h => h) (Or.inl ⟨by rfl, ?_⟩) ?_ ?_
      rotate_left
      · intro w'
        go_simp
        with_reducible rfl
      rotate_left
      · simp only [Act.put, List.setIfInBounds_toArray, List.set_cons_zero, List.set_cons_succ, i64_w, i32_w]
        rfl
      obtain ⟨Ad, hAd⟩ : ∃ Ad : Option Addr, Ad = (if c = i + 1 then some ad else some (ad.add ((i + 1) * 2))) := ⟨_, rfl⟩
      rw [← hAd]
      have HAD := Lib.hid hAd
      clear hAd
      refine pure_ (i := 5) (N := (some 34)) (v := ?_) (a' := ?_) #[true, true, true, true, true, true, false, false, false, false, false, false, false, false, false, false] rfl rfl (by kernel_rfl) (fun _ _ _ h => h) (Or.inl ⟨by rfl, ?_⟩) ?_ ?_
      rotate_left
      · intro w'
        go_simp
        with_reducible rfl
      rotate_left
      · simp only [Act.put, List.setIfInBounds_toArray, List.set_cons_zero, List.set_cons_succ, i64_w, i32_w]
        rfl
      refine pure_ (i := 6) (N := (some 35)) (v := ?_) (a' := ?_) #[true, true, true, true, true, true, true, false, false, false, false, false, false, false, false, false] rfl rfl (by kernel_rfl) (fun _ _ _ h => h) (Or.inl ⟨by rfl, ?_⟩) ?_ ?_
      rotate_left
      · intro w'
        go_simp
        with_reducible rfl
      rotate_left
      · simp only [Act.put, List.setIfInBounds_toArray, List.set_cons_zero, List.set_cons_succ, i64_w, i32_w]
        rfl
      rw [hwk]
      refine pure_ (i := 8) (N := (some 37)) (v := ?_) (a' := ?_) #[true, true, true, true, true, true, true, false, true, false, false, false, false, false, false, false] rfl rfl (by kernel_rfl) (fun _ _ _ h => h) (Or.inl ⟨by rfl, ?_⟩) ?_ ?_
      rotate_left
      · intro w'
        go_simp
        with_reducible rfl
      rotate_left
      · simp only [Act.put, List.setIfInBounds_toArray, List.set_cons_zero, List.set_cons_succ, i64_w, i32_w]
        rfl
      refine take_ (i := 10) (N := (some 39)) (v := ?_) (a' := ?_) #[true, true, true, true, true, true, true, false, true, false, true, false, false, false, false, false] rfl rfl (by kernel_rfl) (fun _ _ _ h => h) (Or.inl ⟨by rfl, ?_⟩) hHeld ?_ ?_
      rotate_left
      · intro w' ⟨s0, s1⟩
        go_simp
        with_reducible rfl
      rotate_left
      · simp only [Act.put, List.setIfInBounds_toArray, List.set_cons_zero, List.set_cons_succ, i64_w, i32_w]
        rfl
      refine join_ (σ := Value × Value × Value) 4 #[true, true, true, true, true, true, true, true, true, true, true, true, false, false, false, false] (fun s_ => [(36, s_.1), (38, s_.2.1), (40, s_.2.2)]) (fun s_ w' => Below wq.heap.size wq w' ∧ Kd.R k53 53 w' wq.heap.size (fun _ => True) s_.2.1 begun ∧ Kd.R k53 53 w' wq.heap.size (fun _ => True) s_.2.2 [t]) ?_ ?_
      rotate_left
      · intro hCont
        refine two_ (i := 7) (j := 11) (Ni := some 36) (Nj := some 40) #[true, true, true, true, true, true, true, true, true, false, true, false, false, false, false, false] #[true, true, true, true, true, true, true, false, true, false, true, true, false, false, false, false] rfl rfl rfl rfl (by kernel_rfl) (by decide) (by decide) (fun K hK => ?_) (fun K hK => ?_)
        · skip
          refine Kd.R_lit_step k53 wq.heap.size 53 ?hg (N := 36) ?hd (xs := ([] : List S53)) (inner := []) (ok := fun _ => True) (okp := fun _ => True) ?hr ?hp (fun _ hk => hk) trivial HQ.out HQ.out.size (by simp) ?_; (case hd => rfl); (case hg => rfl); (case hr => first | (go_simp; done) | (go_simp; rfl)); (case hp => exact Reps.none _ _)
          intro v36 w1 ho hb hg hnew
          have H36 := Lib.hid ho
          have HQ1 := Lib.hid hb
          clear ho hb hg hnew
          refine hK.out _ _ (HSQ.out _ HQ1.out) (fun hHeld => ?_)
          clear hK K
          refine norm_ (a' := ?_) ?_ ?_
          rotate_left
          · show Act.put _ (some 36) _ = _
            simp only [Act.put, List.setIfInBounds_toArray, List.set_cons_zero, List.set_cons_succ, i64_w, i32_w]
            rfl
          refine two_ (i := 9) (j := 11) (Ni := some 38) (Nj := some 40) #[true, true, true, true, true, true, true, true, true, true, true, false, false, false, false, false] #[true, true, true, true, true, true, true, true, true, false, true, true, false, false, false, false] rfl rfl rfl rfl (by kernel_rfl) (by decide) (by decide) (fun K hK => ?_) (fun K hK => ?_)
          · skip
            refine Kd.R_append_rows_step k53 (w0 := wq) wq.heap.size (by rfl) (.tmp 36) (.tmp 37) 46 53 (.agg #[(.int .i64 0), (.int .i64 0)]) 16 rfl Try.underlying46 spec_dcChains.info rfl (by decide) (by omega) v36 ([] : List S53) begun A2 begun.length c2 (fun _ => True) (fun _ => False) rfl rfl ?aO ?aR (fun _ _ h => h) (fun _ h => h.elim) ?aF ?aB ?aS ?aL ?_
            (case aO => exact H36.out)
            (case aR => exact Kd.C_below HB.out (HW.out.trans (HQ1.out.mono HW.out.size)))
            (case aF => exact (fun _ _ => trivial))
            (case aB => exact HQ1.out)
            (case aS => exact HQ1.out.size)
            (case aL => first | omega | (simp only [List.length_nil]; omega))
            intro v38 w2 ho hb hg hat
            have H38 := Lib.hid ho
            have HQ2 := Lib.hid hb
            clear ho hb hg hat
            refine hK.out _ _ (HSQ.out _ HQ2.out) (fun hHeld => ?_)
            clear hK K
            refine norm_ (a' := ?_) ?_ ?_
            rotate_left
            · show Act.put _ (some 38) _ = _
              simp only [Act.put, List.setIfInBounds_toArray, List.set_cons_zero, List.set_cons_succ, i64_w, i32_w]
              rfl
            refine one_ (i := 11) (N := some 40) #[true, true, true, true, true, true, true, true, true, true, true, true, false, false, false, false] rfl rfl (by kernel_rfl) (by decide) (fun K hK => ?_)
            refine Kd.R_lit_step k53 wq.heap.size 53 ?hg (N := 40) ?hd (xs := [t]) (inner := [.int .i64 t.f0, .int .i64 t.f1]) (ok := fun _ => True) (okp := fun _ => True) ?hr ?hp (fun _ hk => hk) trivial HQ2.out HQ2.out.size (by simp) ?_; (case hd => rfl); (case hg => rfl); (case hr => first | (go_simp; done) | (go_simp; rfl)); (case hp => exact spec_dcChains.one_tile _ _ _ t)
            intro v40 w3 ho hb hg hnew
            have H38 := Lib.hid (Kd.R_grown H38.out hg (fun _ _ => by simp))
            have H40 := Lib.hid ho
            have H40b := Lib.hid ho
            have HQ3 := Lib.hid hb
            clear ho hb hg hnew
            refine hK.out _ _ (HSQ.out _ HQ3.out) (fun hHeld => ?_)
            clear hK K
            refine norm_ (a' := ?_) ?_ ?_
            rotate_left
            · show Act.put _ (some 40) _ = _
              simp only [Act.put, List.setIfInBounds_toArray, List.set_cons_zero, List.set_cons_succ, i64_w, i32_w]
              rfl
            exact norm_ (by simp only [putAll, Act.put, List.setIfInBounds_toArray, List.set_cons_zero, List.set_cons_succ] <;> rfl) (hCont (v36, v38, v40) _ ⟨HQ3.out, H38.out, H40.out⟩)
          · skip
            refine Kd.R_lit_step k53 wq.heap.size 53 ?hg (N := 40) ?hd (xs := [t]) (inner := [.int .i64 t.f0, .int .i64 t.f1]) (ok := fun _ => True) (okp := fun _ => True) ?hr ?hp (fun _ hk => hk) trivial HQ1.out HQ1.out.size (by simp) ?_; (case hd => rfl); (case hg => rfl); (case hr => first | (go_simp; done) | (go_simp; rfl)); (case hp => exact spec_dcChains.one_tile _ _ _ t)
            intro v40 w2 ho hb hg hnew
            have HNE := Lib.hid (show ∀ k, v40.ownBlock = some k → some k ≠ v36.ownBlock from fun k hk e => by obtain ⟨b, h1, h2⟩ := hnew; rw [hk] at h1; injection h1 with h1; have := Kd.R_lt H36.out k e.symm; omega)
            have H36 := Lib.hid (Kd.R_grown H36.out hg (fun _ _ => by simp))
            have H40 := Lib.hid ho
            have H40b := Lib.hid ho
            have HQ2 := Lib.hid hb
            clear ho hb hg hnew
            refine hK.out _ _ (HSQ.out _ HQ2.out) (fun hHeld => ?_)
            clear hK K
            refine norm_ (a' := ?_) ?_ ?_
            rotate_left
            · show Act.put _ (some 40) _ = _
              simp only [Act.put, List.setIfInBounds_toArray, List.set_cons_zero, List.set_cons_succ, i64_w, i32_w]
              rfl
            refine one_ (i := 9) (N := some 38) #[true, true, true, true, true, true, true, true, true, true, true, true, false, false, false, false] rfl rfl (by kernel_rfl) (by decide) (fun K hK => ?_)
            refine Kd.R_append_rows_step k53 (w0 := wq) wq.heap.size (by rfl) (.tmp 36) (.tmp 37) 46 53 (.agg #[(.int .i64 0), (.int .i64 0)]) 16 rfl Try.underlying46 spec_dcChains.info rfl (by decide) (by omega) v36 ([] : List S53) begun A2 begun.length c2 (fun _ => True) (fun _ => False) rfl rfl ?aO ?aR (fun _ _ h => h) (fun _ h => h.elim) ?aF ?aB ?aS ?aL ?_
            (case aO => exact H36.out)
            (case aR => exact Kd.C_below HB.out (HW.out.trans (HQ2.out.mono HW.out.size)))
            (case aF => exact (fun _ _ => trivial))
            (case aB => exact HQ2.out)
            (case aS => exact HQ2.out.size)
            (case aL => first | omega | (simp only [List.length_nil]; omega))
            intro v38 w3 ho hb hg hat
            have H40 := Lib.hid (Kd.R_mono (Kd.R_step (Kd.R_tight rfl H40.out) (fun k hk hlt => hg.block k hlt (HNE.out k hk.symm))) (fun _ _ => trivial))
            have H38 := Lib.hid ho
            have HQ3 := Lib.hid hb
            clear ho hb hg hat
            refine hK.out _ _ (HSQ.out _ HQ3.out) (fun hHeld => ?_)
            clear hK K
            refine norm_ (a' := ?_) ?_ ?_
            rotate_left
            · show Act.put _ (some 38) _ = _
              simp only [Act.put, List.setIfInBounds_toArray, List.set_cons_zero, List.set_cons_succ, i64_w, i32_w]
              rfl
            exact norm_ (by simp only [putAll, Act.put, List.setIfInBounds_toArray, List.set_cons_zero, List.set_cons_succ] <;> rfl) (hCont (v36, v38, v40) _ ⟨HQ3.out, H38.out, H40.out⟩)
        · skip
          refine Kd.R_lit_step k53 wq.heap.size 53 ?hg (N := 40) ?hd (xs := [t]) (inner := [.int .i64 t.f0, .int .i64 t.f1]) (ok := fun _ => True) (okp := fun _ => True) ?hr ?hp (fun _ hk => hk) trivial HQ.out HQ.out.size (by simp) ?_; (case hd => rfl); (case hg => rfl); (case hr => first | (go_simp; done) | (go_simp; rfl)); (case hp => exact spec_dcChains.one_tile _ _ _ t)
          intro v40 w1 ho hb hg hnew
          have H40 := Lib.hid ho
          have H40b := Lib.hid ho
          have HQ1 := Lib.hid hb
          clear ho hb hg hnew
          refine hK.out _ _ (HSQ.out _ HQ1.out) (fun hHeld => ?_)
          clear hK K
          refine norm_ (a' := ?_) ?_ ?_
          rotate_left
          · show Act.put _ (some 40) _ = _
            simp only [Act.put, List.setIfInBounds_toArray, List.set_cons_zero, List.set_cons_succ, i64_w, i32_w]
            rfl
          refine one_ (i := 7) (N := some 36) #[true, true, true, true, true, true, true, true, true, false, true, true, false, false, false, false] rfl rfl (by kernel_rfl) (by decide) (fun K hK => ?_)
          refine Kd.R_lit_step k53 wq.heap.size 53 ?hg (N := 36) ?hd (xs := ([] : List S53)) (inner := []) (ok := fun _ => True) (okp := fun _ => True) ?hr ?hp (fun _ hk => hk) trivial HQ1.out HQ1.out.size (by simp) ?_; (case hd => rfl); (case hg => rfl); (case hr => first | (go_simp; done) | (go_simp; rfl)); (case hp => exact Reps.none _ _)
          intro v36 w2 ho hb hg hnew
          have H40 := Lib.hid (Kd.R_grown H40.out hg (fun _ _ => by simp))
          have HNE := Lib.hid (show ∀ k, v40.ownBlock = some k → some k ≠ v36.ownBlock from fun k hk e => by obtain ⟨b, h1, h2⟩ := hnew; rw [h1] at e; injection e with e; have := Kd.R_lt H40b.out k hk; omega)
          have H36 := Lib.hid ho
          have HQ2 := Lib.hid hb
          clear ho hb hg hnew
          refine hK.out _ _ (HSQ.out _ HQ2.out) (fun hHeld => ?_)
          clear hK K
          refine norm_ (a' := ?_) ?_ ?_
          rotate_left
          · show Act.put _ (some 36) _ = _
            simp only [Act.put, List.setIfInBounds_toArray, List.set_cons_zero, List.set_cons_succ, i64_w, i32_w]
            rfl
          refine one_ (i := 9) (N := some 38) #[true, true, true, true, true, true, true, true, true, true, true, true, false, false, false, false] rfl rfl (by kernel_rfl) (by decide) (fun K hK => ?_)
          refine Kd.R_append_rows_step k53 (w0 := wq) wq.heap.size (by rfl) (.tmp 36) (.tmp 37) 46 53 (.agg #[(.int .i64 0), (.int .i64 0)]) 16 rfl Try.underlying46 spec_dcChains.info rfl (by decide) (by omega) v36 ([] : List S53) begun A2 begun.length c2 (fun _ => True) (fun _ => False) rfl rfl ?aO ?aR (fun _ _ h => h) (fun _ h => h.elim) ?aF ?aB ?aS ?aL ?_
          (case aO => exact H36.out)
          (case aR => exact Kd.C_below HB.out (HW.out.trans (HQ2.out.mono HW.out.size)))
          (case aF => exact (fun _ _ => trivial))
          (case aB => exact HQ2.out)
          (case aS => exact HQ2.out.size)
          (case aL => first | omega | (simp only [List.length_nil]; omega))
          intro v38 w3 ho hb hg hat
          have H40 := Lib.hid (Kd.R_mono (Kd.R_step (Kd.R_tight rfl H40.out) (fun k hk hlt => hg.block k hlt (HNE.out k hk.symm))) (fun _ _ => trivial))
          have H38 := Lib.hid ho
          have HQ3 := Lib.hid hb
          clear ho hb hg hat
          refine hK.out _ _ (HSQ.out _ HQ3.out) (fun hHeld => ?_)
          clear hK K
          refine norm_ (a' := ?_) ?_ ?_
          rotate_left
          · show Act.put _ (some 38) _ = _
            simp only [Act.put, List.setIfInBounds_toArray, List.set_cons_zero, List.set_cons_succ, i64_w, i32_w]
            rfl
          exact norm_ (by simp only [putAll, Act.put, List.setIfInBounds_toArray, List.set_cons_zero, List.set_cons_succ] <;> rfl) (hCont (v36, v38, v40) _ ⟨HQ3.out, H38.out, H40.out⟩)
      clear HQ hHeld
      rintro ⟨v36, v38, v40⟩ w6 ⟨hq, h38, h40⟩
      refine norm_ (a' := ?_) ?_ ?_
      rotate_left
      · simp only [putAll, Act.put, List.setIfInBounds_toArray, List.set_cons_zero, List.set_cons_succ]
        rfl
      obtain ⟨A40, c40, rfl⟩ := Kd.R_slice h40
      have HQ := Lib.hid hq
      have H38 := Lib.hid h38
      have H40 := Lib.hid h40
      clear hq h38 h40
      refine one_ (i := 12) (N := some 41) #[true, true, true, true, true, true, true, true, true, true, true, true, true, false, false, false] rfl rfl (by kernel_rfl) (by decide) (fun K hK => ?_)
      refine Kd.R_append_rows_step k53 (w0 := wq) wq.heap.size (by rfl) (.tmp 38) (.tmp 40) 46 53 (.agg #[(.int .i64 0), (.int .i64 0)]) 16 rfl Try.underlying46 spec_dcChains.info rfl (by decide) (by omega) v38 begun [t] A40 1 c40 (fun _ => True) (fun _ => False) rfl rfl ?aO ?aR (fun _ _ h => h) (fun _ h => h.elim) ?aF ?aB ?aS ?aL ?_
      (case aO => exact H38.out)
      (case aR => exact (Kd.R_reads' H40.out).2.2)
      (case aF => exact (fun _ _ => trivial))
      (case aB => exact HQ.out)
      (case aS => exact HQ.out.size)
      (case aL => first | omega | (simp only [List.length_singleton]; omega))
      intro v41 w7 ho hb hg hat
      have H41 := Lib.hid ho
      have HQ := Lib.hid hb
      clear ho hb hg hat H38 H40
      refine hK.out _ _ (HSQ.out _ HQ.out) (fun hHeld => ?_)
      clear hK K
      refine norm_ (a' := ?_) ?_ ?_
      rotate_left
      · show Act.put _ (some 41) _ = _
        simp only [Act.put, List.setIfInBounds_toArray, List.set_cons_zero, List.set_cons_succ, i64_w, i32_w]
        rfl
      refine one_ (i := 13) (N := some 42) #[true, true, true, true, true, true, true, true, true, true, true, true, true, true, false, false] rfl rfl (by kernel_rfl) (by decide) (fun K hK => ?_)
      obtain ⟨A41, c41, e41⟩ := Kd.R_slice H41.out
      have hbW := HW.out.trans (HQ.out.mono HW.out.size)
      have hrc := HREC.out (set.drop (i + 1)) (begun ++ [t]) Ad (c - (i + 1)) A41 c41 w7 (by rw [HAD.out]; exact Kd.C_below (Kd.C_drop HS.out hj2 hc) hbW) (by rw [List.length_drop]; omega) (by have h := (Kd.R_reads' (by rw [← e41]; exact H41.out) : _); exact h.2.2) (by have h := (Kd.R_reads' (by rw [← e41]; exact H41.out) : _); exact h.2.1) (by rw [List.length_drop]; omega) (by rw [List.length_append, List.length_singleton]; omega) (by rw [List.length_append, List.length_singleton]; omega)
      rw [← e41, List.length_drop] at hrc
      have HRC := Lib.hid hrc
      have HBW2 := Lib.hid hbW
      clear hrc hbW e41
      refine goes_ Try.func42 (by kernel_rfl) rfl #[.slice Ad (set.length - (i + 1)) (c - (i + 1)), .int .i64 (k : Int), v41] (by rfl) rfl rfl (by (try simp only [List.map_toArray, List.map_cons, List.map_nil]); first | done | rfl) ?_
      with_reducible refine HRC.out.mono ?_
      rintro e w8 ⟨rfl, hb8⟩
      refine ⟨_, rfl, ?_⟩
      have HQ8 := Lib.hid (HQ.out.trans (hb8.mono HQ.out.size))
      have HBW3 := Lib.hid (HBW2.out.trans (hb8.mono HBW2.out.size))
      clear hb8
      refine hK.out _ _ (HSQ.out _ HQ8.out) (fun hHeld => ?_)
      clear hK K
      refine norm_ (a' := ?_) ?_ ?_
      rotate_left
      · show Act.put _ (some 42) _ = _
        simp only [Act.put, List.setIfInBounds_toArray, List.set_cons_zero, List.set_cons_succ, i64_w, i32_w]
        rfl
      refine pure_ (i := 14) (N := (some 43)) (v := ?_) (a' := ?_) #[true, true, true, true, true, true, true, true, true, true, true, true, true, true, true, false] rfl rfl (by kernel_rfl) (fun _ _ _ h => h) (Or.inl ⟨by rfl, ?_⟩) ?_ ?_
      rotate_left
      · intro w'
        go_simp
        with_reducible rfl
      rotate_left
      · simp only [Act.put, List.setIfInBounds_toArray, List.set_cons_zero, List.set_cons_succ, i64_w, i32_w]
        rfl
      refine pure_ (i := 15) (N := (some 7)) (v := ?_) (a' := ?_) #[true, true, true, true, true, true, true, true, true, true, true, true, true, true, true, true] rfl rfl (by kernel_rfl) (fun _ _ _ h => h) (Or.inl ⟨by rfl, ?_⟩) ?_ ?_
      rotate_left
      · intro w'
        go_simp
        with_reducible rfl
      rotate_left
      · simp only [Act.put, List.setIfInBounds_toArray, List.set_cons_zero, List.set_cons_succ, i64_w, i32_w]
        rfl
      refine done_ (by kernel_rfl) ?_
      go_wp2_with (fail)
      go_roundg (set.length - (i + 1))
      case measure => omega
      case rel =>
        have hww : ∀ a b : Int, wrap64 (a + wrap64 b) = wrap64 (a + b) := fun a b => by unfold wrap64; omega
        have hw3 : ∀ a : Int, wrap64 (wrap64 a) = wrap64 a := fun a => by unfold wrap64; omega
        have hw2 : ∀ a b : Int, wrap64 (wrap64 a + b) = wrap64 (a + b) := fun a b => by unfold wrap64; omega
        refine ⟨i + 1, _, rfl, by go_num, by omega, Nat.le_refl _, Lib.hid (hw3 _), Lib.hid ?_, HBW3⟩
        have he := HE2.out
        rw [hww, hw2, ← he, Int.add_assoc]
    · obtain rfl : i = set.length := by omega
      have hltz : ¬ (set.length : Int) < (set.length : Int) := by omega
      go_wp2_with (fail)
      have he := HE.out
      rw [List.drop_length] at he
      simp only [dcLoop, Int.add_zero] at he
      rw [HN.out] at he
      subst he
      go_ret
      exact ⟨rfl, HBW.out⟩
theorem spec_dcChains.says : ∀ k, spec_dcChains.Says k
  | 0 => spec_dcChains.leaf
  | k + 1 => spec_dcChains.node k (spec_dcChains.says k)
/-- How many hands are laid as one chain, with those begun. -/
def spec_dcChains.f (l0 : List S53) (a1 : Int) (l2 : List S53) : Option Int := if 0 ≤ a1 ∧ l0.length ≤ 1000 ∧ (l2.length : Int) + a1 ≤ 1000 ∧ 1 ≤ (l2.length : Int) + a1 then some (wrap64 (dcN a1.toNat l0 l2)) else none
theorem spec_dcChains.calls (A0 : Option Addr) (c0 : Nat) (l0 : List S53) (a1 : Int) (A2 : Option Addr) (c2 : Nat) (l2 : List S53) (r : Int) (w : World) (hr0 : Kd.C k53 w A0 l0.length l0) (hc0 : l0.length ≤ c0) (hr2 : Kd.C k53 w A2 l2.length l2) (hc2 : l2.length ≤ c2) (h : spec_dcChains.f l0 a1 l2 = some r) :
    Calls Try.prog 42 #[.slice A0 l0.length c0, .int .i64 a1, .slice A2 l2.length c2] w fun e w' => e = .returned (.int .i64 r) ∧ Below w.heap.size w w' := by
  unfold spec_dcChains.f at h
  by_cases hs : 0 ≤ a1 ∧ l0.length ≤ 1000 ∧ (l2.length : Int) + a1 ≤ 1000 ∧ 1 ≤ (l2.length : Int) + a1
  · rw [if_pos hs] at h
    obtain rfl := Option.some.inj h
    obtain ⟨n, rfl⟩ : ∃ n : Nat, a1 = (n : Int) := ⟨a1.toNat, by omega⟩
    exact spec_dcChains.says n l0 l2 A0 c0 A2 c2 w hr0 hc0 hr2 hc2 hs.2.1 (by omega) (by omega)
  · rw [if_neg hs] at h
    cases h

/-! ### spec_tiSet: function 43 -/
mutual
def spec_tiSet.l0 : Nat → Int → List (S53) → Int → Option ((List (S53)))
  | 0, _, _, _ => none
  | k + 1, x0, x3, x4 => if x4 ≤ x0 then (spec_tiSet.l1 k x0 x3 x4 x4) else (some x3)
def spec_tiSet.l1 : Nat → Int → List (S53) → Int → Int → Option ((List (S53)))
  | 0, _, _, _, _ => none
  | k + 1, x0, x3, x4, x5 => if x5 ≤ x0 then (if x3.length < 8796093022208 then (spec_tiSet.l1 k x0 (x3 ++ [(⟨x4, x5⟩ : S53)]) x4 (wrap64 (x5 + 1))) else (none)) else (spec_tiSet.l0 k x0 x3 (wrap64 (x4 + 1)))
end
def spec_tiSet.f (k : Nat) (a0 : Int) : Option ((List (S53))) := spec_tiSet.l0 k a0 ([] : List (S53)) 0
theorem spec_tiSet.mono_l : ∀ k, (∀ y0 y1 y2, LeO (spec_tiSet.l0 k y0 y1 y2) (spec_tiSet.l0 (k + 1) y0 y1 y2)) ∧ (∀ y0 y1 y2 y3, LeO (spec_tiSet.l1 k y0 y1 y2 y3) (spec_tiSet.l1 (k + 1) y0 y1 y2 y3))
  | 0 => ⟨fun _ _ _ r h => by simp [spec_tiSet.l0] at h, fun _ _ _ _ r h => by simp [spec_tiSet.l1] at h⟩
  | k + 1 => by
    obtain ⟨ih0, ih1⟩ := spec_tiSet.mono_l k
    refine ⟨?_, ?_⟩
    · intro y0 y1 y2
      unfold spec_tiSet.l0
      repeat' first
      | (with_reducible exact ih0 _ _ _)
      | (with_reducible exact ih1 _ _ _ _)
      | (with_reducible exact LeO.refl _)
      | (with_reducible exact LeO.none _)
      | (with_reducible refine LeO.ite ?_ ?_)
      | (with_reducible refine LeO.bind ?_ (fun _ => ?_))
      | exact ih0 _ _ _
      | exact ih1 _ _ _ _
      | exact LeO.none _
      | refine LeO.ite ?_ ?_
      | refine LeO.bind ?_ (fun _ => ?_)
    · intro y0 y1 y2 y3
      unfold spec_tiSet.l1
      repeat' first
      | (with_reducible exact ih0 _ _ _)
      | (with_reducible exact ih1 _ _ _ _)
      | (with_reducible exact LeO.refl _)
      | (with_reducible exact LeO.none _)
      | (with_reducible refine LeO.ite ?_ ?_)
      | (with_reducible refine LeO.bind ?_ (fun _ => ?_))
      | exact ih0 _ _ _
      | exact ih1 _ _ _ _
      | exact LeO.none _
      | refine LeO.ite ?_ ?_
      | refine LeO.bind ?_ (fun _ => ?_)
theorem spec_tiSet.mono : ∀ a0 k, LeO (spec_tiSet.f k a0) (spec_tiSet.f (k + 1) a0) := by
  intro a0 k
  obtain ⟨ih0, ih1⟩ := spec_tiSet.mono_l k
  unfold spec_tiSet.f
  repeat' first
      | (with_reducible exact ih0 _ _ _)
      | (with_reducible exact ih1 _ _ _ _)
      | (with_reducible exact LeO.refl _)
      | (with_reducible exact LeO.none _)
      | (with_reducible refine LeO.ite ?_ ?_)
      | (with_reducible refine LeO.bind ?_ (fun _ => ?_))
      | exact ih0 _ _ _
      | exact ih1 _ _ _ _
      | exact LeO.none _
      | refine LeO.ite ?_ ?_
      | refine LeO.bind ?_ (fun _ => ?_)
set_option maxHeartbeats 8000000 in
set_option maxRecDepth 100000 in
theorem spec_tiSet.calls (k : Nat) (a0 : Int) (r : List (S53)) (w : World) (h : spec_tiSet.f k a0 = some r) :
    Calls Try.prog 43 #[.int .i64 a0] w fun e w' => ∃ v0_ : Value, e = .returned (v0_) ∧ Kd.R k53 53 w' w.heap.size (fun _ => True) v0_ r ∧ Below w.heap.size w w' := by
  have hu53 := Try.underlying53
  have HB := Aside0.mk (Below.refl w.heap.size w)
  have H : (spec_tiSet.l0 k a0 ([] : List (S53)) 0) = some r := h
  clear h
  have H' := Aside0.mk H
  clear H
  go_enter Try.func43, Try.ntmps43
  go_wp2
  go_loopg [3, 4] k (fun kq v3 v4 w' => ∃ (x3_1 : List (S53)) (x4_1 : Int), v4 = .int .i64 x4_1 ∧ Aside0 (spec_tiSet.l0 kq a0 x3_1 x4_1 = some r) ∧ Aside0 (kq ≤ k) ∧ Aside0 (Kd.R k53 53 w' w.heap.size (fun _ => True) v3 x3_1) ∧ Aside0 (Below w.heap.size w w'))
  case atStart => exact ⟨(([] : List (S53))), (0), rfl, H', ⟨Nat.le_refl _⟩, ⟨by first | exact Kd.R_nil _ _ _ _ _ | exact Kd.N_nil _ _ _ _ _ | exact Kd.V_nil _ _ _ _ _ | exact Kd.Q_nil _ _ _ _ _ | exact Kd.S_nil _ _ _ _ _⟩, ⟨by repeat (first | (with_reducible first | exact HB.out | apply below_alloc | apply pw_below_drewN | apply below_drew1) | exact HB.out)⟩⟩
  case round =>
    clear H'
    obtain ⟨x3_1, x4_1, rfl, HA, HK1, HO_3, HB⟩ := hrel
    cases gk with
    | zero => exact absurd HA.out (by simp [spec_tiSet.l0])
    | succ k1 =>
      have H := HA.out
      clear HA
      simp only [spec_tiSet.l0] at H
      by_cases c2 : x4_1 ≤ a0
      · rw [if_pos c2] at H
        have c2b0 : decide (x4_1 ≤ a0) = true := decide_eq_true c2
        clear c2
        have H' := Aside0.mk H
        clear H
        go_wp2
        go_loopg [3, 5] k1 (fun kq v3 v5 w' => ∃ (x3_2 : List (S53)) (x5_2 : Int), v5 = .int .i64 x5_2 ∧ Aside0 (spec_tiSet.l1 kq a0 x3_2 x4_1 x5_2 = some r) ∧ Aside0 (kq ≤ k1) ∧ Aside0 (Kd.R k53 53 w' w.heap.size (fun _ => True) v3 x3_2) ∧ Aside0 (Below w.heap.size w w'))
        case atStart => exact ⟨(x3_1), (x4_1), rfl, H', ⟨Nat.le_refl _⟩, ⟨by (with_reducible repeat (first | apply Kd.R_alloc | apply Kd.R_drewN | apply Kd.R_drew)); exact HO_3.out⟩, ⟨by repeat (first | (with_reducible first | exact HB.out | apply below_alloc | apply pw_below_drewN | apply below_drew1) | exact HB.out)⟩⟩
        case round =>
          clear H'
          try clear c2
          try clear c2b0
          try clear p2
          obtain ⟨x3_2, x5_2, rfl, HA, HK2, HO_3, HB⟩ := hrel
          cases gk with
          | zero => exact absurd HA.out (by simp [spec_tiSet.l1])
          | succ k2 =>
            have H := HA.out
            clear HA
            simp only [spec_tiSet.l1] at H
            by_cases c3 : x5_2 ≤ a0
            · rw [if_pos c3] at H
              have c3b0 : decide (x5_2 ≤ a0) = true := decide_eq_true c3
              clear c3
              by_cases c4 : x3_2.length < 8796093022208
              · rw [if_pos c4] at H
                have LMc4 := Aside0.mk c4
                clear c4
                obtain ⟨y161, hy161⟩ : ∃ y_ : List (S53), y_ = (x3_2 ++ [(⟨x4_1, x5_2⟩ : S53)]) := ⟨_, rfl⟩
                replace H : (spec_tiSet.l1 k2 a0 y161 x4_1 (wrap64 (x5_2 + 1))) = some r := by first | (rw [hy161]; with_reducible exact H) | (have H2_ := (Option.bind_some _ _).symm.trans H; rw [hy161]; with_reducible exact H2_) | (have H2_ := (Option.bind_some _ _).symm.trans H; with_reducible exact H2_) | with_reducible exact H | (rw [hy161]; exact H) | exact H
                have Ny161 := Aside0.mk hy161
                clear hy161
                have H' := Aside0.mk H
                clear H
                go_wp2_with (first | ((with_reducible refine gate_builtin (b := .append) (xs := #[.tmp 17, .tmp 21]) rfl ?_); at_builtin; refine Kd.R_append k53 (w0 := w) w.heap.size rfl (.tmp 17) (.tmp 21) 46 53 (.agg #[(.int .i64 0), (.int .i64 0)]) 16 rfl Try.underlying46 info53 rfl (by decide) (by omega) u3 x3_2 (⟨x4_1, x5_2⟩ : S53) [.int .i64 x4_1, .int .i64 x5_2] (fun _ => True) (fun _ => False) rfl rfl ?aP (fun _ hk => hk.elim) ?aF ?aO ?aB ?aS ?aL ?_; (case aP => exact k53_mkM _ _ _ (⟨x4_1, x5_2⟩ : S53)); (case aB => exact (by repeat (first | (with_reducible first | exact HB.out | apply below_alloc | apply pw_below_drewN | apply below_drew1) | exact HB.out))); (case aF => exact (fun _ _ => trivial)); (case aO => exact (by (with_reducible repeat (first | apply Kd.R_alloc | apply Kd.R_drewN | apply Kd.R_drew)); exact HO_3.out)); (case aS => exact (below_size (by repeat (first | (with_reducible first | exact HB.out | apply below_alloc | apply pw_below_drewN | apply below_drew1) | exact HB.out)))); (case aL => have := LMc4.out; omega); intro v162 w5 ho hb hg hat; rw [← Ny161.out] at ho; replace HB := Aside0.mk (hb); have HO163 := Aside0.mk (ho); clear HO_3; clear ho hb hg hat))
                go_roundg k2
                case measure => have := HK1.out; have := HK2.out; omega
                case rel => exact ⟨(y161), (wrap64 (x5_2 + 1)), rfl, H', ⟨by have := HK1.out; have := HK2.out; omega⟩, ⟨by (with_reducible repeat (first | apply Kd.R_alloc | apply Kd.R_drewN | apply Kd.R_drew)); exact HO163.out⟩, ⟨by repeat (first | (with_reducible first | exact HB.out | apply below_alloc | apply pw_below_drewN | apply below_drew1) | exact HB.out)⟩⟩
              · rw [if_neg c4] at H
                exact absurd H (by simp)
            · rw [if_neg c3] at H
              have c3b0 : decide (x5_2 ≤ a0) = false := decide_eq_false c3
              clear c3
              have H' := Aside0.mk H
              clear H
              go_wp2
              go_roundg k2
              case measure => have := HK1.out; have := HK2.out; omega
              case rel => exact ⟨(x3_2), (wrap64 (x4_1 + 1)), rfl, H', ⟨by have := HK1.out; have := HK2.out; omega⟩, ⟨by (with_reducible repeat (first | apply Kd.R_alloc | apply Kd.R_drewN | apply Kd.R_drew)); exact HO_3.out⟩, ⟨by repeat (first | (with_reducible first | exact HB.out | apply below_alloc | apply pw_below_drewN | apply below_drew1) | exact HB.out)⟩⟩
      · rw [if_neg c2] at H
        have c2b0 : decide (x4_1 ≤ a0) = false := decide_eq_false c2
        clear c2
        obtain rfl := Option.some.inj H
        go_wp2
        go_ret
        exact ⟨_, by first | rfl | (simp [errW_none, errW_some] <;> rfl) | (simp [*, errW_none, errW_some] <;> rfl), by (with_reducible repeat (first | apply Kd.R_alloc | apply Kd.R_drewN | apply Kd.R_drew)); exact HO_3.out, by repeat (first | (with_reducible first | exact HB.out | apply below_alloc | apply pw_below_drewN | apply below_drew1) | exact HB.out)⟩

/-! ### spec_dcChoose: function 44 -/
mutual
def spec_dcChoose.j0 : Nat → Int → Int → Bool → Option (Int)
  | 0, _, _, _ => none
  | k + 1, x0, x1, x13 => if x13 = true then (some 0) else (spec_dcChoose.l0 k x0 x1 1 0)
def spec_dcChoose.l0 : Nat → Int → Int → Int → Int → Option (Int)
  | 0, _, _, _, _ => none
  | k + 1, x0, x1, x5, x6 => if x6 < x1 then (if (wrap64 (x6 + 1)) = 0 then (none) else (spec_dcChoose.l0 k x0 x1 (wrap64 (Int.tdiv (wrap64 (x5 * (wrap64 (x0 - x6)))) (wrap64 (x6 + 1)))) (wrap64 (x6 + 1)))) else (some x5)
end
def spec_dcChoose.f (k : Nat) (a0 : Int) (a1 : Int) : Option (Int) := if a1 < 0 then (spec_dcChoose.j0 k a0 a1 true) else (spec_dcChoose.j0 k a0 a1 (decide (a1 > a0)))
theorem spec_dcChoose.mono_l : ∀ k, (∀ y0 y1 y2, LeO (spec_dcChoose.j0 k y0 y1 y2) (spec_dcChoose.j0 (k + 1) y0 y1 y2)) ∧ (∀ y0 y1 y2 y3, LeO (spec_dcChoose.l0 k y0 y1 y2 y3) (spec_dcChoose.l0 (k + 1) y0 y1 y2 y3))
  | 0 => ⟨fun _ _ _ r h => by simp [spec_dcChoose.j0] at h, fun _ _ _ _ r h => by simp [spec_dcChoose.l0] at h⟩
  | k + 1 => by
    obtain ⟨ih0, ih1⟩ := spec_dcChoose.mono_l k
    refine ⟨?_, ?_⟩
    · intro y0 y1 y2
      unfold spec_dcChoose.j0
      repeat' first
      | (with_reducible exact ih0 _ _ _)
      | (with_reducible exact ih1 _ _ _ _)
      | (with_reducible exact LeO.refl _)
      | (with_reducible exact LeO.none _)
      | (with_reducible refine LeO.ite ?_ ?_)
      | (with_reducible refine LeO.bind ?_ (fun _ => ?_))
      | exact ih0 _ _ _
      | exact ih1 _ _ _ _
      | exact LeO.none _
      | refine LeO.ite ?_ ?_
      | refine LeO.bind ?_ (fun _ => ?_)
    · intro y0 y1 y2 y3
      unfold spec_dcChoose.l0
      repeat' first
      | (with_reducible exact ih0 _ _ _)
      | (with_reducible exact ih1 _ _ _ _)
      | (with_reducible exact LeO.refl _)
      | (with_reducible exact LeO.none _)
      | (with_reducible refine LeO.ite ?_ ?_)
      | (with_reducible refine LeO.bind ?_ (fun _ => ?_))
      | exact ih0 _ _ _
      | exact ih1 _ _ _ _
      | exact LeO.none _
      | refine LeO.ite ?_ ?_
      | refine LeO.bind ?_ (fun _ => ?_)
theorem spec_dcChoose.mono : ∀ a0 a1 k, LeO (spec_dcChoose.f k a0 a1) (spec_dcChoose.f (k + 1) a0 a1) := by
  intro a0 a1 k
  obtain ⟨ih0, ih1⟩ := spec_dcChoose.mono_l k
  unfold spec_dcChoose.f
  repeat' first
      | (with_reducible exact ih0 _ _ _)
      | (with_reducible exact ih1 _ _ _ _)
      | (with_reducible exact LeO.refl _)
      | (with_reducible exact LeO.none _)
      | (with_reducible refine LeO.ite ?_ ?_)
      | (with_reducible refine LeO.bind ?_ (fun _ => ?_))
      | exact ih0 _ _ _
      | exact ih1 _ _ _ _
      | exact LeO.none _
      | refine LeO.ite ?_ ?_
      | refine LeO.bind ?_ (fun _ => ?_)
set_option maxHeartbeats 8000000 in
set_option maxRecDepth 100000 in
theorem spec_dcChoose.calls (k : Nat) (a0 : Int) (a1 : Int) (r : Int) (w : World) (h : spec_dcChoose.f k a0 a1 = some r) :
    Calls Try.prog 44 #[.int .i64 a0, .int .i64 a1] w fun e w' => e = .returned (.int .i64 r) ∧ Drawn0 w w' := by
  have H : (if a1 < 0 then (spec_dcChoose.j0 k a0 a1 true) else (spec_dcChoose.j0 k a0 a1 (decide (a1 > a0)))) = some r := h
  clear h
  have HC3 := Aside0.mk H
  clear H
  go_enter Try.func44, Try.ntmps44
  go_upto_region 1 with (fail)
  go_cut [13] (fun v13 wc => ∃ (kq : Nat) (x13_2 : Bool), v13 = .bool x13_2 ∧ Aside0 (spec_dcChoose.j0 kq a0 a1 x13_2 = some r) ∧ Aside0 (kq ≤ k) ∧ Drawn0 w wc)
  case first =>
    have H := HC3.out
    clear HC3
    by_cases c4 : a1 < 0
    · rw [if_pos c4] at H
      have c4b0 : decide (a1 < 0) = true := decide_eq_true c4
      clear c4
      (first | rw [c4b0] | (simp only [i64_w, i32_w]; rw [c4b0]) | skip)
      have H' := Aside0.mk H
      clear H
      go_wp2
      go_meet
      case rel => exact ⟨_, (true), rfl, H', ⟨by first | omega | exact Nat.le_refl _⟩, by repeat (first | exact Drawn0.refl _ | apply Drawn0.step)⟩
    · rw [if_neg c4] at H
      have c4b0 : decide (a1 < 0) = false := decide_eq_false c4
      clear c4
      (first | rw [c4b0] | (simp only [i64_w, i32_w]; rw [c4b0]) | skip)
      have H' := Aside0.mk H
      clear H
      go_wp2
      go_meet
      case rel => exact ⟨_, (decide (a1 > a0)), rfl, H', ⟨by first | omega | exact Nat.le_refl _⟩, by repeat (first | exact Drawn0.refl _ | apply Drawn0.step)⟩
  case rest =>
    clear HC3
    try clear p2
    try clear c4
    try clear c4b0
    obtain ⟨kq, x13_2, rfl, HA, HJ2, ⟨mc2, rfl⟩⟩ := hcut
    cases kq with
    | zero => exact absurd HA.out (by simp [spec_dcChoose.j0])
    | succ kj2 =>
      have H := HA.out
      clear HA
      simp only [spec_dcChoose.j0] at H
      by_cases c5 : x13_2 = true
      · subst c5
        have H1 : (some 0) = some r := by rw [if_pos rfl] at H; exact H
        clear H
        have H := H1
        clear H1
        obtain rfl := Option.some.inj H
        go_wp2
        go_ret
        exact ⟨by first | rfl | (simp; done) | (simp [*]; done), by repeat (first | exact Drawn0.refl _ | apply Drawn0.step)⟩
      · replace c5 := Bool.eq_false_iff.mpr c5
        subst c5
        have H1 : (spec_dcChoose.l0 kj2 a0 a1 1 0) = some r := by rw [if_neg (show ¬ (false = true) by decide)] at H; exact H
        clear H
        have H := H1
        clear H1
        have H' := Aside0.mk H
        clear H
        go_wp2
        go_loopg [5, 6] kj2 (fun kq v5 v6 w' => ∃ (x5_2 : Int) (x6_2 : Int), v5 = .int .i64 x5_2 ∧ v6 = .int .i64 x6_2 ∧ Aside0 (spec_dcChoose.l0 kq a0 a1 x5_2 x6_2 = some r) ∧ Aside0 (kq ≤ kj2) ∧ Drawn0 w w')
        case atStart => exact ⟨(1), (0), rfl, rfl, H', ⟨Nat.le_refl _⟩, by repeat (first | exact Drawn0.refl _ | apply Drawn0.step)⟩
        case round =>
          clear H'
          try clear c2
          try clear p2
          try clear c4
          try clear c4b0
          try clear c5
          try clear p2
          obtain ⟨x5_2, x6_2, rfl, rfl, HA, HK2, ⟨m2, rfl⟩⟩ := hrel
          cases gk with
          | zero => exact absurd HA.out (by simp [spec_dcChoose.l0])
          | succ k2 =>
            have H := HA.out
            clear HA
            simp only [spec_dcChoose.l0] at H
            by_cases c6 : x6_2 < a1
            · rw [if_pos c6] at H
              have c6b0 : decide (x6_2 < a1) = true := decide_eq_true c6
              clear c6
              by_cases c7 : (wrap64 (x6_2 + 1)) = 0
              · rw [if_pos c7] at H
                exact absurd H (by simp)
              · rw [if_neg c7] at H
                have c7b0 : ((wrap64 (x6_2 + 1)) == 0) = false := beq_eq_false_iff_ne.mpr c7
                have c7b1 : ((wrap64 (x6_2 + 1)) != 0) = true := bne_iff_ne.mpr c7
                have H' := Aside0.mk H
                clear H
                go_wp2
                go_roundg k2
                case measure => have := HJ2.out; have := HK2.out; omega
                case rel => exact ⟨(wrap64 (Int.tdiv (wrap64 (x5_2 * (wrap64 (a0 - x6_2)))) (wrap64 (x6_2 + 1)))), (wrap64 (x6_2 + 1)), rfl, rfl, H', ⟨by have := HJ2.out; have := HK2.out; omega⟩, by repeat (first | exact Drawn0.refl _ | apply Drawn0.step)⟩
            · rw [if_neg c6] at H
              have c6b0 : decide (x6_2 < a1) = false := decide_eq_false c6
              clear c6
              obtain rfl := Option.some.inj H
              go_wp2
              go_ret
              exact ⟨by first | rfl | (simp; done) | (simp [*]; done), by repeat (first | exact Drawn0.refl _ | apply Drawn0.step)⟩

end Go.Proofs.Ytafcjfilhdpgdaa.QFnChancesCompared
