-- WRITTEN BY A PROGRAM OF THIS CLAIM'S AUTHOR (wprint.py)
import Derived.Test.YtgdefohillhdoaaGreatDoorQFnPuzzlesFilledx0
import Derived.Test.YtgdefohillhdoaaGreatDoorQFnPuzzlesFilledx7
namespace Go.Proofs.YtgdefohillhdoaaGreatDoor.QFnPuzzlesFilled
open Go.RowKit Go.Proofs.YtgdefohillhdoaaGreatDoorW.PrintWords Go.Proofs.YtgdefohillhdoaaGreatDoorW.PrintLast Go.Proofs.YtgdefohillhdoaaGreatDoorW.PrintMore
attribute [local go_sem] max2_int min2_int max_two min_two max_three min_three max_four min_four   -- for this text's walks alone
set_option linter.unusedVariables false
set_option linter.unusedSimpArgs false

/-! ### slices_IsSortedFunc_impl_Tile_impl_Tile: function 46, by hand -/
def cmpT (x y : S64) : Int := if x.f0 = y.f0 then wrap64 (x.f1 - y.f1) else wrap64 (x.f0 - y.f0)
theorem cmpT_f (x y : S64) : impl_compareTiles.f x.f0 x.f1 y.f0 y.f1 = some (cmpT x y) := by
  unfold impl_compareTiles.f cmpT
  by_cases h : x.f0 = y.f0
  · rw [if_pos h, if_pos h]
  · rw [if_neg h, if_neg h]
def sortedT : List S64 → Bool
  | [] => true
  | x :: xs => (match xs with | [] => true | y :: _ => !decide (cmpT y x < 0)) && sortedT xs
theorem sortedT_no : ∀ (l : List S64) (j : Nat), j + 1 < l.length → cmpT (l.getD (j + 1) z64) (l.getD j z64) < 0 → sortedT l = false := by
  intro l
  induction l with
  | nil => intro j h; simp at h
  | cons x xs ih =>
    intro j hj h
    unfold sortedT
    cases j with
    | zero =>
      cases xs with
      | nil => simp at hj
      | cons y ys =>
        simp at h
        simp [h]
    | succ j =>
      have := ih j (by simpa using hj) (by simpa using h)
      rw [this, Bool.and_false]
theorem sortedT_yes : ∀ (l : List S64), (∀ j, j + 1 < l.length → ¬ cmpT (l.getD (j + 1) z64) (l.getD j z64) < 0) → sortedT l = true := by
  intro l
  induction l with
  | nil => intro _; rfl
  | cons x xs ih =>
    intro h
    unfold sortedT
    have h1 := ih (fun j hj => by have := h (j + 1) (by simpa using hj); simpa using this)
    rw [h1, Bool.and_true]
    cases xs with
    | nil => rfl
    | cons y ys =>
      have := h 0 (by simp)
      simp at this
      simp
      omega

set_option maxHeartbeats 2000000 in
set_option maxRecDepth 100000 in
theorem isSortedT (A0 : Option Addr) (c0 : Nat) (l0 : List S64) (w : World) (hr0 : Kd.C k64 w A0 l0.length l0) :
    Calls Tryz.prog 46 #[.slice A0 l0.length c0, .func (.func 47) #[] #[]] w fun e w' => e = .returned (.bool (sortedT l0)) ∧ Below w.heap.size w w' := by
  have hlen := hr0.2.1
  have HR := Lib.hid hr0
  clear hr0
  have eg := enters_of' Tryz.func47 (by kernel_rfl) rfl
  go_enter Tryz.func46, Tryz.ntmps46
  go_wp2
  go_loopw [5] (fun i wr => ∃ m : Int, -1 ≤ m ∧ m < l0.length ∧ i = .int .i64 m ∧ Hid (∀ j : Nat, m ≤ j → j + 1 < l0.length → ¬ cmpT (l0.getD (j + 1) z64) (l0.getD j z64) < 0) ∧ Below w.heap.size w wr) (fun i _ => (intOf i + 1).toNat)
  case atStart => exact ⟨(l0.length : Int) - 1, by omega, by omega, rfl, Lib.hid (fun j h1 h2 => by omega), Below.refl _ _⟩
  case round =>
    obtain ⟨m, hm1, hm2, rfl, hnone, hbel⟩ := hrel
    by_cases hlt : 0 < m
    · obtain ⟨q, rfl⟩ : ∃ q : Nat, m = (q : Int) + 1 := ⟨(m - 1).toNat, by omega⟩
      have hC := Kd.C_below HR.out hbel
      obtain ⟨ad, rfl, hx0, hx1⟩ := at_T64 hC ((q : Int) + 1) (by omega) (by omega)
      obtain ⟨ad', e', hy0, hy1⟩ := at_T64 hC (q : Int) (by omega) (by omega)
      obtain rfl : ad = ad' := by injection e'
      clear e'
      rw [show ((q : Int)).toNat = q from rfl] at hy0 hy1
      rw [show ((q : Int) + 1).toNat = q + 1 from by omega] at hx0 hx1
      have hb0 : q + 1 < l0.length := by omega
      have hi0 : (0 : Int) ≤ (q : Int) + 1 := by omega
      have hi1 : (q : Int) + 1 < (l0.length : Int) := by omega
      have hj0 : (0 : Int) ≤ (q : Int) := by omega
      have hj1 : (q : Int) < (l0.length : Int) := by omega
      have hw1 : IntKind.i64.wrap ((q : Int) + 1 - 1) = (q : Int) := (IntWalk.i64_in _ (by omega)).trans (by omega)
      have hw2 : IntKind.i64.wrap (q : Int) = (q : Int) := IntWalk.i64_in _ (by omega)
      have HC := Lib.hid hC
      clear hC
      have hcall := fun W => impl_compareTiles.calls (rd_T64 l0 ((q : Int) + 1)).f0 (rd_T64 l0 ((q : Int) + 1)).f1 (rd_T64 l0 (q : Int)).f0 (rd_T64 l0 (q : Int)).f1 _ W (cmpT_f _ _)
      generalize hz : cmpT (rd_T64 l0 ((q : Int) + 1)) (rd_T64 l0 (q : Int)) = z at hcall
      have HZ := Lib.hid hz
      clear hz
      have HS := Lib.hid (show ∀ W, Below wr.heap.size wr W → (W.cell? (ad.add ((q + 1) * 2)) = some (.int .i64 (rd_T64 l0 ((q : Int) + 1)).f0) ∧ W.cell? ⟨(ad.add ((q + 1) * 2)).block, (ad.add ((q + 1) * 2)).off + 1, none⟩ = some (.int .i64 (rd_T64 l0 ((q : Int) + 1)).f1) ∧
        W.cell? (ad.add (q * 2)) = some (.int .i64 (rd_T64 l0 (q : Int)).f0) ∧ W.cell? ⟨(ad.add (q * 2)).block, (ad.add (q * 2)).off + 1, none⟩ = some (.int .i64 (rd_T64 l0 (q : Int)).f1) ∧ Below wr.heap.size wr W) from
        fun W h => ⟨(h.cell (World.block_lt_of_cell? wr _ hx0)).trans hx0, (h.cell (World.block_lt_of_cell? wr _ hx1)).trans hx1, (h.cell (World.block_lt_of_cell? wr _ hy0)).trans hy0, (h.cell (World.block_lt_of_cell? wr _ hy1)).trans hy1, h⟩)
      go_wp2_with fail
      go_region_held3 (fun w' => w'.cell? (ad.add ((q + 1) * 2)) = some (.int .i64 (rd_T64 l0 ((q : Int) + 1)).f0) ∧ w'.cell? ⟨(ad.add ((q + 1) * 2)).block, (ad.add ((q + 1) * 2)).off + 1, none⟩ = some (.int .i64 (rd_T64 l0 ((q : Int) + 1)).f1) ∧
        w'.cell? (ad.add (q * 2)) = some (.int .i64 (rd_T64 l0 (q : Int)).f0) ∧ w'.cell? ⟨(ad.add (q * 2)).block, (ad.add (q * 2)).off + 1, none⟩ = some (.int .i64 (rd_T64 l0 (q : Int)).f1) ∧ Below wr.heap.size wr w')
        ((refine HS.out _ ?_; first | exact below_drew (Below.refl _ _) | exact Below.refl _ _ | (go_split_ands; first | exact below_drew (by assumption) | exact below_step (by assumption) hb2)))
        (first | (go_simp; refine (hcall _).mono ?_; rintro e w2 ⟨rfl, hb2⟩))
      rename_i wq hwq
      have HB := Lib.hid hwq.2.2.2.2
      clear hwq hx0 hx1 hy0 hy1
      by_cases hneg : z < 0
      · have dz : decide (z < 0) = true := decide_eq_true hneg
        go_wp2
        go_ret
        exact ⟨by rw [sortedT_no l0 q (by omega) (by have := HZ.out; simpa [rd_T64] using this ▸ hneg)]; rfl, hbel.trans (HB.out.mono hbel.size)⟩
      · have dz : decide (z < 0) = false := decide_eq_false hneg
        go_wp2
        go_roundw
        case rel => exact ⟨(q : Int), by omega, by omega, by go_num, Lib.hid (fun j h1 h2 => by
          by_cases e : j = q
          · subst e
            have := HZ.out
            simp only [rd_T64] at this
            rw [show ((j : Int) + 1).toNat = j + 1 from by omega, show ((j : Int)).toNat = j from rfl] at this
            rw [this]
            exact hneg
          · have := hnone.out j (by omega) h2
            omega), hbel.trans (HB.out.mono hbel.size)⟩
        case measure => simp [intOf]; omega
    · have dm : decide (0 < m) = false := decide_eq_false hlt
      go_wp2
      go_ret
      exact ⟨by rw [sortedT_yes l0 (fun j hj => by have := hnone.out j (by omega) hj; omega)]; rfl, hbel⟩

/-! ### slices_IndexFunc_int_int: function 118, by hand -/
theorem idxI (fi : FuncId) (caps : Array Value) (p : Int → Bool) (A0 : Option Addr) (c0 : Nat) (l0 : List Int) (w : World) (hr0 : Kd.C (Kd.int .i64) w A0 l0.length l0)
    (eg : ∀ args w, (callFunc fi args).run Tryz.prog w = .ok (.enter fi args) w)
    (hp : ∀ (x : Int) (W : World), Below w.heap.size w W → Calls Tryz.prog fi (#[.int .i64 x] ++ caps) W fun e w' => e = .returned (.bool (p x)) ∧ Below W.heap.size W w') :
    Calls Tryz.prog 118 #[.slice A0 l0.length c0, .func (.func fi) #[] caps] w fun e w' => e = .returned (.int .i64 (idxOf p l0)) ∧ Below w.heap.size w w' := by
  have hlen := hr0.2.1
  have HR := Lib.hid hr0
  clear hr0
  go_enter Tryz.func118, Tryz.ntmps118
  go_wp2
  go_loopw [8] (fun i wr => ∃ k : Nat, k ≤ l0.length ∧ i = .int .i64 k ∧ Hid (∀ j, j < k → p (l0.getD j 0) = false) ∧ Below w.heap.size w wr) (fun i _ => l0.length - (intOf i).toNat)
  case atStart => exact ⟨0, Nat.zero_le _, rfl, Lib.hid (fun j h => absurd h (Nat.not_lt_zero _)), Below.refl _ _⟩
  case round =>
    obtain ⟨k, hk, rfl, hnone, hbel⟩ := hrel
    by_cases hlt : k < l0.length
    · obtain ⟨ad, rfl, hx0⟩ := Kd.at_int (Kd.C_below HR.out hbel) (k : Int) (by omega) (by omega)
      rw [show ((k : Int)).toNat = k from rfl] at hx0
      have hc := hp (rd l0 k) _ hbel
      cases hpk : p (rd l0 k)
      · rw [hpk] at hc
        have HP := Lib.hid hpk
        clear hpk
        go_wp2_with (refine hc.mono ?_; rintro e w1 ⟨rfl, hb1⟩)
        go_roundw
        case rel => exact ⟨k + 1, by omega, by go_num, Lib.hid (fun j hj => by
          by_cases e : j = k
          · subst e
            exact HP.out
          · exact hnone.out j (by omega)), hbel.trans (hb1.mono hbel.size)⟩
        case measure => simp [intOf]; omega
      · rw [hpk] at hc
        have HP := Lib.hid hpk
        clear hpk
        go_wp2_with (refine hc.mono ?_; rintro e w1 ⟨rfl, hb1⟩)
        go_ret
        exact ⟨by rw [idxOf_at p 0 l0 k hlt hnone.out HP.out]; rfl, hbel.trans (hb1.mono hbel.size)⟩
    · go_wp2
      go_ret
      have e : k = l0.length := by omega
      subst e
      exact ⟨by rw [idxOf_none p 0 l0 hnone.out]; rfl, hbel⟩


/-! ### slices_ContainsFunc_int_int: function 92, by hand -/
theorem conI (fi : FuncId) (caps : Array Value) (p : Int → Bool) (A0 : Option Addr) (c0 : Nat) (l0 : List Int) (w : World) (hr0 : Kd.C (Kd.int .i64) w A0 l0.length l0)
    (eg : ∀ args w, (callFunc fi args).run Tryz.prog w = .ok (.enter fi args) w)
    (hp : ∀ (x : Int) (W : World), Below w.heap.size w W → Calls Tryz.prog fi (#[.int .i64 x] ++ caps) W fun e w' => e = .returned (.bool (p x)) ∧ Below W.heap.size W w') :
    Calls Tryz.prog 92 #[.slice A0 l0.length c0, .func (.func fi) #[] caps] w fun e w' => e = .returned (.bool (l0.any p)) ∧ Below w.heap.size w w' := by
  have hi := idxI fi caps p A0 c0 l0 w hr0 eg hp
  have HA := Lib.hid (idxOf_any p l0)
  clear hp eg hr0
  generalize idxOf p l0 = z at hi HA
  generalize l0.any p = b at HA ⊢
  go_enter Tryz.func92, Tryz.ntmps92
  go_wp2_with (go_at_call 118; refine hi.mono ?_; rintro e w' ⟨rfl, hb⟩)
  go_ret
  have h := HA.out
  subst h
  exact ⟨rfl, hb⟩


-- NOT PRINTED: function 93 (impl_areWithin_1)

/-! ### impl_areWithin: function 48, by hand -/
def inB (lo hi n : Int) : Bool := decide (lo ≤ n) && decide (n ≤ hi)
theorem within_f (n lo hi : Int) : impl_within.f n lo hi = some (inB lo hi n) := by
  unfold impl_within.f inB
  by_cases h1 : lo ≤ n
  · simp [h1]
  · simp [h1]

theorem areWithin_1 (n lo hi : Int) (g1 g2 : Nat) (w : World) (h1 : w.cell? ⟨g1, 0, none⟩ = some (.int .i64 lo)) (h2 : w.cell? ⟨g2, 0, none⟩ = some (.int .i64 hi)) :
    Calls Tryz.prog 93 #[.int .i64 n, .pointer (some ⟨g1, 0, none⟩), .pointer (some ⟨g2, 0, none⟩)] w fun e w' => e = .returned (.bool (!inB lo hi n)) ∧ Below w.heap.size w w' := by
  go_enter Tryz.func93, Tryz.ntmps93
  go_wp2_with (go_at_call 45; refine (impl_within.calls n lo hi _ _ (within_f n lo hi)).mono ?_; rintro e w' ⟨rfl, ⟨nd, rfl⟩⟩)
  go_ret
  exact ⟨rfl, pw_below_drewN (Below.refl _ _) _⟩

/-- areWithin: no number lies outside. -/
def impl_areWithin.f (l0 : List Int) (a1 a2 : Int) : Option Bool := some (!(l0.any fun n => !inB a1 a2 n))
set_option maxHeartbeats 1000000 in
theorem impl_areWithin.calls (A0 : Option Addr) (c0 : Nat) (l0 : List Int) (a1 : Int) (a2 : Int) (r : Bool) (w : World) (hr0 : Kd.C (Kd.int .i64) w A0 l0.length l0) (_hc0 : l0.length ≤ c0) (h : impl_areWithin.f l0 a1 a2 = some r) :
    Calls Tryz.prog 48 #[.slice A0 l0.length c0, .int .i64 a1, .int .i64 a2] w fun e w' => e = .returned (.bool r) ∧ Below w.heap.size w w' := by
  have hmf : ∀ (fn : Fn) (first cap : Array Value) (w : World), (Instr.makeFunc fn first cap).run Tryz.prog w = .ok (.func fn first cap) w := fun _ _ _ _ => rfl
  obtain rfl := Option.some.inj h
  have hb0 : Below w.heap.size w ((w.alloc (.cells #[.int .i64 a1] 3)).alloc (.cells #[.int .i64 a2] 3)) := ((Below.refl _ _).alloc (Nat.le_refl _) _).alloc (by simp) _
  have hcon := conI 93 #[.pointer (some ⟨w.heap.size, 0, none⟩), .pointer (some ⟨w.heap.size + 1, 0, none⟩)] (fun n => !inB a1 a2 n) A0 c0 l0 ((w.alloc (.cells #[.int .i64 a1] 3)).alloc (.cells #[.int .i64 a2] 3)) (Kd.C_below hr0 hb0)
    (enters_of' Tryz.func93 (by kernel_rfl) rfl) (fun x W hW => areWithin_1 x a1 a2 _ _ W
      ((hW.cell (p := ⟨w.heap.size, 0, none⟩) (by simp; omega)).trans (by rw [World.cell?_alloc_past _ _ _ (by simp), World.cell?_alloc_at _ _ _ _ rfl]; rfl))
      ((hW.cell (p := ⟨w.heap.size + 1, 0, none⟩) (by simp)).trans (by rw [World.cell?_alloc_at _ _ _ _ (by simp)]; rfl)))
  generalize (l0.any fun n => !inB a1 a2 n) = b at hcon ⊢
  clear h hr0
  go_enter Tryz.func48, Tryz.ntmps48
  go_wp2_with (go_at_call 92; refine hcon.mono ?_; rintro e w' ⟨rfl, hb⟩)
  go_ret
  exact ⟨rfl, hb0.trans (hb.mono (by simp; omega))⟩

/-! ### impl_IsPuzzle: function 22, by hand -/
def impl_IsPuzzle.f (k : Nat) (l0_0 : List S64) (l0_1 : List Int) : Option Bool :=
  (impl_IsHand.f k l0_0).bind fun b1 => if b1 = true then (if inB 1 9 (l0_0.length : Int) = true then (if sortedT l0_0 = true then (if (l0_1.length : Int) = (l0_0.length : Int) + 1 then impl_areWithin.f l0_1 (-1) 9 else some false) else some false) else some false) else some false
set_option maxHeartbeats 4000000 in
set_option maxRecDepth 100000 in
theorem impl_IsPuzzle.calls (k : Nat) (A0_0 : Option Addr) (c0_0 : Nat) (l0_0 : List (S64)) (A0_1 : Option Addr) (c0_1 : Nat) (l0_1 : List Int) (r : Bool) (w : World) (hr0_0 : Kd.C k64 w A0_0 l0_0.length l0_0) (hc0_0 : l0_0.length ≤ c0_0) (hr0_1 : Kd.C (Kd.int .i64) w A0_1 l0_1.length l0_1) (hc0_1 : l0_1.length ≤ c0_1) (h : impl_IsPuzzle.f k l0_0 l0_1 = some r) :
    Calls Tryz.prog 22 #[.agg #[.slice A0_0 l0_0.length c0_0, .slice A0_1 l0_1.length c0_1]] w fun e w' => e = .returned (.bool r) ∧ Below w.heap.size w w' := by
  have hb0 : Below w.heap.size w (w.alloc (.cells #[.slice A0_0 l0_0.length c0_0, .slice A0_1 l0_1.length c0_1] 27)) := (Below.refl _ _).alloc (Nat.le_refl _) _
  have c00 : (w.alloc (.cells #[.slice A0_0 l0_0.length c0_0, .slice A0_1 l0_1.length c0_1] 27)).cell? ⟨w.heap.size, 0, none⟩ = some (.slice A0_0 l0_0.length c0_0) := by rw [World.cell?_alloc_at _ _ _ _ rfl]; rfl
  have c01 : (w.alloc (.cells #[.slice A0_0 l0_0.length c0_0, .slice A0_1 l0_1.length c0_1] 27)).cell? ⟨w.heap.size, 1, none⟩ = some (.slice A0_1 l0_1.length c0_1) := by rw [World.cell?_alloc_at _ _ _ _ rfl]; rfl
  have hl0 := hr0_0.2.1
  have hl1 := hr0_1.2.1
  have HR0 := Lib.hid hr0_0
  have HR1 := Lib.hid hr0_1
  clear hr0_0 hr0_1
  unfold impl_IsPuzzle.f at h
  obtain ⟨b1, h1, h⟩ := Option.bind_eq_some_iff.1 h
  have H1 := Lib.hid h1
  clear h1
  cases b1
  · obtain rfl := Option.some.inj h
    clear h
    go_enter Tryz.func22, Tryz.ntmps22
    go_wp2_with (go_at_call 44; refine (impl_IsHand.calls k A0_0 c0_0 l0_0 false _ (Kd.C_below HR0.out hb0) hc0_0 H1.out).mono ?_; rintro e w1 ⟨rfl, hb1⟩; have x0 := (hb1.cell (p := ⟨w.heap.size, 0, none⟩) (by simp)).trans c00; have x1 := (hb1.cell (p := ⟨w.heap.size, 1, none⟩) (by simp)).trans c01)
    go_ret
    exact ⟨rfl, hb0.trans (hb1.mono (by simp))⟩
  · rw [if_pos rfl] at h
    by_cases h2 : inB 1 9 (l0_0.length : Int) = true
    · rw [if_pos h2] at h
      have H2 := Lib.hid ((within_f (l0_0.length : Int) 1 9).trans (by rw [h2]) : impl_within.f (l0_0.length : Int) 1 9 = some true)
      have hsmall : l0_0.length ≤ 9 := by
        unfold inB at h2
        simp at h2
        omega
      clear h2
      by_cases h3 : sortedT l0_0 = true
      · rw [if_pos h3] at h
        have H3 := Lib.hid h3
        clear h3
        by_cases h4 : (l0_1.length : Int) = (l0_0.length : Int) + 1
        · rw [if_pos h4] at h
          have H5 := Lib.hid h
          have e4 : ((l0_1.length : Int) == (l0_0.length : Int) + 1) = true := by simpa using h4
          clear h h4
          go_enter Tryz.func22, Tryz.ntmps22
          go_wp2_with (first | (go_at_call 44; refine (impl_IsHand.calls k A0_0 c0_0 l0_0 true _ (Kd.C_below HR0.out hb0) hc0_0 H1.out).mono ?_; rintro e w1 ⟨rfl, hb1⟩; have x0 := (hb1.cell (p := ⟨w.heap.size, 0, none⟩) (by simp)).trans c00; have x1 := (hb1.cell (p := ⟨w.heap.size, 1, none⟩) (by simp)).trans c01) | (go_at_call 45; refine (impl_within.calls (l0_0.length : Int) 1 9 true _ H2.out).mono ?_; rintro e w2 ⟨rfl, ⟨nd, rfl⟩⟩) | (go_at_call 46; refine (isSortedT A0_0 c0_0 l0_0 _ (Kd.C_drewN (Kd.C_below (Kd.C_below HR0.out hb0) hb1) _)).mono ?_; rw [H3.out]; rintro e w3 ⟨rfl, hb3⟩; have y0 := (hb3.cell (p := ⟨w.heap.size, 0, none⟩) (World.block_lt_of_cell? _ _ x0)).trans x0; have y1 := (hb3.cell (p := ⟨w.heap.size, 1, none⟩) (World.block_lt_of_cell? _ _ x1)).trans x1) | (go_at_call 48; refine (impl_areWithin.calls A0_1 c0_1 l0_1 (-1) 9 r _ (Kd.C_below (Kd.C_drewN (Kd.C_below (Kd.C_below HR1.out hb0) hb1) _) hb3) hc0_1 H5.out).mono ?_; rintro e w5 ⟨rfl, hb5⟩))
          go_ret
          exact ⟨rfl, hb0.trans ((below_step (below_step (pw_below_drewN hb1 _) hb3) hb5).mono (by simp))⟩
        · rw [if_neg h4] at h
          obtain rfl := Option.some.inj h
          have e4 : ((l0_1.length : Int) == (l0_0.length : Int) + 1) = false := by simpa using h4
          clear h h4
          go_enter Tryz.func22, Tryz.ntmps22
          go_wp2_with (first | (go_at_call 44; refine (impl_IsHand.calls k A0_0 c0_0 l0_0 true _ (Kd.C_below HR0.out hb0) hc0_0 H1.out).mono ?_; rintro e w1 ⟨rfl, hb1⟩; have x0 := (hb1.cell (p := ⟨w.heap.size, 0, none⟩) (by simp)).trans c00; have x1 := (hb1.cell (p := ⟨w.heap.size, 1, none⟩) (by simp)).trans c01) | (go_at_call 45; refine (impl_within.calls (l0_0.length : Int) 1 9 true _ H2.out).mono ?_; rintro e w2 ⟨rfl, ⟨nd, rfl⟩⟩) | (go_at_call 46; refine (isSortedT A0_0 c0_0 l0_0 _ (Kd.C_drewN (Kd.C_below (Kd.C_below HR0.out hb0) hb1) _)).mono ?_; rw [H3.out]; rintro e w3 ⟨rfl, hb3⟩; have y0 := (hb3.cell (p := ⟨w.heap.size, 0, none⟩) (World.block_lt_of_cell? _ _ x0)).trans x0; have y1 := (hb3.cell (p := ⟨w.heap.size, 1, none⟩) (World.block_lt_of_cell? _ _ x1)).trans x1))
          go_ret
          exact ⟨rfl, hb0.trans ((below_step (pw_below_drewN hb1 _) hb3).mono (by simp))⟩
      · rw [if_neg h3] at h
        obtain rfl := Option.some.inj h
        have H3 := Lib.hid (Bool.eq_false_iff.mpr h3)
        clear h3 h
        go_enter Tryz.func22, Tryz.ntmps22
        go_wp2_with (first | (go_at_call 44; refine (impl_IsHand.calls k A0_0 c0_0 l0_0 true _ (Kd.C_below HR0.out hb0) hc0_0 H1.out).mono ?_; rintro e w1 ⟨rfl, hb1⟩; have x0 := (hb1.cell (p := ⟨w.heap.size, 0, none⟩) (by simp)).trans c00; have x1 := (hb1.cell (p := ⟨w.heap.size, 1, none⟩) (by simp)).trans c01) | (go_at_call 45; refine (impl_within.calls (l0_0.length : Int) 1 9 true _ H2.out).mono ?_; rintro e w2 ⟨rfl, ⟨nd, rfl⟩⟩) | (go_at_call 46; refine (isSortedT A0_0 c0_0 l0_0 _ (Kd.C_drewN (Kd.C_below (Kd.C_below HR0.out hb0) hb1) _)).mono ?_; rw [H3.out]; rintro e w3 ⟨rfl, hb3⟩; have y0 := (hb3.cell (p := ⟨w.heap.size, 0, none⟩) (World.block_lt_of_cell? _ _ x0)).trans x0; have y1 := (hb3.cell (p := ⟨w.heap.size, 1, none⟩) (World.block_lt_of_cell? _ _ x1)).trans x1))
        go_ret
        exact ⟨rfl, hb0.trans ((below_step (pw_below_drewN hb1 _) hb3).mono (by simp))⟩
    · rw [if_neg h2] at h
      obtain rfl := Option.some.inj h
      have H2 := Lib.hid ((within_f (l0_0.length : Int) 1 9).trans (by rw [Bool.eq_false_iff.mpr h2]) : impl_within.f (l0_0.length : Int) 1 9 = some false)
      clear h2 h
      go_enter Tryz.func22, Tryz.ntmps22
      go_wp2_with (first | (go_at_call 44; refine (impl_IsHand.calls k A0_0 c0_0 l0_0 true _ (Kd.C_below HR0.out hb0) hc0_0 H1.out).mono ?_; rintro e w1 ⟨rfl, hb1⟩; have x0 := (hb1.cell (p := ⟨w.heap.size, 0, none⟩) (by simp)).trans c00; have x1 := (hb1.cell (p := ⟨w.heap.size, 1, none⟩) (by simp)).trans c01) | (go_at_call 45; refine (impl_within.calls (l0_0.length : Int) 1 9 false _ H2.out).mono ?_; rintro e w2 ⟨rfl, ⟨nd, rfl⟩⟩))
      go_ret
      exact ⟨rfl, hb0.trans ((pw_below_drewN hb1 _).mono (by simp))⟩

/-! ### impl_Puzzle_fits: function 53 -/
def impl_Puzzle_fits.f (l0_0 : List (S64)) (l0_1 : List Int) (a1 : Int) (a2 : Int) : Option (Bool) := if 0 ≤ a1 then (if a1 < (l0_1.length : Int) then (if (rd l0_1 a1) = (-1) then (some true) else (some ((rd l0_1 a1) == a2))) else (none)) else (none)
/-! ### slices_Clone_int_int: function 37, by hand -/
theorem slices_Clone_int_int.info : (Tryz.prog.info? 3).map (fun i => (i.zero, i.size, i.bytes)) = some (some (.int .i64 0), (Kd.int .i64).sz, 8) := by kernel_rfl
/-- A copy in memory of its own (nil of nil). -/
def slices_Clone_int_int.f (l0 : List (Int)) : Option (List (Int)) := if l0.length < 17592186044416 then some l0 else none
set_option maxHeartbeats 1000000 in
theorem slices_Clone_int_int.calls (A0 : Option Addr) (c0 : Nat) (l0 : List (Int)) (r : List (Int)) (w : World) (hr0 : Kd.C (Kd.int .i64) w A0 l0.length l0) (_hc0 : l0.length ≤ c0) (h : slices_Clone_int_int.f l0 = some r) :
    Calls Tryz.prog 37 #[.slice A0 l0.length c0] w fun e w' => ∃ v0_ : Value, e = .returned (v0_) ∧ Kd.R (Kd.int .i64) 3 w' w.heap.size (fun _ => True) v0_ r ∧ Below w.heap.size w w' := by
  unfold slices_Clone_int_int.f at h
  by_cases hl : l0.length < 17592186044416
  · rw [if_pos hl] at h
    obtain rfl := Option.some.inj h
    clear h
    cases A0 with
    | none =>
      have hz : l0 = [] := by
        cases l0 with
        | nil => rfl
        | cons x xs =>
          obtain ⟨ad, e, _⟩ := hr0.2.2 (by simp)
          cases e
      subst hz
      clear hr0 hl
      have hq := fun (W : World) => Lib.run_eql_slice_nil (P := Tryz.prog) W 25 3 none 0 c0 0 0 Tryz.underlying25
      go_enter Tryz.func37, Tryz.ntmps37
      go_wp2
      go_ret
      exact ⟨_, rfl, Kd.R_nil _ _ _ _ _, Below.refl _ _⟩
    | some ad =>
      have hq := fun (W : World) => Lib.run_eql_slice_nil (P := Tryz.prog) W 25 3 (some ad) l0.length c0 0 0 Tryz.underlying25
      have HR := Lib.hid hr0
      clear hr0
      go_enter Tryz.func37, Tryz.ntmps37
      go_wp2_with (first
        | ((with_reducible refine gate_dst (N := 5) rfl ?_); refine Kd.R_lit (Kd.int .i64) _ 3 ?hg (N := 5) ?hd (xs := ([] : List (Int))) (inner := []) (ok := fun _ => True) (okp := fun _ => True) ?hr ?hp (fun _ hk => hk) trivial (Below.refl _ _) (Nat.le_refl _) (by simp) ?_; (case hd => rfl); (case hg => rfl); (case hr => first | (go_simp; done) | (go_simp; rfl)); (case hp => exact (Reps.none _ _)); intro v1 w1 ho1 hb1 hg_ hnew_; clear hg_ hnew_)
        | ((with_reducible refine gate_builtin (b := .append) (xs := #[.tmp 5, .tmp 6]) rfl ?_); at_builtin; refine Kd.R_append_rows (Kd.int .i64) (w0 := w) w.heap.size rfl (.tmp 5) (.tmp 6) 25 3 (.int .i64 0) 8 rfl Tryz.underlying25 slices_Clone_int_int.info rfl (by decide) (by omega) v1 [] l0 _ _ _ (fun _ => True) (fun _ => False) rfl rfl ?aO ?aR (fun _ _ h => h) (fun _ h => h.elim) ?aF ?aB ?aS ?aL ?_; (case aR => exact Kd.C_below HR.out hb1); (case aB => exact hb1); (case aF => exact (fun _ _ => trivial)); (case aO => exact ho1); (case aS => exact hb1.size); (case aL => simp; omega); intro v2 w2 ho2 hb2 hg hat))
      go_ret
      exact ⟨_, rfl, ho2, hb2⟩
  · rw [if_neg hl] at h
    exact absurd h (by simp)


/-! ### slices_Clone_impl_Tile_impl_Tile: function 54, by hand -/
theorem slices_Clone_impl_Tile_impl_Tile.info : (Tryz.prog.info? 64).map (fun i => (i.zero, i.size, i.bytes)) = some (some (.agg #[(.int .i64 0), (.int .i64 0)]), k64.sz, 16) := by kernel_rfl
/-- A copy in memory of its own (nil of nil). -/
def slices_Clone_impl_Tile_impl_Tile.f (l0 : List (S64)) : Option (List (S64)) := if l0.length < 8796093022208 then some l0 else none
set_option maxHeartbeats 1000000 in
theorem slices_Clone_impl_Tile_impl_Tile.calls (A0 : Option Addr) (c0 : Nat) (l0 : List (S64)) (r : List (S64)) (w : World) (hr0 : Kd.C k64 w A0 l0.length l0) (_hc0 : l0.length ≤ c0) (h : slices_Clone_impl_Tile_impl_Tile.f l0 = some r) :
    Calls Tryz.prog 54 #[.slice A0 l0.length c0] w fun e w' => ∃ v0_ : Value, e = .returned (v0_) ∧ Kd.R k64 64 w' w.heap.size (fun _ => True) v0_ r ∧ Below w.heap.size w w' := by
  unfold slices_Clone_impl_Tile_impl_Tile.f at h
  by_cases hl : l0.length < 8796093022208
  · rw [if_pos hl] at h
    obtain rfl := Option.some.inj h
    clear h
    cases A0 with
    | none =>
      have hz : l0 = [] := by
        cases l0 with
        | nil => rfl
        | cons x xs =>
          obtain ⟨ad, e, _⟩ := hr0.2.2 (by simp)
          cases e
      subst hz
      clear hr0 hl
      have hq := fun (W : World) => Lib.run_eql_slice_nil (P := Tryz.prog) W 24 64 none 0 c0 0 0 Tryz.underlying24
      go_enter Tryz.func54, Tryz.ntmps54
      go_wp2
      go_ret
      exact ⟨_, rfl, Kd.R_nil _ _ _ _ _, Below.refl _ _⟩
    | some ad =>
      have hq := fun (W : World) => Lib.run_eql_slice_nil (P := Tryz.prog) W 24 64 (some ad) l0.length c0 0 0 Tryz.underlying24
      have HR := Lib.hid hr0
      clear hr0
      go_enter Tryz.func54, Tryz.ntmps54
      go_wp2_with (first
        | ((with_reducible refine gate_dst (N := 5) rfl ?_); refine Kd.R_lit k64 _ 64 ?hg (N := 5) ?hd (xs := ([] : List (S64))) (inner := []) (ok := fun _ => True) (okp := fun _ => True) ?hr ?hp (fun _ hk => hk) trivial (Below.refl _ _) (Nat.le_refl _) (by simp) ?_; (case hd => rfl); (case hg => rfl); (case hr => first | (go_simp; done) | (go_simp; rfl)); (case hp => exact (Reps.none _ _)); intro v1 w1 ho1 hb1 hg_ hnew_; clear hg_ hnew_)
        | ((with_reducible refine gate_builtin (b := .append) (xs := #[.tmp 5, .tmp 6]) rfl ?_); at_builtin; refine Kd.R_append_rows k64 (w0 := w) w.heap.size rfl (.tmp 5) (.tmp 6) 24 64 (.agg #[(.int .i64 0), (.int .i64 0)]) 16 rfl Tryz.underlying24 slices_Clone_impl_Tile_impl_Tile.info rfl (by decide) (by omega) v1 [] l0 _ _ _ (fun _ => True) (fun _ => False) rfl rfl ?aO ?aR (fun _ _ h => h) (fun _ h => h.elim) ?aF ?aB ?aS ?aL ?_; (case aR => exact Kd.C_below HR.out hb1); (case aB => exact hb1); (case aF => exact (fun _ _ => trivial)); (case aO => exact ho1); (case aS => exact hb1.size); (case aL => simp; omega); intro v2 w2 ho2 hb2 hg hat))
      go_ret
      exact ⟨_, rfl, ho2, hb2⟩
  · rw [if_neg hl] at h
    exact absurd h (by simp)


/-! ### impl_tile: function 77 -/
def impl_tile.f (a0 : Int) (a1 : Int) : Option (Int × Int) := some (mn a0 a1, mx a0 a1)
/-! ### slices_Delete_impl_Tile_impl_Tile: function 78, by hand -/
/-! ### slices.Delete of one element, at a row of the call's own -/
theorem R_past {α : Type} {d : Kd α} {e base n cap g j : Nat} {ok : Nat → Prop} {W : World} {xs : List α} (h : d.R e W base ok (.slice (some ⟨g, 0, none⟩) n cap) xs) (hj : n * d.sz ≤ j) (u : Value) :
    d.R e (W.setCell ⟨g, j, none⟩ u) base ok (.slice (some ⟨g, 0, none⟩) n cap) xs := by
  obtain ⟨hok, inner, ⟨hl, hown⟩, hr⟩ := h
  have hne : ∀ k, (ok k ∧ some k ≠ (Value.slice (some ⟨g, 0, none⟩) n cap).ownBlock) → k ≠ g := by
    rintro k ⟨_, hk⟩ rfl
    exact hk rfl
  rcases hown with ⟨hv, _⟩ | ⟨g', cap', cur, hv, hb, hh, hn, hm, hs, ht⟩
  · cases hv
  · injection hv with h1 h2 h3
    injection h1 with h1
    injection h1 with h1
    subst h1
    subst h3
    subst h2
    refine ⟨hok, inner, ⟨hl, .inr ⟨g, cap, cur.setIfInBounds j u, rfl, hb, blk_set hh j u, hn, hm, by rw [Array.size_setIfInBounds]; exact hs, ?_⟩⟩, hr.imp_ (fun p c hp => ?_)⟩
    · rw [← ht, Array.toList_setIfInBounds, List.take_set_of_le (by omega)]
    · exact Kd.M_far (p := ⟨g, j, none⟩) hp hne u
theorem R_past2 {α : Type} {d : Kd α} {e base n cap g j : Nat} {ok : Nat → Prop} {W : World} {xs : List α} (h : d.R e W base ok (.slice (some ⟨g, 0, none⟩) n cap) xs) (hj : n * d.sz ≤ j) (us : List Value) :
    d.R e (W.setCells g j us) base ok (.slice (some ⟨g, 0, none⟩) n cap) xs := by
  induction us generalizing W j with
  | nil => exact h
  | cons u us ih => exact ih (R_past h hj u) (by omega)
theorem below_cells {base g j : Nat} {w W : World} (h : Below base w W) (hg : base ≤ g) (us : List Value) : Below base w (W.setCells g j us) := by
  induction us generalizing W j with
  | nil => exact h
  | cons u us ih => exact ih (h.setCell hg _)
theorem delT_info : (Tryz.prog.info? 64).map (·.size) = some k64.sz := by kernel_rfl
theorem grown_cell {g j : Nat} {w W : World} (h : w.grownBy W (some g)) (u : Value) : w.grownBy (W.setCell ⟨g, j, none⟩ u) (some g) :=
  ⟨h.os, h.tape, h.output, by rw [World.size_setCell]; exact h.size, fun i hi hr => (Below.heap_setCell W ⟨g, j, none⟩ u i (fun e => hr (by rw [e]))).trans (h.block i hi hr)⟩
theorem grown_cells {g j : Nat} {w W : World} (h : w.grownBy W (some g)) (us : List Value) : w.grownBy (W.setCells g j us) (some g) := by
  induction us generalizing W j with
  | nil => exact h
  | cons u us ih => exact ih (grown_cell h u)
theorem zeroT_ (w : World) : (zeroValue 64).run Tryz.prog w = .ok (.agg #[.int .i64 0, .int .i64 0]) w := by kernel_rfl
theorem clearT_ {w : World} {g o c : Nat} {cur : Array Value} (hh : w.heap[g]? = some (.cells cur 64 (0, 0))) (hs : o + 2 ≤ cur.size) (ty : TypeId) :
    (Builtin.clear_ #[24] ty #[.slice (some ⟨g, o, none⟩) 1 c]).run Tryz.prog w = .ok (.tuple #[]) (w.setCells g o [.int .i64 0, .int .i64 0]) := by
  have hst := run_storeCells_cells (P := Tryz.prog) g o [.int .i64 0, .int .i64 0] 0 w
    (fun j hj => by
      rw [blk_cell hh]
      have : o + 0 + j < cur.size := by simp at hj; omega
      rw [Array.getElem?_eq_getElem this]
      rfl)
    (fun j hj => blk_frozen hh _) (fun v hv => by simp at hv; subst hv; rfl)
  simp only [Nat.add_zero] at hst
  have hzc : (Builtin.zeroCells (Value.agg #[.int .i64 0, .int .i64 0]).cells 1).toList = [.int .i64 0, .int .i64 0] := by kernel_rfl
  simp [Builtin.clear_, run_underlying Tryz.underlying24, zeroT_, hzc, hst]
set_option maxHeartbeats 4000000 in
set_option maxRecDepth 1000000 in
theorem delT (w : World) (base g cap k m : Nat) (ok : Nat → Prop) (l : List S64) (hb : base ≤ w.heap.size) (hl : l.length = m + 1) (hk : k ≤ m) (hR : Kd.R k64 64 w base ok (.slice (some ⟨g, 0, none⟩) (m + 1) cap) l) :
    Calls Tryz.prog 78 #[.slice (some ⟨g, 0, none⟩) (m + 1) cap, .int .i64 k, .int .i64 ((k : Int) + 1)] w fun e w' => e = .returned (.slice (some ⟨g, 0, none⟩) m cap) ∧ Kd.R k64 64 w' base ok (.slice (some ⟨g, 0, none⟩) m cap) (l.eraseIdx k) ∧ Below base w w' ∧ w.grownBy w' (some g) := by
  obtain ⟨cur, hok, hbg, hh, hn, hm, hs⟩ : ∃ cur, (∀ k, some g = some k → ok k) ∧ base ≤ g ∧ w.heap[g]? = some (.cells cur 64 (0, 0)) ∧ m + 1 ≤ cap ∧ cap ≤ maxLen ∧ cur.size = cap * 2 := by
    obtain ⟨hok, inner, ⟨hlen, hown⟩, hrep⟩ := hR
    rcases hown with ⟨hv, _⟩ | ⟨g', cap', cur, hv, hb, hh, hn, hm, hs, ht⟩
    · cases hv
    · injection hv with h1 h2 h3
      injection h1 with h1
      injection h1 with h1
      subst h1
      subst h3
      exact ⟨cur, hok, hb, hh, by omega, hm, hs⟩
  have HR := Lib.hid hR
  have HL := Lib.hid hl
  unfold maxLen at hm
  have huel := Tryz.underlying64
  have hkc : k ≤ cap := by omega
  have hkd : k + 1 ≤ cap := by omega
  have hkl : k + 1 ≤ m + 1 := by omega
  have hi0 : 0 ≤ (k : Int) + 1 := by omega
  have hi1 : (k : Int) + 1 ≤ ((m + 1 : Nat) : Int) := by omega
  have hi2 : (k : Int) + 1 ≤ ((m : Nat) : Int) + 1 := by omega
  have hcm : ¬ cap = m := by omega
  have hA : (if cap = k + 1 then (some ⟨g, 0, none⟩ : Option Addr) else some ⟨g, (k + 1) * 2, none⟩) = if cap = k + 1 then some ⟨g, 0, none⟩ else (some (⟨g, 0, none⟩ : Addr)).map (·.add ((k + 1) * k64.sz)) := by
    by_cases h : cap = k + 1
    · rw [if_pos h, if_pos h]
    · rw [if_neg h, if_neg h, Option.map_some, add_plain]
      rfl
  have HA := Lib.hid hA
  clear hR hh hs hok hl hA
  go_enter Tryz.func78, Tryz.ntmps78
  go_wp2_with fail
  go_region_law (refine Kd.R_delete_step k64 (w0 := w) (g := g) (n := m + 1) (c := cap) (k := k) (m := m + 1 - (k + 1)) (c2 := cap - (k + 1)) (A := if cap = k + 1 then (some ⟨g, 0, none⟩ : Option Addr) else some ⟨g, (k + 1) * 2, none⟩) (xs := l) (ok := ok) base rfl (.tmp 22) (.tmp 25) 24 64 rfl Tryz.underlying24 delT_info (by rfl) (by first | rfl | (simp [Act.eval, Act.put]; done)) HA.out rfl (Kd.R_drewN HR.out 1) (by omega) (below_drew1 (Below.refl _ _)) hb ?_; intro w1 hr1 hb1 hg1)
  have HR1 := Lib.hid hr1
  have HG1 := Lib.hid hg1
  have hcl : ∀ ty, (Builtin.clear_ #[24] ty #[.slice (some ⟨g, m * 2, none⟩) 1 (cap - m)]).run Tryz.prog w1 = .ok (.tuple #[]) (w1.setCells g (m * 2) [.int .i64 0, .int .i64 0]) := by
    intro ty
    obtain ⟨cur, hh, hs⟩ : ∃ cur, w1.heap[g]? = some (.cells cur 64 (0, 0)) ∧ cur.size = cap * 2 := by
      obtain ⟨hok, inner, ⟨hlen, hown⟩, hrep⟩ := hr1
      rcases hown with ⟨hv, _⟩ | ⟨g', cap', cur, hv, hb, hh, hn, hm, hs, ht⟩
      · cases hv
      · injection hv with h1 h2 h3
        injection h1 with h1
        injection h1 with h1
        subst h1
        subst h3
        exact ⟨cur, hh, hs⟩
    exact clearT_ hh (by omega) ty
  clear hr1 hg1
  go_wp2
  all_goals
    have hr2 : Kd.R k64 64 w1 base ok (.slice (some ⟨g, 0, none⟩) m cap) (l.eraseIdx k) := HR1.out
    have hg2 : w.grownBy w1 (some g) := ⟨HG1.out.os, HG1.out.tape, HG1.out.output, HG1.out.size, HG1.out.block⟩
    go_ret
    first
      | exact ⟨rfl, R_past2 hr2 (Nat.le_refl _) _, below_cells hb1 hbg _, grown_cells hg2 _⟩
      | (have hq : cap = k + 1 := by assumption
         rw [hq] at hr2
         exact ⟨rfl, R_past2 hr2 (Nat.le_refl _) _, below_cells hb1 hbg _, grown_cells hg2 _⟩)

/-! ### impl_Puzzle_solutions_1: function 75, by hand -/
-- with its caller

end Go.Proofs.YtgdefohillhdoaaGreatDoor.QFnPuzzlesFilled
