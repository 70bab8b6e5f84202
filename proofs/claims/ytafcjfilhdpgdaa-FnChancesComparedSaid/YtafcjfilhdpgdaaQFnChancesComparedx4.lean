-- WRITTEN BY A PROGRAM OF THIS CLAIM'S AUTHOR (wprint.py)
import Derived.Test.YtafcjfilhdpgdaaQFnChancesComparedx0
import Derived.Test.YtafcjfilhdpgdaaQFnChancesComparedx3
namespace Go.Proofs.Ytafcjfilhdpgdaa.QFnChancesCompared
open Go.RowKit Go.Proofs.YtafcjfilhdpgdaaW.PrintWords Go.Proofs.YtafcjfilhdpgdaaW.PrintLast Go.Proofs.YtafcjfilhdpgdaaW.PrintMore
attribute [local go_sem] max2_int min2_int max_two min_two max_three min_three max_four min_four   -- for this text's walks alone
set_option linter.unusedVariables false
set_option linter.unusedSimpArgs false

/-! ### slices_DeleteFunc_int_int: function 66, by hand -/
/-! ### slices.DeleteFunc at whole numbers, a row of the call's own -/
set_option maxHeartbeats 1000000 in
theorem idxI2 (fi : FuncId) (caps : Array Value) (p : Int → Bool) (A0 : Option Addr) (c0 : Nat) (l0 : List Int) (w : World) (hr0 : Kd.C (Kd.int .i64) w A0 l0.length l0)
    (eg : ∀ args w, (callFunc fi args).run Try.prog w = .ok (.enter fi args) w)
    (hp : ∀ (x : Int), x ∈ l0 → ∀ (W : World), Below w.heap.size w W → Calls Try.prog fi (#[.int .i64 x] ++ caps) W fun e w' => e = .returned (.bool (p x)) ∧ Below W.heap.size W w') :
    Calls Try.prog 73 #[.slice A0 l0.length c0, .func (.func fi) #[] caps] w fun e w' => e = .returned (.int .i64 (idxOf p l0)) ∧ Below w.heap.size w w' := by
  have hlen := hr0.2.1
  have HR := Lib.hid hr0
  clear hr0
  go_enter Try.func73, Try.ntmps73
  go_wp2
  go_loopw [8] (fun i wr => ∃ k : Nat, k ≤ l0.length ∧ i = .int .i64 k ∧ Hid (∀ j, j < k → p (l0.getD j 0) = false) ∧ Below w.heap.size w wr) (fun i _ => l0.length - (intOf i).toNat)
  case atStart => exact ⟨0, Nat.zero_le _, rfl, Lib.hid (fun j h => absurd h (Nat.not_lt_zero _)), Below.refl _ _⟩
  case round =>
    obtain ⟨k, hk, rfl, hnone, hbel⟩ := hrel
    by_cases hlt : k < l0.length
    · obtain ⟨ad, rfl, hx0⟩ := Kd.at_int (Kd.C_below HR.out hbel) (k : Int) (by omega) (by omega)
      rw [show ((k : Int)).toNat = k from rfl] at hx0
      have hc := hp (rd l0 k) (by
        have e : rd l0 k = l0[k] := by
          unfold rd
          rw [show ((k : Int)).toNat = k from rfl, List.getD_eq_getElem?_getD, List.getElem?_eq_getElem hlt]
          rfl
        rw [e]
        exact List.getElem_mem hlt) _ hbel
      cases hpk : p (rd l0 k)
      · rw [hpk] at hc
        have HP := Lib.hid hpk
        clear hpk
        go_wp2_with (refine hc.mono ?_; rintro e w1 ⟨rfl, hb1⟩)
        go_roundw
        case rel => exact ⟨k + 1, by omega, by go_num, Lib.hid (fun j hj => by
          by_cases e : j = k
          · subst e
            exact HP.out
          · exact hnone.out j (by omega)), hbel.trans (hb1.mono hbel.size)⟩
        case measure => simp [intOf]; omega
      · rw [hpk] at hc
        have HP := Lib.hid hpk
        clear hpk
        go_wp2_with (refine hc.mono ?_; rintro e w1 ⟨rfl, hb1⟩)
        go_ret
        exact ⟨by rw [idxOf_at p 0 l0 k hlt hnone.out HP.out]; rfl, hbel.trans (hb1.mono hbel.size)⟩
    · go_wp2
      go_ret
      have e : k = l0.length := by omega
      subst e
      exact ⟨by rw [idxOf_none p 0 l0 hnone.out]; rfl, hbel⟩
theorem idxOf_cases {α : Type} (p : α → Bool) : ∀ l : List α, (idxOf p l = -1 ∧ l.filter (fun x => !p x) = l) ∨ ∃ k : Nat, idxOf p l = k ∧ k < l.length ∧ (l.take (k + 1)).filter (fun x => !p x) = l.take k
  | [] => .inl ⟨rfl, rfl⟩
  | x :: xs => by
    cases h : p x
    · rcases idxOf_cases p xs with ⟨h1, h2⟩ | ⟨k, h1, h2, h3⟩
      · refine .inl ⟨by simp [idxOf, h, h1], by simp [h, h2]⟩
      · refine .inr ⟨k + 1, ?_, by simpa using h2, ?_⟩
        · simp only [idxOf, h, h1]
          rw [if_neg (by simp), if_neg (by omega)]
          omega
        · rw [List.take_succ_cons, List.filter_cons, h, h3]
          simp
    · refine .inr ⟨0, by simp [idxOf, h], by simp, by simp [h]⟩
theorem R_pastI {e base n cap g j : Nat} {ok : Nat → Prop} {W : World} {xs : List Int} (h : (Kd.int .i64).R e W base ok (.slice (some ⟨g, 0, none⟩) n cap) xs) (hj : n ≤ j) (u : Value) :
    (Kd.int .i64).R e (W.setCell ⟨g, j, none⟩ u) base ok (.slice (some ⟨g, 0, none⟩) n cap) xs := by
  obtain ⟨hok, inner, ⟨hl, hown⟩, hr⟩ := h
  have hne : ∀ k, (ok k ∧ some k ≠ (Value.slice (some ⟨g, 0, none⟩) n cap).ownBlock) → k ≠ g := by
    rintro k ⟨_, hk⟩ rfl
    exact hk rfl
  rcases hown with ⟨hv, _⟩ | ⟨g', cap', cur, hv, hb, hh, hn, hm, hs, ht⟩
  · cases hv
  · injection hv with h1 h2 h3
    injection h1 with h1
    injection h1 with h1
    subst h1
    subst h3
    subst h2
    refine ⟨hok, inner, ⟨hl, .inr ⟨g, cap, cur.setIfInBounds j u, rfl, hb, blk_set hh j u, hn, hm, by rw [Array.size_setIfInBounds]; exact hs, ?_⟩⟩, hr.imp_ (fun p c hp => ?_)⟩
    · rw [← ht, Array.toList_setIfInBounds, List.take_set_of_le (by rw [show (Kd.int .i64).sz = 1 from rfl]; omega)]
    · exact Kd.M_far (p := ⟨g, j, none⟩) hp hne u
theorem R_pastI2 {e base n cap g j : Nat} {ok : Nat → Prop} {W : World} {xs : List Int} (h : (Kd.int .i64).R e W base ok (.slice (some ⟨g, 0, none⟩) n cap) xs) (hj : n ≤ j) (us : List Value) :
    (Kd.int .i64).R e (W.setCells g j us) base ok (.slice (some ⟨g, 0, none⟩) n cap) xs := by
  induction us generalizing W j with
  | nil => exact h
  | cons u us ih => exact ih (R_pastI h hj u) (by omega)
theorem grownI_cell {w W : World} {g j : Nat} (h : w.grownBy W (some g)) (u : Value) : w.grownBy (W.setCell ⟨g, j, none⟩ u) (some g) :=
  ⟨h.os, h.tape, h.output, by rw [World.size_setCell]; exact h.size, fun i hi hr => (Below.heap_setCell W ⟨g, j, none⟩ u i (fun e => hr (by rw [e]))).trans (h.block i hi hr)⟩
theorem grownI_cells {w W : World} {g j : Nat} (h : w.grownBy W (some g)) (us : List Value) : w.grownBy (W.setCells g j us) (some g) := by
  induction us generalizing W j with
  | nil => exact h
  | cons u us ih => exact ih (grownI_cell h u)
theorem grownI_below {w W W' : World} {r : Option Nat} (h : w.grownBy W r) (hb : Below W.heap.size W W') : w.grownBy W' r :=
  ⟨hb.os.trans h.os, hb.tape.trans h.tape, hb.output.trans h.output, Nat.le_trans h.size hb.size, fun i hi hr => (hb.block i (Nat.lt_of_lt_of_le hi h.size)).trans (h.block i hi hr)⟩
theorem belowI_cells {base g j : Nat} {w W : World} (h : Below base w W) (hg : base ≤ g) (us : List Value) : Below base w (W.setCells g j us) := by
  induction us generalizing W j with
  | nil => exact h
  | cons u us ih => exact ih (h.setCell hg _)
theorem zeroI_ (w : World) : (zeroValue 3).run Try.prog w = .ok (.int .i64 0) w := by kernel_rfl
set_option maxHeartbeats 4000000 in
set_option maxRecDepth 1000000 in
theorem delI (fi : FuncId) (caps : Array Value) (p : Int → Bool) (w : World) (base : Nat) (ok : Nat → Prop) (v : Value) (l : List Int) (hR : Kd.R (Kd.int .i64) 3 w base ok v l) (hb : base ≤ w.heap.size)
    (eg : ∀ args w, (callFunc fi args).run Try.prog w = .ok (.enter fi args) w)
    (hp : ∀ (x : Int), x ∈ l → ∀ (W : World), w.grownBy W v.ownBlock → Calls Try.prog fi (#[.int .i64 x] ++ caps) W fun e w' => e = .returned (.bool (p x)) ∧ Below W.heap.size W w') :
    Calls Try.prog 66 #[v, .func (.func fi) #[] caps] w fun e w' => ∃ v' : Value, e = .returned v' ∧ Kd.R (Kd.int .i64) 3 w' base ok v' (l.filter fun x => !p x) ∧ Below base w w' ∧ w.grownBy w' v.ownBlock := by
  have hB0 : ∀ W, Below w.heap.size w W → w.grownBy W v.ownBlock := fun W h => ⟨h.os, h.tape, h.output, h.size, fun i hi _ => h.block i hi⟩
  obtain ⟨A, c, rfl, hlc, hC⟩ := Kd.R_reads hR
  have hidx := idxI2 fi caps p A c l w hC eg (fun x hx W hW => hp x hx W (hB0 W hW))
  have hlen := hC.2.1
  rcases idxOf_cases p l with ⟨h1, h2⟩ | ⟨k0, h1, hk0, h3⟩
  · rw [h1] at hidx
    rw [h2]
    have HR := Lib.hid hR
    clear hR hC hp h1 h2
    go_enter Try.func66, Try.ntmps66
    go_wp2_with (go_at_call 73; refine hidx.mono ?_; rintro e w1 ⟨rfl, hb1⟩)
    go_ret
    exact ⟨_, rfl, Kd.R_below HR.out hb1, hb1.mono hb, hB0 _ hb1⟩
  · rw [h1] at hidx
    obtain ⟨g, hA⟩ : ∃ g, A = some ⟨g, 0, none⟩ := by
      obtain ⟨g, cap, e, _⟩ := Kd.R_form hR (by omega)
      injection e with e1 _ _
      exact ⟨g, e1⟩
    subst hA
    have hne1 : ((k0 : Int) == -1) = false := beq_eq_false_iff_ne.2 (by omega)
    have HR := Lib.hid hR
    have HP := Lib.hid hp
    have H3 := Lib.hid h3
    have HX := Lib.hid hB0
    have hbg : base ≤ g := by
      obtain ⟨_, _, ⟨_, hown⟩, _⟩ := hR
      rcases hown with ⟨hv, _⟩ | ⟨g', cap', cur, hv, hb, _⟩
      · cases hv
      · injection hv with h1 _ _
        injection h1 with h1
        injection h1 with h1
        omega
    have HBG := Lib.hid hbg
    clear hR hC hp h1 h3 hB0 hbg
    go_enter Try.func66, Try.ntmps66
    go_wp2_with (go_at_call 73; refine hidx.mono ?_; rintro e w1 ⟨rfl, hb1⟩)
    have HB1 := Lib.hid hb1
    clear hb1 hidx
    go_loopg [5, 6, 7] l.length (fun gg s5 s6 _ wr => ∃ (i j : Nat) (lr : List Int), s5 = .int .i64 i ∧ s6 = .int .i64 j ∧ i < j ∧ j ≤ l.length ∧ l.length - j ≤ gg ∧ Hid (lr.length = l.length ∧ lr.take i = (l.take j).filter (fun x => !p x) ∧ lr.drop j = l.drop j) ∧ Hid (Kd.R (Kd.int .i64) 3 wr base ok (.slice (some ⟨g, 0, none⟩) l.length c) lr) ∧ Hid (w.grownBy wr (some g)) ∧ Hid (Below base w wr))
    case atStart => exact ⟨k0, k0 + 1, l, rfl, by go_num, by omega, by omega, by omega, Lib.hid ⟨rfl, H3.out.symm, rfl⟩, Lib.hid (Kd.R_below HR.out HB1.out), Lib.hid (HX.out _ HB1.out), Lib.hid (HB1.out.mono hb)⟩
    case round =>
      obtain ⟨i, j, lr, rfl, rfl, hij, hjl, hgg, HL, HRr, HG, HBr⟩ := hrel
      by_cases hlt : j < l.length
      · have hltz : (j : Int) < (l.length : Int) := by omega
        have hj : lr[j]? = l[j]? := by
          have := congrArg (fun z => z[0]?) HL.out.2.2
          simpa [List.getElem?_drop] using this
        obtain ⟨u, hu⟩ : ∃ u, l[j]? = some u := ⟨l[j], List.getElem?_eq_getElem hlt⟩
        have hul : u ∈ l := List.mem_of_getElem? hu
        have hlrl := HL.out.1
        have hR2 : Kd.R (Kd.int .i64) 3 wr base ok (.slice (some ⟨g, 0, none⟩) lr.length c) lr := by rw [hlrl]; exact HRr.out
        have hcell := (Kd.R_cell (0 : Int) hR2 (j : Int) (by omega) (by omega)).1
        have hrd : rdOf (0 : Int) lr (j : Int) = u := by
          unfold rdOf
          rw [show ((j : Int)).toNat = j from rfl, List.getD_eq_getElem?_getD, hj, hu]
          rfl
        rw [hrd] at hcell
        have hcell : wr.cell? ⟨g, j, none⟩ = some (.int .i64 u) := hcell
        have hcall := HP.out u hul wr HG.out
        have hfz : wr.frozen? ⟨g, i, none⟩ = false := (Kd.R_cell (0 : Int) hR2 (i : Int) (by omega) (by omega)).2
        have hold : wr.cell? ⟨g, i, none⟩ = some (.int .i64 (rdOf (0 : Int) lr (i : Int))) := (Kd.R_cell (0 : Int) hR2 (i : Int) (by omega) (by omega)).1
        have HHU := Lib.hid hu
        have HR2 := Lib.hid hR2
        have HLR := Lib.hid hlrl
        clear hul hj hu hR2 hlrl
        have hstep : (l.take (j + 1)).filter (fun x => !p x) = (l.take j).filter (fun x => !p x) ++ (if p u = true then [] else [u]) := by
          rw [List.take_add_one, HHU.out]
          simp only [Option.toList_some, List.filter_append]
          congr 1
          cases hq : p u <;> simp [hq]
        have HST := Lib.hid hstep
        clear hstep
        cases hq : p u
        · rw [hq] at hcall
          have HQ := Lib.hid hq
          clear hq
          go_wp2_with (refine hcall.mono ?_; rintro e w2 ⟨rfl, hb2⟩; have hold2 : w2.cell? ⟨g, i, none⟩ = some (.int .i64 (rdOf (0 : Int) lr (i : Int))) := (hb2.cell (p := ⟨g, i, none⟩) (Kd.R_lt HR2.out g rfl)).trans hold; have hfz2 : w2.frozen? ⟨g, i, none⟩ = false := (hb2.frozen (p := ⟨g, i, none⟩) (Kd.R_lt HR2.out g rfl)).trans hfz)
          go_roundg (l.length - (j + 1))
          case measure => omega
          case rel =>
            have hp2 := Kd.R_put (Kd.R_below HR2.out hb2) (i : Int) u
            rw [show ((i : Int)).toNat = i from rfl] at hp2
            refine ⟨i + 1, j + 1, lr.set i u, by go_num, by go_num, by omega, by omega, Nat.le_refl _, Lib.hid ⟨by rw [List.length_set]; exact HLR.out, ?_, ?_⟩, Lib.hid ?_, Lib.hid ?_, Lib.hid ?_⟩
            · rw [HST.out, HQ.out, ← HL.out.2.1]
              have hil : i < lr.length := by have := HLR.out; omega
              rw [List.take_add_one, List.getElem?_set_self hil, List.take_set_of_le (Nat.le_refl _)]
              rfl
            · have := HL.out.2.2
              rw [List.drop_set_of_lt (by omega)]
              have h2 := congrArg (List.drop 1) this
              simpa [List.drop_drop] using h2
            · have := hp2.1
              rw [HLR.out] at this
              exact this
            · exact (grownI_below HG.out hb2).trans hp2.2
            · exact (HBr.out.trans (hb2.mono (Nat.le_trans (Nat.le_trans hb HG.out.size) (Nat.le_refl _)))).setCell HBG.out _
        · rw [hq] at hcall
          have HQ := Lib.hid hq
          clear hq
          go_wp2_with (refine hcall.mono ?_; rintro e w2 ⟨rfl, hb2⟩)
          go_roundg (l.length - (j + 1))
          case measure => omega
          case rel =>
            refine ⟨i, j + 1, lr, rfl, by go_num, by omega, by omega, Nat.le_refl _, Lib.hid ⟨HLR.out, ?_, ?_⟩, Lib.hid ?_, Lib.hid ?_, Lib.hid ?_⟩
            · rw [HST.out, HQ.out, ← HL.out.2.1]
              simp
            · have h2 := congrArg (List.drop 1) HL.out.2.2
              simpa [List.drop_drop] using h2
            · exact Kd.R_below HRr.out hb2
            · exact grownI_below HG.out hb2
            · exact HBr.out.trans (hb2.mono (Nat.le_trans hb HG.out.size))
      · obtain rfl : j = l.length := by omega
        have hltz : ¬ (l.length : Int) < (l.length : Int) := by omega
        have hlrl := HL.out.1
        have hR2 : Kd.R (Kd.int .i64) 3 wr base ok (.slice (some ⟨g, 0, none⟩) lr.length c) lr := by rw [hlrl]; exact HRr.out
        have hcl : ∀ ty, (Builtin.clear_ #[62] ty #[.slice (some ⟨g, i, none⟩) (l.length - i) (c - i)]).run Try.prog wr = .ok (.tuple #[]) (wr.setCells g i (List.replicate (l.length - i) (.int .i64 0))) :=
          fun ty => Lib.run_clear_slice wr _ _ ty _ Try.underlying62 zeroI_ rfl rfl g i _ _ (by omega)
            (fun t ht => by
              have := (Kd.R_cell (0 : Int) hR2 ((i + t : Nat) : Int) (by omega) (by omega)).1
              rw [show (((i + t : Nat) : Int)).toNat = i + t from rfl] at this
              rw [this]
              rfl)
            (fun t ht => by
              have := (Kd.R_cell (0 : Int) hR2 ((i + t : Nat) : Int) (by omega) (by omega)).2
              rw [show (((i + t : Nat) : Int)).toNat = i + t from rfl] at this
              exact this)
        have HLR := Lib.hid hlrl
        clear hR2 hlrl
        go_wp2
        go_ret
        have htk : lr.take i = l.filter (fun x => !p x) := by rw [HL.out.2.1, List.take_length]
        have hln : (l.filter (fun x => !p x)).length = i := by rw [← htk, List.length_take, HLR.out]; omega
        have hR3 : Kd.R (Kd.int .i64) 3 wr base ok (.slice (some ⟨g, 0, none⟩) i c) (l.filter (fun x => !p x)) := by
          rw [← htk]
          exact Kd.R_take HRr.out (by rw [HLR.out]; omega)
        refine ⟨_, rfl, R_pastI2 hR3 (Nat.le_refl _) _, ?_, grownI_cells HG.out _⟩
        exact belowI_cells HBr.out HBG.out _

/-! ### slices_Clone_int_int: function 67, by hand -/
theorem slices_Clone_int_int.info : (Try.prog.info? 3).map (fun i => (i.zero, i.size, i.bytes)) = some (some (.int .i64 0), (Kd.int .i64).sz, 8) := by kernel_rfl
/-- A copy in memory of its own (nil of nil). -/
def slices_Clone_int_int.f (l0 : List (Int)) : Option (List (Int)) := if l0.length < 17592186044416 then some l0 else none
set_option maxHeartbeats 1000000 in
theorem slices_Clone_int_int.calls (A0 : Option Addr) (c0 : Nat) (l0 : List (Int)) (r : List (Int)) (w : World) (hr0 : Kd.C (Kd.int .i64) w A0 l0.length l0) (_hc0 : l0.length ≤ c0) (h : slices_Clone_int_int.f l0 = some r) :
    Calls Try.prog 67 #[.slice A0 l0.length c0] w fun e w' => ∃ v0_ : Value, e = .returned (v0_) ∧ Kd.R (Kd.int .i64) 3 w' w.heap.size (fun _ => True) v0_ r ∧ Below w.heap.size w w' := by
  unfold slices_Clone_int_int.f at h
  by_cases hl : l0.length < 17592186044416
  · rw [if_pos hl] at h
    obtain rfl := Option.some.inj h
    clear h
    cases A0 with
    | none =>
      have hz : l0 = [] := by
        cases l0 with
        | nil => rfl
        | cons x xs =>
          obtain ⟨ad, e, _⟩ := hr0.2.2 (by simp)
          cases e
      subst hz
      clear hr0 hl
      have hq := fun (W : World) => Lib.run_eql_slice_nil (P := Try.prog) W 62 3 none 0 c0 0 0 Try.underlying62
      go_enter Try.func67, Try.ntmps67
      go_wp2
      go_ret
      exact ⟨_, rfl, Kd.R_nil _ _ _ _ _, Below.refl _ _⟩
    | some ad =>
      have hq := fun (W : World) => Lib.run_eql_slice_nil (P := Try.prog) W 62 3 (some ad) l0.length c0 0 0 Try.underlying62
      have HR := Lib.hid hr0
      clear hr0
      go_enter Try.func67, Try.ntmps67
      go_wp2_with (first
        | ((with_reducible refine gate_dst (N := 5) rfl ?_); refine Kd.R_lit (Kd.int .i64) _ 3 ?hg (N := 5) ?hd (xs := ([] : List (Int))) (inner := []) (ok := fun _ => True) (okp := fun _ => True) ?hr ?hp (fun _ hk => hk) trivial (Below.refl _ _) (Nat.le_refl _) (by simp) ?_; (case hd => rfl); (case hg => rfl); (case hr => first | (go_simp; done) | (go_simp; rfl)); (case hp => exact (Reps.none _ _)); intro v1 w1 ho1 hb1 hg_ hnew_; clear hg_ hnew_)
        | ((with_reducible refine gate_builtin (b := .append) (xs := #[.tmp 5, .tmp 6]) rfl ?_); at_builtin; refine Kd.R_append_rows (Kd.int .i64) (w0 := w) w.heap.size rfl (.tmp 5) (.tmp 6) 62 3 (.int .i64 0) 8 rfl Try.underlying62 slices_Clone_int_int.info rfl (by decide) (by omega) v1 [] l0 _ _ _ (fun _ => True) (fun _ => False) rfl rfl ?aO ?aR (fun _ _ h => h) (fun _ h => h.elim) ?aF ?aB ?aS ?aL ?_; (case aR => exact Kd.C_below HR.out hb1); (case aB => exact hb1); (case aF => exact (fun _ _ => trivial)); (case aO => exact ho1); (case aS => exact hb1.size); (case aL => simp; omega); intro v2 w2 ho2 hb2 hg hat))
      go_ret
      exact ⟨_, rfl, ho2, hb2⟩
  · rw [if_neg hl] at h
    exact absurd h (by simp)


/-! ### impl_groups_1: function 68, by hand -/
-- with its caller

/-! ### impl_groups: function 60, by hand -/
/-! ### impl.odd: the numbers of a hand that are there an odd number of times -/
def tms (n : Int) : List S53 → Int
  | [] => 0
  | t :: ts => (if t.f0 = n then 1 else 0) + (if t.f1 = n then 1 else 0) + tms n ts
def numsFrom (l : List S53) : Nat → Nat → List Int
  | 0, _ => []
  | d + 1, i => if 0 < tms (i : Int) l then (i : Int) :: numsFrom l d (i + 1) else numsFrom l d (i + 1)
def nums (l : List S53) : List Int := numsFrom l 10 0
def odds (l : List S53) : List Int := (nums l).filter fun n => !decide (Int.tmod (tms n l) 2 = 0)
theorem tms_range (n : Int) : ∀ l : List S53, 0 ≤ tms n l ∧ tms n l ≤ 2 * l.length
  | [] => by simp [tms]
  | t :: ts => by
    have := tms_range n ts
    unfold tms
    rw [List.length_cons]
    split <;> split <;> omega
theorem h_mid (pre : List S53) (x : S53) (xs : List S53) : rd_T53 (pre ++ x :: xs) (pre.length : Int) = x := by
  unfold rd_T53
  rw [show ((pre.length : Int)).toNat = pre.length from rfl, List.getD_eq_getElem?_getD, List.getElem?_append_right (Nat.le_refl _), Nat.sub_self]
  rfl
theorem h_wrap (n : Int) (h : -1000000000 ≤ n) (h' : n ≤ 1000000000) : wrap64 n = n := by
  unfold wrap64
  omega
theorem times_l (n : Int) : ∀ (rest pre : List S53) (acc : Int) (k : Nat), pre.length + rest.length ≤ 1000 → 0 ≤ acc → acc ≤ 2 * pre.length → rest.length < k →
    impl_times.l0 k n acc (pre ++ rest) ((pre.length + rest.length : Nat) : Int) (pre.length : Int) = some (acc + tms n rest) := by
  intro rest
  induction rest with
  | nil =>
    intro pre acc k h0 h1 h2 h3
    obtain ⟨k, rfl⟩ : ∃ m, k = m + 1 := ⟨k - 1, by omega⟩
    simp only [impl_times.l0, List.length_nil]
    rw [if_neg (by omega)]
    simp [tms]
  | cons x xs ih =>
    intro pre acc k h0 h1 h2 h3
    have hl2 : (x :: xs).length = xs.length + 1 := rfl
    obtain ⟨k, rfl⟩ : ∃ m, k = m + 1 := ⟨k - 1, by omega⟩
    have hln : (pre ++ x :: xs).length = pre.length + (x :: xs).length := by simp
    have hb : ∀ b : Bool, impl_bit.f b = some (if b = true then 1 else 0) := fun b => by cases b <;> rfl
    simp only [impl_times.l0]
    rw [if_pos (by omega), if_pos (by omega), hln, if_pos (by omega), h_mid, hb, hb]
    simp only [Option.bind_some]
    have hi := ih (pre ++ [x]) (acc + ((if (x.f0 == n) = true then 1 else 0) + (if (x.f1 == n) = true then 1 else 0))) k (by simp; omega) (by split <;> split <;> omega) (by rw [List.length_append, List.length_singleton]; split <;> split <;> omega) (by omega)
    have e1 : pre ++ [x] ++ xs = pre ++ x :: xs := by simp
    have e2 : (pre ++ [x]).length + xs.length = pre.length + (x :: xs).length := by simp; omega
    have e3 : (((pre ++ [x]).length : Nat) : Int) = (pre.length : Int) + 1 := by simp
    rw [e1, e2, e3] at hi
    rw [h_wrap ((pre.length : Int) + 1) (by omega) (by omega), h_wrap ((if (x.f0 == n) = true then 1 else 0) + (if (x.f1 == n) = true then 1 else 0)) (by split <;> split <;> omega) (by split <;> split <;> omega), h_wrap _ (by split <;> split <;> omega) (by split <;> split <;> omega), hi]
    simp only [tms, beq_iff_eq]
    congr 1
    omega
theorem times_f (n : Int) (l : List S53) (h : l.length ≤ 1000) : impl_times.f 1001 l n = some (tms n l) := by
  have := times_l n l [] 0 1001 (by simpa using h) (by omega) (by simp) (by omega)
  simpa [impl_times.f] using this
theorem numsFrom_len (l : List S53) : ∀ d i, (numsFrom l d i).length ≤ d
  | 0, _ => by simp [numsFrom]
  | d + 1, i => by
    have := numsFrom_len l d (i + 1)
    unfold numsFrom
    split
    · rw [List.length_cons]; omega
    · omega
theorem numsFrom_mem (l : List S53) : ∀ d i x, x ∈ numsFrom l d i → (i : Int) ≤ x ∧ x < (i + d : Nat)
  | 0, _, _, h => by simp [numsFrom] at h
  | d + 1, i, x, h => by
    unfold numsFrom at h
    split at h
    · rcases List.mem_cons.1 h with rfl | h
      · omega
      · have := numsFrom_mem l d (i + 1) x h
        omega
    · have := numsFrom_mem l d (i + 1) x h
      omega
theorem nums_mem (l : List S53) (x : Int) (h : x ∈ nums l) : 0 ≤ x ∧ x < 10 := by
  have := numsFrom_mem l 10 0 x h
  omega
theorem numbers_l (l : List S53) (hl : l.length ≤ 1000) : ∀ (d i : Nat) (o : List Int) (k : Nat), i + d = 10 → o.length ≤ i → 1001 + d ≤ k → impl_numbers.l0 k l o (i : Int) = some (o ++ numsFrom l d i) := by
  intro d
  induction d with
  | zero =>
    intro i o k h1 h2 h3
    obtain ⟨k, rfl⟩ : ∃ m, k = m + 1 := ⟨k - 1, by omega⟩
    simp only [impl_numbers.l0]
    rw [if_neg (by omega)]
    simp [numsFrom]
  | succ d ih =>
    intro i o k h1 h2 h3
    obtain ⟨k, rfl⟩ : ∃ m, k = m + 1 := ⟨k - 1, by omega⟩
    have ht : impl_times.f k l (i : Int) = some (tms (i : Int) l) := by
      have := times_l (i : Int) l [] 0 k (by simpa using hl) (by omega) (by simp) (by omega)
      simpa [impl_times.f] using this
    simp only [impl_numbers.l0]
    rw [if_pos (by omega), ht, h_wrap ((i : Int) + 1) (by omega) (by omega)]
    simp only [Option.bind_some]
    unfold numsFrom
    by_cases hp : 0 < tms (i : Int) l
    · have hi := ih (i + 1) (o ++ [(i : Int)]) k (by omega) (by simp; omega) (by omega)
      rw [if_pos hp, if_pos hp, if_pos (by omega)]
      simpa using hi
    · have hi := ih (i + 1) o k (by omega) (by omega) (by omega)
      rw [if_neg hp, if_neg hp]
      simpa using hi
theorem numbers_f (l : List S53) (hl : l.length ≤ 1000) : impl_numbers.f 1011 l = some (nums l) := by
  have := numbers_l l hl 10 0 [] 1011 rfl (by simp) (by omega)
  simpa [impl_numbers.f, nums] using this
/-! ### impl.groups: the numbers that hang together -/
def tok (t : S53) : Bool := decide (0 ≤ t.f0 ∧ t.f0 < 10 ∧ 0 ≤ t.f1 ∧ t.f1 < 10)
def least (N : List Int) (t : S53) : Int := if rd N t.f1 < rd N t.f0 then rd N t.f1 else rd N t.f0
def gstep (N : List Int) (t : S53) : List Int := (N.set t.f0.toNat (least N t)).set t.f1.toNat (least N t)
def gstart : Nat → List Int
  | 0 => []
  | n + 1 => gstart n ++ [(n : Int)]
def gpasses (l : List S53) : Nat → List Int
  | 0 => gstart 10
  | n + 1 => l.foldl gstep (gpasses l n)
def gown (l : List S53) (N : List Int) (i : Int) : List Int := (nums l).filter fun n => !(rd N n != i)
def gfrom (l : List S53) (N : List Int) : Nat → Nat → List (List Int)
  | 0, _ => []
  | d + 1, i => if 0 < (gown l N (i : Int)).length then gown l N (i : Int) :: gfrom l N d (i + 1) else gfrom l N d (i + 1)
def grps (l : List S53) : List (List Int) := gfrom l (gpasses l l.length) 10 0
theorem gstart_len : ∀ n, (gstart n).length = n
  | 0 => rfl
  | n + 1 => by rw [gstart, List.length_append, gstart_len n]; rfl
theorem gfold_len : ∀ (l : List S53) (N : List Int), (l.foldl gstep N).length = N.length
  | [], _ => rfl
  | t :: l, N => by
    rw [List.foldl_cons, gfold_len l]
    simp [gstep]
theorem gpasses_len (l : List S53) : ∀ n, (gpasses l n).length = 10
  | 0 => rfl
  | n + 1 => by rw [gpasses, gfold_len, gpasses_len l n]
theorem gfold_take (l : List S53) (N : List Int) (i : Nat) (t : S53) (h : l[i]? = some t) : (l.take (i + 1)).foldl gstep N = gstep ((l.take i).foldl gstep N) t := by
  rw [List.take_add_one, h]
  simp
/-- What holds of the names' variable and its row. -/
structure impl_groups.Nm (w : World) (B : Nat) (W : World) (v : Value) (N : List Int) : Prop where
  below : Below w.heap.size w W
  young : w.heap.size ≤ B
  cell : W.heap[B]? = some (.cells #[v] 62 (0, 0))
  row : Kd.R (Kd.int .i64) 3 W w.heap.size (fun _ => True) v N
theorem impl_groups.Nm.step {w : World} {B : Nat} {W W' : World} {v : Value} {N : List Int} (h : impl_groups.Nm w B W v N) (hb : Below W.heap.size W W') : impl_groups.Nm w B W' v N :=
  ⟨h.below.trans (hb.mono h.below.size), h.young, blk_below h.cell hb, Kd.R_below h.row hb⟩
theorem impl_groups.Nm.apart {w : World} {B : Nat} {W : World} {v : Value} {N : List Int} (h : impl_groups.Nm w B W v N) : some B ≠ v.ownBlock := Kd.R_ne h.row h.cell (by decide)
theorem impl_groups.Nm.put {w : World} {B : Nat} {W : World} {g cap : Nat} {N : List Int} (h : impl_groups.Nm w B W (.slice (some ⟨g, 0, none⟩) N.length cap) N) (i : Int) (x : Int) : impl_groups.Nm w B (W.setCell ⟨g, i.toNat, none⟩ (.int .i64 x)) (.slice (some ⟨g, 0, none⟩) N.length cap) (N.set i.toNat x) := by
  have h2 := Kd.R_put h.row i x
  refine ⟨h.below.setCell (Kd.R_base h.row g rfl) _, h.young, (Below.heap_setCell W ⟨g, i.toNat, none⟩ _ B (fun e => h.apart (by rw [e]; rfl))).trans h.cell, h2.1⟩
set_option maxHeartbeats 1000000 in
theorem impl_groups.lit (N : List Int) (g cap B C : Nat) (i n : Int) (w : World) (hB : w.cell? ⟨B, 0, none⟩ = some (.slice (some ⟨g, 0, none⟩) 10 cap)) (hC : w.cell? ⟨C, 0, none⟩ = some (.int .i64 i)) (h0 : 0 ≤ n) (h1 : n < 10) (hn : w.cell? ⟨g, n.toNat, none⟩ = some (.int .i64 (rd N n))) :
    Calls Try.prog 68 #[.int .i64 n, .pointer (some ⟨B, 0, none⟩), .pointer (some ⟨C, 0, none⟩)] w fun e w' => e = .returned (.bool (rd N n != i)) ∧ Below w.heap.size w w' := by
  have p0 := eq_true h0
  have p1 : (n < ((10 : Nat) : Int)) = True := eq_true (by omega)
  go_enter Try.func68, Try.ntmps68
  go_wp2
  repeat (go_quiet (fail); try go_wp2)
  go_ret
  exact ⟨rfl, by repeat (first | exact Below.refl _ _ | apply pw_below_drewN | apply below_drew1)⟩
theorem below_grown_none {w w' : World} (h : w.grownBy w' none) : Below w.heap.size w w' := ⟨h.os, h.tape, h.output, h.size, fun i hi => h.block i hi (by simp)⟩
theorem rowI_aside {W w1 : World} {base b : Nat} {ok ok' : Nat → Prop} {v vo : Value} {xs : List Int} {o : List (List Int)} (h : Kd.R (Kd.int .i64) 3 W base ok v xs) (hS : Kd.S (Kd.slice 3 (Kd.int .i64)) 62 W b ok' vo o) (hg : W.grownBy w1 vo.ownBlock) : Kd.R (Kd.int .i64) 3 w1 base ok v xs := by
  refine Kd.R_mono (Kd.R_step (Kd.R_bound h) (fun k hk hlt => hg.block k hlt (fun e => ?_))) (fun _ hk => hk.1)
  obtain ⟨_, _, _, q, hq, cells, hc⟩ := hk
  obtain ⟨cells', hc'⟩ := Kd.S_typed hS k e.symm
  rw [hc] at hc'
  injection hc' with hc'
  injection hc' with _ e2
  rw [e2] at hq
  exact absurd hq (by decide)
theorem impl_groups.info : (Try.prog.info? 62).map (fun i => (i.zero, i.size, i.bytes)) = some (some (.slice none 0 0), (Kd.slice 3 (Kd.int .i64)).sz, 24) := by kernel_rfl
def impl_groups.f (l0 : List S53) : Option (List (List Int)) := if l0.length ≤ 1000 then (if l0.all tok = true then some (grps l0) else none) else none
set_option maxHeartbeats 8000000 in
set_option maxRecDepth 1000000 in
theorem impl_groups.calls (A0 : Option Addr) (c0 : Nat) (l0 : List S53) (r : List (List Int)) (w : World) (hr0 : Kd.C k53 w A0 l0.length l0) (hc0 : l0.length ≤ c0) (h : impl_groups.f l0 = some r) :
    Calls Try.prog 60 #[.slice A0 l0.length c0] w fun e w' => ∃ v0_ : Value, e = .returned (v0_) ∧ Kd.S (Kd.slice 3 (Kd.int .i64)) 62 w' w.heap.size (fun _ => True) v0_ r ∧ Below w.heap.size w w' := by
  unfold impl_groups.f at h
  by_cases hl : l0.length ≤ 1000
  · rw [if_pos hl] at h
    by_cases hk : l0.all tok = true
    · rw [if_pos hk] at h
      obtain rfl := Option.some.inj h
      have HR := Lib.hid hr0
      have HK := Lib.hid hk
      clear hr0 hk h
      go_enter Try.func60, Try.ntmps60
      go_wp2_with (first
        | ((with_reducible refine gate_dst (N := 12) rfl ?_); refine Kd.R_lit (Kd.int .i64) _ 3 ?hg (N := 12) ?hd (xs := ([] : List Int)) (inner := []) (ok := fun _ => True) (okp := fun _ => True) ?hr ?hp (fun _ hk => hk) trivial (Below.refl _ _) (Nat.le_refl _) (by simp) ?_; (case hd => rfl); (case hg => rfl); (case hr => first | (go_simp; done) | (go_simp; rfl)); (case hp => exact (Reps.none _ _)); intro v1 w1 ho1 hb1 hg_ hnew_; clear hg_ hnew_; obtain ⟨A1, c1, e1⟩ := Kd.R_slice ho1; rw [List.length_nil] at e1; subst e1; have HO1 := Lib.hid ho1; have HB1 := Lib.hid hb1; clear ho1 hb1)
        | ((with_reducible refine gate_dst (N := 3) rfl ?_); refine box_event ?hg (N := 3) ?hd (cs := #[.slice none 0 0]) (t := 62) ?hr ?_; (case hd => rfl); (case hg => rfl); (case hr => first | (go_simp; done) | (go_simp; rfl)); intro B hg w2 hbox hb; have HBX := Lib.hid hbox; have HB2 := Lib.hid hb; have HG2 := Lib.hid hg; have hc2 : w2.cell? ⟨B, 0, none⟩ = some (.slice none 0 0) := (blk_cell hbox 0).trans rfl; have hf2 : w2.frozen? ⟨B, 0, none⟩ = false := blk_frozen hbox 0; clear hg hbox hb))
      have HN0 : Hid (impl_groups.Nm w B (w2.setCell ⟨B, 0, none⟩ (.slice A1 0 c1)) (.slice A1 0 c1) []) := Lib.hid (by
        have hB : w.heap.size ≤ B := by rw [HG2.out]; exact HB1.out.size
        have hR2 := Kd.R_below HO1.out HB2.out
        exact ⟨(HB1.out.trans (HB2.out.mono HB1.out.size)).setCell hB _, hB, (blk_set HBX.out 0 _).trans rfl, Kd.R_set hR2 HBX.out (by decide) 0 _⟩)
      clear HO1 HB1 HBX HB2 HG2 hc2 hf2
      go_loopg [13] 10 (fun gg s13 wr => ∃ (i : Nat) (v : Value), s13 = .int .i64 i ∧ i ≤ 10 ∧ 10 - i ≤ gg ∧ Hid (impl_groups.Nm w B wr v (gstart i)))
      case atStart => exact ⟨0, _, rfl, by omega, by omega, HN0⟩
      case round =>
        clear HN0 w2 w1
        obtain ⟨i, v, rfl, hi, hgg, HN⟩ := hrel
        by_cases hlt : i < 10
        · have hN := HN.out
          obtain ⟨Av, cv, e⟩ := Kd.R_slice hN.row
          rw [gstart_len] at e
          subst e
          have hcell : wr.cell? ⟨B, 0, none⟩ = some (.slice Av i cv) := (blk_cell hN.cell 0).trans rfl
          have hltz : decide ((i : Int) < 10) = true := decide_eq_true (by omega)
          clear hN
          go_wp2_with ((with_reducible refine gate_builtin (b := .append) (xs := #[.tmp 16, .tmp 18]) rfl ?_); at_builtin; refine Kd.R_append (Kd.int .i64) (w0 := w) w.heap.size rfl (.tmp 16) (.tmp 18) 62 3 (.int .i64 0) 8 rfl Try.underlying62 info3 rfl (by decide) (by omega) (.slice Av i cv) (gstart i) (i : Int) [.int .i64 i] (fun _ => True) (fun _ => False) rfl rfl ?aP (fun _ hk => hk.elim) ?aF ?aO ?aB ?aS ?aL ?_; (case aP => exact rfl); (case aB => exact HN.out.below); (case aF => exact (fun _ _ => trivial)); (case aO => exact HN.out.row); (case aS => exact HN.out.below.size); (case aL => rw [gstart_len]; omega); intro v1 w1 ho hb hg hat; obtain ⟨A1, c1, e1⟩ := Kd.R_slice ho; rw [List.length_append, gstart_len, List.length_singleton] at e1; subst e1; have hblk : w1.heap[B]? = some (.cells #[.slice Av i cv] 62 (0, 0)) := (hg.block B (blk_lt HN.out.cell) HN.out.apart).trans HN.out.cell; have hc1 : w1.cell? ⟨B, 0, none⟩ = some (.slice Av i cv) := (blk_cell hblk 0).trans rfl; have hf1 : w1.frozen? ⟨B, 0, none⟩ = false := blk_frozen hblk 0; have HO := Lib.hid ho; have HBB := Lib.hid hb; have HBL := Lib.hid hblk; clear ho hb hg hat hblk)
          go_roundg (10 - (i + 1))
          case measure => omega
          case rel => exact ⟨i + 1, .slice A1 (i + 1) c1, by go_num, by omega, Nat.le_refl _, Lib.hid ⟨HBB.out.setCell HN.out.young _, HN.out.young, (blk_set HBL.out 0 _).trans rfl, Kd.R_set HO.out HBL.out (by decide) 0 _⟩⟩
        · obtain rfl : i = 10 := by omega
          have hltz : decide (((10 : Nat) : Int) < 10) = false := by decide
          go_wp2
          go_loopg [23] l0.length (fun gg s23 wr => ∃ (j : Nat) (v : Value), s23 = .int .i64 j ∧ j ≤ l0.length ∧ l0.length - j ≤ gg ∧ Hid (impl_groups.Nm w B wr v (gpasses l0 j)))
          case atStart => exact ⟨0, v, rfl, by omega, by omega, HN⟩
          case round =>
            clear HN v hltz hi hgg hlt
            obtain ⟨j, v, rfl, hj, hgg2, HN⟩ := hrel
            by_cases hlt : j < l0.length
            · have hltz : ((j : Nat) : Int) < (l0.length : Int) := by omega
              go_wp2
              go_loopg [27] l0.length (fun gg s27 wr => ∃ (i : Nat) (v : Value), s27 = .int .i64 i ∧ i ≤ l0.length ∧ l0.length - i ≤ gg ∧ Hid (impl_groups.Nm w B wr v ((l0.take i).foldl gstep (gpasses l0 j))))
              case atStart => exact ⟨0, v, rfl, by omega, by omega, by simpa using HN⟩
              case round =>
                clear HN v
                obtain ⟨i, v, rfl, hi, hgg, HN⟩ := hrel
                by_cases hlt2 : i < l0.length
                · obtain ⟨ad, e, hx0, hx1⟩ := at_T53 HR.out (i : Int) (by omega) (by omega)
                  subst e
                  rw [show ((i : Int)).toNat = i from rfl] at hx0 hx1
                  replace hx0 := (HN.out.below.cell (World.block_lt_of_cell? w _ hx0)).trans hx0
                  replace hx1 := (HN.out.below.cell (World.block_lt_of_cell? w _ hx1)).trans hx1
                  have hget : l0[i]? = some (rd_T53 l0 (i : Int)) := by
                    unfold rd_T53
                    rw [show ((i : Int)).toNat = i from rfl, List.getD_eq_getElem?_getD, List.getElem?_eq_getElem hlt2]
                    rfl
                  have htk := List.all_eq_true.1 HK.out _ (List.mem_of_getElem? hget)
                  have hfold := gfold_take l0 (gpasses l0 j) i _ hget
                  generalize rd_T53 l0 (i : Int) = t at hx0 hx1 htk hget hfold
                  have hlen : ((l0.take i).foldl gstep (gpasses l0 j)).length = 10 := by rw [gfold_len, gpasses_len]
                  generalize (l0.take i).foldl gstep (gpasses l0 j) = N at HN hlen hfold
                  have HFO := Lib.hid hfold
                  clear hget hfold
                  obtain ⟨t0, t1, t2, t3⟩ : 0 ≤ t.f0 ∧ t.f0 < 10 ∧ 0 ≤ t.f1 ∧ t.f1 < 10 := by
                    unfold tok at htk
                    exact of_decide_eq_true htk
                  clear htk
                  obtain ⟨g, cap, e, _, hglt, _⟩ := Kd.R_form HN.out.row (by omega)
                  subst e
                  rw [hlen] at HN
                  have hNr : Kd.R (Kd.int .i64) 3 wr w.heap.size (fun _ => True) (.slice (some ⟨g, 0, none⟩) N.length cap) N := by rw [hlen]; exact HN.out.row
                  have hcB : wr.cell? ⟨B, 0, none⟩ = some (.slice (some ⟨g, 0, none⟩) 10 cap) := (blk_cell HN.out.cell 0).trans rfl
                  have hc0 : wr.cell? ⟨g, t.f0.toNat, none⟩ = some (.int .i64 (rd N t.f0)) := (Kd.R_cell (0 : Int) hNr t.f0 t0 (by omega)).1
                  have hc1 : wr.cell? ⟨g, t.f1.toNat, none⟩ = some (.int .i64 (rd N t.f1)) := (Kd.R_cell (0 : Int) hNr t.f1 t2 (by omega)).1
                  have hu42 := Try.underlying53
                  have hltz2 : (i : Int) < (l0.length : Int) := by omega
                  have HNR := Lib.hid hNr
                  clear hNr
                  go_wp2_with (((with_reducible refine gate_dst (N := 6) rfl ?_); refine box_event ?hg (N := 6) ?hd (cs := #[.int .i64 0, .int .i64 0]) (t := 53) ?hr ?_; (case hd => rfl); (case hg => rfl); (case hr => first | (go_simp; done) | (go_simp; rfl)); intro gb hg w8 hbox hb; have BK := Lib.hid hbox; have HGB := Lib.hid hg; have HB8 := Lib.hid hb; clear hb hbox hg; have hcz0 : w8.cell? ⟨gb, 0, none⟩ = some (.int .i64 0) := (blk_cell BK.out 0).trans rfl; have hcz1 : w8.cell? ⟨gb, 1, none⟩ = some (.int .i64 0) := (blk_cell BK.out 1).trans rfl; have hfz0 := blk_frozen BK.out 0; have hfz1 := blk_frozen BK.out 1))
                  have hgb := BK.out
                  have hb2 := blk_put hgb 0 (.int .i64 t.f0) rfl
                  have hb3 := blk_put hb2 1 (.int .i64 t.f1) rfl
                  have hbl : Below wr.heap.size wr ((w8.setCell ⟨gb, 0, none⟩ (.int .i64 t.f0)).setCell ⟨gb, 1, none⟩ (.int .i64 t.f1)) := (HB8.out.setCell (by rw [HGB.out]; exact Nat.le_refl _) _).setCell (by rw [HGB.out]; exact Nat.le_refl _) _
                  clear hgb hb2 hcz0 hcz1 hfz0 hfz1 BK HGB HB8
                  generalize (w8.setCell ⟨gb, 0, none⟩ (.int .i64 t.f0)).setCell ⟨gb, 1, none⟩ (.int .i64 t.f1) = wa at hb3 hbl ⊢
                  have HNa := Lib.hid (HN.out.step hbl)
                  have hcBa : wa.cell? ⟨B, 0, none⟩ = some (.slice (some ⟨g, 0, none⟩) 10 cap) := (blk_cell HNa.out.cell 0).trans rfl
                  have hca0 : wa.cell? ⟨g, t.f0.toNat, none⟩ = some (.int .i64 (rd N t.f0)) := (hbl.cell (p := ⟨g, t.f0.toNat, none⟩) hglt).trans hc0
                  have hca1 : wa.cell? ⟨g, t.f1.toNat, none⟩ = some (.int .i64 (rd N t.f1)) := (hbl.cell (p := ⟨g, t.f1.toNat, none⟩) hglt).trans hc1
                  have hta0 : wa.cell? ⟨gb, 0, none⟩ = some (.int .i64 t.f0) := (blk_cell hb3 0).trans rfl
                  have hta1 : wa.cell? ⟨gb, 1, none⟩ = some (.int .i64 t.f1) := (blk_cell hb3 1).trans rfl
                  have HB3 := Lib.hid hb3
                  have HGL := Lib.hid hglt
                  clear hb3 hbl hcB hc0 hc1 hx0 hx1 HN HNR hglt
                  have p0 := eq_true t0
                  have q0 : (t.f0 < ((10 : Nat) : Int)) = True := eq_true (by omega)
                  have p1 := eq_true t2
                  have q1 : (t.f1 < ((10 : Nat) : Int)) = True := eq_true (by omega)
                  go_quiet (fail)
                  have HLE := Lib.hid (show (if rd N t.f1 < rd N t.f0 then rd N t.f1 else rd N t.f0) = least N t from rfl)
                  rw [HLE.out]
                  clear HLE
                  generalize hle : least N t = le
                  go_wp2
                  generalize hwq : (wa.drewN nq).drew = wq
                  have hbq : Below wa.heap.size wa wq := by rw [← hwq]; exact below_drew1 (pw_below_drewN (Below.refl _ _) _)
                  have hgba : gb < wa.heap.size := blk_lt HB3.out
                  have hNq := HNa.out.step hbq
                  have HNQ := Lib.hid hNq
                  have hcBq : wq.cell? ⟨B, 0, none⟩ = some (.slice (some ⟨g, 0, none⟩) 10 cap) := (blk_cell hNq.cell 0).trans rfl
                  have htq0 : wq.cell? ⟨gb, 0, none⟩ = some (.int .i64 t.f0) := (hbq.cell (p := ⟨gb, 0, none⟩) hgba).trans hta0
                  have htq1 : wq.cell? ⟨gb, 1, none⟩ = some (.int .i64 t.f1) := (hbq.cell (p := ⟨gb, 1, none⟩) hgba).trans hta1
                  have hgn : some gb ≠ (Value.slice (some ⟨g, 0, none⟩) 10 cap).ownBlock := Kd.R_ne hNq.row ((hbq.block gb hgba).trans HB3.out) (by decide)
                  have hgB : B ≠ g := fun e => hNq.apart (by rw [e]; rfl)
                  have hgG : gb ≠ g := fun e => hgn (by rw [e]; rfl)
                  clear hNq hgn
                  subst hwq
                  clear hcBa hca0 hca1 hta0 hta1 hbq
                  refine start_ (n := 12) (S := fun w' => w'.cell? ⟨B, 0, none⟩ = some (.slice (some ⟨g, 0, none⟩) 10 cap) ∧ w'.cell? ⟨gb, 0, none⟩ = some (.int .i64 t.f0) ∧ w'.cell? ⟨gb, 1, none⟩ = some (.int .i64 t.f1)) (ds := []) #[false, false, false, false, false, false, false, false, false, false, false, false] (by kernel_rfl) rfl rfl ⟨hcBq, htq0, htq1⟩ (fun hHeld => ?_)
                  generalize (wa.drewN nq).drew = wq at hHeld HNQ ⊢
                  clear hcBq htq0 htq1
                  refine take_ (i := 0) (N := (some 42)) (v := ?_) (a' := ?_) #[true, false, false, false, false, false, false, false, false, false, false, false] rfl rfl (by kernel_rfl) (fun _ _ _ h => h) (Or.inl ⟨by rfl, ?_⟩) hHeld ?_ ?_
                  rotate_left
                  · intro w' ⟨s0, s1, s2⟩
                    go_simp
                    with_reducible rfl
                  rotate_left
                  · simp only [Act.put, List.setIfInBounds_toArray, List.set_cons_zero, List.set_cons_succ, i64_w, i32_w]
                    rfl
                  refine pure_ (i := 1) (N := (some 43)) (v := ?_) (a' := ?_) #[true, true, false, false, false, false, false, false, false, false, false, false] rfl rfl (by kernel_rfl) (fun _ _ _ h => h) (Or.inl ⟨by rfl, ?_⟩) ?_ ?_
                  rotate_left
                  · intro w'
                    go_simp
                    with_reducible rfl
                  rotate_left
                  · simp only [Act.put, List.setIfInBounds_toArray, List.set_cons_zero, List.set_cons_succ, i64_w, i32_w]
                    rfl
                  refine take_ (i := 2) (N := (some 44)) (v := ?_) (a' := ?_) #[true, true, true, false, false, false, false, false, false, false, false, false] rfl rfl (by kernel_rfl) (fun _ _ _ h => h) (Or.inl ⟨by rfl, ?_⟩) hHeld ?_ ?_
                  rotate_left
                  · intro w' ⟨s0, s1, s2⟩
                    go_simp
                    with_reducible rfl
                  rotate_left
                  · simp only [Act.put, List.setIfInBounds_toArray, List.set_cons_zero, List.set_cons_succ, i64_w, i32_w]
                    rfl
                  refine take_ (i := 3) (N := (some 45)) (v := ?_) (a' := ?_) #[true, true, true, true, false, false, false, false, false, false, false, false] rfl rfl (by kernel_rfl) (fun _ _ _ h => h) (Or.inl ⟨by rfl, ?_⟩) hHeld ?_ ?_
                  rotate_left
                  · intro w' ⟨s0, s1, s2⟩
                    go_simp
                    with_reducible rfl
                  rotate_left
                  · simp only [Act.put, List.setIfInBounds_toArray, List.set_cons_zero, List.set_cons_succ, i64_w, i32_w]
                    rfl
                  refine pure_ (i := 4) (N := (some 46)) (v := ?_) (a' := ?_) #[true, true, true, true, true, false, false, false, false, false, false, false] rfl rfl (by kernel_rfl) (fun _ _ _ h => h) (Or.inl ⟨by rfl, ?_⟩) ?_ ?_
                  rotate_left
                  · intro w'
                    go_simp
                    with_reducible rfl
                  rotate_left
                  · simp only [Act.put, List.setIfInBounds_toArray, List.set_cons_zero, List.set_cons_succ, i64_w, i32_w]
                    rfl
                  refine take_ (i := 5) (N := (some 47)) (v := ?_) (a' := ?_) #[true, true, true, true, true, true, false, false, false, false, false, false] rfl rfl (by kernel_rfl) (fun _ _ _ h => h) (Or.inl ⟨by rfl, ?_⟩) hHeld ?_ ?_
                  rotate_left
                  · intro w' ⟨s0, s1, s2⟩
                    go_simp
                    with_reducible rfl
                  rotate_left
                  · simp only [Act.put, List.setIfInBounds_toArray, List.set_cons_zero, List.set_cons_succ, i64_w, i32_w]
                    rfl
                  refine pure_ (i := 6) (N := (some 48)) (v := ?_) (a' := ?_) #[true, true, true, true, true, true, true, false, false, false, false, false] rfl rfl (by kernel_rfl) (fun _ _ _ h => h) (Or.inl ⟨by rfl, ?_⟩) ?_ ?_
                  rotate_left
                  · intro w'
                    go_simp
                    with_reducible rfl
                  rotate_left
                  · simp only [Act.put, List.setIfInBounds_toArray, List.set_cons_zero, List.set_cons_succ, i64_w, i32_w]
                    rfl
                  refine pure_ (i := 7) (N := (some 49)) (v := ?_) (a' := ?_) #[true, true, true, true, true, true, true, true, false, false, false, false] rfl rfl (by kernel_rfl) (fun _ _ _ h => h) (Or.inl ⟨by rfl, ?_⟩) ?_ ?_
                  rotate_left
                  · intro w'
                    go_simp
                    with_reducible rfl
                  rotate_left
                  · simp only [Act.put, List.setIfInBounds_toArray, List.set_cons_zero, List.set_cons_succ, i64_w, i32_w]
                    rfl
                  refine pure_ (i := 8) (N := (some 50)) (v := ?_) (a' := ?_) #[true, true, true, true, true, true, true, true, true, false, false, false] rfl rfl (by kernel_rfl) (fun _ _ _ h => h) (Or.inl ⟨by rfl, ?_⟩) ?_ ?_
                  rotate_left
                  · intro w'
                    go_simp
                    with_reducible rfl
                  rotate_left
                  · simp only [Act.put, List.setIfInBounds_toArray, List.set_cons_zero, List.set_cons_succ, i64_w, i32_w]
                    rfl
                  have hNq2 : impl_groups.Nm w B wq (.slice (some ⟨g, 0, none⟩) N.length cap) N := by rw [hlen]; exact HNQ.out
                  have hlen2 : (N.set t.f0.toNat le).length = N.length := List.length_set ..
                  have hs1 := hNq2.put t.f0 le
                  have hs1' : impl_groups.Nm w B (wq.setCell ⟨g, t.f0.toNat, none⟩ (.int .i64 le)) (.slice (some ⟨g, 0, none⟩) (N.set t.f0.toNat le).length cap) (N.set t.f0.toNat le) := by rw [hlen2]; exact hs1
                  have hs2 := hs1'.put t.f1 le
                  obtain ⟨ha1, ha2⟩ := Kd.R_cell (0 : Int) hNq2.row t.f0 t0 (by omega)
                  obtain ⟨ha3, ha4⟩ := Kd.R_cell (0 : Int) hs1'.row t.f1 t2 (by omega)
                  have HS2 := Lib.hid hs2
                  clear hNq2 hs1 hs1' hs2
                  refine one_ (i := 9) (N := none) #[true, true, true, true, true, true, true, true, true, true, false, false] rfl rfl (by kernel_rfl) (by decide) (fun K hK => ?_)
                  refine skip_ (w1 := ?_) (by rfl) rfl ?_ ?_
                  rotate_left
                  · go_simp
                    rfl
                  refine hK.out _ _ ⟨(World.cell?_of_block (Below.heap_setCell wq ⟨g, t.f0.toNat, none⟩ _ B hgB)).trans hHeld.1, (World.cell?_of_block (Below.heap_setCell wq ⟨g, t.f0.toNat, none⟩ _ gb hgG)).trans hHeld.2.1, (World.cell?_of_block (Below.heap_setCell wq ⟨g, t.f0.toNat, none⟩ _ gb hgG)).trans hHeld.2.2⟩ (fun hHeld => ?_)
                  clear hK K
                  refine pure_ (i := 10) (N := (some 51)) (v := ?_) (a' := ?_) #[true, true, true, true, true, true, true, true, true, true, true, false] rfl rfl (by kernel_rfl) (fun _ _ _ h => h) (Or.inl ⟨by rfl, ?_⟩) ?_ ?_
                  rotate_left
                  · intro w'
                    go_simp
                    with_reducible rfl
                  rotate_left
                  · simp only [Act.put, List.setIfInBounds_toArray, List.set_cons_zero, List.set_cons_succ, i64_w, i32_w]
                    rfl
                  refine one_ (i := 11) (N := none) #[true, true, true, true, true, true, true, true, true, true, true, true] rfl rfl (by kernel_rfl) (by decide) (fun K hK => ?_)
                  refine skip_ (w1 := ?_) (by rfl) rfl ?_ ?_
                  rotate_left
                  · go_simp
                    rfl
                  refine hK.out _ _ ⟨(World.cell?_of_block (Below.heap_setCell _ ⟨g, t.f1.toNat, none⟩ _ B hgB)).trans hHeld.1, (World.cell?_of_block (Below.heap_setCell _ ⟨g, t.f1.toNat, none⟩ _ gb hgG)).trans hHeld.2.1, (World.cell?_of_block (Below.heap_setCell _ ⟨g, t.f1.toNat, none⟩ _ gb hgG)).trans hHeld.2.2⟩ (fun hHeld => ?_)
                  clear hK K
                  refine done_ (by kernel_rfl) ?_
                  go_wp2
                  go_roundg (l0.length - (i + 1))
                  case measure => omega
                  case rel =>
                    refine ⟨i + 1, .slice (some ⟨g, 0, none⟩) 10 cap, by go_num, by omega, Nat.le_refl _, Lib.hid ?_⟩
                    rw [HFO.out]
                    unfold gstep
                    rw [hle]
                    have h9 := HS2.out
                    rw [hlen2, hlen] at h9
                    exact h9
                · obtain rfl : i = l0.length := by omega
                  have hltz2 : ¬ (l0.length : Int) < (l0.length : Int) := by omega
                  go_wp2
                  go_roundg (l0.length - (j + 1))
                  case measure => omega
                  case rel => exact ⟨j + 1, v, by go_num, by omega, Nat.le_refl _, Lib.hid (by have := HN.out; rw [List.take_length] at this; exact this)⟩
            · obtain rfl : j = l0.length := by omega
              have hltz : ¬ (l0.length : Int) < (l0.length : Int) := by omega
              have hnlen := gpasses_len l0 l0.length
              obtain ⟨g, cap, e, _, _, _⟩ := Kd.R_form HN.out.row (by omega)
              subst e
              rw [hnlen] at HN
              have hnum := fun (W : World) (hb : Below w.heap.size w W) => impl_numbers.calls 1011 A0 c0 l0 (nums l0) W (Kd.C_below HR.out hb) hc0 (numbers_f l0 hl)
              go_wp2_with (first
                | ((with_reducible refine gate_dst (N := 54) rfl ?_); refine Kd.S_lit (Kd.slice 3 (Kd.int .i64)) w.heap.size 62 ?hg (N := 54) ?hd (xs := ([] : List (List Int))) (inner := []) (ok := fun k => k ≠ B) (okp := fun k => k ≠ B) ?hr ?hp (fun _ hk => hk) (fun e => by have := blk_lt HN.out.cell; omega) HN.out.below HN.out.below.size (by simp) ?_; (case hd => rfl); (case hg => rfl); (case hr => first | (go_simp; done) | (go_simp; rfl)); (case hp => exact (Reps.none _ _)); intro v54 wb ho hb hg _; have HS := Lib.hid ho; have HNb := Lib.hid (HN.out.step (below_grown_none hg)); clear ho hb hg)
                | (go_at_call 65; refine (hnum _ HNb.out.below).mono ?_; rintro e wc ⟨v56, rfl, ho, hb⟩; obtain ⟨At, ct, e5⟩ := Kd.R_slice ho; subst e5; have HT := Lib.hid (Kd.R_lower ho HNb.out.below.size); have HNc := Lib.hid (HNb.out.step hb); have HS2 := Lib.hid (Kd.S_below HS.out hb); have hcB : wc.cell? ⟨B, 0, none⟩ = some (.slice (some ⟨g, 0, none⟩) 10 cap) := (blk_cell HNc.out.cell 0).trans rfl; clear ho hb))
              clear hnum hcB
              go_loopg [8, 59] 10 (fun gg s8 s59 wr => ∃ (i : Nat) (o : List (List Int)), s59 = .int .i64 i ∧ i ≤ 10 ∧ 10 - i ≤ gg ∧ Hid (o ++ gfrom l0 (gpasses l0 l0.length) (10 - i) i = grps l0) ∧ Hid (o.length ≤ i) ∧ Hid (impl_groups.Nm w B wr (.slice (some ⟨g, 0, none⟩) 10 cap) (gpasses l0 l0.length)) ∧ Hid (Kd.R (Kd.int .i64) 3 wr w.heap.size (fun _ => True) (.slice At (nums l0).length ct) (nums l0)) ∧ Hid (Kd.S (Kd.slice 3 (Kd.int .i64)) 62 wr w.heap.size (fun k => k ≠ B) s8 o))
              case atStart => exact ⟨0, [], rfl, by omega, by omega, Lib.hid rfl, Lib.hid (by simp), HNc, HT, HS2⟩
              case round =>
                clear HS HNb HNc HT HS2 HN
                obtain ⟨i, o, rfl, hi, hgg, HE, HOL, HN, HT, HS⟩ := hrel
                by_cases hlt : i < 10
                · have hltz2 : (i : Int) < ((10 : Nat) : Int) := by omega
                  obtain ⟨d, hd⟩ : ∃ d, 10 - i = d + 1 := ⟨9 - i, by omega⟩
                  have hTR := Kd.R_reads' HT.out
                  have hclf : slices_Clone_int_int.f (nums l0) = some (nums l0) := by
                    unfold slices_Clone_int_int.f
                    have h10 := numsFrom_len l0 10 0
                    rw [if_pos (by unfold nums; omega)]
                  have hcl := fun (W : World) (hb : Below wr.heap.size wr W) => slices_Clone_int_int.calls At ct (nums l0) (nums l0) W (Kd.C_below hTR.2.2 hb) hTR.2.1 hclf
                  clear hTR hclf
                  obtain ⟨Ao, co, eo⟩ := Kd.S_slice HS.out
                  subst eo
                  obtain ⟨G, hG0⟩ : ∃ G, G = gown l0 (gpasses l0 l0.length) (i : Int) := ⟨_, rfl⟩
                  have HGG := Lib.hid hG0
                  clear hG0
                  have hol := HOL.out
                  have hmf : ∀ (fn : Fn) (first cap : Array Value) (w : World), (Instr.makeFunc fn first cap).run Try.prog w = .ok (.func fn first cap) w := fun _ _ _ _ => rfl
                  by_cases hpos : 0 < G.length
                  · have hposz : decide (0 < (G.length : Int)) = true := decide_eq_true (by omega)
                    have hposi : 0 < (G.length : Int) := by omega
                    go_wp2_with (first
                      | ((with_reducible refine gate_dst (N := 10) rfl ?_); refine box_event ?hg (N := 10) ?hd (cs := #[.int .i64 0]) (t := 3) ?hr ?_; (case hd => rfl); (case hg => rfl); (case hr => first | (go_simp; done) | (go_simp; rfl)); intro C hg w8 hbox hb; have BK := Lib.hid hbox; have HGC := Lib.hid hg; have HB8 := Lib.hid hb; clear hb hbox hg; have hcz0 : w8.cell? ⟨C, 0, none⟩ = some (.int .i64 0) := (blk_cell BK.out 0).trans rfl; have hfz0 := blk_frozen BK.out 0)
                      | (go_at_call 67
                         have hb8 : Below wr.heap.size wr (w8.setCell ⟨C, 0, none⟩ (.int .i64 i)) := HB8.out.setCell (by rw [HGC.out]; exact Nat.le_refl _) _
                         have hblk8 := blk_put BK.out 0 (.int .i64 i) rfl
                         refine (hcl _ hb8).mono ?_; rintro e wd ⟨v63, rfl, ho, hb⟩
                         have HCL := Lib.hid ho
                         have HBD := Lib.hid hb
                         have HB8' := Lib.hid hb8
                         have HK8 := Lib.hid hblk8
                         clear ho hb hb8 hblk8)
                      | (go_at_call 66
                         have hbd : Below wr.heap.size wr wd := HB8'.out.trans (HBD.out.mono HB8'.out.size)
                         have hC8 : C < (w8.setCell ⟨C, 0, none⟩ (.int .i64 i)).heap.size := blk_lt HK8.out
                         have hgd : g < wr.heap.size := Kd.R_lt HN.out.row g rfl
                         have hBd : B < wr.heap.size := blk_lt HN.out.cell
                         have hNd := HN.out.step hbd
                         have hdel := delI 68 #[.pointer (some ⟨B, 0, none⟩), .pointer (some ⟨C, 0, none⟩)] (fun n => rd (gpasses l0 l0.length) n != (i : Int)) wd (w8.setCell ⟨C, 0, none⟩ (.int .i64 i)).heap.size (fun _ => True) v63 (nums l0) HCL.out HBD.out.size
                           (enters_of' Try.func68 (by kernel_rfl) rfl) (fun x hx W hW => by
                             obtain ⟨x0, x1⟩ := nums_mem l0 x hx
                             have hrow : ∀ k, v63.ownBlock = some k → (w8.setCell ⟨C, 0, none⟩ (.int .i64 i)).heap.size ≤ k := Kd.R_base HCL.out
                             have hs8 := HBD.out.size
                             have hs9 := HB8'.out.size
                             have hfar : ∀ k, k < (w8.setCell ⟨C, 0, none⟩ (.int .i64 i)).heap.size → ∀ j, W.cell? ⟨k, j, none⟩ = wd.cell? ⟨k, j, none⟩ := fun k hk j => hW.cell_far ⟨k, j, none⟩ (Nat.lt_of_lt_of_le hk hs8) (fun e => by have := hrow _ e.symm; exact absurd hk (Nat.not_lt.2 this))
                             refine impl_groups.lit (gpasses l0 l0.length) g cap B C (i : Int) x W ?_ ?_ x0 x1 ?_
                             · exact (hfar B (by omega) 0).trans ((blk_cell hNd.cell 0).trans rfl)
                             · exact (hfar C hC8 0).trans ((blk_cell ((HBD.out.block C hC8).trans HK8.out) 0).trans rfl)
                             · exact (hfar g (by omega) _).trans ((Kd.R_cell (0 : Int) (by rw [hnlen]; exact hNd.row) x x0 (by rw [hnlen]; omega)).1))
                         refine hdel.mono ?_; rintro e we ⟨v65, rfl, ho, hb, hg9⟩
                         replace ho : Kd.R (Kd.int .i64) 3 we (w8.setCell ⟨C, 0, none⟩ (.int .i64 i)).heap.size (fun _ => True) v65 G := by rw [HGG.out]; exact ho
                         obtain ⟨Ad, cd, e65⟩ := Kd.R_slice ho
                         subst e65
                         have HD := Lib.hid ho
                         have hbe : Below wr.heap.size wr we := hbd.trans (hb.mono (Nat.le_trans HB8'.out.size (Nat.le_refl _)))
                         have HBE := Lib.hid hbe
                         have hge := HB8'.out.size
                         clear ho hb hg9 hbd hNd hdel hC8 hgd hBd)
                      | ((with_reducible refine gate_builtin (b := .append) (xs := #[.tmp 69, .tmp 71]) rfl ?_); at_builtin; refine Kd.S_append (Kd.slice 3 (Kd.int .i64)) (w0 := w) w.heap.size rfl (.tmp 69) (.tmp 71) 67 62 (.slice none 0 0) 24 rfl Try.underlying67 impl_groups.info rfl (by decide) (by omega) (.slice Ao o.length co) o G [.slice Ad G.length cd] (fun k => k ≠ B) (fun k => some k = (Value.slice Ad G.length cd).ownBlock) rfl rfl ?aP ?aK ?aF ?aO ?aB ?aS ?aL ?_
                         (case aP => exact ⟨_, rfl, Kd.R_tight rfl (Kd.R_lower HD.out (Nat.le_trans HN.out.below.size hge))⟩)
                         (case aK =>
                           intro k hk
                           refine ⟨fun e => ?_, fun e => ?_⟩
                           · subst e
                             exact Kd.R_ne HD.out ((HBE.out.block _ (blk_lt HN.out.cell)).trans HN.out.cell) (by decide) hk
                           · obtain ⟨_, h1⟩ := Kd.R_typed HD.out k hk.symm
                             obtain ⟨_, h2⟩ := Kd.S_typed (Kd.S_below HS.out HBE.out) k e.symm
                             rw [h1] at h2
                             injection h2 with h2
                             injection h2 with _ h2
                             exact absurd h2 (by decide))
                         (case aF => intro k hk e; have := blk_lt HN.out.cell; have := HBE.out.size; omega)
                         (case aO => exact Kd.S_elder' HS.out (fun k hk => Nat.le_trans hge (Kd.R_base HD.out k hk)) HBE.out)
                         (case aB => exact HN.out.below.trans (HBE.out.mono HN.out.below.size))
                         (case aS => exact Nat.le_trans HN.out.below.size HBE.out.size)
                         (case aL => omega)
                         intro v72 wf ho hb hg hat
                         have HG := Lib.hid hg
                         have HSF := Lib.hid ho
                         have HBF := Lib.hid hb
                         clear ho hb hg hat))
                    go_roundg (10 - (i + 1))
                    case measure => omega
                    case rel =>
                      have hSe : Kd.S (Kd.slice 3 (Kd.int .i64)) 62 we w.heap.size (fun k => k ≠ B) (.slice Ao o.length co) o := Kd.S_below HS.out HBE.out
                      have hNe := HN.out.step HBE.out
                      refine ⟨i + 1, o ++ [G], by go_num, by omega, Nat.le_refl _, Lib.hid ?_, Lib.hid (by simp; omega), Lib.hid ⟨HBF.out, hNe.young, (HG.out.block B (blk_lt hNe.cell) (fun e => (Kd.S_R hSe).1 B e.symm rfl)).trans hNe.cell, rowI_aside hNe.row hSe HG.out⟩, Lib.hid (rowI_aside (Kd.R_below HT.out HBE.out) hSe HG.out), HSF⟩
                      have he := HE.out
                      rw [hd, gfrom, ← HGG.out, if_pos hpos] at he
                      rw [show 10 - (i + 1) = d from by omega, ← he]
                      simp
                  · have hposz : decide (0 < (G.length : Int)) = false := decide_eq_false (by omega)
                    have hposi : ¬ 0 < (G.length : Int) := by omega
                    go_wp2_with (first
                      | ((with_reducible refine gate_dst (N := 10) rfl ?_); refine box_event ?hg (N := 10) ?hd (cs := #[.int .i64 0]) (t := 3) ?hr ?_; (case hd => rfl); (case hg => rfl); (case hr => first | (go_simp; done) | (go_simp; rfl)); intro C hg w8 hbox hb; have BK := Lib.hid hbox; have HGC := Lib.hid hg; have HB8 := Lib.hid hb; clear hb hbox hg; have hcz0 : w8.cell? ⟨C, 0, none⟩ = some (.int .i64 0) := (blk_cell BK.out 0).trans rfl; have hfz0 := blk_frozen BK.out 0)
                      | (go_at_call 67
                         have hb8 : Below wr.heap.size wr (w8.setCell ⟨C, 0, none⟩ (.int .i64 i)) := HB8.out.setCell (by rw [HGC.out]; exact Nat.le_refl _) _
                         have hblk8 := blk_put BK.out 0 (.int .i64 i) rfl
                         refine (hcl _ hb8).mono ?_; rintro e wd ⟨v63, rfl, ho, hb⟩
                         have HCL := Lib.hid ho
                         have HBD := Lib.hid hb
                         have HB8' := Lib.hid hb8
                         have HK8 := Lib.hid hblk8
                         clear ho hb hb8 hblk8)
                      | (go_at_call 66
                         have hbd : Below wr.heap.size wr wd := HB8'.out.trans (HBD.out.mono HB8'.out.size)
                         have hC8 : C < (w8.setCell ⟨C, 0, none⟩ (.int .i64 i)).heap.size := blk_lt HK8.out
                         have hgd : g < wr.heap.size := Kd.R_lt HN.out.row g rfl
                         have hBd : B < wr.heap.size := blk_lt HN.out.cell
                         have hNd := HN.out.step hbd
                         have hdel := delI 68 #[.pointer (some ⟨B, 0, none⟩), .pointer (some ⟨C, 0, none⟩)] (fun n => rd (gpasses l0 l0.length) n != (i : Int)) wd (w8.setCell ⟨C, 0, none⟩ (.int .i64 i)).heap.size (fun _ => True) v63 (nums l0) HCL.out HBD.out.size
                           (enters_of' Try.func68 (by kernel_rfl) rfl) (fun x hx W hW => by
                             obtain ⟨x0, x1⟩ := nums_mem l0 x hx
                             have hrow : ∀ k, v63.ownBlock = some k → (w8.setCell ⟨C, 0, none⟩ (.int .i64 i)).heap.size ≤ k := Kd.R_base HCL.out
                             have hs8 := HBD.out.size
                             have hs9 := HB8'.out.size
                             have hfar : ∀ k, k < (w8.setCell ⟨C, 0, none⟩ (.int .i64 i)).heap.size → ∀ j, W.cell? ⟨k, j, none⟩ = wd.cell? ⟨k, j, none⟩ := fun k hk j => hW.cell_far ⟨k, j, none⟩ (Nat.lt_of_lt_of_le hk hs8) (fun e => by have := hrow _ e.symm; exact absurd hk (Nat.not_lt.2 this))
                             refine impl_groups.lit (gpasses l0 l0.length) g cap B C (i : Int) x W ?_ ?_ x0 x1 ?_
                             · exact (hfar B (by omega) 0).trans ((blk_cell hNd.cell 0).trans rfl)
                             · exact (hfar C hC8 0).trans ((blk_cell ((HBD.out.block C hC8).trans HK8.out) 0).trans rfl)
                             · exact (hfar g (by omega) _).trans ((Kd.R_cell (0 : Int) (by rw [hnlen]; exact hNd.row) x x0 (by rw [hnlen]; omega)).1))
                         refine hdel.mono ?_; rintro e we ⟨v65, rfl, ho, hb, hg9⟩
                         replace ho : Kd.R (Kd.int .i64) 3 we (w8.setCell ⟨C, 0, none⟩ (.int .i64 i)).heap.size (fun _ => True) v65 G := by rw [HGG.out]; exact ho
                         obtain ⟨Ad, cd, e65⟩ := Kd.R_slice ho
                         subst e65
                         have HD := Lib.hid ho
                         have hbe : Below wr.heap.size wr we := hbd.trans (hb.mono (Nat.le_trans HB8'.out.size (Nat.le_refl _)))
                         have HBE := Lib.hid hbe
                         have hge := HB8'.out.size
                         clear ho hb hg9 hbd hNd hdel hC8 hgd hBd))
                    go_roundg (10 - (i + 1))
                    case measure => omega
                    case rel =>
                      refine ⟨i + 1, o, by go_num, by omega, Nat.le_refl _, Lib.hid ?_, Lib.hid (by omega), Lib.hid (HN.out.step HBE.out), Lib.hid (Kd.R_below HT.out HBE.out), Lib.hid (Kd.S_below HS.out HBE.out)⟩
                      have he := HE.out
                      rw [hd, gfrom, ← HGG.out, if_neg hpos] at he
                      rw [show 10 - (i + 1) = d from by omega, ← he]
                · obtain rfl : i = 10 := by omega
                  have hltz2 : ¬ ((10 : Nat) : Int) < ((10 : Nat) : Int) := by omega
                  go_wp2
                  go_ret
                  have he := HE.out
                  rw [show 10 - 10 = 0 from rfl] at he
                  simp only [gfrom, List.append_nil] at he
                  exact ⟨_, rfl, by rw [← he]; exact Kd.S_mono HS.out (fun _ _ => trivial), HN.out.below⟩
    · rw [if_neg hk] at h
      cases h
  · rw [if_neg hl] at h
    cases h

/-! ### impl_odd_1: function 69, by hand -/
-- with its caller

end Go.Proofs.Ytafcjfilhdpgdaa.QFnChancesCompared
