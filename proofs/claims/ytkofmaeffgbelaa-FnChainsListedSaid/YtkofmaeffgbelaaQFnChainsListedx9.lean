-- WRITTEN BY A PROGRAM OF THIS CLAIM'S AUTHOR (wprint.py)
import Derived.Test.YtkofmaeffgbelaaQFnChainsListedx0
import Derived.Test.YtkofmaeffgbelaaQFnChainsListedx5
import Derived.Test.YtkofmaeffgbelaaQFnChainsListedx6
import Derived.Test.YtkofmaeffgbelaaQFnChainsListedx7
import Derived.Test.YtkofmaeffgbelaaQFnChainsListedx8
namespace Go.Proofs.Ytkofmaeffgbelaa.QFnChainsListed
open Go.RowKit Go.Proofs.YtkofmaeffgbelaaW.PrintWords Go.Proofs.YtkofmaeffgbelaaW.PrintLast Go.Proofs.YtkofmaeffgbelaaW.PrintMore
attribute [local go_sem] max2_int min2_int max_two min_two max_three min_three max_four min_four   -- for this text's walks alone
set_option linter.unusedVariables false
set_option linter.unusedSimpArgs false

/-! ### spec_haAll: function 27, by hand -/
/-! ### spec.haAll: the longest chain of a hand -/
def tmz (n : Int) : List S39 → Int
 | [] => 0
 | t :: ts => (if t.f0 = n then 1 else 0) + (if t.f1 = n then 1 else 0) + tmz n ts
def haLoop (hand : List S39) : Nat → Int → List Int → List Int
 | 0, _, lo => lo
 | m + 1, n, lo => if 0 < tmz n hand then haLoop hand m (n + 1) (lookL hand hand.length [n] (List.replicate hand.length false) lo) else haLoop hand m (n + 1) lo
def haLong (hand : List S39) : List Int := haLoop hand 10 0 []
/-- What lies in memory between two searches. -/
structure spec_haAll.Lb (w : World) (B gC cC : Nat) (Ah : Option Addr) (ch : Nat) (hand : List S39) (lo : List Int) (W : World) : Prop where
 below : Below w.heap.size w W
 yB : w.heap.size ≤ B
 cells : ∃ (cnt : Int) (vL vlo : Value), W.heap[B]? = some (.cells #[.slice Ah hand.length ch, .int .i64 0, .int .i64 cnt, .slice (some ⟨gC, 0, none⟩) hand.length cC, vL, vlo] 52 (0, 0)) ∧ (vL = .slice none 0 0 ∨ ∃ a c, vL = .slice (some a) 1 c) ∧ Kd.R (Kd.int .i64) 3 W w.heap.size (fun k => k ≠ gC) vlo lo
 counts : ∃ cl : List Int, cl.length = hand.length ∧ Kd.R (Kd.int .i64) 3 W w.heap.size (fun _ => True) (.slice (some ⟨gC, 0, none⟩) cl.length cC) cl
theorem spec_haLook_look.Lk.base {w : World} {B gC cC gU cU : Nat} {Ah : Option Addr} {ch : Nat} {hand : List S39} {U : List Bool} {lo : List Int} {W : World} (h : spec_haLook_look.Lk w B gC cC gU cU Ah ch hand U lo W) : spec_haAll.Lb w B gC cC Ah ch hand lo W := ⟨h.below, h.yB, h.cells, h.counts⟩
theorem spec_haAll.Lb.step {w : World} {B gC cC : Nat} {Ah : Option Addr} {ch : Nat} {hand : List S39} {lo : List Int} {W W' : World} (h : spec_haAll.Lb w B gC cC Ah ch hand lo W) (hb : Below W.heap.size W W') : spec_haAll.Lb w B gC cC Ah ch hand lo W' := by
 obtain ⟨cnt, vL, vlo, c1, c2, c3⟩ := h.cells
 obtain ⟨cl, d1, d2⟩ := h.counts
 exact ⟨h.below.trans (hb.mono h.below.size), h.yB, ⟨cnt, vL, vlo, blk_below c1 hb, c2, Kd.R_below c3 hb⟩, ⟨cl, d1, Kd.R_below d2 hb⟩⟩
/-! ### laws_iSame: function 13 -/
def laws_iSame.l0 : Nat → List Int → List Int → Int → Int → Option (Bool)
 | 0, _, _, _, _ => none
 | k + 1, x0, x1, x12, x13 => if x13 < x12 then (if 0 ≤ x13 then (if x13 < (x0.length : Int) then (if x13 < (x1.length : Int) then (if (rd x0 x13) = (rd x1 x13) then (laws_iSame.l0 k x0 x1 x12 (wrap64 (x13 + 1))) else (some false)) else (none)) else (none)) else (none)) else (some true)
def laws_iSame.f (k : Nat) (l0 : List Int) (l1 : List Int) : Option (Bool) := if (l0.length : Int) = (l1.length : Int) then (laws_iSame.l0 k l0 l1 (l0.length : Int) 0) else (some false)
/-! ### laws_iRows: function 12 -/
def laws_iRows.l0 : Nat → List (List Int) → List (List Int) → Int → Int → Option (Bool)
 | 0, _, _, _, _ => none
 | k + 1, x0, x1, x12, x13 => if x13 < x12 then (if 0 ≤ x13 then (if x13 < (x0.length : Int) then (if x13 < (x1.length : Int) then ((laws_iSame.f k (rd_L4 x0 x13) (rd_L4 x1 x13)).bind fun t329 => (if t329 = true then (laws_iRows.l0 k x0 x1 x12 (wrap64 (x13 + 1))) else (some false))) else (none)) else (none)) else (none)) else (some true)
def laws_iRows.f (k : Nat) (l0 : List (List Int)) (l1 : List (List Int)) : Option (Bool) := if (l0.length : Int) = (l1.length : Int) then (laws_iRows.l0 k l0 l1 (l0.length : Int) 0) else (some false)
/-! ### slices_IndexFunc_int_int: function 67, by hand -/
theorem idxI (fi : FuncId) (caps : Array Value) (p : Int → Bool) (A0 : Option Addr) (c0 : Nat) (l0 : List Int) (w : World) (hr0 : Kd.C (Kd.int .i64) w A0 l0.length l0)
  (eg : ∀ args w, (callFunc fi args).run Try.prog w = .ok (.enter fi args) w)
  (hp : ∀ (x : Int) (W : World), Below w.heap.size w W → Calls Try.prog fi (#[.int .i64 x] ++ caps) W fun e w' => e = .returned (.bool (p x)) ∧ Below W.heap.size W w') :
  Calls Try.prog 67 #[.slice A0 l0.length c0, .func (.func fi) #[] caps] w fun e w' => e = .returned (.int .i64 (idxOf p l0)) ∧ Below w.heap.size w w' := by
 have hlen := hr0.2.1
 have HR := Lib.hid hr0
 clear hr0
 go_enter Try.func67, Try.ntmps67
 go_wp2
 go_loopw [8] (fun i wr => ∃ k : Nat, k ≤ l0.length ∧ i = .int .i64 k ∧ Hid (∀ j, j < k → p (l0.getD j 0) = false) ∧ Below w.heap.size w wr) (fun i _ => l0.length - (intOf i).toNat)
 case atStart => exact ⟨0, Nat.zero_le _, rfl, Lib.hid (fun j h => absurd h (Nat.not_lt_zero _)), Below.refl _ _⟩
 case round =>
  obtain ⟨k, hk, rfl, hnone, hbel⟩ := hrel
  by_cases hlt : k < l0.length
  ·obtain ⟨ad, rfl, hx0⟩ := Kd.at_int (Kd.C_below HR.out hbel) (k : Int) (by omega) (by omega)
   rw [show ((k : Int)).toNat = k from rfl] at hx0
   have hc := hp (rd l0 k) _ hbel
   cases hpk : p (rd l0 k)
   ·rw [hpk] at hc
    have HP := Lib.hid hpk
    clear hpk
    go_wp2_with (refine hc.mono ?_; rintro e w1 ⟨rfl, hb1⟩)
    go_roundw
    case rel => exact ⟨k + 1, by omega, by go_num, Lib.hid (fun j hj => by
     by_cases e : j = k
     ·subst e
      exact HP.out
     ·exact hnone.out j (by omega)), hbel.trans (hb1.mono hbel.size)⟩
    case measure => simp [intOf]; omega
   ·rw [hpk] at hc
    have HP := Lib.hid hpk
    clear hpk
    go_wp2_with (refine hc.mono ?_; rintro e w1 ⟨rfl, hb1⟩)
    go_ret
    exact ⟨by rw [idxOf_at p 0 l0 k hlt hnone.out HP.out]; rfl, hbel.trans (hb1.mono hbel.size)⟩
  ·go_wp2
   go_ret
   have e : k = l0.length := by omega
   subst e
   exact ⟨by rw [idxOf_none p 0 l0 hnone.out]; rfl, hbel⟩


/-! ### slices_ContainsFunc_int_int: function 56, by hand -/
theorem conI (fi : FuncId) (caps : Array Value) (p : Int → Bool) (A0 : Option Addr) (c0 : Nat) (l0 : List Int) (w : World) (hr0 : Kd.C (Kd.int .i64) w A0 l0.length l0)
  (eg : ∀ args w, (callFunc fi args).run Try.prog w = .ok (.enter fi args) w)
  (hp : ∀ (x : Int) (W : World), Below w.heap.size w W → Calls Try.prog fi (#[.int .i64 x] ++ caps) W fun e w' => e = .returned (.bool (p x)) ∧ Below W.heap.size W w') :
  Calls Try.prog 56 #[.slice A0 l0.length c0, .func (.func fi) #[] caps] w fun e w' => e = .returned (.bool (l0.any p)) ∧ Below w.heap.size w w' := by
 have hi := idxI fi caps p A0 c0 l0 w hr0 eg hp
 have HA := Lib.hid (idxOf_any p l0)
 clear hp eg hr0
 generalize idxOf p l0 = z at hi HA
 generalize l0.any p = b at HA ⊢
 go_enter Try.func56, Try.ntmps56
 go_wp2_with (go_at_call 67; refine hi.mono ?_; rintro e w' ⟨rfl, hb⟩)
 go_ret
 have h := HA.out
 subst h
 exact ⟨rfl, hb⟩


-- NOT PRINTED: function 57 (impl_areWithin_1)

/-! ### impl_areWithin: function 34, by hand -/
def inB (lo hi n : Int) : Bool := decide (lo ≤ n) && decide (n ≤ hi)
theorem within_f (n lo hi : Int) : impl_within.f n lo hi = some (inB lo hi n) := by
 unfold impl_within.f inB
 by_cases h1 : lo ≤ n
 ·simp [h1]
 ·simp [h1]

theorem areWithin_1 (n lo hi : Int) (g1 g2 : Nat) (w : World) (h1 : w.cell? ⟨g1, 0, none⟩ = some (.int .i64 lo)) (h2 : w.cell? ⟨g2, 0, none⟩ = some (.int .i64 hi)) :
  Calls Try.prog 57 #[.int .i64 n, .pointer (some ⟨g1, 0, none⟩), .pointer (some ⟨g2, 0, none⟩)] w fun e w' => e = .returned (.bool (!inB lo hi n)) ∧ Below w.heap.size w w' := by
 go_enter Try.func57, Try.ntmps57
 go_wp2_with (go_at_call 54; refine (impl_within.calls n lo hi _ _ (within_f n lo hi)).mono ?_; rintro e w' ⟨rfl, ⟨nd, rfl⟩⟩)
 go_ret
 exact ⟨rfl, pw_below_drewN (Below.refl _ _) _⟩

/-- areWithin: no number lies outside. -/
def impl_areWithin.f (l0 : List Int) (a1 a2 : Int) : Option Bool := some (!(l0.any fun n => !inB a1 a2 n))
set_option maxHeartbeats 1000000 in
theorem impl_areWithin.calls (A0 : Option Addr) (c0 : Nat) (l0 : List Int) (a1 : Int) (a2 : Int) (r : Bool) (w : World) (hr0 : Kd.C (Kd.int .i64) w A0 l0.length l0) (_hc0 : l0.length ≤ c0) (h : impl_areWithin.f l0 a1 a2 = some r) :
  Calls Try.prog 34 #[.slice A0 l0.length c0, .int .i64 a1, .int .i64 a2] w fun e w' => e = .returned (.bool r) ∧ Below w.heap.size w w' := by
 have hmf : ∀ (fn : Fn) (first cap : Array Value) (w : World), (Instr.makeFunc fn first cap).run Try.prog w = .ok (.func fn first cap) w := fun _ _ _ _ => rfl
 obtain rfl := Option.some.inj h
 have hb0 : Below w.heap.size w ((w.alloc (.cells #[.int .i64 a1] 3)).alloc (.cells #[.int .i64 a2] 3)) := ((Below.refl _ _).alloc (Nat.le_refl _) _).alloc (by simp) _
 have hcon := conI 57 #[.pointer (some ⟨w.heap.size, 0, none⟩), .pointer (some ⟨w.heap.size + 1, 0, none⟩)] (fun n => !inB a1 a2 n) A0 c0 l0 ((w.alloc (.cells #[.int .i64 a1] 3)).alloc (.cells #[.int .i64 a2] 3)) (Kd.C_below hr0 hb0)
  (enters_of' Try.func57 (by kernel_rfl) rfl) (fun x W hW => areWithin_1 x a1 a2 _ _ W
   ((hW.cell (p := ⟨w.heap.size, 0, none⟩) (by simp; omega)).trans (by rw [World.cell?_alloc_past _ _ _ (by simp), World.cell?_alloc_at _ _ _ _ rfl]; rfl))
   ((hW.cell (p := ⟨w.heap.size + 1, 0, none⟩) (by simp)).trans (by rw [World.cell?_alloc_at _ _ _ _ (by simp)]; rfl)))
 generalize (l0.any fun n => !inB a1 a2 n) = b at hcon ⊢
 clear h hr0
 go_enter Try.func34, Try.ntmps34
 go_wp2_with (go_at_call 56; refine hcon.mono ?_; rintro e w' ⟨rfl, hb⟩)
 go_ret
 exact ⟨rfl, hb0.trans (hb.mono (by simp; omega))⟩

/-! ### impl_tilesOf: function 35 -/
def impl_tilesOf.l0 : Nat → List Int → List (S39) → Int → Option ((List (S39)))
 | 0, _, _, _ => none
 | k + 1, x0, x3, x4 => if x4 < (x0.length : Int) then (if 0 ≤ (wrap64 (x4 - 1)) then (if (wrap64 (x4 - 1)) < (x0.length : Int) then (if 0 ≤ x4 then ((impl_tile.f (rd x0 (wrap64 (x4 - 1))) (rd x0 x4)).bind fun bt335 => (if x3.length < 8796093022208 then (impl_tilesOf.l0 k x0 (x3 ++ [(⟨bt335.1, bt335.2⟩ : S39)]) (wrap64 (x4 + 1))) else (none))) else (none)) else (none)) else (none)) else (some x3)
def impl_tilesOf.f (k : Nat) (l0 : List Int) : Option ((List (S39))) := impl_tilesOf.l0 k l0 (([] : List (S39))) 1
end Go.Proofs.Ytkofmaeffgbelaa.QFnChainsListed
