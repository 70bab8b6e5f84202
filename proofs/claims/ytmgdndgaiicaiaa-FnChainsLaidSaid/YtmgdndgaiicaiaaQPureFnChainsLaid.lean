/- For every input the law FnChainsLaid answers true. No conditions. -/
import Derived.Test.YtmgdndgaiicaiaaReflL
import Derived.Test.YtmgdndgaiicaiaaQPureBFnChainsLaid
import Derived.IntWalk
namespace Go.Proofs.Ytmgdndgaiicaiaa.QPure
open Go.RowKit Go.Refl Go.Proofs.Ytmgdndgaiicaiaa.QFnChainsLaid Go.Proofs.YtmgdndgaiicaiaaW.PrintWords Go.Proofs.YtmgdndgaiicaiaaW.PrintLast
set_option linter.unusedVariables false
set_option linter.unusedSimpArgs false
/-! ### A tile more -/
theorem lay_front (x : Int) (c : List Int) (h : ch (x :: c) = true) (hc : 1 ≤ c.length) : Ev (fun k => impl_LayTile.f k c (tileOf x (c.getD 0 0)).f0 (tileOf x (c.getD 0 0)).f1 true) (x :: c, true) := by
  have hl := ch_len _ h
  simp only [List.length_cons] at hl
  obtain ⟨y, r, rfl⟩ : ∃ y r, c = y :: r := by
    cases c with
    | nil => simp at hc
    | cons y r => exact ⟨y, r, rfl⟩
  have hch : ch (y :: r) = true := ch_drop (x :: y :: r) 1 h (by simp)
  have hin := (ch_true _ h).2.2.1
  have hx := hin x (by simp)
  have hy := hin y (by simp)
  have hnd := ((ch_iff _).1 h).2.2
  rw [tilesL_two, List.nodup_cons] at hnd
  have hg := tiles_good _ h (tileOf x y) (by rw [tilesL_two]; simp)
  have hd : (y :: r).getD 0 0 = y := rfl
  rw [hd]
  have ho : impl_Tile_other.f (tileOf x y).f0 (tileOf x y).f1 y = some x := by rw [tileOf_comm]; exact (tileOf_other y x hy hx).1
  have hh : impl_Tile_has.f (tileOf x y).f0 (tileOf x y).f1 y = some true := by rw [tileOf_comm]; exact (tileOf_other y x hy hx).2
  obtain ⟨K1, e1⟩ := ch_impl (y :: r) (by simp only [List.length_cons] at hl ⊢; omega)
  obtain ⟨K2, e2⟩ := (haTiles_f (y :: r) (by simp only [List.length_cons] at hl ⊢; omega)).2
  obtain ⟨K3, e3⟩ := contains_f (tileOf x y) (tilesL (y :: r)) (by rw [tilesL_len]; simp only [List.length_cons] at hl ⊢; omega)
  obtain ⟨K4, e4⟩ := concat_two [x] (y :: r) (by simp) (by simp only [List.length_cons] at hl ⊢; omega)
  have hm : decide (tileOf x y ∈ tilesL (y :: r)) = false := decide_eq_false hnd.1
  refine ⟨K1 + K2 + K3 + K4 + 2, fun k hk => ?_⟩
  obtain ⟨i, rfl⟩ : ∃ i, k = i + 2 := ⟨k - 2, by omega⟩
  have f1 := e1 (i + 2) (by omega)
  have f2 := e2 (i + 2) (by omega)
  have f3 := e3 (i + 2) (by omega)
  have f4 := e4 i (by omega)
  simp only at f1 f2 f3 f4
  rw [hch] at f1
  rw [hm] at f3
  simp only [impl_LayTile.f, f1, Option.bind_some, if_true, isTile_f, hg, f2, f3, impl_LayTile.j0, Bool.false_eq_true, if_false, ends_f (y :: r) (by simp) (by simp only [List.length_cons] at hl ⊢; omega), hd, hh, impl_LayTile.j1, ho, f4, List.singleton_append]
theorem lay_back (c : List Int) (x : Int) (h : ch (c ++ [x]) = true) (hc : 1 ≤ c.length) : Ev (fun k => impl_LayTile.f k c (tileOf (lastI c) x).f0 (tileOf (lastI c) x).f1 false) (c ++ [x], true) := by
  have hl := ch_len _ h
  simp only [List.length_append, List.length_singleton] at hl
  have hch : ch c = true := by
    have := ch_take (c ++ [x]) c.length h hc
    rwa [List.take_left'  rfl] at this
  have hin := (ch_true _ h).2.2.1
  have hx := hin x (by simp)
  have hlast : lastI c ∈ c := by
    unfold lastI
    rw [List.getD_eq_getElem?_getD, List.getElem?_eq_getElem (by omega)]
    exact List.getElem_mem _
  have hy := hin (lastI c) (by simp [hlast])
  have hsplit : ∃ A, c = A ++ [lastI c] := by
    refine ⟨c.take (c.length - 1), ?_⟩
    have h1 : c.length - 1 < c.length := by omega
    have h2 := List.take_append_drop (c.length - 1) c
    have h3 : c.drop (c.length - 1) = [lastI c] := by
      rw [List.drop_eq_getElem_cons h1]
      have h4 : c.length - 1 + 1 = c.length := by omega
      rw [h4, List.drop_length]
      unfold lastI
      rw [List.getD_eq_getElem?_getD, List.getElem?_eq_getElem h1]
      rfl
    rw [h3] at h2
    exact h2.symm
  obtain ⟨A, hA⟩ := hsplit
  have hnd := ((ch_iff _).1 h).2.2
  have ht : tilesL (c ++ [x]) = tilesL c ++ [tileOf (lastI c) x] := by
    have e := tilesL_app (lastI c) [x] A
    rw [hA]
    rw [List.append_assoc]
    have e2 : lastI (A ++ [lastI c]) = lastI c := last_app A (lastI c)
    rw [e2]
    exact e
  have hg := tiles_good _ h (tileOf (lastI c) x) (by rw [ht]; simp)
  rw [ht, List.nodup_append] at hnd
  have hm : decide (tileOf (lastI c) x ∈ tilesL c) = false := decide_eq_false fun hin2 => hnd.2.2 _ hin2 _ (by simp) rfl
  have ho := (tileOf_other (lastI c) x hy hx).1
  have hh := (tileOf_other (lastI c) x hy hx).2
  obtain ⟨K1, e1⟩ := ch_impl c (by omega)
  obtain ⟨K2, e2⟩ := (haTiles_f c (by omega)).2
  obtain ⟨K3, e3⟩ := contains_f (tileOf (lastI c) x) (tilesL c) (by rw [tilesL_len]; omega)
  obtain ⟨K4, e4⟩ := concat_two c [x] (by omega) (by simp)
  refine ⟨K1 + K2 + K3 + K4 + 3, fun k hk => ?_⟩
  obtain ⟨i, rfl⟩ : ∃ i, k = i + 3 := ⟨k - 3, by omega⟩
  have f1 := e1 (i + 3) (by omega)
  have f2 := e2 (i + 3) (by omega)
  have f3 := e3 (i + 3) (by omega)
  have f4 := e4 i (by omega)
  simp only at f1 f2 f3 f4
  rw [hch] at f1
  rw [hm] at f3
  simp only [impl_LayTile.f, f1, Option.bind_some, if_true, isTile_f, hg, f2, f3, impl_LayTile.j0, Bool.false_eq_true, if_false, ends_f c hc (by omega), impl_LayTile.j1, hh, impl_LayTile.j2, ho, f4]
/-! ### The law -/
theorem wr (x : Int) (h : -1000000000 ≤ x) (h2 : x ≤ 1000000000) : IntKind.wrap .i64 x = x := by
  rw [IntWalk.i64_left]
  exact t_wrap x h h2
theorem get_i (l : List Int) (i : Nat) (h : i < l.length) (n : Int) (hn : n = (i : Int)) : 0 ≤ n ∧ l[n.toNat]? = some (l.getD i 0) := by
  subst hn
  refine ⟨by omega, ?_⟩
  rw [Int.toNat_natCast, List.getD_eq_getElem?_getD, List.getElem?_eq_getElem h]
  rfl
theorem get_t (l : List S43) (i : Nat) (h : i < l.length) (n : Int) (hn : n = (i : Int)) : 0 ≤ n ∧ l[n.toNat]? = some (l.getD i z43) := by
  subst hn
  refine ⟨by omega, ?_⟩
  rw [Int.toNat_natCast, List.getD_eq_getElem?_getD, List.getElem?_eq_getElem h]
  rfl
theorem bf {b : Bool} : (!(b == b)) = false := by simp
theorem bs {b : ByteArray} : (!(b.toList == b.toList)) = false := by rw [beq_self_eq_true]; rfl
theorem bn {a b : Int} (h : a = b) : (!(a == b)) = false := by simp [h]
abbrev u8 (l : List Int) : AV := .sl (iI .u8 l)
theorem seg4 (l : List Int) (hl : ∀ x ∈ l, 0 ≤ x ∧ x ≤ 255) : RunOk Try.prog Try.f3.ntmps (nav [true, true, true, true, true, true, true, true, true, true, true, true, true, true, true, true, true, true, true, true, true, true, true, true, true] (bodyOf Try.f3)) (lookA [(1, u8 l)]) .ret (lookA [(4, vb true)]) := by
  obtain ⟨t, ⟨K0, h0⟩, ht⟩ := d_text l hl
  have g0 := h0 K0 (Nat.le_refl _)
  obtain ⟨K1, h1⟩ := parse_i t (by omega)
  have g1 := h1 K1 (Nat.le_refl _)
  obtain ⟨K2, h2⟩ := parse_s t (by omega)
  have g2 := h2 K2 (Nat.le_refl _)
  simp only at g0 g1 g2
  cases hc : ch (rdT t) with
  | false =>
    rw [hc] at g1 g2
    simp only [Bool.false_eq_true, if_false] at g1 g2
    obtain ⟨K3, h3⟩ := iSame_f [] (by simp)
    exact p4_0 l t K0 [] K1 false [] K2 K3 g0 g1 g2 bf (h3 K3 (Nat.le_refl _))
  | true =>
    rw [hc] at g1 g2
    simp only [if_true] at g1 g2
    have hr := ch_len _ hc
    obtain ⟨K3, h3⟩ := iSame_f (rdT t) (by omega)
    obtain ⟨K4, h4⟩ := text_i (rdT t) (by omega)
    have g4 := h4 K4 (Nat.le_refl _)
    simp only [hc, if_true] at g4
    rw [text_read t ((ch_true _ hc).2.2.1)] at g4
    have := p4_1 l t K0 (rdT t) K1 true (rdT t) K2 K3 t K4 g0 g1 g2 bf (h3 K3 (Nat.le_refl _)) g4
    rw [beq_self_eq_true] at this
    exact this
theorem seg3 (l : List Int) (hl : ∀ x ∈ l, 0 ≤ x ∧ x ≤ 255) : RunOk Try.prog Try.f3.ntmps (nav [true, true, true, true, true, true, true, true, true, true, true, true, true, true, true, true, true, true, true, true] (bodyOf Try.f3)) (lookA [(1, u8 l)]) .ret (lookA [(4, vb true)]) := by
  obtain ⟨a, b, ⟨K0, h0⟩, ha, hb⟩ := d_joins l hl
  have g0 := h0 K0 (Nat.le_refl _)
  obtain ⟨K1, h1⟩ := join_i a b (by omega) (by omega)
  have g1 := h1 K1 (Nat.le_refl _)
  obtain ⟨K2, h2⟩ := join_s a b (by omega) (by omega)
  have g2 := h2 K2 (Nat.le_refl _)
  simp only at g0 g1 g2
  have hjt := join_true a b
  have hlen : (joinL a b).1.length ≤ 300 := by
    unfold joinL
    repeat' split
    all_goals simp
    omega
  obtain ⟨K3, h3⟩ := iSame_f (joinL a b).1 (by omega)
  have g3 := h3 K3 (Nat.le_refl _)
  simp only at g3
  generalize joinL a b = j at g1 g2 hjt g3 hlen
  obtain ⟨j, f⟩ := j
  simp only at hjt g3 hlen
  cases f with
  | false => exact p3_0 l a b K0 j K1 false j K2 K3 g0 g1 g2 bf g3 (seg4 l hl)
  | true =>
    obtain ⟨rfl, h4, h5, h6⟩ := hjt rfl
    obtain ⟨K4, h7⟩ := iSame_f a (by omega)
    obtain ⟨K5, h8⟩ := iSame_f b (by omega)
    have hd : (b.drop 1).length = b.length - 1 := List.length_drop
    refine p3_1 l a b K0 (a ++ b.drop 1) K1 true (a ++ b.drop 1) K2 K3 a K4 b K5 g0 g1 g2 bf g3 ?_ ?_ (h7 K4 (Nat.le_refl _)) ?_ (h8 K5 (Nat.le_refl _)) (seg4 l hl)
    · refine bn ?_
      rw [iI_len, iI_len, iI_len, wr ((a.length : Int) + (b.length : Int)) (by omega) (by omega), wr _ (by omega) (by omega), List.length_append, hd]
      omega
    · rw [iI_len, iI_len, List.length_append]
      refine ⟨by omega, by omega, by omega, ?_⟩
      simp
    · rw [iI_len, iI_len, wr _ (by omega) (by omega), List.length_append, hd]
      refine ⟨by omega, by omega, by omega, ?_⟩
      have e1 : ((a.length : Int) - 1).toNat = a.length - 1 := by omega
      have e2 : (((a.length + (b.length - 1) : Nat) : Int)).toNat = (a ++ b.drop 1).length := by rw [List.length_append, hd]; omega
      rw [e1, e2, List.take_length]
      obtain ⟨y, r, rfl⟩ : ∃ y r, b = y :: r := by
        cases b with
        | nil => simp at h5
        | cons y r => exact ⟨y, r, rfl⟩
      have h7 : lastI a = y := h6
      rw [List.drop_append_of_le_length (by omega)]
      have h3 : a.drop (a.length - 1) = [lastI a] := by
        have h1 : a.length - 1 < a.length := by omega
        rw [List.drop_eq_getElem_cons h1]
        have h4 : a.length - 1 + 1 = a.length := by omega
        rw [h4, List.drop_length]
        unfold lastI
        rw [List.getD_eq_getElem?_getD, List.getElem?_eq_getElem h1]
        rfl
      rw [h3, h7]
      rfl
theorem segR (l : List Int) (r : List Int) (k : Nat) (h : ch r = true) (hr : isR r = true) (hk : k + 2 ≤ r.length) : RunOk Try.prog Try.f3.ntmps (nav [true, true, true, true, true, true, true, true, true, true, true, true, true, true, true, true, true, true, true, false, true] (bodyOf Try.f3)) (lookA [(1, u8 l), (40, .sl (iI .i64 r)), (41, vi (k : Int)), (42, .sl (iI .i64 (spinL r k))), (421, vb true)]) .normal (lookA [(1, u8 l)]) := by
  have hl := ch_len _ h
  have hsl := spin_len r k hk
  have hsc := spin_ch r k h hr hk
  obtain ⟨b0, b1, b2⟩ := spin_back r k hr hk
  have hW : IntKind.wrap .i64 (((iI .i64 r).length : Int) - 1) = ((r.length - 1 : Nat) : Int) := by
    rw [iI_len, wr _ (by omega) (by omega)]
    omega
  have hW2 : IntKind.wrap .i64 (((r.length - 1 : Nat) : Int) - (k : Int)) = ((r.length - 1 - k : Nat) : Int) := by
    rw [wr _ (by omega) (by omega)]
    omega
  obtain ⟨K0, h0⟩ := spin_i (spinL r k) (((r.length - 1 - k) % (r.length - 1) : Nat) : Int) (by omega)
  have g0 := h0 K0 (Nat.le_refl _)
  have hlt : (r.length - 1 - k) % (r.length - 1) < r.length - 1 := Nat.mod_lt _ (by omega)
  have hcan : canSpin (spinL r k) (((r.length - 1 - k) % (r.length - 1) : Nat) : Int) = true := by
    unfold canSpin
    rw [hsc, b0, hsl]
    simp only [Bool.true_and]
    rw [inB_iff]
    omega
  simp only [hcan, if_true, Int.toNat_natCast, b1] at g0
  obtain ⟨K1, h1⟩ := tiles_i r (by omega)
  have g1 := h1 K1 (Nat.le_refl _)
  obtain ⟨K2, h2⟩ := tiles_i (spinL r k) (by omega)
  have g2 := h2 K2 (Nat.le_refl _)
  simp only [h, hsc, if_true] at g1 g2
  obtain ⟨K3, h3⟩ := iSame_f r (by omega)
  obtain ⟨X, Y, t0, t1⟩ := spin_tiles r k hr hk
  have hT : (tilesL r).length = (tilesL (spinL r k)).length := by rw [tilesL_len, tilesL_len, hsl]
  have hTl : (tilesL r).length ≤ 56 := by rw [tilesL_len]; omega
  refine pR_1 l r k (spinL r k) r K0 (tilesL r) K1 (tilesL (spinL r k)) K2 K3 _ _ (by rw [hW]; omega) ?_ g1 g2 (h3 K3 (Nat.le_refl _)) (get_i _ 0 (by omega) 0 rfl) (get_i _ k (by omega) k rfl) (bn b2) ?_ ?_
  · rw [hW, hW2]
    have : ((r.length - 1 - k : Nat) : Int).tmod ((r.length - 1 : Nat) : Int) = (((r.length - 1 - k) % (r.length - 1) : Nat) : Int) := rfl
    rw [this]
    exact g0
  · exact bn (by rw [iS43_len, iS43_len, hT])
  · have hst := loop_ok (P := Try.prog) (n := Try.f3.ntmps) (c := nav [true, true, true, true, true, true, true, true, true, true, true, true, true, true, true, true, true, true, true, false, true, false, true, true, true, true, true, false, false] (bodyOf Try.f3)) (E := fun i => lookA [(1, u8 l), (54, .sl (iS43 (tilesL (spinL r k)))), (479, .sl (iS43 (tilesL r))), (480, vi ((tilesL r).length : Int)), (481, vi (i : Int))]) (m := (tilesL r).length) (x := .exit 2) (e' := lookA [(1, u8 l)]) (by nofun) (fun i hi => ?_) (q1_0 l _ _ _ _ (decide_eq_false (by omega)))
    · rw [iS43_len]
      exact hst
    · obtain ⟨K, hK⟩ := iIn_f (tilesL (spinL r k)) ((tilesL r).getD i z43) (by omega) (by
        rw [t1]
        have hm : (tilesL r).getD i z43 ∈ tilesL r := by
          rw [List.getD_eq_getElem?_getD, List.getElem?_eq_getElem hi]
          exact List.getElem_mem _
        rw [t0] at hm ⊢
        simp only [List.mem_append] at hm ⊢
        exact hm.symm)
      have := q1_1 l (tilesL (spinL r k)) (tilesL r) ((tilesL r).length : Int) (i : Int) _ K (decide_eq_true (by omega)) (get_t _ i hi i rfl) (hK K (Nat.le_refl _))
      rw [wr _ (by omega) (by omega)] at this
      exact this
theorem seg2 (l : List Int) (hl : ∀ x ∈ l, 0 ≤ x ∧ x ≤ 255) : RunOk Try.prog Try.f3.ntmps (nav [true, true, true, true, true, true, true, true, true, true, true, true, true] (bodyOf Try.f3)) (lookA [(1, u8 l)]) .ret (lookA [(4, vb true)]) := by
  obtain ⟨r, k, ⟨K0, h0⟩, hr⟩ := d_spin l hl
  have g0 := h0 K0 (Nat.le_refl _)
  obtain ⟨K1, h1⟩ := spin_i r k (by omega)
  have g1 := h1 K1 (Nat.le_refl _)
  obtain ⟨K2, h2⟩ := spin_s r k (by omega)
  have g2 := h2 K2 (Nat.le_refl _)
  obtain ⟨K3, h3⟩ := ring_i r (by omega)
  have g3 := h3 K3 (Nat.le_refl _)
  obtain ⟨K4, h4⟩ := ring_s r (by omega)
  have g4 := h4 K4 (Nat.le_refl _)
  simp only at g0 g1 g2 g3 g4
  cases hc : canSpin r k with
  | false =>
    rw [hc] at g1 g2
    simp only [Bool.false_eq_true, if_false] at g1 g2
    obtain ⟨K5, h5⟩ := iSame_f [] (by simp)
    generalize (if ch r = true then (isR r, true) else (false, false)) = q at g3 g4
    obtain ⟨q0, q1⟩ := q
    exact p2_0 l k r K0 [] K1 false [] K2 q0 q1 K3 q0 q1 K4 K5 g0 g1 g2 g3 g4 bf (h5 K5 (Nat.le_refl _)) bf bf (pR_0 l r k []) (seg3 l hl)
  | true =>
    rw [hc] at g1 g2
    simp only [if_true] at g1 g2
    unfold canSpin at hc
    simp only [Bool.and_eq_true] at hc
    obtain ⟨hch, hir, hin⟩ := hc
    rw [inB_iff] at hin
    rw [hch, hir] at g3 g4
    simp only [if_true] at g3 g4
    obtain ⟨m, rfl⟩ : ∃ m : Nat, k = (m : Int) := ⟨k.toNat, by omega⟩
    rw [Int.toNat_natCast] at g1 g2
    have hm : m + 2 ≤ r.length := by omega
    have hsl := spin_len r m hm
    obtain ⟨K5, h5⟩ := iSame_f (spinL r m) (by omega)
    exact p2_1 l m r K0 (spinL r m) K1 true (spinL r m) K2 K3 true true K4 K5 g0 g1 g2 g3 g4 bf (h5 K5 (Nat.le_refl _)) bf bf (segR l r m hch hir hm) (seg3 l hl)
theorem segL (l c : List Int) (h : ch c = true) : RunOk Try.prog Try.f3.ntmps (.loop (nav [true, true, true, true, true, true, true, true, true, true, true, true, false, true, false, true, true, true, true, true, false, true, false, false] (bodyOf Try.f3))) (lookA [(1, u8 l), (5, .sl (iI .i64 c)), (6, .sl (iS43 (tilesL c))), (24, .sl (iS43 (tilesL c).reverse)), (280, .sl (iS43 (tilesL c))), (281, vi ((iS43 (tilesL c)).length : Int)), (282, vi 0)]) (.exit 0) (lookA [(1, u8 l), (5, .sl (iI .i64 c)), (6, .sl (iS43 (tilesL c)))]) := by
  have hl := ch_len _ h
  have hT := tilesL_len c
  have hin := (ch_true _ h).2.2.1
  have hst := loop_ok (P := Try.prog) (n := Try.f3.ntmps) (c := nav [true, true, true, true, true, true, true, true, true, true, true, true, false, true, false, true, true, true, true, true, false, true, false, false] (bodyOf Try.f3)) (E := fun i => lookA [(1, u8 l), (5, .sl (iI .i64 c)), (6, .sl (iS43 (tilesL c))), (24, .sl (iS43 (tilesL c).reverse)), (280, .sl (iS43 (tilesL c))), (281, vi ((tilesL c).length : Int)), (282, vi (i : Int))]) (m := (tilesL c).length) (x := .exit 0) (e' := lookA [(1, u8 l), (5, .sl (iI .i64 c)), (6, .sl (iS43 (tilesL c)))]) (by nofun) (fun i hi => ?_) (q0_0 l _ _ _ _ _ _ (decide_eq_false (by omega)))
  · rw [iS43_len]
    exact hst
  · have hx : ∀ j, j < c.length → 0 ≤ c.getD j 0 ∧ c.getD j 0 ≤ 9 := by
      intro j hj
      refine hin _ ?_
      rw [List.getD_eq_getElem?_getD, List.getElem?_eq_getElem hj]
      exact List.getElem_mem _
    have e1 := tilesL_get c i (by omega)
    have ht : impl_TileOf.f (c.getD i 0) (c.getD (i + 1) 0) = some ((tileOf (c.getD i 0) (c.getD (i + 1) 0)).f0, (tileOf (c.getD i 0) (c.getD (i + 1) 0)).f1, true) := by
      have q1 := hx i (by omega)
      have q2 := hx (i + 1) (by omega)
      unfold impl_TileOf.f impl_isNumber.f impl_within.f impl_tile.f
      simp only [decide_eq_true q1.1, decide_eq_true q1.2, decide_eq_true q2.1, decide_eq_true q2.2, q1.1, q1.2, q2.1, q2.2, if_true, Option.bind_some]
      rfl
    have hrev : (tilesL c).reverse.getD ((tilesL c).length - 1 - i) z43 = (tilesL c).getD i z43 := by
      rw [List.getD_eq_getElem?_getD, List.getD_eq_getElem?_getD, List.getElem?_reverse (by omega)]
      congr 2
      omega
    have := q0_1 l c (tilesL c) (tilesL c).reverse (tilesL c) ((tilesL c).length : Int) (i : Int) ((tilesL c).getD i z43) (c.getD i 0) (c.getD (i + 1) 0) _ _ ((tilesL c).getD i z43) (decide_eq_true (by omega)) (get_t _ i hi i rfl) (get_i _ i (by omega) i rfl)
      (get_i _ (i + 1) (by omega) _ (by rw [wr _ (by omega) (by omega)]; omega)) ht (by rw [e1]; simp)
      (by
        have g := get_t (tilesL c).reverse ((tilesL c).length - 1 - i) (by rw [List.length_reverse]; omega) (IntKind.wrap .i64 (IntKind.wrap .i64 (((iS43 (tilesL c)).length : Int) - 1) - (i : Int))) (by
          rw [iS43_len, wr (((tilesL c).length : Int) - 1) (by omega) (by omega), wr _ (by omega) (by omega)]
          omega)
        rw [hrev] at g
        exact g) (by simp)
    rw [wr _ (by omega) (by omega)] at this
    exact this
theorem segT (l c : List Int) (h : ch c = true) : RunOk Try.prog Try.f3.ntmps (nav [true, true, true, true, true, true, true, true, true, true, true, true, false, true, false, true, true, true, true, true, true, true] (bodyOf Try.f3)) (lookA [(1, u8 l), (5, .sl (iI .i64 c)), (6, .sl (iS43 (tilesL c))), (322, vb (decide (((iS43 (tilesL c)).length : Int) > 0)))]) .normal (lookA [(1, u8 l)]) := by
  have hl := ch_len _ h
  have hT := tilesL_len c
  rw [iS43_len]
  by_cases h0 : 0 < (tilesL c).length
  · rw [decide_eq_true (by omega : ((tilesL c).length : Int) > 0)]
    obtain ⟨K3, h3⟩ := iSame_f c (by omega)
    have hW : IntKind.wrap .i64 (((iI .i64 c).length : Int) - 1) = ((c.length - 1 : Nat) : Int) := by
      rw [iI_len, wr _ (by omega) (by omega)]
      omega
    have hW2 : IntKind.wrap .i64 (((iS43 (tilesL c)).length : Int) - 1) = ((c.length - 2 : Nat) : Int) := by
      rw [iS43_len, wr _ (by omega) (by omega)]
      omega
    -- the last tile
    have hA : c.take (c.length - 1) ++ [lastI c] = c := by
      have h1 : c.length - 1 < c.length := by omega
      have h2 := List.take_append_drop (c.length - 1) c
      have h3 : c.drop (c.length - 1) = [lastI c] := by
        rw [List.drop_eq_getElem_cons h1]
        have h4 : c.length - 1 + 1 = c.length := by omega
        rw [h4, List.drop_length]
        unfold lastI
        rw [List.getD_eq_getElem?_getD, List.getElem?_eq_getElem h1]
        rfl
      rw [h3] at h2
      exact h2
    have hl1 : lastI (c.take (c.length - 1)) = c.getD (c.length - 2) 0 := by
      unfold lastI
      rw [List.length_take, List.getD_eq_getElem?_getD, List.getD_eq_getElem?_getD, List.getElem?_take, if_pos (by omega)]
      congr 2
      omega
    obtain ⟨K0, e0⟩ := lay_back (c.take (c.length - 1)) (lastI c) (by rw [hA]; exact h) (by rw [List.length_take]; omega)
    have g0 := e0 K0 (Nat.le_refl _)
    simp only [hA, hl1] at g0
    have t0 := tilesL_get c (c.length - 2) (by omega)
    have hlast : c.getD (c.length - 2 + 1) 0 = lastI c := by
      unfold lastI
      congr 1
      omega
    rw [hlast] at t0
    rw [← t0] at g0
    -- the first tile
    obtain ⟨x, r, rfl⟩ : ∃ x r, c = x :: r := by
      cases c with
      | nil => simp at hl
      | cons x r => exact ⟨x, r, rfl⟩
    simp only [List.length_cons] at hT hl h0 hW hW2
    obtain ⟨K1, e1⟩ := lay_front x r h (by omega)
    have g1 := e1 K1 (Nat.le_refl _)
    have t1 := tilesL_get (x :: r) 0 (by simp only [List.length_cons]; omega)
    have t2 : (x :: r).getD 0 0 = x := rfl
    have t3 : (x :: r).getD (0 + 1) 0 = r.getD 0 0 := by simp [List.getD_eq_getElem?_getD]
    rw [t2, t3] at t1
    simp only [← t1] at g1
    refine pT_1 l (x :: r) (tilesL (x :: r)) _ _ (x :: r) K0 r _ (x :: r) K1 K3 K3 ?_ (get_t _ (r.length + 1 - 2) (by omega) _ hW2) g0 ?_ (get_t _ 0 (by omega) 0 rfl) g1 (h3 K3 (Nat.le_refl _)) (h3 K3 (Nat.le_refl _))
    · rw [hW, iI_len]
      refine ⟨by omega, by omega, by simp only [List.length_cons]; omega, ?_⟩
      simp
    · rw [iI_len]
      refine ⟨by omega, by simp only [List.length_cons]; omega, by omega, ?_⟩
      simp
  · rw [decide_eq_false (by omega : ¬ ((tilesL c).length : Int) > 0)]
    exact pT_0 l c (tilesL c)
theorem segB (l c : List Int) (h : ch c = true) : RunOk Try.prog Try.f3.ntmps (nav [true, true, true, true, true, true, true, true, true, true, true, true, false, true] (bodyOf Try.f3)) (lookA [(1, u8 l), (5, .sl (iI .i64 c)), (6, .sl (iS43 (tilesL c))), (10, vi (c.getD 0 0)), (11, vi (lastI c)), (16, .sl (iI .i64 c.reverse)), (20, .val (.string (strOfNums (c.map dg)))), (191, vb true)]) .normal (lookA [(1, u8 l)]) := by
  have hl := ch_len _ h
  have hT := tilesL_len c
  have hrv := ch_rev c h
  have hin := (ch_true _ h).2.2.1
  obtain ⟨K0, e0⟩ := tiles_i c.reverse (by rw [List.length_reverse]; omega)
  have g0 := e0 K0 (Nat.le_refl _)
  obtain ⟨K1, e1⟩ := turn_i c.reverse (by rw [List.length_reverse]; omega)
  have g1 := e1 K1 (Nat.le_refl _)
  have hrt : rdT (strOfNums (c.map dg)) = c := read_text c hin
  have hsz : (strOfNums (c.map dg)).size ≤ 2000000 := by
    have := rdT_len (strOfNums (c.map dg))
    rw [hrt] at this
    omega
  obtain ⟨K2, e2⟩ := parse_i (strOfNums (c.map dg)) hsz
  have g2 := e2 K2 (Nat.le_refl _)
  obtain ⟨K3, e3⟩ := ring_i c (by omega)
  have g3 := e3 K3 (Nat.le_refl _)
  obtain ⟨K4, e4⟩ := isH_impl (tilesL c) (by omega)
  have g4 := e4 K4 (Nat.le_refl _)
  obtain ⟨K5, e5⟩ := iSame_f c (by omega)
  have g5 := e5 K5 (Nat.le_refl _)
  rw [(ch_true _ h).2.2.2] at g4
  simp only [hrv, h, if_true, tilesL_rev, List.reverse_reverse, hrt] at g0 g1 g2 g3 g4 g5
  have d0 : (!(((iS43 (tilesL c)).length : Int) == (IntKind.wrap .i64 (((iI .i64 c).length : Int) - 1)))) = false := bn (by
    rw [iS43_len, iI_len, wr _ (by omega) (by omega), hT]
    omega)
  have i1 := get_i c 0 (by omega) 0 rfl
  have i2 := get_i c (c.length - 1) (by omega) (IntKind.wrap .i64 (((iI .i64 c).length : Int) - 1)) (by
    rw [iI_len, wr _ (by omega) (by omega)]
    omega)
  have hR : isR c = (decide (((iS43 (tilesL c)).length : Int) > 0) && (c.getD 0 0 == lastI c)) := by
    unfold isR
    rw [iS43_len, hT]
    by_cases h1 : c.length > 1
    · rw [if_pos h1, decide_eq_true (by omega : ((c.length - 1 : Nat) : Int) > 0), Bool.true_and]
    · rw [if_neg h1, decide_eq_false (by omega : ¬ ((c.length - 1 : Nat) : Int) > 0), Bool.false_and]
  have sL := segL l c h
  have sT := segT l c h
  cases hd : decide (((iS43 (tilesL c)).length : Int) > 0) with
  | false =>
    rw [hd] at hR sT
    rw [Bool.false_and] at hR
    exact pB_1 l c (tilesL c) _ _ c.reverse _ _ K0 _ K1 _ K2 _ K3 K4 _ _ K5 K5 g0 g1 g2 g3 d0 g4 i1 (bn rfl) i2 (bn rfl) g5 g5 hd (by rw [hR]; rfl) hd sL sT
  | true =>
    rw [hd] at hR sT
    rw [Bool.true_and] at hR
    exact pB_2 l c (tilesL c) _ _ c.reverse _ _ K0 _ K1 _ K2 _ K3 K4 _ _ K5 K5 g0 g1 g2 g3 d0 g4 i1 (bn rfl) i2 (bn rfl) g5 g5 hd (by rw [hR]; exact bf) hd sL sT
theorem law_run (l0 l1 : List Int) (hl0 : ∀ x ∈ l0, 0 ≤ x ∧ x ≤ 255) (hl1 : ∀ x ∈ l1, 0 ≤ x ∧ x ≤ 255) : RunOk Try.prog Try.f3.ntmps (bodyOf Try.f3) (lookA [(0, u8 l0), (1, u8 l1)]) .ret (lookA [(4, vb true)]) := by
  have big : ∃ c, laws_big.f l0 l1 = some c := by
    unfold laws_big.f
    split <;> exact ⟨_, rfl⟩
  obtain ⟨b, hb⟩ := big
  cases b with
  | true => exact p1_0 l0 l1 hb
  | false =>
    obtain ⟨c, ⟨K1, e1⟩, hc⟩ := d_isChain l0 hl0
    have g1 := e1 K1 (Nat.le_refl _)
    obtain ⟨K2, e2⟩ := tiles_i c (by omega)
    have g2 := e2 K2 (Nat.le_refl _)
    obtain ⟨K3, e3⟩ := tiles_s c (by omega)
    have g3 := e3 K3 (Nat.le_refl _)
    obtain ⟨K4, e4⟩ := ends_i c (by omega)
    have g4 := e4 K4 (Nat.le_refl _)
    obtain ⟨K5, e5⟩ := ends_s c (by omega)
    have g5 := e5 K5 (Nat.le_refl _)
    obtain ⟨K6, e6⟩ := turn_i c (by omega)
    have g6 := e6 K6 (Nat.le_refl _)
    obtain ⟨K7, e7⟩ := turn_s c (by omega)
    have g7 := e7 K7 (Nat.le_refl _)
    obtain ⟨K8, e8⟩ := text_i c (by omega)
    have g8 := e8 K8 (Nat.le_refl _)
    obtain ⟨K9, e9⟩ := text_s c (by omega)
    have g9 := e9 K9 (Nat.le_refl _)
    obtain ⟨K12, e12⟩ := ch_impl c (by omega)
    have g12 := e12 K12 (Nat.le_refl _)
    obtain ⟨K14, e14⟩ := ch_spec c (by omega)
    have g14 : spec_IsChain.f K14 c = some (ch c) := by
      unfold spec_IsChain.f
      have := e14 K14 (Nat.le_refl _)
      simp only at this
      rw [this]
      rfl
    have hTl := tilesL_len c
    obtain ⟨K10, e10⟩ := iTiles_f (if ch c = true then tilesL c else []) (by
      split
      · omega
      · simp)
    have g10 := e10 K10 (Nat.le_refl _)
    obtain ⟨K11, e11⟩ := iSame_f (if ch c = true then c.reverse else []) (by
      split
      · rw [List.length_reverse]; omega
      · simp)
    have g11 := e11 K11 (Nat.le_refl _)
    simp only at g1 g2 g3 g4 g5 g6 g7 g8 g9 g10 g11 g12
    cases hch : ch c with
    | false =>
      rw [hch] at g2 g3 g4 g5 g6 g7 g8 g9 g10 g11 g12 g14
      simp only [Bool.false_eq_true, if_false] at g2 g3 g4 g5 g6 g7 g8 g9 g10 g11
      exact p1_1 l0 l1 c K1 false [] K2 false [] K3 0 0 false K4 0 0 false K5 false [] K6 false [] K7 _ false K8 _ false K9 K10 K11 false K12 false K12 false K14 hb g1 g2 g3 g4 g5 g6 g7 g8 g9 rfl g10 rfl rfl rfl rfl g11 rfl bs g12 rfl g12 g14 rfl rfl rfl rfl
        (pB_0 l1 c [] 0 0 [] _) (seg2 l1 hl1)
    | true =>
      rw [hch] at g2 g3 g4 g5 g6 g7 g8 g9 g10 g11 g12 g14
      simp only [if_true] at g2 g3 g4 g5 g6 g7 g8 g9 g10 g11
      exact p1_1 l0 l1 c K1 true _ K2 true _ K3 _ _ true K4 _ _ true K5 true _ K6 true _ K7 _ true K8 _ true K9 K10 K11 true K12 true K12 true K14 hb g1 g2 g3 g4 g5 g6 g7 g8 g9 rfl g10 rfl (bn rfl) (bn rfl) rfl g11 rfl bs g12 rfl g12 g14 rfl rfl rfl rfl
        (segB l1 c hch) (seg2 l1 hl1)
theorem wf_u8 (l : List Int) (h : ∀ x_ ∈ l, (Lit.int .u8 x_).wf = true) : ∀ x ∈ l, 0 ≤ x ∧ x ≤ 255 := by
  intro x hx
  have h1 : (decide (IntKind.u8.min ≤ x) && decide (x ≤ IntKind.u8.max)) = true := h x hx
  have h2 : IntKind.u8.min = 0 := by decide
  have h3 : IntKind.u8.max = 255 := by decide
  rw [h2, h3] at h1
  simpa using h1
theorem law_calls (A0 : Option Addr) (c0 : Nat) (l0 : List Int) (A1 : Option Addr) (c1 : Nat) (l1 : List Int) (w : World) (hr0 : Kd.C (Kd.int .u8) w A0 l0.length l0) (hc0 : l0.length ≤ c0) (hr1 : Kd.C (Kd.int .u8) w A1 l1.length l1) (hc1 : l1.length ≤ c1)
    (_h0 : (l0.length ≤ 9223372036854775807 ∧ ∀ x_ ∈ l0, (Lit.int .u8 x_).wf = true)) (_h1 : (l1.length ≤ 9223372036854775807 ∧ ∀ x_ ∈ l1, (Lit.int .u8 x_).wf = true)) :
    Calls Try.prog 3 #[.slice A0 l0.length c0, .slice A1 l1.length c1] w fun e w' => e = .returned (.bool true) ∧ Below w.heap.size w w' := by
  have hl := law_run l0 l1 (wf_u8 l0 _h0.2) (wf_u8 l1 _h1.2)
  have hco : CallOk Try.prog 3 [u8 l0, u8 l1] (.val (.bool true)) := call_ok Try.func3 rfl rfl (callFunc_ok Try.func3 rfl rfl) (show 2 ≤ Try.f3.ntmps by decide) (Or.inr rfl) (RunOk.weak (L := [(0, u8 l0), (1, u8 l1)]) rfl ⟨rfl, rfl, trivial⟩ hl) rfl
  refine (hco.calls w (fun b => b < w.heap.size) [.slice A0 l0.length c0, .slice A1 l1.length c1] (fun b h => h) rfl (fun i x v hx hv => ?_)).mono ?_
  · match i with
    | 0 =>
      simp only [List.getElem?_cons_zero, Option.some.injEq] at hx hv
      subst hx hv
      exact rep_of (flat_int .u8) hr0 hc0 Nat.one_pos fun _ _ h => h
    | 1 =>
      simp only [List.getElem?_cons_succ, List.getElem?_cons_zero, Option.some.injEq] at hx hv
      subst hx hv
      exact rep_of (flat_int .u8) hr1 hc1 Nat.one_pos fun _ _ h => h
    | i + 2 => simp at hx
  · rintro e w' ⟨v, rfl, hv, hb⟩
    exact ⟨by rw [(rep_val hv).1], hb⟩
end Go.Proofs.Ytmgdndgaiicaiaa.QPure
