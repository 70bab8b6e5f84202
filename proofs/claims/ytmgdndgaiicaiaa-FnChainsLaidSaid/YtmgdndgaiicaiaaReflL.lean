/- The pieces of the law's own function, checked by the interpreter of the text Refl. No conditions. -/
import Derived.Test.YtmgdndgaiicaiaaRefl
import Derived.Test.YtmgdndgaiicaiaaQFnChainsLaidx0
import Derived.Test.YtmgdndgaiicaiaaQFnChainsLaidx1
import Derived.Test.YtmgdndgaiicaiaaQFnChainsLaidx2
import Derived.Test.YtmgdndgaiicaiaaQFnChainsLaidx3
import Derived.Test.YtmgdndgaiicaiaaQFnChainsLaidx4
import Derived.Test.YtmgdndgaiicaiaaQFnChainsLaidx5
import Derived.Test.YtmgdndgaiicaiaaQFnChainsLaidx6
import Derived.Test.YtmgdndgaiicaiaaQFnChainsLaidx7
import Derived.Test.YtmgdndgaiicaiaaQFnChainsLaidx8
import Derived.Test.YtmgdndgaiicaiaaQFnChainsLaidx9
import Derived.Test.YtmgdndgaiicaiaaQFnChainsLaidx10
import Derived.Test.YtmgdndgaiicaiaaQFnChainsLaidx11
import Derived.Test.YtmgdndgaiicaiaaQFnChainsLaidx12
import Derived.Test.YtmgdndgaiicaiaaQFnChainsLaidx13
import Derived.Test.YtmgdndgaiicaiaaQFnChainsLaidx14
import Derived.Test.YtmgdndgaiicaiaaQFnChainsLaidx15
import Derived.Laws.StructEq
namespace Go.Proofs.Ytmgdndgaiicaiaa.QFnChainsLaid
open Go.RowKit Go.Refl Go.Proofs.YtmgdndgaiicaiaaW.PrintWords Go.Proofs.YtmgdndgaiicaiaaW.PrintLast Go.Proofs.YtmgdndgaiicaiaaW.PrintMore
set_option linter.unusedVariables false
set_option linter.unusedSimpArgs false
/-! ### Lists as plain values, and the printed contracts' lists -/
abbrev vi (x : Int) : AV := .val (.int .i64 x)
abbrev vb (x : Bool) : AV := .val (.bool x)
def iI (k : IntKind) (xs : List Int) : List AV := xs.map fun z => .val (.int k z)
def iStr (xs : List ByteArray) : List AV := xs.map fun z => .val (.string z)
def iL {α : Type} (f : List α → List AV) (xs : List (List α)) : List AV := xs.map fun z => .sl (f z)
def allS : List (Nat × AV) → Prop
  | [] => True
  | (_, x) :: l => some x = some x ∧ allS l
theorem ag : ∀ L : List (Nat × AV), allS L
  | [] => trivial
  | (_, _) :: l => ⟨rfl, ag l⟩
theorem map_get {α : Type} {f : α → AV} {xs : List α} {n : Int} {e : α} (h : 0 ≤ n ∧ xs[n.toNat]? = some e) : 0 ≤ n ∧ (xs.map f)[n.toNat]? = some (f e) := by
  refine ⟨h.1, ?_⟩
  rw [List.getElem?_map, h.2]
  rfl
theorem map_sub {α : Type} {f : α → AV} {k : Nat} (hk : ∀ x, (f x).cnt = k) {xs ys : List α} {a b : Int} (h : 0 ≤ a ∧ a ≤ b ∧ b ≤ ((xs.map f).length : Int) ∧ ys = (xs.take b.toNat).drop a.toNat) : SubIs k (xs.map f) a b (ys.map f) := by
  obtain ⟨h0, h1, h2, rfl⟩ := h
  refine ⟨h0, h1, h2, by rw [List.map_drop, List.map_take], fun x hx => ?_⟩
  obtain ⟨z, _, rfl⟩ := List.mem_map.1 hx
  exact hk z
theorem iI_len (k : IntKind) (xs : List Int) : (iI k xs).length = xs.length := by simp [iI]
theorem iI_get {k : IntKind} {xs : List Int} {n e : Int} (h : 0 ≤ n ∧ xs[n.toNat]? = some e) : 0 ≤ n ∧ (iI k xs)[n.toNat]? = some (.val (.int k e)) := map_get (f := fun z => .val (.int k z)) h
theorem iI_sub {k : IntKind} {xs ys : List Int} {a b : Int} (h : 0 ≤ a ∧ a ≤ b ∧ b ≤ ((iI k xs).length : Int) ∧ ys = (xs.take b.toNat).drop a.toNat) : SubIs 1 (iI k xs) a b (iI k ys) := map_sub (f := fun z => .val (.int k z)) (fun _ => rfl) h
theorem iStr_len (xs : List ByteArray) : (iStr xs).length = xs.length := by simp [iStr]
theorem iStr_get {xs : List ByteArray} {n : Int} {e : ByteArray} (h : 0 ≤ n ∧ xs[n.toNat]? = some e) : 0 ≤ n ∧ (iStr xs)[n.toNat]? = some (.val (.string e)) := map_get (f := fun z => .val (.string z)) h
theorem iL_len {α : Type} (f : List α → List AV) (xs : List (List α)) : (iL f xs).length = xs.length := by simp [iL]
theorem iL_get {α : Type} {f : List α → List AV} {xs : List (List α)} {n : Int} {e : List α} (h : 0 ≤ n ∧ xs[n.toNat]? = some e) : 0 ≤ n ∧ (iL f xs)[n.toNat]? = some (.sl (f e)) := map_get (f := fun z => .sl (f z)) h
theorem iL_sub {α : Type} {f : List α → List AV} {xs ys : List (List α)} {a b : Int} (h : 0 ≤ a ∧ a ≤ b ∧ b ≤ ((iL f xs).length : Int) ∧ ys = (xs.take b.toNat).drop a.toNat) : SubIs 1 (iL f xs) a b (iL f ys) := map_sub (f := fun z => .sl (f z)) (fun _ => rfl) h
/-- How a kind's elements lie in cells, as plain values. -/
structure FlatE {α : Type} (d : Kd α) (enc : α → AV) (cells : α → List Value) : Prop where
  k : ∀ {w x cs}, d.K w x cs → cs = cells x
  mk_ : ∀ w x, d.K w x (cells x)
  cs : ∀ w ok x, Cs w ok (enc x) (cells x)
  un : ∀ {w ok x cs}, Cs w ok (enc x) cs → cs = cells x
  pos : 0 < d.sz
theorem one_un {w : World} {ok : Nat → Prop} {v : Value} {cs : List Value} (h : Cs w ok (.val v) cs) : cs = [v] := by
  cases h with
  | one _ u _ hr => rw [(rep_val hr).1]
theorem flat_int (k : IntKind) : FlatE (Kd.int k) (fun z => .val (.int k z)) (fun z => [.int k z]) :=
  ⟨fun h => h, fun _ _ => rfl, fun _ _ _ => .one _ _ rfl (.val _ rfl), fun h => one_un h, Nat.one_pos⟩
theorem flat_string : FlatE Kd.string (fun z => .val (.string z)) (fun z => [.string z]) :=
  ⟨fun h => h, fun _ _ => rfl, fun _ _ _ => .one _ _ rfl (.val _ rfl), fun h => one_un h, Nat.one_pos⟩
theorem agg_un {w : World} {ok : Nat → Prop} {l : List AV} {vs cs : List Value} (hv : valsOf l = some vs) (h : Cs w ok (.agg l) cs) : cs = vs := by
  cases h with
  | one _ _ hx _ => cases hx
  | agg _ _ hl ho h => exact valsOf_rep hv hl h
theorem arg_of {α : Type} {d : Kd α} {enc : α → AV} {cells : α → List Value} (F : FlatE d enc cells) {w : World} {ok : Nat → Prop} {xs : List α} {v : Value} (h : Rep w ok (.sl (xs.map enc)) v) :
    ∃ A c, v = .slice A xs.length c ∧ xs.length ≤ c ∧ Kd.C d w A xs.length xs := by
  obtain ⟨A, c, sz, ad, cs, h1, h2, h3, h4, h5, h6⟩ := rep_sl h
  simp only [List.length_map] at h1 h2 h3 h5 h6
  refine ⟨A, c, h1, h2.1, rfl, h2.2, fun hn => ⟨ad, (h3 hn).1, fun j p hj => ?_⟩⟩
  have hlt := (List.getElem?_eq_some_iff.1 hj).1
  have hc := F.un (h4 j (enc p) (by rw [List.getElem?_map, hj]; rfl))
  have hk := F.mk_ w p
  have hl := d.K_len hk
  have hsz : sz = d.sz := by rw [← h5 j hlt, hc, hl]
  exact ⟨cells p, hl, hk, fun i u hu => by rw [← hsz]; exact h6 j hlt i u (by rw [hc]; exact hu)⟩
theorem rep_of {α : Type} {d : Kd α} {enc : α → AV} {cells : α → List Value} (F : FlatE d enc cells) {w : World} {ok : Nat → Prop} {xs : List α} {A : Option Addr} {c : Nat} (h : Kd.C d w A xs.length xs) (hc : xs.length ≤ c) (hp : 0 < d.sz)
    (hok : ∀ ad, A = some ad → ad.block < w.heap.size → ok ad.block) : Rep w ok (.sl (xs.map enc)) (.slice A xs.length c) := by
  obtain ⟨_, h1, h2⟩ := h
  by_cases hn : 0 < xs.length
  · obtain ⟨ad, rfl, h3⟩ := h2 hn
    have hcell : ∀ (j : Nat) (p : α), xs[j]? = some p → (cells p).length = d.sz ∧ ∀ i u, (cells p)[i]? = some u → w.cell? (ad.add (j * d.sz + i)) = some u := by
      intro j p hj
      obtain ⟨cs, g1, g2, g3⟩ := h3 j p hj
      rw [F.k g2] at g1 g3
      exact ⟨g1, g3⟩
    have h0 := hcell 0 xs[0] (List.getElem?_eq_getElem hn)
    have hb : ad.block < w.heap.size ∧ ad.spot = none := by
      have hl : 0 < (cells xs[0]).length := by rw [h0.1]; exact hp
      have := h0.2 0 _ (List.getElem?_eq_getElem hl)
      have hadd : ad.add (0 * d.sz + 0) = ad := by rw [Nat.zero_mul]; rfl
      rw [hadd] at this
      unfold World.cell? at this
      split at this
      · rename_i cs t f hb
        refine ⟨(Array.getElem?_eq_some_iff.1 hb).1, ?_⟩
        split at this
        · cases this
        · rename_i hs
          cases hsp : ad.spot with
          | none => rfl
          | some x => rw [hsp] at hs; exact absurd rfl hs
      · cases this
    refine .sl _ _ _ _ d.sz ad (fun i => (xs[i]?.map cells).getD []) (by simp) ⟨hc, h1⟩ (fun _ => ⟨rfl, hok ad rfl hb.1, hb.2⟩) (fun i x hx => ?_) (fun i hi => ?_) (fun i hi j u hu => ?_)
    · rw [List.getElem?_map] at hx
      obtain ⟨p, hp2, rfl⟩ := Option.map_eq_some_iff.1 hx
      rw [hp2]
      exact F.cs w ok p
    · rw [List.getElem?_eq_getElem hi]
      exact (hcell i _ (List.getElem?_eq_getElem hi)).1
    · rw [List.getElem?_eq_getElem hi] at hu
      exact (hcell i _ (List.getElem?_eq_getElem hi)).2 j u hu
  · have h0 : xs.length = 0 := by omega
    have hl := List.length_eq_zero_iff.1 h0
    subst hl
    exact .sl [] A 0 c 0 ⟨0, 0, none⟩ (fun _ => []) rfl ⟨hc, h1⟩ (fun h => absurd h (Nat.lt_irrefl _)) (fun i x hx => by simp at hx) (fun i hi => absurd hi (Nat.not_lt_zero _)) (fun i hi => absurd hi (Nat.not_lt_zero _))
theorem res_of {α : Type} {d : Kd α} {enc : α → AV} {cells : α → List Value} (F : FlatE d enc cells) {w' : World} {base e : Nat} {ok okp : Nat → Prop} {xs : List α} {v : Value} (h : Kd.R d e w' base okp v xs) :
    Rep w' (fun b => ok b ∨ (base ≤ b ∧ b < w'.heap.size)) (.sl (xs.map enc)) v := by
  obtain ⟨A, c, he, hl, hc⟩ := Kd.R_reads h
  have hb := Kd.R_bound h
  rw [he]
  refine rep_of F hc hl F.pos fun ad hA hlt => .inr ⟨?_, hlt⟩
  have := hb.1 ad.block (by rw [he, hA]; rfl)
  exact this.2.1
theorem rep_tup_of {w : World} {ok : Nat → Prop} {l : List AV} {vs : List Value} (h : Args w ok l vs) : Rep w ok (.tup l) (.tuple vs.toArray) := by
  have : ∀ {l : List AV} {vs : List Value}, Args w ok l vs → vs.length = l.length ∧ ∀ (i : Nat) (x : AV) (v : Value), l[i]? = some x → vs[i]? = some v → Rep w ok x v := by
    intro l vs h
    induction h with
    | nil => exact ⟨rfl, fun i x v hx => by simp at hx⟩
    | cons h t ih =>
      refine ⟨by simp [ih.1], fun i x v hx hv => ?_⟩
      cases i with
      | zero =>
        simp only [List.getElem?_cons_zero, Option.some.injEq] at hx hv
        subst hx hv
        exact h
      | succ i => exact ih.2 i x v (by simpa using hx) (by simpa using hv)
  exact .tup l vs (this h).1 (this h).2
theorem callOk_res {P : Program} {f : FuncId} {fn : Func} {c : Code} (hf : P.funcs[f]? = some fn) (hb : fn.body = some c) (hn : (fn.name == "runtime.NumGoroutine") = false) (hn2 : True = True) {args : List AV} {r : AV}
    (h : ∀ (w : World) (ok : Nat → Prop) (vs : List Value), (∀ b, ok b → b < w.heap.size) → Args w ok args vs → Calls P f vs.toArray w fun e w' => ∃ v, e = .returned v ∧ Rep w' (fun b => ok b ∨ (w.heap.size ≤ b ∧ b < w'.heap.size)) r v ∧ Below w.heap.size w w') : CallOk P f args r :=
  ⟨callFunc_ok hf hb hn, fun w ok vs hok hl hv => h w ok vs hok (args_of hl hv)⟩
theorem str_eql {P : Program} {t : TypeId} {x y : Operand} {a b : ByteArray} {v : Bool} (h : (a.toList == b.toList) = v) : BinIs P .eql t x y (.string a) (.string b) (.bool v) := by
  intro w
  subst h
  simp [go_sem]
theorem str_neq {P : Program} {t : TypeId} {x y : Operand} {a b : ByteArray} {v : Bool} (h : (!(a.toList == b.toList)) = v) : BinIs P .neq t x y (.string a) (.string b) (.bool v) := by
  intro w
  subst h
  simp [go_sem]
theorem int_rem {P : Program} {t : TypeId} {k : IntKind} {x y : Operand} {a b : Int} (h : b ≠ 0) : BinIs P .rem t x y (.int k a) (.int k b) (.int k (a.tmod b)) := by
  intro w
  simp [go_sem, binOp, Op.intDiv, h, eqGuard]
theorem int_quo {P : Program} {t : TypeId} {k : IntKind} {x y : Operand} {a b : Int} (h : b ≠ 0) : BinIs P .quo t x y (.int k a) (.int k b) (.int k (IntKind.wrap k (a.tdiv b))) := by
  intro w
  simp [go_sem, binOp, Op.intDiv, h, eqGuard]

def iS43 (xs : List S43) : List AV := xs.map fun z => .agg [.val (.int .i64 z.f0), .val (.int .i64 z.f1)]
theorem iS43_len (xs : List S43) : (iS43 xs).length = xs.length := by simp [iS43]
theorem iS43_get {xs : List S43} {n : Int} {e : S43} (h : 0 ≤ n ∧ xs[n.toNat]? = some e) : 0 ≤ n ∧ (iS43 xs)[n.toNat]? = some (.agg [.val (.int .i64 e.f0), .val (.int .i64 e.f1)]) := map_get (f := fun z : S43 => .agg [.val (.int .i64 z.f0), .val (.int .i64 z.f1)]) h
theorem iS43_sub {xs ys : List S43} {a b : Int} (h : 0 ≤ a ∧ a ≤ b ∧ b ≤ ((iS43 xs).length : Int) ∧ ys = (xs.take b.toNat).drop a.toNat) : SubIs 2 (iS43 xs) a b (iS43 ys) := map_sub (f := fun z : S43 => .agg [.val (.int .i64 z.f0), .val (.int .i64 z.f1)]) (fun _ => rfl) h
theorem flat_43 : FlatE k43 (fun z => .agg [.val (.int .i64 z.f0), .val (.int .i64 z.f1)]) (fun z => [.int .i64 z.f0, .int .i64 z.f1]) :=
  ⟨fun h => k43_open h, fun w x => k43_mk w x, fun w ok x => .agg _ _ rfl (by intro x hx; simp at hx; rcases hx with rfl | rfl <;> rfl) (by
    intro i x v hx hv
    match i with
    | 0 => simp only [List.getElem?_cons_succ, List.getElem?_cons_zero, Option.some.injEq] at hx hv; subst hx hv; exact .val _ rfl
    | 1 => simp only [List.getElem?_cons_succ, List.getElem?_cons_zero, Option.some.injEq] at hx hv; subst hx hv; exact .val _ rfl
    | i + 2 => simp at hx), fun h => agg_un rfl h, by decide⟩
theorem agg_43_eql {x y : Operand} {a0 b0 : Int} {a1 b1 : Int} {v : Bool} (h : ((a0 == b0) && (a1 == b1)) = v) : BinIs Try.prog .eql 43 x y (.agg [.int .i64 a0, .int .i64 a1].toArray) (.agg [.int .i64 b0, .int .i64 b1].toArray) (.bool v) := by
  intro w
  have hu := Try.underlying43
  subst h
  by_cases g0 : a0 = b0 <;> by_cases g1 : a1 = b1 <;> simp_all [go_sem]
theorem agg_43_neq {x y : Operand} {a0 b0 : Int} {a1 b1 : Int} {v : Bool} (h : (!((a0 == b0) && (a1 == b1))) = v) : BinIs Try.prog .neq 43 x y (.agg [.int .i64 a0, .int .i64 a1].toArray) (.agg [.int .i64 b0, .int .i64 b1].toArray) (.bool v) := by
  intro w
  have hu := Try.underlying43
  subst h
  by_cases g0 : a0 = b0 <;> by_cases g1 : a1 = b1 <;> simp_all [go_sem]
theorem ad_4 {l0 : List Int} {l1 : List Int} {r : Bool} (h : laws_big.f l0 l1 = some r) : CallOk Try.prog 4 [.sl (iI .u8 l0), .sl (iI .u8 l1)] (.val (.bool r)) :=
  callOk_res Try.func4 rfl rfl rfl fun w ok vs hok hv => by
    cases hv with
    | cons h0_ t0_ =>
     cases t0_ with
     | cons h1_ t1_ =>
      cases t1_
      obtain ⟨A0, c0, rfl, hc0, hr0⟩ := arg_of (flat_int .u8) h0_
      obtain ⟨A1, c1, rfl, hc1, hr1⟩ := arg_of (flat_int .u8) h1_
      exact (laws_big.calls A0 c0 l0 A1 c1 l1 r w hr0 hc0 hr1 hc1 h).mono (by rintro e w' ⟨rfl, hb_⟩; exact ⟨_, rfl, rep_resV rfl, hb_.below⟩)

theorem ad_5 {k : Nat} {l0 : List Int} {r : List Int} (h : spec_DrawTilesOfChain.f k l0 = some r) : CallOk Try.prog 5 [.sl (iI .u8 l0)] (.sl (iI .i64 r)) :=
  callOk_res Try.func5 rfl rfl rfl fun w ok vs hok hv => by
    cases hv with
    | cons h0_ t0_ =>
     cases t0_
     obtain ⟨A0, c0, rfl, hc0, hr0⟩ := arg_of (flat_int .u8) h0_
     exact (spec_DrawTilesOfChain.calls k A0 c0 l0 r w hr0 hc0 h).mono (by rintro e w' ⟨v0_, rfl, hRv0_, hb_⟩; exact ⟨_, rfl, (res_of (flat_int .i64) hRv0_), hb_⟩)

theorem ad_6 {k : Nat} {l0 : List Int} {r1 : List (S43)} {r2 : Bool} (h : impl_TilesOfChain.f k l0 = some (r1, r2)) : CallOk Try.prog 6 [.sl (iI .i64 l0)] (.tup [.sl (iS43 r1), .val (.bool r2)]) :=
  callOk_res Try.func6 rfl rfl rfl fun w ok vs hok hv => by
    cases hv with
    | cons h0_ t0_ =>
     cases t0_
     obtain ⟨A0, c0, rfl, hc0, hr0⟩ := arg_of (flat_int .i64) h0_
     exact (impl_TilesOfChain.calls k A0 c0 l0 r1 r2 w hr0 hc0 h).mono (by rintro e w' ⟨v0_, rfl, hRv0_, hb_⟩; exact ⟨_, rfl, (rep_tup_of ((.cons (res_of flat_43 hRv0_) (.cons (rep_resV rfl) .nil)))), hb_⟩)

theorem ad_7 {k : Nat} {l0 : List Int} {r1 : List (S43)} {r2 : Bool} (h : spec_TilesOfChain.f k l0 = some (r1, r2)) : CallOk Try.prog 7 [.sl (iI .i64 l0)] (.tup [.sl (iS43 r1), .val (.bool r2)]) :=
  callOk_res Try.func7 rfl rfl rfl fun w ok vs hok hv => by
    cases hv with
    | cons h0_ t0_ =>
     cases t0_
     obtain ⟨A0, c0, rfl, hc0, hr0⟩ := arg_of (flat_int .i64) h0_
     exact (spec_TilesOfChain.calls k A0 c0 l0 r1 r2 w hr0 hc0 h).mono (by rintro e w' ⟨v0_, rfl, hRv0_, hb_⟩; exact ⟨_, rfl, (rep_tup_of ((.cons (res_of flat_43 hRv0_) (.cons (rep_resV rfl) .nil)))), hb_⟩)

theorem ad_8 {k : Nat} {l0 : List Int} {r1 : Int} {r2 : Int} {r3 : Bool} (h : impl_EndsOfChain.f k l0 = some (r1, r2, r3)) : CallOk Try.prog 8 [.sl (iI .i64 l0)] (.tup [.val (.int .i64 r1), .val (.int .i64 r2), .val (.bool r3)]) :=
  callOk_res Try.func8 rfl rfl rfl fun w ok vs hok hv => by
    cases hv with
    | cons h0_ t0_ =>
     cases t0_
     obtain ⟨A0, c0, rfl, hc0, hr0⟩ := arg_of (flat_int .i64) h0_
     exact (impl_EndsOfChain.calls k A0 c0 l0 r1 r2 r3 w hr0 hc0 h).mono (by rintro e w' ⟨rfl, hb_⟩; exact ⟨_, rfl, rep_resV rfl, hb_⟩)

theorem ad_9 {k : Nat} {l0 : List Int} {r1 : Int} {r2 : Int} {r3 : Bool} (h : spec_EndsOfChain.f k l0 = some (r1, r2, r3)) : CallOk Try.prog 9 [.sl (iI .i64 l0)] (.tup [.val (.int .i64 r1), .val (.int .i64 r2), .val (.bool r3)]) :=
  callOk_res Try.func9 rfl rfl rfl fun w ok vs hok hv => by
    cases hv with
    | cons h0_ t0_ =>
     cases t0_
     obtain ⟨A0, c0, rfl, hc0, hr0⟩ := arg_of (flat_int .i64) h0_
     exact (spec_EndsOfChain.calls k A0 c0 l0 r1 r2 r3 w hr0 hc0 h).mono (by rintro e w' ⟨rfl, hb_⟩; exact ⟨_, rfl, rep_resV rfl, hb_⟩)

theorem ad_10 {k : Nat} {l0 : List Int} {r1 : List Int} {r2 : Bool} (h : impl_TurnChain.f k l0 = some (r1, r2)) : CallOk Try.prog 10 [.sl (iI .i64 l0)] (.tup [.sl (iI .i64 r1), .val (.bool r2)]) :=
  callOk_res Try.func10 rfl rfl rfl fun w ok vs hok hv => by
    cases hv with
    | cons h0_ t0_ =>
     cases t0_
     obtain ⟨A0, c0, rfl, hc0, hr0⟩ := arg_of (flat_int .i64) h0_
     exact (impl_TurnChain.calls k A0 c0 l0 r1 r2 w hr0 hc0 h).mono (by rintro e w' ⟨v0_, rfl, hRv0_, hb_⟩; exact ⟨_, rfl, (rep_tup_of ((.cons (res_of (flat_int .i64) hRv0_) (.cons (rep_resV rfl) .nil)))), hb_⟩)

theorem ad_11 {k : Nat} {l0 : List Int} {r1 : List Int} {r2 : Bool} (h : spec_TurnChain.f k l0 = some (r1, r2)) : CallOk Try.prog 11 [.sl (iI .i64 l0)] (.tup [.sl (iI .i64 r1), .val (.bool r2)]) :=
  callOk_res Try.func11 rfl rfl rfl fun w ok vs hok hv => by
    cases hv with
    | cons h0_ t0_ =>
     cases t0_
     obtain ⟨A0, c0, rfl, hc0, hr0⟩ := arg_of (flat_int .i64) h0_
     exact (spec_TurnChain.calls k A0 c0 l0 r1 r2 w hr0 hc0 h).mono (by rintro e w' ⟨v0_, rfl, hRv0_, hb_⟩; exact ⟨_, rfl, (rep_tup_of ((.cons (res_of (flat_int .i64) hRv0_) (.cons (rep_resV rfl) .nil)))), hb_⟩)

theorem ad_12 {k : Nat} {l0 : List Int} {r1 : ByteArray} {r2 : Bool} (h : impl_ChainText.f k l0 = some (r1, r2)) : CallOk Try.prog 12 [.sl (iI .i64 l0)] (.tup [.val (.string r1), .val (.bool r2)]) :=
  callOk_res Try.func12 rfl rfl rfl fun w ok vs hok hv => by
    cases hv with
    | cons h0_ t0_ =>
     cases t0_
     obtain ⟨A0, c0, rfl, hc0, hr0⟩ := arg_of (flat_int .i64) h0_
     exact (impl_ChainText.calls k A0 c0 l0 r1 r2 w hr0 hc0 h).mono (by rintro e w' ⟨rfl, hb_⟩; exact ⟨_, rfl, rep_resV rfl, hb_⟩)

theorem ad_13 {k : Nat} {l0 : List Int} {r1 : ByteArray} {r2 : Bool} (h : spec_ChainText.f k l0 = some (r1, r2)) : CallOk Try.prog 13 [.sl (iI .i64 l0)] (.tup [.val (.string r1), .val (.bool r2)]) :=
  callOk_res Try.func13 rfl rfl rfl fun w ok vs hok hv => by
    cases hv with
    | cons h0_ t0_ =>
     cases t0_
     obtain ⟨A0, c0, rfl, hc0, hr0⟩ := arg_of (flat_int .i64) h0_
     exact (spec_ChainText.calls k A0 c0 l0 r1 r2 w hr0 hc0 h).mono (by rintro e w' ⟨rfl, hb_⟩; exact ⟨_, rfl, rep_resV rfl, hb_⟩)

theorem ad_14 {k : Nat} {l0 : List (S43)} {l1 : List (S43)} {r : Bool} (h : laws_iTiles.f k l0 l1 = some r) : CallOk Try.prog 14 [.sl (iS43 l0), .sl (iS43 l1)] (.val (.bool r)) :=
  callOk_res Try.func14 rfl rfl rfl fun w ok vs hok hv => by
    cases hv with
    | cons h0_ t0_ =>
     cases t0_ with
     | cons h1_ t1_ =>
      cases t1_
      obtain ⟨A0, c0, rfl, hc0, hr0⟩ := arg_of flat_43 h0_
      obtain ⟨A1, c1, rfl, hc1, hr1⟩ := arg_of flat_43 h1_
      exact (laws_iTiles.calls k A0 c0 l0 A1 c1 l1 r w hr0 hc0 hr1 hc1 h).mono (by rintro e w' ⟨rfl, hb_⟩; exact ⟨_, rfl, rep_resV rfl, hb_.below⟩)

theorem ad_15 {k : Nat} {l0 : List Int} {l1 : List Int} {r : Bool} (h : laws_iSame.f k l0 l1 = some r) : CallOk Try.prog 15 [.sl (iI .i64 l0), .sl (iI .i64 l1)] (.val (.bool r)) :=
  callOk_res Try.func15 rfl rfl rfl fun w ok vs hok hv => by
    cases hv with
    | cons h0_ t0_ =>
     cases t0_ with
     | cons h1_ t1_ =>
      cases t1_
      obtain ⟨A0, c0, rfl, hc0, hr0⟩ := arg_of (flat_int .i64) h0_
      obtain ⟨A1, c1, rfl, hc1, hr1⟩ := arg_of (flat_int .i64) h1_
      exact (laws_iSame.calls k A0 c0 l0 A1 c1 l1 r w hr0 hc0 hr1 hc1 h).mono (by rintro e w' ⟨rfl, hb_⟩; exact ⟨_, rfl, rep_resV rfl, hb_.below⟩)

theorem ad_16 {k : Nat} {l0 : List Int} {r : Bool} (h : impl_IsChain.f k l0 = some r) : CallOk Try.prog 16 [.sl (iI .i64 l0)] (.val (.bool r)) :=
  callOk_res Try.func16 rfl rfl rfl fun w ok vs hok hv => by
    cases hv with
    | cons h0_ t0_ =>
     cases t0_
     obtain ⟨A0, c0, rfl, hc0, hr0⟩ := arg_of (flat_int .i64) h0_
     exact (impl_IsChain.calls k A0 c0 l0 r w hr0 hc0 h).mono (by rintro e w' ⟨rfl, hb_⟩; exact ⟨_, rfl, rep_resV rfl, hb_⟩)

theorem ad_17 {k : Nat} {l0 : List Int} {r : Bool} (h : spec_IsChain.f k l0 = some r) : CallOk Try.prog 17 [.sl (iI .i64 l0)] (.val (.bool r)) :=
  callOk_res Try.func17 rfl rfl rfl fun w ok vs hok hv => by
    cases hv with
    | cons h0_ t0_ =>
     cases t0_
     obtain ⟨A0, c0, rfl, hc0, hr0⟩ := arg_of (flat_int .i64) h0_
     exact (spec_IsChain.calls k A0 c0 l0 r w hr0 hc0 h).mono (by rintro e w' ⟨rfl, hb_⟩; exact ⟨_, rfl, rep_resV rfl, hb_⟩)

theorem ad_18 {k : Nat} {a0 : ByteArray} {r1 : List Int} {r2 : Bool} (h : impl_ParseChain.f k a0 = some (r1, r2)) : CallOk Try.prog 18 [.val (.string a0)] (.tup [.sl (iI .i64 r1), .val (.bool r2)]) :=
  callOk_res Try.func18 rfl rfl rfl fun w ok vs hok hv => by
    cases hv with
    | cons h0_ t0_ =>
     cases t0_
     obtain rfl := toV_rep rfl h0_
     exact (impl_ParseChain.calls k a0 r1 r2 w h).mono (by rintro e w' ⟨v0_, rfl, hRv0_, hb_⟩; exact ⟨_, rfl, (rep_tup_of ((.cons (res_of (flat_int .i64) hRv0_) (.cons (rep_resV rfl) .nil)))), hb_⟩)

theorem ad_19 {k : Nat} {l0 : List Int} {r1 : Bool} {r2 : Bool} (h : impl_IsRing.f k l0 = some (r1, r2)) : CallOk Try.prog 19 [.sl (iI .i64 l0)] (.tup [.val (.bool r1), .val (.bool r2)]) :=
  callOk_res Try.func19 rfl rfl rfl fun w ok vs hok hv => by
    cases hv with
    | cons h0_ t0_ =>
     cases t0_
     obtain ⟨A0, c0, rfl, hc0, hr0⟩ := arg_of (flat_int .i64) h0_
     exact (impl_IsRing.calls k A0 c0 l0 r1 r2 w hr0 hc0 h).mono (by rintro e w' ⟨rfl, hb_⟩; exact ⟨_, rfl, rep_resV rfl, hb_⟩)

theorem ad_20 {k : Nat} {l0 : List (S43)} {r : Bool} (h : impl_IsHand.f k l0 = some r) : CallOk Try.prog 20 [.sl (iS43 l0)] (.val (.bool r)) :=
  callOk_res Try.func20 rfl rfl rfl fun w ok vs hok hv => by
    cases hv with
    | cons h0_ t0_ =>
     cases t0_
     obtain ⟨A0, c0, rfl, hc0, hr0⟩ := arg_of flat_43 h0_
     exact (impl_IsHand.calls k A0 c0 l0 r w hr0 hc0 h).mono (by rintro e w' ⟨rfl, hb_⟩; exact ⟨_, rfl, rep_resV rfl, hb_⟩)

theorem ad_21 {a0 : Int} {a1 : Int} {r1 : Int} {r2 : Int} {r3 : Bool} (h : impl_TileOf.f a0 a1 = some (r1, r2, r3)) : CallOk Try.prog 21 [.val (.int .i64 a0), .val (.int .i64 a1)] (.tup [.agg [.val (.int .i64 r1), .val (.int .i64 r2)], .val (.bool r3)]) :=
  callOk_res Try.func21 rfl rfl rfl fun w ok vs hok hv => by
    cases hv with
    | cons h0_ t0_ =>
     cases t0_ with
     | cons h1_ t1_ =>
      cases t1_
      obtain rfl := toV_rep rfl h0_
      obtain rfl := toV_rep rfl h1_
      exact (impl_TileOf.calls a0 a1 r1 r2 r3 w h).mono (by rintro e w' ⟨rfl, hb_⟩; exact ⟨_, rfl, rep_resV rfl, hb_⟩)

theorem ad_22 {k : Nat} {l0 : List Int} {a1_0 : Int} {a1_1 : Int} {a2 : Bool} {r1 : List Int} {r2 : Bool} (h : impl_LayTile.f k l0 a1_0 a1_1 a2 = some (r1, r2)) : CallOk Try.prog 22 [.sl (iI .i64 l0), .agg [.val (.int .i64 a1_0), .val (.int .i64 a1_1)], .val (.bool a2)] (.tup [.sl (iI .i64 r1), .val (.bool r2)]) :=
  callOk_res Try.func22 rfl rfl rfl fun w ok vs hok hv => by
    cases hv with
    | cons h0_ t0_ =>
     cases t0_ with
     | cons h1_ t1_ =>
      cases t1_ with
      | cons h2_ t2_ =>
       cases t2_
       obtain ⟨A0, c0, rfl, hc0, hr0⟩ := arg_of (flat_int .i64) h0_
       obtain rfl := toV_rep rfl h1_
       obtain rfl := toV_rep rfl h2_
       exact (impl_LayTile.calls k A0 c0 l0 a1_0 a1_1 a2 r1 r2 w hr0 hc0 h).mono (by rintro e w' ⟨v0_, rfl, hRv0_, hb_⟩; exact ⟨_, rfl, (rep_tup_of ((.cons (res_of (flat_int .i64) hRv0_) (.cons (rep_resV rfl) .nil)))), hb_⟩)

theorem ad_23 {k : Nat} {l0 : List Int} {r1 : List Int} {r2 : Int} (h : spec_DrawSpinRing.f k l0 = some (r1, r2)) : CallOk Try.prog 23 [.sl (iI .u8 l0)] (.tup [.sl (iI .i64 r1), .val (.int .i64 r2)]) :=
  callOk_res Try.func23 rfl rfl rfl fun w ok vs hok hv => by
    cases hv with
    | cons h0_ t0_ =>
     cases t0_
     obtain ⟨A0, c0, rfl, hc0, hr0⟩ := arg_of (flat_int .u8) h0_
     exact (spec_DrawSpinRing.calls k A0 c0 l0 r1 r2 w hr0 hc0 h).mono (by rintro e w' ⟨v0_, rfl, hRv0_, hb_⟩; exact ⟨_, rfl, (rep_tup_of ((.cons (res_of (flat_int .i64) hRv0_) (.cons (rep_resV rfl) .nil)))), hb_⟩)

theorem ad_24 {k : Nat} {l0 : List Int} {a1 : Int} {r1 : List Int} {r2 : Bool} (h : impl_SpinRing.f k l0 a1 = some (r1, r2)) : CallOk Try.prog 24 [.sl (iI .i64 l0), .val (.int .i64 a1)] (.tup [.sl (iI .i64 r1), .val (.bool r2)]) :=
  callOk_res Try.func24 rfl rfl rfl fun w ok vs hok hv => by
    cases hv with
    | cons h0_ t0_ =>
     cases t0_ with
     | cons h1_ t1_ =>
      cases t1_
      obtain ⟨A0, c0, rfl, hc0, hr0⟩ := arg_of (flat_int .i64) h0_
      obtain rfl := toV_rep rfl h1_
      exact (impl_SpinRing.calls k A0 c0 l0 a1 r1 r2 w hr0 hc0 h).mono (by rintro e w' ⟨v0_, rfl, hRv0_, hb_⟩; exact ⟨_, rfl, (rep_tup_of ((.cons (res_of (flat_int .i64) hRv0_) (.cons (rep_resV rfl) .nil)))), hb_⟩)

theorem ad_25 {k : Nat} {l0 : List Int} {a1 : Int} {r1 : List Int} {r2 : Bool} (h : spec_SpinRing.f k l0 a1 = some (r1, r2)) : CallOk Try.prog 25 [.sl (iI .i64 l0), .val (.int .i64 a1)] (.tup [.sl (iI .i64 r1), .val (.bool r2)]) :=
  callOk_res Try.func25 rfl rfl rfl fun w ok vs hok hv => by
    cases hv with
    | cons h0_ t0_ =>
     cases t0_ with
     | cons h1_ t1_ =>
      cases t1_
      obtain ⟨A0, c0, rfl, hc0, hr0⟩ := arg_of (flat_int .i64) h0_
      obtain rfl := toV_rep rfl h1_
      exact (spec_SpinRing.calls k A0 c0 l0 a1 r1 r2 w hr0 hc0 h).mono (by rintro e w' ⟨v0_, rfl, hRv0_, hb_⟩; exact ⟨_, rfl, (rep_tup_of ((.cons (res_of (flat_int .i64) hRv0_) (.cons (rep_resV rfl) .nil)))), hb_⟩)

theorem ad_26 {k : Nat} {l0 : List Int} {r1 : Bool} {r2 : Bool} (h : spec_IsRing.f k l0 = some (r1, r2)) : CallOk Try.prog 26 [.sl (iI .i64 l0)] (.tup [.val (.bool r1), .val (.bool r2)]) :=
  callOk_res Try.func26 rfl rfl rfl fun w ok vs hok hv => by
    cases hv with
    | cons h0_ t0_ =>
     cases t0_
     obtain ⟨A0, c0, rfl, hc0, hr0⟩ := arg_of (flat_int .i64) h0_
     exact (spec_IsRing.calls k A0 c0 l0 r1 r2 w hr0 hc0 h).mono (by rintro e w' ⟨rfl, hb_⟩; exact ⟨_, rfl, rep_resV rfl, hb_⟩)

theorem ad_27 {k : Nat} {l0 : List (S43)} {a1_0 : Int} {a1_1 : Int} {r : Bool} (h : laws_iIn.f k l0 a1_0 a1_1 = some r) : CallOk Try.prog 27 [.sl (iS43 l0), .agg [.val (.int .i64 a1_0), .val (.int .i64 a1_1)]] (.val (.bool r)) :=
  callOk_res Try.func27 rfl rfl rfl fun w ok vs hok hv => by
    cases hv with
    | cons h0_ t0_ =>
     cases t0_ with
     | cons h1_ t1_ =>
      cases t1_
      obtain ⟨A0, c0, rfl, hc0, hr0⟩ := arg_of flat_43 h0_
      obtain rfl := toV_rep rfl h1_
      exact (laws_iIn.calls k A0 c0 l0 a1_0 a1_1 r w hr0 hc0 h).mono (by rintro e w' ⟨rfl, hb_⟩; exact ⟨_, rfl, rep_resV rfl, hb_⟩)

theorem ad_28 {k : Nat} {l0 : List Int} {r1 : List Int} {r2 : List Int} (h : spec_DrawJoinChains.f k l0 = some (r1, r2)) : CallOk Try.prog 28 [.sl (iI .u8 l0)] (.tup [.sl (iI .i64 r1), .sl (iI .i64 r2)]) :=
  callOk_res Try.func28 rfl rfl rfl fun w ok vs hok hv => by
    cases hv with
    | cons h0_ t0_ =>
     cases t0_
     obtain ⟨A0, c0, rfl, hc0, hr0⟩ := arg_of (flat_int .u8) h0_
     exact (spec_DrawJoinChains.calls k A0 c0 l0 r1 r2 w hr0 hc0 h).mono (by rintro e w' ⟨v0_, v1_, rfl, hRv0_, hRv1_, hb_⟩; exact ⟨_, rfl, (rep_tup_of ((.cons (res_of (flat_int .i64) hRv0_) (.cons (res_of (flat_int .i64) hRv1_) .nil)))), hb_⟩)

theorem ad_29 {k : Nat} {l0 : List Int} {l1 : List Int} {r1 : List Int} {r2 : Bool} (h : impl_JoinChains.f k l0 l1 = some (r1, r2)) : CallOk Try.prog 29 [.sl (iI .i64 l0), .sl (iI .i64 l1)] (.tup [.sl (iI .i64 r1), .val (.bool r2)]) :=
  callOk_res Try.func29 rfl rfl rfl fun w ok vs hok hv => by
    cases hv with
    | cons h0_ t0_ =>
     cases t0_ with
     | cons h1_ t1_ =>
      cases t1_
      obtain ⟨A0, c0, rfl, hc0, hr0⟩ := arg_of (flat_int .i64) h0_
      obtain ⟨A1, c1, rfl, hc1, hr1⟩ := arg_of (flat_int .i64) h1_
      exact (impl_JoinChains.calls k A0 c0 l0 A1 c1 l1 r1 r2 w hr0 hc0 hr1 hc1 h).mono (by rintro e w' ⟨v0_, rfl, hRv0_, hb_⟩; exact ⟨_, rfl, (rep_tup_of ((.cons (res_of (flat_int .i64) hRv0_) (.cons (rep_resV rfl) .nil)))), hb_⟩)

theorem ad_30 {k : Nat} {l0 : List Int} {l1 : List Int} {r1 : List Int} {r2 : Bool} (h : spec_JoinChains.f k l0 l1 = some (r1, r2)) : CallOk Try.prog 30 [.sl (iI .i64 l0), .sl (iI .i64 l1)] (.tup [.sl (iI .i64 r1), .val (.bool r2)]) :=
  callOk_res Try.func30 rfl rfl rfl fun w ok vs hok hv => by
    cases hv with
    | cons h0_ t0_ =>
     cases t0_ with
     | cons h1_ t1_ =>
      cases t1_
      obtain ⟨A0, c0, rfl, hc0, hr0⟩ := arg_of (flat_int .i64) h0_
      obtain ⟨A1, c1, rfl, hc1, hr1⟩ := arg_of (flat_int .i64) h1_
      exact (spec_JoinChains.calls k A0 c0 l0 A1 c1 l1 r1 r2 w hr0 hc0 hr1 hc1 h).mono (by rintro e w' ⟨v0_, rfl, hRv0_, hb_⟩; exact ⟨_, rfl, (rep_tup_of ((.cons (res_of (flat_int .i64) hRv0_) (.cons (rep_resV rfl) .nil)))), hb_⟩)

theorem ad_31 {k : Nat} {l0 : List Int} {r : ByteArray} (h : spec_DrawParseChain.f k l0 = some r) : CallOk Try.prog 31 [.sl (iI .u8 l0)] (.val (.string r)) :=
  callOk_res Try.func31 rfl rfl rfl fun w ok vs hok hv => by
    cases hv with
    | cons h0_ t0_ =>
     cases t0_
     obtain ⟨A0, c0, rfl, hc0, hr0⟩ := arg_of (flat_int .u8) h0_
     exact (spec_DrawParseChain.calls k A0 c0 l0 r w hr0 hc0 h).mono (by rintro e w' ⟨rfl, hb_⟩; exact ⟨_, rfl, rep_resV rfl, hb_⟩)

theorem ad_32 {k : Nat} {a0 : ByteArray} {r1 : List Int} {r2 : Bool} (h : spec_ParseChain.f k a0 = some (r1, r2)) : CallOk Try.prog 32 [.val (.string a0)] (.tup [.sl (iI .i64 r1), .val (.bool r2)]) :=
  callOk_res Try.func32 rfl rfl rfl fun w ok vs hok hv => by
    cases hv with
    | cons h0_ t0_ =>
     cases t0_
     obtain rfl := toV_rep rfl h0_
     exact (spec_ParseChain.calls k a0 r1 r2 w h).mono (by rintro e w' ⟨v0_, rfl, hRv0_, hb_⟩; exact ⟨_, rfl, (rep_tup_of ((.cons (res_of (flat_int .i64) hRv0_) (.cons (rep_resV rfl) .nil)))), hb_⟩)

set_option maxRecDepth 100000 in
theorem p1_0 (l0 : List Int) (l1 : List Int)
    (h_0 : laws_big.f l0 l1 = some true) :
    RunOk Try.prog 580 (bodyOf Try.f3) (lookA [(0, .sl (iI .u8 l0)), (1, .sl (iI .u8 l1))]) .ret (lookA [(4, vb true)]) :=
  Goal.ok (fl := flOf []) (s := [.call (vb true),
    .go]) rfl (of_eq (And.intro (rfl : (.ret : Ex) = _) (And.intro (ag [(4, vb true)]) (ad_4 h_0))) (by kernel_rfl))

set_option maxRecDepth 100000 in
theorem p1_1 (l0 : List Int) (l1 : List Int) (r_1 : List Int) (k_1 : Nat) (r2_2 : Bool) (r1_2 : List S43) (k_2 : Nat) (r2_3 : Bool) (r1_3 : List S43) (k_3 : Nat) (r1_4 : Int) (r2_4 : Int) (r3_4 : Bool) (k_4 : Nat) (r1_5 : Int) (r2_5 : Int) (r3_5 : Bool) (k_5 : Nat) (r2_6 : Bool) (r1_6 : List Int) (k_6 : Nat) (r2_7 : Bool) (r1_7 : List Int) (k_7 : Nat) (r1_8 : ByteArray) (r2_8 : Bool) (k_8 : Nat) (r1_9 : ByteArray) (r2_9 : Bool) (k_9 : Nat) (k_10 : Nat) (k_11 : Nat) (r_12 : Bool) (k_12 : Nat) (r_13 : Bool) (k_13 : Nat) (r_14 : Bool) (k_14 : Nat)
    (h_0 : laws_big.f l0 l1 = some false)
    (h_1 : spec_DrawTilesOfChain.f k_1 l0 = some r_1)
    (h_2 : impl_TilesOfChain.f k_2 r_1 = some (r1_2, r2_2))
    (h_3 : spec_TilesOfChain.f k_3 r_1 = some (r1_3, r2_3))
    (h_4 : impl_EndsOfChain.f k_4 r_1 = some (r1_4, r2_4, r3_4))
    (h_5 : spec_EndsOfChain.f k_5 r_1 = some (r1_5, r2_5, r3_5))
    (h_6 : impl_TurnChain.f k_6 r_1 = some (r1_6, r2_6))
    (h_7 : spec_TurnChain.f k_7 r_1 = some (r1_7, r2_7))
    (h_8 : impl_ChainText.f k_8 r_1 = some (r1_8, r2_8))
    (h_9 : spec_ChainText.f k_9 r_1 = some (r1_9, r2_9))
    (d_0 : (!(r2_2 == r2_3)) = false)
    (h_10 : laws_iTiles.f k_10 r1_2 r1_3 = some true)
    (d_1 : (!(r3_4 == r3_5)) = false)
    (d_2 : (!(r1_4 == r1_5)) = false)
    (d_3 : (!(r2_4 == r2_5)) = false)
    (d_4 : (!(r2_6 == r2_7)) = false)
    (h_11 : laws_iSame.f k_11 r1_6 r1_7 = some true)
    (d_5 : (!(r2_8 == r2_9)) = false)
    (d_6 : (!(r1_8.toList == r1_9.toList)) = false)
    (h_12 : impl_IsChain.f k_12 r_1 = some r_12)
    (d_7 : (!(r2_2 == r_12)) = false)
    (h_13 : impl_IsChain.f k_13 r_1 = some r_13)
    (h_14 : spec_IsChain.f k_14 r_1 = some r_14)
    (d_8 : (!(r_13 == r_14)) = false)
    (d_9 : (!(r3_4 == r2_2)) = false)
    (d_10 : (!(r2_6 == r2_2)) = false)
    (d_11 : (!(r2_8 == r2_2)) = false)
    (c_0 : RunOk Try.prog 580 (nav [true, true, true, true, true, true, true, true, true, true, true, true, false, true] (bodyOf Try.f3)) (lookA [(1, .sl (iI .u8 l1)), (5, .sl (iI .i64 r_1)), (6, .sl (iS43 r1_2)), (10, vi r1_4), (11, vi r2_4), (16, .sl (iI .i64 r1_6)), (20, .val (.string r1_8)), (191, vb r2_2)]) .normal (lookA [(1, .sl (iI .u8 l1))]))
    (c_1 : RunOk Try.prog 580 (nav [true, true, true, true, true, true, true, true, true, true, true, true, true] (bodyOf Try.f3)) (lookA [(1, .sl (iI .u8 l1))]) .ret (lookA [(4, vb true)])) :
    RunOk Try.prog 580 (bodyOf Try.f3) (lookA [(0, .sl (iI .u8 l0)), (1, .sl (iI .u8 l1))]) .ret (lookA [(4, vb true)]) :=
  Goal.ok (fl := flOf []) (s := [.call (vb false),
    .go,
    .call (.sl (iI .i64 r_1)),
    .call (.tup [.sl (iS43 r1_2), vb r2_2]),
    .call (.tup [.sl (iS43 r1_3), vb r2_3]),
    .call (.tup [vi r1_4, vi r2_4, vb r3_4]),
    .call (.tup [vi r1_5, vi r2_5, vb r3_5]),
    .call (.tup [.sl (iI .i64 r1_6), vb r2_6]),
    .call (.tup [.sl (iI .i64 r1_7), vb r2_7]),
    .call (.tup [.val (.string r1_8), vb r2_8]),
    .call (.tup [.val (.string r1_9), vb r2_9]),
    .val (.bool false),
    .call (vb true),
    .val (.bool false),
    .val (.bool false),
    .val (.bool false),
    .val (.bool false),
    .call (vb true),
    .val (.bool false),
    .val (.bool false),
    .call (vb r_12),
    .val (.bool false),
    .call (vb r_13),
    .call (vb r_14),
    .val (.bool false),
    .val (.bool false),
    .val (.bool false),
    .val (.bool false),
    .go,
    .goT,
    .cutT .normal [(1, .sl (iI .u8 l1)), (5, .sl (iI .i64 r_1)), (6, .sl (iS43 r1_2)), (10, vi r1_4), (11, vi r2_4), (16, .sl (iI .i64 r1_6)), (20, .val (.string r1_8)), (191, vb r2_2)] [(1, .sl (iI .u8 l1))],
    .cutT .ret [(1, .sl (iI .u8 l1))] [(4, vb true)]]) rfl (of_eq (And.intro (rfl : (.ret : Ex) = _) (And.intro (ag [(4, vb true)]) (And.intro (ad_4 h_0) (And.intro (ad_5 h_1) (And.intro (ad_6 h_2) (And.intro (ad_7 h_3) (And.intro (ad_8 h_4) (And.intro (ad_9 h_5) (And.intro (ad_10 h_6) (And.intro (ad_11 h_7) (And.intro (ad_12 h_8) (And.intro (ad_13 h_9) (And.intro (And.intro (bool_neq (P := Try.prog) (t := 4) (x := (.tmp 118)) (y := (.tmp 119)) Try.underlying4 d_0) (And.intro (ad_14 h_10) (And.intro (bool_neq (P := Try.prog) (t := 4) (x := (.tmp 128)) (y := (.tmp 129)) Try.underlying4 d_1) (And.intro (int_neq (P := Try.prog) (t := 3) (k := .i64) (x := (.tmp 133)) (y := (.tmp 134)) d_2) (And.intro (int_neq (P := Try.prog) (t := 3) (k := .i64) (x := (.tmp 138)) (y := (.tmp 139)) d_3) (And.intro (bool_neq (P := Try.prog) (t := 4) (x := (.tmp 143)) (y := (.tmp 144)) Try.underlying4 d_4) (And.intro (ad_15 h_11) (And.intro (bool_neq (P := Try.prog) (t := 4) (x := (.tmp 154)) (y := (.tmp 155)) Try.underlying4 d_5) (And.intro (str_neq (P := Try.prog) (t := 9) (x := (.tmp 159)) (y := (.tmp 160)) d_6) (And.intro (ad_16 h_12) (And.intro (bool_neq (P := Try.prog) (t := 4) (x := (.tmp 164)) (y := (.tmp 166)) Try.underlying4 d_7) (And.intro (ad_16 h_13) (And.intro (ad_17 h_14) (And.intro (bool_neq (P := Try.prog) (t := 4) (x := (.tmp 171)) (y := (.tmp 173)) Try.underlying4 d_8) (And.intro (bool_neq (P := Try.prog) (t := 4) (x := (.tmp 177)) (y := (.tmp 178)) Try.underlying4 d_9) (And.intro (bool_neq (P := Try.prog) (t := 4) (x := (.tmp 182)) (y := (.tmp 183)) Try.underlying4 d_10) (bool_neq (P := Try.prog) (t := 4) (x := (.tmp 187)) (y := (.tmp 188)) Try.underlying4 d_11))))))))))))))))) (And.intro (And.intro (ag [(1, .sl (iI .u8 l1)), (5, .sl (iI .i64 r_1)), (6, .sl (iS43 r1_2)), (10, vi r1_4), (11, vi r2_4), (16, .sl (iI .i64 r1_6)), (20, .val (.string r1_8)), (191, vb r2_2)]) c_0) (And.intro (ag [(1, .sl (iI .u8 l1))]) c_1))))))))))))))) (by kernel_rfl))

set_option maxRecDepth 100000 in
theorem p2_0 (x1 : List Int) (r2_0 : Int) (r1_0 : List Int) (k_0 : Nat) (r1_1 : List Int) (k_1 : Nat) (r2_2 : Bool) (r1_2 : List Int) (k_2 : Nat) (r1_3 : Bool) (r2_3 : Bool) (k_3 : Nat) (r1_4 : Bool) (r2_4 : Bool) (k_4 : Nat) (k_5 : Nat)
    (h_0 : spec_DrawSpinRing.f k_0 x1 = some (r1_0, r2_0))
    (h_1 : impl_SpinRing.f k_1 r1_0 r2_0 = some (r1_1, false))
    (h_2 : spec_SpinRing.f k_2 r1_0 r2_0 = some (r1_2, r2_2))
    (h_3 : impl_IsRing.f k_3 r1_0 = some (r1_3, r2_3))
    (h_4 : spec_IsRing.f k_4 r1_0 = some (r1_4, r2_4))
    (d_0 : (!(false == r2_2)) = false)
    (h_5 : laws_iSame.f k_5 r1_1 r1_2 = some true)
    (d_1 : (!(r2_3 == r2_4)) = false)
    (d_2 : (!(r1_3 == r1_4)) = false)
    (c_0 : RunOk Try.prog 580 (nav [true, true, true, true, true, true, true, true, true, true, true, true, true, true, true, true, true, true, true, false, true] (bodyOf Try.f3)) (lookA [(1, .sl (iI .u8 x1)), (40, .sl (iI .i64 r1_0)), (41, vi r2_0), (42, .sl (iI .i64 r1_1)), (421, vb false)]) .normal (lookA [(1, .sl (iI .u8 x1))]))
    (c_1 : RunOk Try.prog 580 (nav [true, true, true, true, true, true, true, true, true, true, true, true, true, true, true, true, true, true, true, true] (bodyOf Try.f3)) (lookA [(1, .sl (iI .u8 x1))]) .ret (lookA [(4, vb true)])) :
    RunOk Try.prog 580 (nav [true, true, true, true, true, true, true, true, true, true, true, true, true] (bodyOf Try.f3)) (lookA [(1, .sl (iI .u8 x1))]) .ret (lookA [(4, vb true)]) :=
  Goal.ok (fl := flOf []) (s := [.call (.tup [.sl (iI .i64 r1_0), vi r2_0]),
    .call (.tup [.sl (iI .i64 r1_1), vb false]),
    .call (.tup [.sl (iI .i64 r1_2), vb r2_2]),
    .call (.tup [vb r1_3, vb r2_3]),
    .call (.tup [vb r1_4, vb r2_4]),
    .val (.bool false),
    .call (vb true),
    .val (.bool false),
    .val (.bool false),
    .go,
    .goT,
    .cutT .normal [(1, .sl (iI .u8 x1)), (40, .sl (iI .i64 r1_0)), (41, vi r2_0), (42, .sl (iI .i64 r1_1)), (421, vb false)] [(1, .sl (iI .u8 x1))],
    .cutT .ret [(1, .sl (iI .u8 x1))] [(4, vb true)]]) rfl (of_eq (And.intro (rfl : (.ret : Ex) = _) (And.intro (ag [(4, vb true)]) (And.intro (ad_23 h_0) (And.intro (ad_24 h_1) (And.intro (ad_25 h_2) (And.intro (ad_19 h_3) (And.intro (ad_26 h_4) (And.intro (And.intro (bool_neq (P := Try.prog) (t := 4) (x := (.tmp 392)) (y := (.tmp 393)) Try.underlying4 d_0) (And.intro (ad_15 h_5) (And.intro (bool_neq (P := Try.prog) (t := 4) (x := (.tmp 402)) (y := (.tmp 403)) Try.underlying4 d_1) (bool_neq (P := Try.prog) (t := 4) (x := (.tmp 407)) (y := (.tmp 408)) Try.underlying4 d_2)))) (And.intro (And.intro (ag [(1, .sl (iI .u8 x1)), (40, .sl (iI .i64 r1_0)), (41, vi r2_0), (42, .sl (iI .i64 r1_1)), (421, vb false)]) c_0) (And.intro (ag [(1, .sl (iI .u8 x1))]) c_1)))))))))) (by kernel_rfl))

set_option maxRecDepth 100000 in
theorem p2_1 (x1 : List Int) (r2_0 : Int) (r1_0 : List Int) (k_0 : Nat) (r1_1 : List Int) (k_1 : Nat) (r2_2 : Bool) (r1_2 : List Int) (k_2 : Nat) (k_3 : Nat) (r1_4 : Bool) (r2_4 : Bool) (k_4 : Nat) (k_5 : Nat)
    (h_0 : spec_DrawSpinRing.f k_0 x1 = some (r1_0, r2_0))
    (h_1 : impl_SpinRing.f k_1 r1_0 r2_0 = some (r1_1, true))
    (h_2 : spec_SpinRing.f k_2 r1_0 r2_0 = some (r1_2, r2_2))
    (h_3 : impl_IsRing.f k_3 r1_0 = some (true, true))
    (h_4 : spec_IsRing.f k_4 r1_0 = some (r1_4, r2_4))
    (d_0 : (!(true == r2_2)) = false)
    (h_5 : laws_iSame.f k_5 r1_1 r1_2 = some true)
    (d_1 : (!(true == r2_4)) = false)
    (d_2 : (!(true == r1_4)) = false)
    (c_0 : RunOk Try.prog 580 (nav [true, true, true, true, true, true, true, true, true, true, true, true, true, true, true, true, true, true, true, false, true] (bodyOf Try.f3)) (lookA [(1, .sl (iI .u8 x1)), (40, .sl (iI .i64 r1_0)), (41, vi r2_0), (42, .sl (iI .i64 r1_1)), (421, vb true)]) .normal (lookA [(1, .sl (iI .u8 x1))]))
    (c_1 : RunOk Try.prog 580 (nav [true, true, true, true, true, true, true, true, true, true, true, true, true, true, true, true, true, true, true, true] (bodyOf Try.f3)) (lookA [(1, .sl (iI .u8 x1))]) .ret (lookA [(4, vb true)])) :
    RunOk Try.prog 580 (nav [true, true, true, true, true, true, true, true, true, true, true, true, true] (bodyOf Try.f3)) (lookA [(1, .sl (iI .u8 x1))]) .ret (lookA [(4, vb true)]) :=
  Goal.ok (fl := flOf []) (s := [.call (.tup [.sl (iI .i64 r1_0), vi r2_0]),
    .call (.tup [.sl (iI .i64 r1_1), vb true]),
    .call (.tup [.sl (iI .i64 r1_2), vb r2_2]),
    .call (.tup [vb true, vb true]),
    .call (.tup [vb r1_4, vb r2_4]),
    .val (.bool false),
    .call (vb true),
    .val (.bool false),
    .val (.bool false),
    .go,
    .goT,
    .cutT .normal [(1, .sl (iI .u8 x1)), (40, .sl (iI .i64 r1_0)), (41, vi r2_0), (42, .sl (iI .i64 r1_1)), (421, vb true)] [(1, .sl (iI .u8 x1))],
    .cutT .ret [(1, .sl (iI .u8 x1))] [(4, vb true)]]) rfl (of_eq (And.intro (rfl : (.ret : Ex) = _) (And.intro (ag [(4, vb true)]) (And.intro (ad_23 h_0) (And.intro (ad_24 h_1) (And.intro (ad_25 h_2) (And.intro (ad_19 h_3) (And.intro (ad_26 h_4) (And.intro (And.intro (bool_neq (P := Try.prog) (t := 4) (x := (.tmp 392)) (y := (.tmp 393)) Try.underlying4 d_0) (And.intro (ad_15 h_5) (And.intro (bool_neq (P := Try.prog) (t := 4) (x := (.tmp 402)) (y := (.tmp 403)) Try.underlying4 d_1) (bool_neq (P := Try.prog) (t := 4) (x := (.tmp 407)) (y := (.tmp 408)) Try.underlying4 d_2)))) (And.intro (And.intro (ag [(1, .sl (iI .u8 x1)), (40, .sl (iI .i64 r1_0)), (41, vi r2_0), (42, .sl (iI .i64 r1_1)), (421, vb true)]) c_0) (And.intro (ag [(1, .sl (iI .u8 x1))]) c_1)))))))))) (by kernel_rfl))

set_option maxRecDepth 100000 in
theorem p3_0 (x1 : List Int) (r1_0 : List Int) (r2_0 : List Int) (k_0 : Nat) (r1_1 : List Int) (k_1 : Nat) (r2_2 : Bool) (r1_2 : List Int) (k_2 : Nat) (k_3 : Nat)
    (h_0 : spec_DrawJoinChains.f k_0 x1 = some (r1_0, r2_0))
    (h_1 : impl_JoinChains.f k_1 r1_0 r2_0 = some (r1_1, false))
    (h_2 : spec_JoinChains.f k_2 r1_0 r2_0 = some (r1_2, r2_2))
    (d_0 : (!(false == r2_2)) = false)
    (h_3 : laws_iSame.f k_3 r1_1 r1_2 = some true)
    (c_0 : RunOk Try.prog 580 (nav [true, true, true, true, true, true, true, true, true, true, true, true, true, true, true, true, true, true, true, true, true, true, true, true, true] (bodyOf Try.f3)) (lookA [(1, .sl (iI .u8 x1))]) .ret (lookA [(4, vb true)])) :
    RunOk Try.prog 580 (nav [true, true, true, true, true, true, true, true, true, true, true, true, true, true, true, true, true, true, true, true] (bodyOf Try.f3)) (lookA [(1, .sl (iI .u8 x1))]) .ret (lookA [(4, vb true)]) :=
  Goal.ok (fl := flOf []) (s := [.call (.tup [.sl (iI .i64 r1_0), .sl (iI .i64 r2_0)]),
    .call (.tup [.sl (iI .i64 r1_1), vb false]),
    .call (.tup [.sl (iI .i64 r1_2), vb r2_2]),
    .val (.bool false),
    .call (vb true),
    .go,
    .go,
    .cutT .ret [(1, .sl (iI .u8 x1))] [(4, vb true)]]) rfl (of_eq (And.intro (rfl : (.ret : Ex) = _) (And.intro (ag [(4, vb true)]) (And.intro (ad_28 h_0) (And.intro (ad_29 h_1) (And.intro (ad_30 h_2) (And.intro (And.intro (bool_neq (P := Try.prog) (t := 4) (x := (.tmp 507)) (y := (.tmp 508)) Try.underlying4 d_0) (ad_15 h_3)) (And.intro (ag [(1, .sl (iI .u8 x1))]) c_0))))))) (by kernel_rfl))

set_option maxRecDepth 100000 in
theorem p3_1 (x1 : List Int) (r1_0 : List Int) (r2_0 : List Int) (k_0 : Nat) (r1_1 : List Int) (k_1 : Nat) (r2_2 : Bool) (r1_2 : List Int) (k_2 : Nat) (k_3 : Nat) (y_2 : List Int) (k_4 : Nat) (y_3 : List Int) (k_5 : Nat)
    (h_0 : spec_DrawJoinChains.f k_0 x1 = some (r1_0, r2_0))
    (h_1 : impl_JoinChains.f k_1 r1_0 r2_0 = some (r1_1, true))
    (h_2 : spec_JoinChains.f k_2 r1_0 r2_0 = some (r1_2, r2_2))
    (d_0 : (!(true == r2_2)) = false)
    (h_3 : laws_iSame.f k_3 r1_1 r1_2 = some true)
    (d_1 : (!(((iI .i64 r1_1).length : Int) == (IntKind.wrap .i64 ((IntKind.wrap .i64 (((iI .i64 r1_0).length : Int) + ((iI .i64 r2_0).length : Int))) - 1)))) = false)
    (g_2 : 0 ≤ (0 : Int) ∧ (0 : Int) ≤ ((iI .i64 r1_0).length : Int) ∧ ((iI .i64 r1_0).length : Int) ≤ ((iI .i64 r1_1).length : Int) ∧ y_2 = (r1_1.take (((iI .i64 r1_0).length : Int) : Int).toNat).drop (0 : Int).toNat)
    (h_4 : laws_iSame.f k_4 y_2 r1_0 = some true)
    (g_3 : 0 ≤ ((IntKind.wrap .i64 (((iI .i64 r1_0).length : Int) - 1)) : Int) ∧ ((IntKind.wrap .i64 (((iI .i64 r1_0).length : Int) - 1)) : Int) ≤ ((iI .i64 r1_1).length : Int) ∧ ((iI .i64 r1_1).length : Int) ≤ ((iI .i64 r1_1).length : Int) ∧ y_3 = (r1_1.take (((iI .i64 r1_1).length : Int) : Int).toNat).drop ((IntKind.wrap .i64 (((iI .i64 r1_0).length : Int) - 1)) : Int).toNat)
    (h_5 : laws_iSame.f k_5 y_3 r2_0 = some true)
    (c_0 : RunOk Try.prog 580 (nav [true, true, true, true, true, true, true, true, true, true, true, true, true, true, true, true, true, true, true, true, true, true, true, true, true] (bodyOf Try.f3)) (lookA [(1, .sl (iI .u8 x1))]) .ret (lookA [(4, vb true)])) :
    RunOk Try.prog 580 (nav [true, true, true, true, true, true, true, true, true, true, true, true, true, true, true, true, true, true, true, true] (bodyOf Try.f3)) (lookA [(1, .sl (iI .u8 x1))]) .ret (lookA [(4, vb true)]) :=
  Goal.ok (fl := flOf []) (s := [.call (.tup [.sl (iI .i64 r1_0), .sl (iI .i64 r2_0)]),
    .call (.tup [.sl (iI .i64 r1_1), vb true]),
    .call (.tup [.sl (iI .i64 r1_2), vb r2_2]),
    .val (.bool false),
    .call (vb true),
    .go,
    .val (.bool false),
    .elem (.sl (iI .i64 y_2)),
    .call (vb true),
    .elem (.sl (iI .i64 y_3)),
    .call (vb true),
    .go,
    .cutT .ret [(1, .sl (iI .u8 x1))] [(4, vb true)]]) rfl (of_eq (And.intro (rfl : (.ret : Ex) = _) (And.intro (ag [(4, vb true)]) (And.intro (ad_28 h_0) (And.intro (ad_29 h_1) (And.intro (ad_30 h_2) (And.intro (And.intro (bool_neq (P := Try.prog) (t := 4) (x := (.tmp 507)) (y := (.tmp 508)) Try.underlying4 d_0) (ad_15 h_3)) (And.intro (And.intro (int_neq (P := Try.prog) (t := 3) (k := .i64) (x := (.tmp 519)) (y := (.tmp 525)) d_1) (And.intro (iI_sub (k := .i64) g_2) (And.intro (ad_15 h_4) (And.intro (iI_sub (k := .i64) g_3) (ad_15 h_5))))) (And.intro (ag [(1, .sl (iI .u8 x1))]) c_0)))))))) (by kernel_rfl))

set_option maxRecDepth 100000 in
theorem p4_0 (x1 : List Int) (r_0 : ByteArray) (k_0 : Nat) (r1_1 : List Int) (k_1 : Nat) (r2_2 : Bool) (r1_2 : List Int) (k_2 : Nat) (k_3 : Nat)
    (h_0 : spec_DrawParseChain.f k_0 x1 = some r_0)
    (h_1 : impl_ParseChain.f k_1 r_0 = some (r1_1, false))
    (h_2 : spec_ParseChain.f k_2 r_0 = some (r1_2, r2_2))
    (d_0 : (!(false == r2_2)) = false)
    (h_3 : laws_iSame.f k_3 r1_1 r1_2 = some true) :
    RunOk Try.prog 580 (nav [true, true, true, true, true, true, true, true, true, true, true, true, true, true, true, true, true, true, true, true, true, true, true, true, true] (bodyOf Try.f3)) (lookA [(1, .sl (iI .u8 x1))]) .ret (lookA [(4, vb true)]) :=
  Goal.ok (fl := flOf []) (s := [.call (.val (.string r_0)),
    .call (.tup [.sl (iI .i64 r1_1), vb false]),
    .call (.tup [.sl (iI .i64 r1_2), vb r2_2]),
    .val (.bool false),
    .call (vb true),
    .go,
    .go]) rfl (of_eq (And.intro (rfl : (.ret : Ex) = _) (And.intro (ag [(4, vb true)]) (And.intro (ad_31 h_0) (And.intro (ad_18 h_1) (And.intro (ad_32 h_2) (And.intro (bool_neq (P := Try.prog) (t := 4) (x := (.tmp 559)) (y := (.tmp 560)) Try.underlying4 d_0) (ad_15 h_3))))))) (by kernel_rfl))

set_option maxRecDepth 100000 in
theorem p4_1 (x1 : List Int) (r_0 : ByteArray) (k_0 : Nat) (r1_1 : List Int) (k_1 : Nat) (r2_2 : Bool) (r1_2 : List Int) (k_2 : Nat) (k_3 : Nat) (r1_4 : ByteArray) (k_4 : Nat)
    (h_0 : spec_DrawParseChain.f k_0 x1 = some r_0)
    (h_1 : impl_ParseChain.f k_1 r_0 = some (r1_1, true))
    (h_2 : spec_ParseChain.f k_2 r_0 = some (r1_2, r2_2))
    (d_0 : (!(true == r2_2)) = false)
    (h_3 : laws_iSame.f k_3 r1_1 r1_2 = some true)
    (h_4 : impl_ChainText.f k_4 r1_1 = some (r1_4, true)) :
    RunOk Try.prog 580 (nav [true, true, true, true, true, true, true, true, true, true, true, true, true, true, true, true, true, true, true, true, true, true, true, true, true] (bodyOf Try.f3)) (lookA [(1, .sl (iI .u8 x1))]) .ret (lookA [(4, vb (r1_4.toList == r_0.toList))]) :=
  Goal.ok (fl := flOf []) (s := [.call (.val (.string r_0)),
    .call (.tup [.sl (iI .i64 r1_1), vb true]),
    .call (.tup [.sl (iI .i64 r1_2), vb r2_2]),
    .val (.bool false),
    .call (vb true),
    .go,
    .go,
    .call (.tup [.val (.string r1_4), vb true]),
    .val (.bool (r1_4.toList == r_0.toList))]) rfl (of_eq (And.intro (rfl : (.ret : Ex) = _) (And.intro (ag [(4, vb (r1_4.toList == r_0.toList))]) (And.intro (ad_31 h_0) (And.intro (ad_18 h_1) (And.intro (ad_32 h_2) (And.intro (And.intro (bool_neq (P := Try.prog) (t := 4) (x := (.tmp 559)) (y := (.tmp 560)) Try.underlying4 d_0) (ad_15 h_3)) (And.intro (ad_12 h_4) (str_eql (P := Try.prog) (t := 9) (x := (.tmp 576)) (y := (.tmp 577)) (v := (r1_4.toList == r_0.toList)) rfl)))))))) (by kernel_rfl))

set_option maxRecDepth 100000 in
theorem pB_0 (x1 : List Int) (x5 : List Int) (x6 : List S43) (x10 : Int) (x11 : Int) (x16 : List Int) (x20 : ByteArray) :
    RunOk Try.prog 580 (nav [true, true, true, true, true, true, true, true, true, true, true, true, false, true] (bodyOf Try.f3)) (lookA [(1, .sl (iI .u8 x1)), (5, .sl (iI .i64 x5)), (6, .sl (iS43 x6)), (10, vi x10), (11, vi x11), (16, .sl (iI .i64 x16)), (20, .val (.string x20)), (191, vb false)]) .normal (lookA [(1, .sl (iI .u8 x1))]) :=
  Goal.ok (fl := flOf []) (s := [.go]) rfl (of_eq (And.intro (rfl : (.normal : Ex) = _) (And.intro (ag [(1, .sl (iI .u8 x1))]) True.intro)) (by kernel_rfl))

set_option maxRecDepth 100000 in
theorem pB_1 (x1 : List Int) (x5 : List Int) (x6 : List S43) (x10 : Int) (x11 : Int) (x16 : List Int) (x20 : ByteArray) (r1_0 : List S43) (k_0 : Nat) (r1_1 : List Int) (k_1 : Nat) (r1_2 : List Int) (k_2 : Nat) (r1_3 : Bool) (k_3 : Nat) (k_4 : Nat) (e_1 : Int) (e_3 : Int) (k_5 : Nat) (k_6 : Nat)
    (h_0 : impl_TilesOfChain.f k_0 x16 = some (r1_0, true))
    (h_1 : impl_TurnChain.f k_1 x16 = some (r1_1, true))
    (h_2 : impl_ParseChain.f k_2 x20 = some (r1_2, true))
    (h_3 : impl_IsRing.f k_3 x5 = some (r1_3, true))
    (d_0 : (!(((iS43 x6).length : Int) == (IntKind.wrap .i64 (((iI .i64 x5).length : Int) - 1)))) = false)
    (h_4 : impl_IsHand.f k_4 x6 = some true)
    (g_1 : 0 ≤ (0 : Int) ∧ x5[(0 : Int).toNat]? = some e_1)
    (d_2 : (!(e_1 == x10)) = false)
    (g_3 : 0 ≤ ((IntKind.wrap .i64 (((iI .i64 x5).length : Int) - 1)) : Int) ∧ x5[((IntKind.wrap .i64 (((iI .i64 x5).length : Int) - 1)) : Int).toNat]? = some e_3)
    (d_4 : (!(e_3 == x11)) = false)
    (h_5 : laws_iSame.f k_5 r1_1 x5 = some true)
    (h_6 : laws_iSame.f k_6 r1_2 x5 = some true)
    (d_5 : (decide (((iS43 x6).length : Int) > 0)) = false)
    (d_6 : (!(r1_3 == false)) = false)
    (d_7 : (decide (((iS43 x6).length : Int) > 0)) = false)
    (c_0 : RunOk Try.prog 580 (nav [true, true, true, true, true, true, true, true, true, true, true, true, false, true, false, true, true, true, true, true, false, true, false] (bodyOf Try.f3)) (lookA [(1, .sl (iI .u8 x1)), (5, .sl (iI .i64 x5)), (6, .sl (iS43 x6)), (24, .sl (iS43 r1_0)), (280, .sl (iS43 x6)), (281, vi ((iS43 x6).length : Int)), (282, vi 0)]) (.exit 0) (lookA [(1, .sl (iI .u8 x1)), (5, .sl (iI .i64 x5)), (6, .sl (iS43 x6))]))
    (c_1 : RunOk Try.prog 580 (nav [true, true, true, true, true, true, true, true, true, true, true, true, false, true, false, true, true, true, true, true, true, true] (bodyOf Try.f3)) (lookA [(1, .sl (iI .u8 x1)), (5, .sl (iI .i64 x5)), (6, .sl (iS43 x6)), (322, vb false)]) .normal (lookA [(1, .sl (iI .u8 x1))])) :
    RunOk Try.prog 580 (nav [true, true, true, true, true, true, true, true, true, true, true, true, false, true] (bodyOf Try.f3)) (lookA [(1, .sl (iI .u8 x1)), (5, .sl (iI .i64 x5)), (6, .sl (iS43 x6)), (10, vi x10), (11, vi x11), (16, .sl (iI .i64 x16)), (20, .val (.string x20)), (191, vb true)]) .normal (lookA [(1, .sl (iI .u8 x1))]) :=
  Goal.ok (fl := flOf []) (s := [.go,
    .call (.tup [.sl (iS43 r1_0), vb true]),
    .call (.tup [.sl (iI .i64 r1_1), vb true]),
    .call (.tup [.sl (iI .i64 r1_2), vb true]),
    .call (.tup [vb r1_3, vb true]),
    .val (.bool false),
    .call (vb true),
    .elem (vi e_1),
    .val (.bool false),
    .elem (vi e_3),
    .val (.bool false),
    .call (vb true),
    .call (vb true),
    .val (.bool false),
    .val (.bool false),
    .go,
    .cutL (.exit 0) [(1, .sl (iI .u8 x1)), (5, .sl (iI .i64 x5)), (6, .sl (iS43 x6)), (24, .sl (iS43 r1_0)), (280, .sl (iS43 x6)), (281, vi ((iS43 x6).length : Int)), (282, vi 0)] [(1, .sl (iI .u8 x1)), (5, .sl (iI .i64 x5)), (6, .sl (iS43 x6))],
    .val (.bool false),
    .cutT .normal [(1, .sl (iI .u8 x1)), (5, .sl (iI .i64 x5)), (6, .sl (iS43 x6)), (322, vb false)] [(1, .sl (iI .u8 x1))]]) rfl (of_eq (And.intro (rfl : (.normal : Ex) = _) (And.intro (ag [(1, .sl (iI .u8 x1))]) (And.intro (ad_6 h_0) (And.intro (ad_10 h_1) (And.intro (ad_18 h_2) (And.intro (ad_19 h_3) (And.intro (And.intro (int_neq (P := Try.prog) (t := 3) (k := .i64) (x := (.tmp 213)) (y := (.tmp 216)) d_0) (And.intro (ad_20 h_4) (And.intro (iI_get (k := .i64) g_1) (And.intro (int_neq (P := Try.prog) (t := 3) (k := .i64) (x := (.tmp 226)) (y := (.tmp 227)) d_2) (And.intro (iI_get (k := .i64) g_3) (And.intro (int_neq (P := Try.prog) (t := 3) (k := .i64) (x := (.tmp 236)) (y := (.tmp 237)) d_4) (And.intro (ad_15 h_5) (And.intro (ad_15 h_6) (And.intro (int_gtr (P := Try.prog) (t := 3) (k := .i64) (x := (.tmp 271)) (y := (.const (.int .i64 0))) d_5) (bool_neq (P := Try.prog) (t := 4) (x := (.tmp 269)) (y := (.tmp 277)) Try.underlying4 d_6)))))))))) (And.intro (And.intro (ag [(1, .sl (iI .u8 x1)), (5, .sl (iI .i64 x5)), (6, .sl (iS43 x6)), (24, .sl (iS43 r1_0)), (280, .sl (iS43 x6)), (281, vi ((iS43 x6).length : Int)), (282, vi 0)]) c_0) (And.intro (int_gtr (P := Try.prog) (t := 3) (k := .i64) (x := (.tmp 321)) (y := (.const (.int .i64 0))) d_7) (And.intro (ag [(1, .sl (iI .u8 x1)), (5, .sl (iI .i64 x5)), (6, .sl (iS43 x6)), (322, vb false)]) c_1)))))))))) (by kernel_rfl))

set_option maxRecDepth 100000 in
theorem pB_2 (x1 : List Int) (x5 : List Int) (x6 : List S43) (x10 : Int) (x11 : Int) (x16 : List Int) (x20 : ByteArray) (r1_0 : List S43) (k_0 : Nat) (r1_1 : List Int) (k_1 : Nat) (r1_2 : List Int) (k_2 : Nat) (r1_3 : Bool) (k_3 : Nat) (k_4 : Nat) (e_1 : Int) (e_3 : Int) (k_5 : Nat) (k_6 : Nat)
    (h_0 : impl_TilesOfChain.f k_0 x16 = some (r1_0, true))
    (h_1 : impl_TurnChain.f k_1 x16 = some (r1_1, true))
    (h_2 : impl_ParseChain.f k_2 x20 = some (r1_2, true))
    (h_3 : impl_IsRing.f k_3 x5 = some (r1_3, true))
    (d_0 : (!(((iS43 x6).length : Int) == (IntKind.wrap .i64 (((iI .i64 x5).length : Int) - 1)))) = false)
    (h_4 : impl_IsHand.f k_4 x6 = some true)
    (g_1 : 0 ≤ (0 : Int) ∧ x5[(0 : Int).toNat]? = some e_1)
    (d_2 : (!(e_1 == x10)) = false)
    (g_3 : 0 ≤ ((IntKind.wrap .i64 (((iI .i64 x5).length : Int) - 1)) : Int) ∧ x5[((IntKind.wrap .i64 (((iI .i64 x5).length : Int) - 1)) : Int).toNat]? = some e_3)
    (d_4 : (!(e_3 == x11)) = false)
    (h_5 : laws_iSame.f k_5 r1_1 x5 = some true)
    (h_6 : laws_iSame.f k_6 r1_2 x5 = some true)
    (d_5 : (decide (((iS43 x6).length : Int) > 0)) = true)
    (d_6 : (!(r1_3 == (x10 == x11))) = false)
    (d_7 : (decide (((iS43 x6).length : Int) > 0)) = true)
    (c_0 : RunOk Try.prog 580 (nav [true, true, true, true, true, true, true, true, true, true, true, true, false, true, false, true, true, true, true, true, false, true, false] (bodyOf Try.f3)) (lookA [(1, .sl (iI .u8 x1)), (5, .sl (iI .i64 x5)), (6, .sl (iS43 x6)), (24, .sl (iS43 r1_0)), (280, .sl (iS43 x6)), (281, vi ((iS43 x6).length : Int)), (282, vi 0)]) (.exit 0) (lookA [(1, .sl (iI .u8 x1)), (5, .sl (iI .i64 x5)), (6, .sl (iS43 x6))]))
    (c_1 : RunOk Try.prog 580 (nav [true, true, true, true, true, true, true, true, true, true, true, true, false, true, false, true, true, true, true, true, true, true] (bodyOf Try.f3)) (lookA [(1, .sl (iI .u8 x1)), (5, .sl (iI .i64 x5)), (6, .sl (iS43 x6)), (322, vb true)]) .normal (lookA [(1, .sl (iI .u8 x1))])) :
    RunOk Try.prog 580 (nav [true, true, true, true, true, true, true, true, true, true, true, true, false, true] (bodyOf Try.f3)) (lookA [(1, .sl (iI .u8 x1)), (5, .sl (iI .i64 x5)), (6, .sl (iS43 x6)), (10, vi x10), (11, vi x11), (16, .sl (iI .i64 x16)), (20, .val (.string x20)), (191, vb true)]) .normal (lookA [(1, .sl (iI .u8 x1))]) :=
  Goal.ok (fl := flOf []) (s := [.go,
    .call (.tup [.sl (iS43 r1_0), vb true]),
    .call (.tup [.sl (iI .i64 r1_1), vb true]),
    .call (.tup [.sl (iI .i64 r1_2), vb true]),
    .call (.tup [vb r1_3, vb true]),
    .val (.bool false),
    .call (vb true),
    .elem (vi e_1),
    .val (.bool false),
    .elem (vi e_3),
    .val (.bool false),
    .call (vb true),
    .call (vb true),
    .val (.bool true),
    .val (.bool (x10 == x11)),
    .val (.bool false),
    .go,
    .cutL (.exit 0) [(1, .sl (iI .u8 x1)), (5, .sl (iI .i64 x5)), (6, .sl (iS43 x6)), (24, .sl (iS43 r1_0)), (280, .sl (iS43 x6)), (281, vi ((iS43 x6).length : Int)), (282, vi 0)] [(1, .sl (iI .u8 x1)), (5, .sl (iI .i64 x5)), (6, .sl (iS43 x6))],
    .val (.bool true),
    .cutT .normal [(1, .sl (iI .u8 x1)), (5, .sl (iI .i64 x5)), (6, .sl (iS43 x6)), (322, vb true)] [(1, .sl (iI .u8 x1))]]) rfl (of_eq (And.intro (rfl : (.normal : Ex) = _) (And.intro (ag [(1, .sl (iI .u8 x1))]) (And.intro (ad_6 h_0) (And.intro (ad_10 h_1) (And.intro (ad_18 h_2) (And.intro (ad_19 h_3) (And.intro (And.intro (int_neq (P := Try.prog) (t := 3) (k := .i64) (x := (.tmp 213)) (y := (.tmp 216)) d_0) (And.intro (ad_20 h_4) (And.intro (iI_get (k := .i64) g_1) (And.intro (int_neq (P := Try.prog) (t := 3) (k := .i64) (x := (.tmp 226)) (y := (.tmp 227)) d_2) (And.intro (iI_get (k := .i64) g_3) (And.intro (int_neq (P := Try.prog) (t := 3) (k := .i64) (x := (.tmp 236)) (y := (.tmp 237)) d_4) (And.intro (ad_15 h_5) (And.intro (ad_15 h_6) (And.intro (int_gtr (P := Try.prog) (t := 3) (k := .i64) (x := (.tmp 271)) (y := (.const (.int .i64 0))) d_5) (And.intro (int_eql (P := Try.prog) (t := 3) (k := .i64) (x := (.tmp 274)) (y := (.tmp 275)) (v := (x10 == x11)) rfl) (bool_neq (P := Try.prog) (t := 4) (x := (.tmp 269)) (y := (.tmp 277)) Try.underlying4 d_6))))))))))) (And.intro (And.intro (ag [(1, .sl (iI .u8 x1)), (5, .sl (iI .i64 x5)), (6, .sl (iS43 x6)), (24, .sl (iS43 r1_0)), (280, .sl (iS43 x6)), (281, vi ((iS43 x6).length : Int)), (282, vi 0)]) c_0) (And.intro (int_gtr (P := Try.prog) (t := 3) (k := .i64) (x := (.tmp 321)) (y := (.const (.int .i64 0))) d_7) (And.intro (ag [(1, .sl (iI .u8 x1)), (5, .sl (iI .i64 x5)), (6, .sl (iS43 x6)), (322, vb true)]) c_1)))))))))) (by kernel_rfl))

set_option maxRecDepth 100000 in
theorem pT_0 (x1 : List Int) (x5 : List Int) (x6 : List S43) :
    RunOk Try.prog 580 (nav [true, true, true, true, true, true, true, true, true, true, true, true, false, true, false, true, true, true, true, true, true, true] (bodyOf Try.f3)) (lookA [(1, .sl (iI .u8 x1)), (5, .sl (iI .i64 x5)), (6, .sl (iS43 x6)), (322, vb false)]) .normal (lookA [(1, .sl (iI .u8 x1))]) :=
  Goal.ok (fl := flOf []) (s := [.go]) rfl (of_eq (And.intro (rfl : (.normal : Ex) = _) (And.intro (ag [(1, .sl (iI .u8 x1))]) True.intro)) (by kernel_rfl))

set_option maxRecDepth 100000 in
theorem pT_1 (x1 : List Int) (x5 : List Int) (x6 : List S43) (y_0 : List Int) (e_1 : S43) (r1_0 : List Int) (k_0 : Nat) (y_2 : List Int) (e_3 : S43) (r1_1 : List Int) (k_1 : Nat) (k_2 : Nat) (k_3 : Nat)
    (g_0 : 0 ≤ (0 : Int) ∧ (0 : Int) ≤ (IntKind.wrap .i64 (((iI .i64 x5).length : Int) - 1)) ∧ (IntKind.wrap .i64 (((iI .i64 x5).length : Int) - 1)) ≤ ((iI .i64 x5).length : Int) ∧ y_0 = (x5.take ((IntKind.wrap .i64 (((iI .i64 x5).length : Int) - 1)) : Int).toNat).drop (0 : Int).toNat)
    (g_1 : 0 ≤ ((IntKind.wrap .i64 (((iS43 x6).length : Int) - 1)) : Int) ∧ x6[((IntKind.wrap .i64 (((iS43 x6).length : Int) - 1)) : Int).toNat]? = some e_1)
    (h_0 : impl_LayTile.f k_0 y_0 e_1.f0 e_1.f1 false = some (r1_0, true))
    (g_2 : 0 ≤ (1 : Int) ∧ (1 : Int) ≤ ((iI .i64 x5).length : Int) ∧ ((iI .i64 x5).length : Int) ≤ ((iI .i64 x5).length : Int) ∧ y_2 = (x5.take (((iI .i64 x5).length : Int) : Int).toNat).drop (1 : Int).toNat)
    (g_3 : 0 ≤ (0 : Int) ∧ x6[(0 : Int).toNat]? = some e_3)
    (h_1 : impl_LayTile.f k_1 y_2 e_3.f0 e_3.f1 true = some (r1_1, true))
    (h_2 : laws_iSame.f k_2 r1_0 x5 = some true)
    (h_3 : laws_iSame.f k_3 r1_1 x5 = some true) :
    RunOk Try.prog 580 (nav [true, true, true, true, true, true, true, true, true, true, true, true, false, true, false, true, true, true, true, true, true, true] (bodyOf Try.f3)) (lookA [(1, .sl (iI .u8 x1)), (5, .sl (iI .i64 x5)), (6, .sl (iS43 x6)), (322, vb true)]) .normal (lookA [(1, .sl (iI .u8 x1))]) :=
  Goal.ok (fl := flOf []) (s := [.go,
    .elem (.sl (iI .i64 y_0)),
    .elem (.agg [vi e_1.f0, vi e_1.f1]),
    .call (.tup [.sl (iI .i64 r1_0), vb true]),
    .elem (.sl (iI .i64 y_2)),
    .elem (.agg [vi e_3.f0, vi e_3.f1]),
    .call (.tup [.sl (iI .i64 r1_1), vb true]),
    .call (vb true),
    .call (vb true),
    .go]) rfl (of_eq (And.intro (rfl : (.normal : Ex) = _) (And.intro (ag [(1, .sl (iI .u8 x1))]) (And.intro (And.intro (iI_sub (k := .i64) g_0) (And.intro (iS43_get g_1) (ad_22 h_0))) (And.intro (And.intro (iI_sub (k := .i64) g_2) (And.intro (iS43_get g_3) (ad_22 h_1))) (And.intro (ad_15 h_2) (ad_15 h_3)))))) (by kernel_rfl))

set_option maxRecDepth 100000 in
theorem pR_0 (x1 : List Int) (x40 : List Int) (x41 : Int) (x42 : List Int) :
    RunOk Try.prog 580 (nav [true, true, true, true, true, true, true, true, true, true, true, true, true, true, true, true, true, true, true, false, true] (bodyOf Try.f3)) (lookA [(1, .sl (iI .u8 x1)), (40, .sl (iI .i64 x40)), (41, vi x41), (42, .sl (iI .i64 x42)), (421, vb false)]) .normal (lookA [(1, .sl (iI .u8 x1))]) :=
  Goal.ok (fl := flOf []) (s := [.go]) rfl (of_eq (And.intro (rfl : (.normal : Ex) = _) (And.intro (ag [(1, .sl (iI .u8 x1))]) True.intro)) (by kernel_rfl))

set_option maxRecDepth 100000 in
theorem pR_1 (x1 : List Int) (x40 : List Int) (x41 : Int) (x42 : List Int) (r1_0 : List Int) (k_0 : Nat) (r1_1 : List S43) (k_1 : Nat) (r1_2 : List S43) (k_2 : Nat) (k_3 : Nat) (e_1 : Int) (e_2 : Int)
    (d_0 : (IntKind.wrap .i64 (((iI .i64 x40).length : Int) - 1)) ≠ 0)
    (h_0 : impl_SpinRing.f k_0 x42 ((IntKind.wrap .i64 ((IntKind.wrap .i64 (((iI .i64 x40).length : Int) - 1)) - x41)).tmod (IntKind.wrap .i64 (((iI .i64 x40).length : Int) - 1))) = some (r1_0, true))
    (h_1 : impl_TilesOfChain.f k_1 x40 = some (r1_1, true))
    (h_2 : impl_TilesOfChain.f k_2 x42 = some (r1_2, true))
    (h_3 : laws_iSame.f k_3 r1_0 x40 = some true)
    (g_1 : 0 ≤ (0 : Int) ∧ x42[(0 : Int).toNat]? = some e_1)
    (g_2 : 0 ≤ (x41 : Int) ∧ x40[(x41 : Int).toNat]? = some e_2)
    (d_3 : (!(e_1 == e_2)) = false)
    (d_4 : (!(((iS43 r1_1).length : Int) == ((iS43 r1_2).length : Int))) = false)
    (c_0 : RunOk Try.prog 580 (nav [true, true, true, true, true, true, true, true, true, true, true, true, true, true, true, true, true, true, true, false, true, false, true, true, true, true, true, false] (bodyOf Try.f3)) (lookA [(1, .sl (iI .u8 x1)), (54, .sl (iS43 r1_2)), (479, .sl (iS43 r1_1)), (480, vi ((iS43 r1_1).length : Int)), (481, vi 0)]) (.exit 2) (lookA [(1, .sl (iI .u8 x1))])) :
    RunOk Try.prog 580 (nav [true, true, true, true, true, true, true, true, true, true, true, true, true, true, true, true, true, true, true, false, true] (bodyOf Try.f3)) (lookA [(1, .sl (iI .u8 x1)), (40, .sl (iI .i64 x40)), (41, vi x41), (42, .sl (iI .i64 x42)), (421, vb true)]) .normal (lookA [(1, .sl (iI .u8 x1))]) :=
  Goal.ok (fl := flOf []) (s := [.go,
    .val (.int .i64 ((IntKind.wrap .i64 ((IntKind.wrap .i64 (((iI .i64 x40).length : Int) - 1)) - x41)).tmod (IntKind.wrap .i64 (((iI .i64 x40).length : Int) - 1)))),
    .call (.tup [.sl (iI .i64 r1_0), vb true]),
    .call (.tup [.sl (iS43 r1_1), vb true]),
    .call (.tup [.sl (iS43 r1_2), vb true]),
    .call (vb true),
    .elem (vi e_1),
    .elem (vi e_2),
    .val (.bool false),
    .val (.bool false),
    .go,
    .cutL (.exit 2) [(1, .sl (iI .u8 x1)), (54, .sl (iS43 r1_2)), (479, .sl (iS43 r1_1)), (480, vi ((iS43 r1_1).length : Int)), (481, vi 0)] [(1, .sl (iI .u8 x1))]]) rfl (of_eq (And.intro (rfl : (.normal : Ex) = _) (And.intro (ag [(1, .sl (iI .u8 x1))]) (And.intro (And.intro (int_rem (P := Try.prog) (t := 3) (k := .i64) (x := (.tmp 428)) (y := (.tmp 431)) (a := (IntKind.wrap .i64 ((IntKind.wrap .i64 (((iI .i64 x40).length : Int) - 1)) - x41))) d_0) (ad_24 h_0)) (And.intro (ad_6 h_1) (And.intro (ad_6 h_2) (And.intro (And.intro (ad_15 h_3) (And.intro (iI_get (k := .i64) g_1) (And.intro (iI_get (k := .i64) g_2) (And.intro (int_neq (P := Try.prog) (t := 3) (k := .i64) (x := (.tmp 457)) (y := (.tmp 461)) d_3) (int_neq (P := Try.prog) (t := 3) (k := .i64) (x := (.tmp 474)) (y := (.tmp 476)) d_4))))) (And.intro (ag [(1, .sl (iI .u8 x1)), (54, .sl (iS43 r1_2)), (479, .sl (iS43 r1_1)), (480, vi ((iS43 r1_1).length : Int)), (481, vi 0)]) c_0))))))) (by kernel_rfl))

set_option maxRecDepth 100000 in
theorem q0_0 (x1 : List Int) (x5 : List Int) (x6 : List S43) (x24 : List S43) (x280 : List S43) (x281 : Int) (x282 : Int)
    (d_0 : (decide (x282 < x281)) = false) :
    RunOk Try.prog 580 (nav [true, true, true, true, true, true, true, true, true, true, true, true, false, true, false, true, true, true, true, true, false, true, false, false] (bodyOf Try.f3)) (lookA [(1, .sl (iI .u8 x1)), (5, .sl (iI .i64 x5)), (6, .sl (iS43 x6)), (24, .sl (iS43 x24)), (280, .sl (iS43 x280)), (281, vi x281), (282, vi x282)]) (.exit 0) (lookA [(1, .sl (iI .u8 x1)), (5, .sl (iI .i64 x5)), (6, .sl (iS43 x6))]) :=
  Goal.ok (fl := flOf []) (s := [.val (.bool false),
    .go]) rfl (of_eq (And.intro (rfl : ((.exit 0) : Ex) = _) (And.intro (ag [(1, .sl (iI .u8 x1)), (5, .sl (iI .i64 x5)), (6, .sl (iS43 x6))]) (int_lss (P := Try.prog) (t := 3) (k := .i64) (x := (.tmp 282)) (y := (.tmp 281)) d_0))) (by kernel_rfl))

set_option maxRecDepth 100000 in
theorem q0_1 (x1 : List Int) (x5 : List Int) (x6 : List S43) (x24 : List S43) (x280 : List S43) (x281 : Int) (x282 : Int) (e_1 : S43) (e_2 : Int) (e_3 : Int) (r1_0 : Int) (r2_0 : Int) (e_5 : S43)
    (d_0 : (decide (x282 < x281)) = true)
    (g_1 : 0 ≤ (x282 : Int) ∧ x280[(x282 : Int).toNat]? = some e_1)
    (g_2 : 0 ≤ (x282 : Int) ∧ x5[(x282 : Int).toNat]? = some e_2)
    (g_3 : 0 ≤ ((IntKind.wrap .i64 (x282 + 1)) : Int) ∧ x5[((IntKind.wrap .i64 (x282 + 1)) : Int).toNat]? = some e_3)
    (h_0 : impl_TileOf.f e_2 e_3 = some (r1_0, r2_0, true))
    (d_4 : (!((r1_0 == e_1.f0) && (r2_0 == e_1.f1))) = false)
    (g_5 : 0 ≤ ((IntKind.wrap .i64 ((IntKind.wrap .i64 (((iS43 x6).length : Int) - 1)) - x282)) : Int) ∧ x24[((IntKind.wrap .i64 ((IntKind.wrap .i64 (((iS43 x6).length : Int) - 1)) - x282)) : Int).toNat]? = some e_5)
    (d_6 : (!((e_5.f0 == e_1.f0) && (e_5.f1 == e_1.f1))) = false) :
    RunOk Try.prog 580 (nav [true, true, true, true, true, true, true, true, true, true, true, true, false, true, false, true, true, true, true, true, false, true, false, false] (bodyOf Try.f3)) (lookA [(1, .sl (iI .u8 x1)), (5, .sl (iI .i64 x5)), (6, .sl (iS43 x6)), (24, .sl (iS43 x24)), (280, .sl (iS43 x280)), (281, vi x281), (282, vi x282)]) .normal (lookA [(1, .sl (iI .u8 x1)), (5, .sl (iI .i64 x5)), (6, .sl (iS43 x6)), (24, .sl (iS43 x24)), (280, .sl (iS43 x280)), (281, vi x281), (282, vi (IntKind.wrap .i64 (x282 + 1)))]) :=
  Goal.ok (fl := flOf []) (s := [.val (.bool true),
    .go,
    .elem (.agg [vi e_1.f0, vi e_1.f1]),
    .elem (vi e_2),
    .elem (vi e_3),
    .call (.tup [.agg [vi r1_0, vi r2_0], vb true]),
    .val (.bool false),
    .elem (.agg [vi e_5.f0, vi e_5.f1]),
    .val (.bool false),
    .go]) rfl (of_eq (And.intro (rfl : (.normal : Ex) = _) (And.intro (ag [(1, .sl (iI .u8 x1)), (5, .sl (iI .i64 x5)), (6, .sl (iS43 x6)), (24, .sl (iS43 x24)), (280, .sl (iS43 x280)), (281, vi x281), (282, vi (IntKind.wrap .i64 (x282 + 1)))]) (And.intro (int_lss (P := Try.prog) (t := 3) (k := .i64) (x := (.tmp 282)) (y := (.tmp 281)) d_0) (And.intro (iS43_get g_1) (And.intro (And.intro (iI_get (k := .i64) g_2) (And.intro (iI_get (k := .i64) g_3) (ad_21 h_0))) (And.intro (agg_43_neq (x := (.tmp 303)) (y := (.tmp 304)) d_4) (And.intro (iS43_get g_5) (agg_43_neq (x := (.tmp 315)) (y := (.tmp 316)) d_6)))))))) (by kernel_rfl))

set_option maxRecDepth 100000 in
theorem q1_0 (x1 : List Int) (x54 : List S43) (x479 : List S43) (x480 : Int) (x481 : Int)
    (d_0 : (decide (x481 < x480)) = false) :
    RunOk Try.prog 580 (nav [true, true, true, true, true, true, true, true, true, true, true, true, true, true, true, true, true, true, true, false, true, false, true, true, true, true, true, false, false] (bodyOf Try.f3)) (lookA [(1, .sl (iI .u8 x1)), (54, .sl (iS43 x54)), (479, .sl (iS43 x479)), (480, vi x480), (481, vi x481)]) (.exit 2) (lookA [(1, .sl (iI .u8 x1))]) :=
  Goal.ok (fl := flOf []) (s := [.val (.bool false),
    .go]) rfl (of_eq (And.intro (rfl : ((.exit 2) : Ex) = _) (And.intro (ag [(1, .sl (iI .u8 x1))]) (int_lss (P := Try.prog) (t := 3) (k := .i64) (x := (.tmp 481)) (y := (.tmp 480)) d_0))) (by kernel_rfl))

set_option maxRecDepth 100000 in
theorem q1_1 (x1 : List Int) (x54 : List S43) (x479 : List S43) (x480 : Int) (x481 : Int) (e_1 : S43) (k_0 : Nat)
    (d_0 : (decide (x481 < x480)) = true)
    (g_1 : 0 ≤ (x481 : Int) ∧ x479[(x481 : Int).toNat]? = some e_1)
    (h_0 : laws_iIn.f k_0 x54 e_1.f0 e_1.f1 = some true) :
    RunOk Try.prog 580 (nav [true, true, true, true, true, true, true, true, true, true, true, true, true, true, true, true, true, true, true, false, true, false, true, true, true, true, true, false, false] (bodyOf Try.f3)) (lookA [(1, .sl (iI .u8 x1)), (54, .sl (iS43 x54)), (479, .sl (iS43 x479)), (480, vi x480), (481, vi x481)]) .normal (lookA [(1, .sl (iI .u8 x1)), (54, .sl (iS43 x54)), (479, .sl (iS43 x479)), (480, vi x480), (481, vi (IntKind.wrap .i64 (x481 + 1)))]) :=
  Goal.ok (fl := flOf []) (s := [.val (.bool true),
    .go,
    .elem (.agg [vi e_1.f0, vi e_1.f1]),
    .call (vb true),
    .go]) rfl (of_eq (And.intro (rfl : (.normal : Ex) = _) (And.intro (ag [(1, .sl (iI .u8 x1)), (54, .sl (iS43 x54)), (479, .sl (iS43 x479)), (480, vi x480), (481, vi (IntKind.wrap .i64 (x481 + 1)))]) (And.intro (int_lss (P := Try.prog) (t := 3) (k := .i64) (x := (.tmp 481)) (y := (.tmp 480)) d_0) (And.intro (iS43_get g_1) (ad_27 h_0))))) (by kernel_rfl))

end Go.Proofs.Ytmgdndgaiicaiaa.QFnChainsLaid
