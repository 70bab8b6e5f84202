/- Hands drawn and chains of all their tiles, for FnChancesCompared: both ways tell one ratio, and it is the hits by the hands. No conditions. -/
import Derived.Test.YtafcjfilhdpgdaaQFnChancesComparedx10
namespace Go.Proofs.Ytafcjfilhdpgdaa.QPureB
open Go.RowKit Go.Proofs.Ytafcjfilhdpgdaa.QFnChancesCompared Go.Proofs.YtafcjfilhdpgdaaW.PrintWords Go.Proofs.YtafcjfilhdpgdaaW.PrintLast

set_option linter.unusedVariables false
set_option linter.unusedSimpArgs false
/-! Hands that are drawn, and chains of all their tiles. -/
theorem t_ext (x y : S53) (h0 : x.f0 = y.f0) (h1 : x.f1 = y.f1) : x = y := by
  cases x
  cases y
  simp_all
instance t_dec : DecidableEq S53 := fun x y => if h : x.f0 = y.f0 ∧ x.f1 = y.f1 then isTrue (t_ext x y h.1 h.2) else isFalse (fun e => h (by subst e; exact ⟨rfl, rfl⟩))
def setN (n : Nat) : List S53 := (List.range (n + 1)).flatMap fun a => (List.range (n + 1 - a)).map fun b => (⟨(a : Int), ((a + b : Nat) : Int)⟩ : S53)
theorem sets : ∀ n : Fin 7, spec_tiSet.f 100 ((n.val : Nat) : Int) = some (setN n.val) ∧ impl_setOf.f 100 ((n.val : Nat) : Int) = some (setN n.val) := by decide +kernel
theorem subs : ∀ n : Fin 7, (setN n.val).isSublist (setN 6) = true := by decide +kernel
theorem toks : ∀ n : Fin 7, (setN n.val).all tok = true ∧ (setN n.val).length ≤ 28 ∧ wrap64 (Int.tdiv (wrap64 ((wrap64 (((n.val : Nat) : Int) + 1)) * (wrap64 (((n.val : Nat) : Int) + 2)))) 2) = ((setN n.val).length : Int) := by decide +kernel
def cLoop (f : Nat → Nat) : Nat → Nat
  | 0 => 0
  | l + 1 => f l + cLoop f l
def cN : Nat → Nat → Nat
  | 0, _ => 1
  | k + 1, l => cLoop (cN k) l
def chooseOk (t k : Int) : Bool := match spec_dcChoose.f 100 t k, impl_choose.f 100 t k with
  | some a, some b => decide (a = b) && (decide (0 < a) && decide (a = ((cN k.toNat t.toNat : Nat) : Int)))
  | _, _ => false
theorem choo : ∀ n : Fin 7, ∀ k : Fin 4, k.val ≤ (setN n.val).length → chooseOk ((setN n.val).length : Int) ((k.val : Nat) : Int) = true := by decide +kernel
theorem choo_f (n : Fin 7) (k : Fin 4) (h : k.val ≤ (setN n.val).length) : ∃ c : Int, spec_dcChoose.f 100 ((setN n.val).length : Int) ((k.val : Nat) : Int) = some c ∧ impl_choose.f 100 ((setN n.val).length : Int) ((k.val : Nat) : Int) = some c ∧ 0 < c ∧ c = ((cN k.val (setN n.val).length : Nat) : Int) := by
  have := choo n k h
  unfold chooseOk at this
  cases ha : spec_dcChoose.f 100 ((setN n.val).length : Int) ((k.val : Nat) : Int) with
  | none => rw [ha] at this; simp at this
  | some a =>
    cases hb : impl_choose.f 100 ((setN n.val).length : Int) ((k.val : Nat) : Int) with
    | none => rw [ha, hb] at this; simp at this
    | some b =>
      rw [ha, hb] at this
      simp only [Bool.and_eq_true, decide_eq_true_eq] at this
      exact ⟨a, rfl, by rw [this.1], this.2.1, this.2.2⟩
/-! ### All hands of at most three tiles -/
def tails {α : Type} : List α → List (α × List α)
  | [] => []
  | x :: xs => (x, xs) :: tails xs
theorem tails_sub {α : Type} (a : α) (r : List α) : ∀ l : List α, (a :: r).Sublist l → ∃ s, (a, s) ∈ tails l ∧ r.Sublist s
  | [], h => by cases h
  | x :: xs, h => by
    cases h with
    | cons _ h =>
      obtain ⟨s, h1, h2⟩ := tails_sub a r xs h
      exact ⟨s, List.mem_cons_of_mem _ h1, h2⟩
    | cons_cons _ h => exact ⟨xs, List.mem_cons_self, h⟩
/-- Is a hand a chain? The same on both sides. -/
def same (h : List S53) : Bool := decide (((haLong h).length : Int) = (h.length : Int) + 1) == ccan h
/-! ### The same, with every number reckoned at once -/
section
variable {α : Type}
def forceN (n : Nat) (k : Nat → α) : α := match n with
  | 0 => k 0
  | m + 1 => k (m + 1)
theorem forceN_eq (n : Nat) (k : Nat → α) : forceN n k = k n := by cases n <;> rfl
def forceI (x : Int) (k : Int → α) : α := match x with
  | .ofNat n => forceN n fun m => k (.ofNat m)
  | .negSucc n => forceN n fun m => k (.negSucc m)
theorem forceI_eq (x : Int) (k : Int → α) : forceI x k = k x := by
  cases x <;> simp only [forceI, forceN_eq]
def nf : List Int → (List Int → α) → α
  | [], k => k []
  | x :: xs, k => forceI x fun y => nf xs fun ys => k (y :: ys)
theorem nf_eq : ∀ (l : List Int) (k : List Int → α), nf l k = k l
  | [], _ => rfl
  | x :: xs, k => by simp only [nf, forceI_eq, nf_eq xs]
def gfoldF : List S53 → List Int → (List Int → α) → α
  | [], N, k => k N
  | t :: ts, N, k => nf (gstep N t) fun M => gfoldF ts M k
theorem gfoldF_eq : ∀ (l : List S53) (N : List Int) (k : List Int → α), gfoldF l N k = k (l.foldl gstep N)
  | [], _, _ => rfl
  | t :: ts, N, k => by simp only [gfoldF, nf_eq, gfoldF_eq ts, List.foldl_cons]
def gpF (l : List S53) : Nat → (List Int → α) → α
  | 0, k => nf (gstart 10) k
  | n + 1, k => gpF l n fun N => gfoldF l N k
theorem gpF_eq (l : List S53) : ∀ (n : Nat) (k : List Int → α), gpF l n k = k (gpasses l n)
  | 0, k => by simp only [gpF, nf_eq, gpasses]
  | n + 1, k => by simp only [gpF, gpF_eq l n, gfoldF_eq, gpasses]
end
def gcnt (ns N : List Int) : Nat → Nat → Nat
  | 0, _ => 0
  | d + 1, i => if (ns.any fun n => rd N n == (i : Int)) = true then gcnt ns N d (i + 1) + 1 else gcnt ns N d (i + 1)
theorem gcnt_eq (l : List S53) (N : List Int) : ∀ d i, gcnt (nums l) N d i = (gfrom l N d i).length
  | 0, _ => rfl
  | d + 1, i => by
    have h : ((nums l).any fun n => rd N n == (i : Int)) = decide (0 < (gown l N (i : Int)).length) := by
      unfold gown
      rw [Bool.eq_iff_iff, decide_eq_true_eq, List.any_eq_true, List.length_pos_iff_exists_mem]
      constructor
      · rintro ⟨x, h1, h2⟩
        exact ⟨x, List.mem_filter.2 ⟨h1, by simpa using h2⟩⟩
      · rintro ⟨x, h1⟩
        obtain ⟨h1, h2⟩ := List.mem_filter.1 h1
        exact ⟨x, h1, by simpa using h2⟩
    unfold gcnt gfrom
    rw [h, gcnt_eq l N d (i + 1)]
    by_cases hp : 0 < (gown l N (i : Int)).length
    · rw [if_pos (decide_eq_true hp), if_pos hp, List.length_cons]
    · rw [if_neg (by simpa using hp), if_neg hp]
def ccanF (l : List S53) : Bool := nf (nums l) fun ns => gpF l l.length fun N => Nat.ble (gcnt ns N 10 0) 1 && Nat.ble (ns.filter fun n => !decide (Int.tmod (tms n l) 2 = 0)).length 2
theorem ccanF_eq (l : List S53) : ccanF l = ccan l := by
  unfold ccanF ccan grps odds
  simp only [nf_eq, gpF_eq, gcnt_eq]
  by_cases h : ((gfrom l (gpasses l l.length) 10 0).length : Int) ≤ 1
  · rw [if_pos h]
    have : Nat.ble (gfrom l (gpasses l l.length) 10 0).length 1 = true := Nat.ble_eq ▸ (by omega : (gfrom l (gpasses l l.length) 10 0).length ≤ 1)
    rw [this, Bool.true_and, Bool.eq_iff_iff, Nat.ble_eq, decide_eq_true_eq]
    omega
  · rw [if_neg h]
    have : Nat.ble (gfrom l (gpasses l l.length) 10 0).length 1 = false := by
      rw [Bool.eq_false_iff]
      intro e
      rw [Nat.ble_eq] at e
      omega
    rw [this]
    rfl
def mx (m len : Nat) : Nat := if m < len then len else m
def nx (hand : List S53) (last n : Int) : Int := plx (if last < n then last else n) (if last > n then last else n) hand 0
def lkLoop (rec : Int → Nat → List Bool → Nat → Nat) (hand : List S53) (last : Int) (len : Nat) (U : List Bool) : Nat → Int → Nat → Nat
  | 0, _, m => m
  | j + 1, n, m => forceI n fun n => forceI (nx hand last n) fun q => if q < 0 then lkLoop rec hand last len U j (n + 1) m else (if rdOf false U q = true then lkLoop rec hand last len U j (n + 1) m else forceN (rec n (len + 1) (U.set q.toNat true) m) fun m2 => lkLoop rec hand last len U j (n + 1) m2)
def lookN (hand : List S53) : Nat → Int → Nat → List Bool → Nat → Nat
  | 0, _, len, _, m => mx m len
  | d + 1, last, len, U, m => forceN (mx m len) fun m => lkLoop (fun n l u m => lookN hand d n l u m) hand last len U 10 0 m
theorem longer_len (chain lo : List Int) : (longer chain lo).length = mx lo.length chain.length := by
  unfold longer mx
  split <;> rfl
theorem lookN_eq (hand : List S53) : ∀ (d : Nat) (chain : List Int) (U : List Bool) (lo : List Int), (lookL hand d chain U lo).length = lookN hand d (rd chain ((chain.length : Int) - 1)) chain.length U lo.length := by
  intro d
  induction d with
  | zero => intro chain U lo; exact longer_len chain lo
  | succ d ih =>
    intro chain U lo
    have key : ∀ (j : Nat) (n : Int) (lo : List Int), (lookLoop (fun c u l => lookL hand d c u l) hand chain U j n lo).length = lkLoop (fun n l u m => lookN hand d n l u m) hand (rd chain ((chain.length : Int) - 1)) chain.length U j n lo.length := by
      intro j
      induction j with
      | zero => intro n lo; rfl
      | succ j ihj =>
        intro n lo
        simp only [lookLoop, lkLoop, forceI_eq, forceN_eq]
        have e : nx hand (rd chain ((chain.length : Int) - 1)) n = nxt hand chain n := rfl
        rw [e]
        by_cases c1 : nxt hand chain n < 0
        · rw [if_pos c1, if_pos c1]
          exact ihj _ _
        · rw [if_neg c1, if_neg c1]
          by_cases c2 : rdOf false U (nxt hand chain n) = true
          · rw [if_pos c2, if_pos c2]
            exact ihj _ _
          · rw [if_neg c2, if_neg c2, ihj, ih]
            have e1 : rd (chain ++ [n]) (((chain ++ [n]).length : Int) - 1) = n := by
              unfold rd
              rw [List.length_append, List.length_singleton, show ((((chain.length + 1 : Nat)) : Int) - 1).toNat = chain.length from by omega, List.getD_eq_getElem?_getD, List.getElem?_append_right (Nat.le_refl _), Nat.sub_self]
              rfl
            rw [e1, List.length_append, List.length_singleton]
    simp only [lookL, lookN, forceN_eq]
    rw [key, longer_len]
def haN (hand : List S53) : Nat → Int → Nat → Nat
  | 0, _, m => m
  | j + 1, n, m => forceI n fun n => if 0 < tmz n hand then (forceN (lookN hand hand.length n 1 (List.replicate hand.length false) m) fun m => haN hand j (n + 1) m) else haN hand j (n + 1) m
theorem haN_eq (hand : List S53) : ∀ (j : Nat) (n : Int) (lo : List Int), (haLoop hand j n lo).length = haN hand j n lo.length := by
  intro j
  induction j with
  | zero => intro n lo; rfl
  | succ j ih =>
    intro n lo
    simp only [haLoop, haN, forceI_eq, forceN_eq]
    by_cases c : 0 < tmz n hand
    · rw [if_pos c, if_pos c, ih, lookN_eq]
      rfl
    · rw [if_neg c, if_neg c]
      exact ih _ _
def sameF (h : List S53) : Bool := Nat.beq (haN h 10 0 0) (h.length + 1) == ccanF h
theorem sameF_eq (h : List S53) : sameF h = same h := by
  unfold sameF same haLong
  rw [ccanF_eq]
  congr 1
  rw [Bool.eq_iff_iff, decide_eq_true_eq, haN_eq]
  show Nat.beq (haN h 10 0 0) (h.length + 1) = true ↔ _
  rw [Nat.beq_eq]
  simp only [List.length_nil]
  omega
def ok1 (f : List S53 → Bool) (l : List S53) : Bool := (tails l).all fun p => f [p.1]
def ok2 (f : List S53 → Bool) (l : List S53) : Bool := (tails l).all fun p => (tails p.2).all fun q => f [p.1, q.1]
def on3 (f : List S53 → Bool) (p : S53 × List S53) : Bool := (tails p.2).all fun q => (tails q.2).all fun r => f [p.1, q.1, r.1]
theorem ok_all (f : List S53 → Bool) (l : List S53) (h1 : ok1 f l = true) (h2 : ok2 f l = true) (h3 : ∀ p ∈ tails l, on3 f p = true) (h : List S53) (hs : h.Sublist l) (hp : 1 ≤ h.length) (hq : h.length ≤ 3) : f h = true := by
  match h, hp, hq with
  | [a], _, _ =>
    obtain ⟨s, m1, _⟩ := tails_sub a [] l hs
    exact List.all_eq_true.1 h1 _ m1
  | [a, b], _, _ =>
    obtain ⟨s, m1, n1⟩ := tails_sub a [b] l hs
    obtain ⟨u, m2, _⟩ := tails_sub b [] s n1
    exact List.all_eq_true.1 (List.all_eq_true.1 h2 _ m1) _ m2
  | [a, b, c], _, _ =>
    obtain ⟨s, m1, n1⟩ := tails_sub a [b, c] l hs
    obtain ⟨u, m2, n2⟩ := tails_sub b [c] s n1
    obtain ⟨v, m3, _⟩ := tails_sub c [] u n2
    exact List.all_eq_true.1 (List.all_eq_true.1 (h3 _ m1) _ m2) _ m3
theorem all1 : ok1 sameF (setN 6) = true := by decide +kernel
theorem all2 : ok2 sameF (setN 6) = true := by decide +kernel
def part (a b : Nat) : Bool := (((tails (setN 6)).drop a).take b).all (on3 sameF)
theorem part0 : part 0 2 = true := by decide +kernel
theorem part1 : part 2 2 = true := by decide +kernel
theorem part2 : part 4 3 = true := by decide +kernel
theorem part3 : part 7 5 = true := by decide +kernel
theorem part4 : part 12 20 = true := by decide +kernel
theorem part_mem (p : S53 × List S53) (a b : Nat) (h : part a b = true) (hm : p ∈ ((tails (setN 6)).drop a).take b) : on3 sameF p = true := List.all_eq_true.1 h _ hm
theorem split_mem {α : Type} (x : α) (l : List α) (a b : Nat) (h : x ∈ l.drop a) : x ∈ (l.drop a).take b ∨ x ∈ l.drop (a + b) := by
  rw [← List.take_append_drop b (l.drop a), List.drop_drop] at h
  exact List.mem_append.1 h
theorem tails_len {α : Type} : ∀ l : List α, (tails l).length = l.length
  | [] => rfl
  | _ :: xs => by simp [tails, tails_len xs]
theorem all3 : ∀ p ∈ tails (setN 6), on3 sameF p = true := by
  intro p h
  rcases split_mem p (tails (setN 6)) 0 2 h with h | h
  · exact part_mem p 0 2 part0 h
  rcases split_mem p (tails (setN 6)) 2 2 h with h | h
  · exact part_mem p 2 2 part1 h
  rcases split_mem p (tails (setN 6)) 4 3 h with h | h
  · exact part_mem p 4 3 part2 h
  rcases split_mem p (tails (setN 6)) 7 5 h with h | h
  · exact part_mem p 7 5 part3 h
  rcases split_mem p (tails (setN 6)) 12 20 h with h | h
  · exact part_mem p 12 20 part4 h
  · exfalso
    have hl : (tails (setN 6)).length ≤ 32 := by
      rw [tails_len]
      have := (toks 6).2.1
      have e : (setN (6 : Fin 7).val) = setN 6 := rfl
      rw [e] at this
      omega
    rw [List.drop_eq_nil_of_le hl] at h
    cases h
theorem same_all (h : List S53) (hs : h.Sublist (setN 6)) (hp : 1 ≤ h.length) (hq : h.length ≤ 3) : same h = true := by
  rw [← sameF_eq]
  exact ok_all sameF (setN 6) all1 all2 all3 h hs hp hq
/-! ### The hands drawn, both ways -/
theorem sum_loop (set : List S53) (F : Nat → Int) (G : List S53 → List S53 → Int) (hand : List S53) (hFG : ∀ j, ∀ h : j < set.length, F j = G (set.drop (j + 1)) (hand ++ [set[j]])) : ∀ n j, j + n = set.length → sumFrom F n j = dcLoop G hand (set.drop j) := by
  intro n
  induction n with
  | zero =>
    intro j h
    rw [List.drop_eq_nil_of_le (by omega)]
    rfl
  | succ n ih =>
    intro j h
    rw [List.drop_eq_getElem_cons (by omega)]
    simp only [sumFrom, dcLoop]
    rw [ih (j + 1) (by omega), hFG j (by omega)]
theorem sum_loop' (set : List S53) (F : Nat → Int) (G : List S53 → List S53 → Int) (hand : List S53) (i : Nat) (hFG : ∀ j, ∀ h : j < set.length, i ≤ j → F j = G (set.drop (j + 1)) (hand ++ [set[j]])) : ∀ n j, i ≤ j → j + n = set.length → sumFrom F n j = dcLoop G hand (set.drop j) := by
  intro n
  induction n with
  | zero =>
    intro j _ h
    rw [List.drop_eq_nil_of_le (by omega)]
    rfl
  | succ n ih =>
    intro j hi h
    rw [List.drop_eq_getElem_cons (by omega)]
    simp only [sumFrom, dcLoop]
    rw [ih (j + 1) (by omega) (by omega), hFG j (by omega) hi]
theorem draw_dc (set : List S53) (P : ∀ h : List S53, h.Sublist set → 1 ≤ h.length → h.length ≤ 3 → same h = true) : ∀ d hand i, hand.Sublist (set.take i) → i ≤ set.length → 1 ≤ hand.length + d → hand.length + d ≤ 3 → drawN set d hand i = dcN d (set.drop i) hand := by
  intro d
  induction d with
  | zero =>
    intro hand i hs hi h1 h2
    have := P hand (hs.trans (List.take_sublist i set)) (by omega) (by omega)
    unfold same at this
    rw [beq_iff_eq] at this
    simp only [drawN, dcN]
    rw [← this]
    by_cases hq : ((haLong hand).length : Int) = (hand.length : Int) + 1
    · rw [if_pos (decide_eq_true hq), if_pos hq]
    · rw [if_neg (by simp [hq]), if_neg hq]
  | succ d ih =>
    intro hand i hs hi h1 h2
    simp only [drawN, dcN]
    refine sum_loop' set _ (fun s b => dcN d s b) hand i (fun j hj hij => ?_) (set.length - i) i (Nat.le_refl _) (by omega)
    have hget : set.getD j z53 = set[j] := by rw [List.getD_eq_getElem?_getD, List.getElem?_eq_getElem hj]; rfl
    show drawN set d (hand ++ [set.getD j z53]) (j + 1) = dcN d (set.drop (j + 1)) (hand ++ [set[j]])
    rw [hget]
    refine ih (hand ++ [set[j]]) (j + 1) ?_ (by omega) (by rw [List.length_append, List.length_singleton]; omega) (by rw [List.length_append, List.length_singleton]; omega)
    rw [List.take_succ_eq_append_getElem hj]
    exact List.Sublist.append (hs.trans (List.take_sublist_take_left hij)) (List.Sublist.refl _)
/-! ### Ratios -/
theorem com_f : ∀ (m : Nat) (x y : Int), 0 ≤ x → 0 ≤ y → y ≤ m → (0 < x ∨ 0 < y) → ∃ t : Int, 0 < t ∧ impl_common.l0 (m + 2) x y = some t ∧ t ∣ x ∧ t ∣ y ∧ ∀ e : Int, e ∣ x → e ∣ y → e ∣ t := by
  intro m
  induction m with
  | zero =>
    intro x y h0 h1 h2 h3
    have : y = 0 := by omega
    subst this
    exact ⟨x, by omega, by simp [impl_common.l0], Int.dvd_refl x, Int.dvd_zero x, fun e h _ => h⟩
  | succ m ih =>
    intro x y h0 h1 h2 h3
    by_cases hy : 0 < y
    · have hlt := Int.tmod_lt_of_pos x hy
      have hge : 0 ≤ Int.tmod x y := Int.tmod_nonneg y h0
      obtain ⟨t, t1, t2, t3, t4, t5⟩ := ih y (Int.tmod x y) (by omega) hge (by omega) (.inl hy)
      have hdm : y * Int.tdiv x y + Int.tmod x y = x := Int.mul_tdiv_add_tmod x y
      refine ⟨t, t1, ?_, ?_, t3, fun e e1 e2 => t5 e e2 ?_⟩
      · rw [show m + 1 + 2 = (m + 2) + 1 from rfl]
        simp only [impl_common.l0]
        rw [if_pos hy, if_neg (by omega)]
        exact t2
      · rw [← hdm]
        exact Int.dvd_add (Int.dvd_mul_of_dvd_left t3) t4
      · rw [show Int.tmod x y = x - y * Int.tdiv x y by omega]
        exact Int.dvd_sub e1 (Int.dvd_mul_of_dvd_left e2)
    · have : y = 0 := by omega
      subst this
      exact ⟨x, by omega, by rw [show m + 1 + 2 = (m + 2) + 1 from rfl]; simp [impl_common.l0], Int.dvd_refl x, Int.dvd_zero x, fun e h _ => h⟩
theorem rat_eq (a b : Int) : ∀ (k : Nat) (x y : Int), spec_dcRatio.l0 k a b x y = (impl_common.l0 k x y).bind fun t => (if t = 0 then (none) else (some (wrap64 (Int.tdiv a t), wrap64 (Int.tdiv b t)))) := by
  intro k
  induction k with
  | zero => intro x y; rfl
  | succ k ih =>
    intro x y
    simp only [spec_dcRatio.l0, impl_common.l0]
    by_cases hy : y > 0
    · rw [if_pos hy, if_pos hy]
      by_cases hz : y = 0
      · rw [if_pos hz, if_pos hz]
        rfl
      · rw [if_neg hz, if_neg hz, ih]
    · rw [if_neg hy, if_neg hy]
      rfl
theorem ratios (a b : Int) (ha : 0 ≤ a) (hb : 0 < b) : ∃ t : Int, 0 < t ∧ t ∣ a ∧ t ∣ b ∧ (∀ e : Int, e ∣ a → e ∣ b → e ∣ t) ∧ Ev (fun k => spec_dcRatio.f k a b) (wrap64 (Int.tdiv a t), wrap64 (Int.tdiv b t)) ∧ Ev (fun k => impl_ratio.f k a b) (wrap64 (Int.tdiv a t), wrap64 (Int.tdiv b t)) := by
  obtain ⟨t, t1, t2, t3, t4, t5⟩ := com_f b.toNat a b ha (by omega) (by omega) (.inr hb)
  refine ⟨t, t1, t3, t4, t5, Ev.of (fun k => spec_dcRatio.mono _ _ k) (k := b.toNat + 2) ?_, Ev.of (fun k => impl_ratio.mono _ _ k) (k := b.toNat + 2) ?_⟩
  · show spec_dcRatio.l0 _ a b a b = _
    rw [rat_eq, t2]
    simp only [Option.bind_some]
    rw [if_neg (by omega)]
  · show (impl_common.l0 _ a b).bind _ = _
    rw [t2]
    simp only [Option.bind_some]
    rw [if_neg (by omega)]
theorem times_it (a b t : Int) (ha : 0 ≤ a) (hb : 0 < b) (hl : a ≤ b) (hm : b ≤ 100000) (ht : 0 < t) (h1 : t ∣ a) (h2 : t ∣ b) : laws_iTimes.f (wrap64 (Int.tdiv a t)) (wrap64 (Int.tdiv b t)) b = some a := by
  obtain ⟨p, rfl⟩ := h1
  obtain ⟨q, rfl⟩ := h2
  have hq : 0 < q := Int.pos_of_mul_pos_left (by rw [Int.mul_comm]; exact hb) ht
  have hp : 0 ≤ p := by
    rcases Int.lt_or_le p 0 with h | h
    · exfalso
      have := Int.mul_neg_of_pos_of_neg ht h
      omega
    · exact h
  have hpq : p ≤ q := Int.le_of_mul_le_mul_left hl ht
  have hqm : q ≤ t * q := by
    have := Int.mul_le_mul_of_nonneg_right (show (1 : Int) ≤ t by omega) (Int.le_of_lt hq)
    omega
  have htm : t ≤ t * q := by
    have := Int.mul_le_mul_of_nonneg_left (show (1 : Int) ≤ q by omega) (Int.le_of_lt ht)
    omega
  have w1 : ∀ n : Int, 0 ≤ n → n ≤ 100000 → wrap64 n = n := fun n _ _ => by unfold wrap64; omega
  unfold laws_iTimes.f
  rw [Int.mul_tdiv_cancel_left _ (by omega), Int.mul_tdiv_cancel_left _ (by omega), w1 p hp (by omega), w1 q (by omega) (by omega), if_neg (by omega), if_neg (by omega), Int.mul_tmod_left, if_pos rfl, Int.mul_tdiv_cancel _ (by omega), w1 t (by omega) (by omega), Int.mul_comm p t, w1 (t * p) ha (by omega)]
theorem dcN_nonneg : ∀ (k : Nat) (s b : List S53), 0 ≤ dcN k s b := by
  intro k
  induction k with
  | zero =>
    intro s b
    unfold dcN
    split <;> omega
  | succ k ih =>
    intro s b
    unfold dcN
    induction s with
    | nil => simp [dcLoop]
    | cons t ts ih2 =>
      simp only [dcLoop]
      have := ih ts (b ++ [t])
      omega
theorem dcN_cN : ∀ (k : Nat) (s b : List S53), dcN k s b ≤ ((cN k s.length : Nat) : Int) := by
  intro k
  induction k with
  | zero =>
    intro s b
    unfold dcN cN
    split <;> simp
  | succ k ih =>
    intro s b
    show dcLoop (fun s b => dcN k s b) b s ≤ ((cLoop (cN k) s.length : Nat) : Int)
    induction s with
    | nil => simp [dcLoop, cLoop]
    | cons t ts ih2 =>
      simp only [dcLoop, List.length_cons, cLoop]
      have h1 := ih ts (b ++ [t])
      omega
theorem one_all : ((setN 6).all fun t => Nat.beq (haN [t] 10 0 0) 2) = true := by decide +kernel
theorem one_long (t : S53) (h : t ∈ setN 6) : (haLong [t]).length = 2 := by
  have := List.all_eq_true.1 one_all t h
  rw [Nat.beq_eq] at this
  unfold haLong
  rw [haN_eq]
  exact this
theorem one_dc : ∀ s : List S53, (∀ t ∈ s, t ∈ setN 6) → dcN 1 s [] = (s.length : Int) := by
  intro s
  show _ → dcLoop (fun s b => dcN 0 s b) [] s = _
  induction s with
  | nil => intro _; rfl
  | cons t ts ih =>
    intro h
    have h1 := one_long t (h t List.mem_cons_self)
    simp only [dcLoop, List.nil_append, List.length_cons]
    rw [ih (fun x hx => h x (List.mem_cons_of_mem _ hx))]
    have : dcN 0 ts [t] = 1 := by
      unfold dcN
      rw [if_pos (by rw [h1]; rfl)]
    rw [this]
    omega
theorem cN_one (l : Nat) : cN 1 l = l := by
  show cLoop (cN 0) l = l
  induction l with
  | zero => rfl
  | succ l ih =>
    show cN 0 l + cLoop (cN 0) l = l + 1
    rw [ih]
    show 1 + l = l + 1
    omega
theorem cN_small : ∀ n : Fin 7, ∀ k : Fin 4, cN k.val (setN n.val).length ≤ 4000 := by decide +kernel
/-! ### The law -/
theorem in_range (n : Fin 7) (k : Fin 4) (h1 : 1 ≤ k.val) (h2 : k.val ≤ (setN n.val).length) : ∃ r : Int × Int × Bool, (∃ c D : Int, Ev (fun j => impl_choose.f j ((setN n.val).length : Int) ((k.val : Nat) : Int)) c ∧ laws_iTimes.f r.1 r.2.1 c = some D ∧ 0 ≤ D ∧ D ≤ c ∧ (k.val = 1 → r.1 = 1 ∧ r.2.1 = 1)) ∧ Ev (fun j => spec_ChanceOfChain.j0 j ((n.val : Nat) : Int) ((k.val : Nat) : Int) false) r ∧
    Ev (fun j => (impl_setOf.f j ((n.val : Nat) : Int)).bind fun set => if ((setN n.val).length : Int) = (set.length : Int) ∧ set.length ≤ 1000 ∧ set.all tok = true ∧ 0 ≤ ((k.val : Nat) : Int) ∧ ((k.val : Nat) : Int) ≤ 1000 then ((impl_choose.f j ((setN n.val).length : Int) ((k.val : Nat) : Int)).bind fun c => ((impl_ratio.f j (wrap64 (0 + drawN set ((k.val : Nat) : Int).toNat [] 0)) c).bind fun r => some (r.1, r.2, true))) else none) r := by
  obtain ⟨s1, s2⟩ := sets n
  obtain ⟨t1, t2, t3⟩ := toks n
  obtain ⟨c, c1, c2, c3, c4⟩ := choo_f n k h2
  have hk3 : k.val ≤ 3 := by omega
  have hsub : (setN n.val).Sublist (setN 6) := List.isSublist_iff_sublist.1 (subs n)
  have hd : drawN (setN n.val) k.val [] 0 = dcN k.val (setN n.val) [] := by
    have := draw_dc (setN n.val) (fun h hs hp hq => same_all h (hs.trans hsub) hp hq) k.val [] 0 (List.nil_sublist _) (Nat.zero_le _) (by simpa using h1) (by simpa using hk3)
    simpa using this
  have hx0 := dcN_nonneg k.val (setN n.val) []
  have hx1 := dcN_cN k.val (setN n.val) []
  have hsm := cN_small n k
  have hwr : wrap64 (dcN k.val (setN n.val) []) = dcN k.val (setN n.val) [] := by unfold wrap64; omega
  obtain ⟨t, g1, g2, g3, g4, r1, r2⟩ := ratios (dcN k.val (setN n.val) []) c hx0 c3
  have hit := times_it _ c t hx0 c3 (by omega) (by omega) g1 g2 g3
  have hone : k.val = 1 → wrap64 (Int.tdiv (dcN k.val (setN n.val) []) t) = 1 ∧ wrap64 (Int.tdiv c t) = 1 := by
    intro hk
    rw [hk] at c4 g4 ⊢
    rw [cN_one] at c4
    have hd1 := one_dc (setN n.val) (fun t ht => hsub.subset ht)
    rw [hd1, ← c4] at g4 ⊢
    have e1 := Int.le_of_dvd g1 (g4 c (Int.dvd_refl c) (Int.dvd_refl c))
    have e2 := Int.le_of_dvd c3 g3
    have e3 : t = c := by omega
    rw [e3, Int.tdiv_self (by omega)]
    exact ⟨by unfold wrap64; omega, by unfold wrap64; omega⟩
  generalize he1 : wrap64 (Int.tdiv (dcN k.val (setN n.val) []) t) = u1 at r1 r2 hit hone
  generalize he2 : wrap64 (Int.tdiv c t) = u2 at r1 r2 hit hone
  refine ⟨(u1, u2, true), ⟨c, _, Ev.of (fun j => impl_choose.mono _ _ j) c2, hit, hx0, by omega, hone⟩, ?_, ?_⟩
  · refine Ev.step (f := fun j => ((spec_tiSet.f j ((n.val : Nat) : Int)).bind fun t125 => ((spec_dcChains.f t125 ((k.val : Nat) : Int) ([] : List S53)).bind fun t128 => ((spec_dcTiles.f ((n.val : Nat) : Int)).bind fun t129 => ((spec_dcChoose.f j t129 ((k.val : Nat) : Int)).bind fun t130 => ((spec_dcRatio.f j t128 t130).bind fun bt131 => (some (bt131.1, bt131.2, true)))))))) (fun j => by simp [spec_ChanceOfChain.j0]) ?_
    refine Ev.bind (f := fun j (t : List S53) => _) (Ev.of (fun j => spec_tiSet.mono _ j) s1) ?_
    have hch : spec_dcChains.f (setN n.val) ((k.val : Nat) : Int) ([] : List S53) = some (dcN k.val (setN n.val) []) := by
      unfold spec_dcChains.f
      rw [if_pos (by refine ⟨by omega, by omega, by simp; omega, by simp; omega⟩), show (((k.val : Nat) : Int)).toNat = k.val from rfl, hwr]
    have hti : spec_dcTiles.f ((n.val : Nat) : Int) = some ((setN n.val).length : Int) := by
      unfold spec_dcTiles.f
      rw [t3]
    simp only [hch, hti, Option.bind_some]
    refine Ev.bind (f := fun j t => _) (Ev.of (fun j => spec_dcChoose.mono _ _ j) c1) ?_
    exact Ev.bind (f := fun j (t : Int × Int) => some (t.1, t.2, true)) r1 ⟨0, fun _ _ => rfl⟩
  · refine Ev.bind (f := fun j (t : List S53) => _) (Ev.of (fun j => impl_setOf.mono _ j) s2) ?_
    have hcond : (((setN n.val).length : Int) = ((setN n.val).length : Int) ∧ (setN n.val).length ≤ 1000 ∧ (setN n.val).all tok = true ∧ 0 ≤ ((k.val : Nat) : Int) ∧ ((k.val : Nat) : Int) ≤ 1000) := ⟨rfl, by omega, t1, by omega, by omega⟩
    have hcnt : wrap64 (0 + drawN (setN n.val) (((k.val : Nat) : Int)).toNat [] 0) = dcN k.val (setN n.val) [] := by
      rw [show (((k.val : Nat) : Int)).toNat = k.val from rfl, hd, Int.zero_add, hwr]
    rw [show (fun j => if (((setN n.val).length : Int) = ((setN n.val).length : Int) ∧ (setN n.val).length ≤ 1000 ∧ (setN n.val).all tok = true ∧ 0 ≤ ((k.val : Nat) : Int) ∧ ((k.val : Nat) : Int) ≤ 1000) then ((impl_choose.f j ((setN n.val).length : Int) ((k.val : Nat) : Int)).bind fun c => ((impl_ratio.f j (wrap64 (0 + drawN (setN n.val) (((k.val : Nat) : Int)).toNat [] 0)) c).bind fun r => some (r.1, r.2, true))) else none) = (fun j => ((impl_choose.f j ((setN n.val).length : Int) ((k.val : Nat) : Int)).bind fun c => ((impl_ratio.f j (dcN k.val (setN n.val) []) c).bind fun r => some (r.1, r.2, true)))) from funext fun j => by rw [if_pos hcond, hcnt]]
    refine Ev.bind (f := fun j t => _) (Ev.of (fun j => impl_choose.mono _ _ j) c2) ?_
    exact Ev.bind (f := fun j (t : Int × Int) => some (t.1, t.2, true)) r2 ⟨0, fun _ _ => rfl⟩
theorem both (a0 a1 : Int) : ∃ r : Int × Int × Bool, Ev (fun k => spec_ChanceOfChain.f k a0 a1) r ∧ Ev (fun k => impl_ChanceOfChain.f k a0 a1) r ∧ (r.2.2 = true → ∃ c D : Int, Ev (fun k => impl_CountHands.f k a0 a1) (c, true) ∧ laws_iTimes.f r.1 r.2.1 c = some D ∧ 0 ≤ D ∧ D ≤ c ∧ (a1 = 1 → r.1 = 1 ∧ r.2.1 = 1)) := by
  have hno : Ev (fun k => spec_ChanceOfChain.j0 k a0 a1 true) ((0, 0, false) : Int × Int × Bool) := Ev.step (f := fun _ => some (0, 0, false)) (fun k => by simp [spec_ChanceOfChain.j0]) (⟨0, fun _ _ => rfl⟩)
  obtain ⟨T, hT⟩ : ∃ T : Int, T = wrap64 (Int.tdiv (wrap64 ((wrap64 (a0 + 1)) * (wrap64 (a0 + 2)))) 2) := ⟨_, rfl⟩
  have hg : ∃ g : Bool, spec_dcGood.f a0 a1 = some g ∧ impl_isDrawn.f a0 a1 = some (T, g) ∧ (g = true → 0 ≤ a0 ∧ a0 ≤ 6 ∧ 0 ≤ a1 ∧ a1 ≤ T) := by
    unfold spec_dcGood.f impl_isDrawn.f spec_dcTiles.f spec_l1In.f impl_within.f
    rw [← hT]
    by_cases c1 : 0 ≤ a0
    · simp only [if_pos c1, ge_iff_le]
      by_cases c2 : a0 ≤ 6
      · simp only [Option.bind_some, decide_eq_true c2, if_true]
        by_cases c3 : 0 ≤ a1
        · simp only [if_pos c3, ge_iff_le]
          exact ⟨decide (a1 ≤ T), rfl, rfl, fun h => ⟨c1, c2, c3, of_decide_eq_true h⟩⟩
        · simp only [if_neg c3, ge_iff_le]
          exact ⟨false, rfl, rfl, fun h => by cases h⟩
      · simp only [Option.bind_some, decide_eq_false c2]
        exact ⟨false, rfl, rfl, fun h => by cases h⟩
    · simp only [if_neg c1, ge_iff_le]
      exact ⟨false, rfl, rfl, fun h => by cases h⟩
  obtain ⟨g, g1, g2, g3⟩ := hg
  unfold spec_ChanceOfChain.f impl_ChanceOfChain.f
  rw [g1, g2]
  simp only [Option.bind_some]
  cases g with
  | false => exact ⟨(0, 0, false), by simpa using hno, ⟨0, fun k _ => by simp⟩, fun h => by cases h⟩
  | true =>
    obtain ⟨p1, p2, p3, p4⟩ := g3 rfl
    have hw : ∃ b : Bool, spec_l1In.f a1 1 3 = some b ∧ impl_within.f a1 1 3 = some b ∧ (b = true → 1 ≤ a1 ∧ a1 ≤ 3) := by
      unfold spec_l1In.f impl_within.f
      by_cases c1 : 1 ≤ a1
      · simp only [if_pos c1, ge_iff_le]
        exact ⟨decide (a1 ≤ 3), rfl, rfl, fun h => ⟨c1, of_decide_eq_true h⟩⟩
      · simp only [if_neg c1, ge_iff_le]
        exact ⟨false, rfl, rfl, fun h => by cases h⟩
    obtain ⟨b, b1, b2, b3⟩ := hw
    simp only [if_true, b1, b2, Option.bind_some]
    cases b with
    | false => exact ⟨(0, 0, false), by simpa using hno, ⟨0, fun k _ => by simp⟩, fun h => by cases h⟩
    | true =>
      obtain ⟨q1, q2⟩ := b3 rfl
      obtain ⟨n, rfl⟩ : ∃ n : Nat, a0 = (n : Int) := ⟨a0.toNat, by omega⟩
      obtain ⟨k, rfl⟩ : ∃ k : Nat, a1 = (k : Int) := ⟨a1.toNat, by omega⟩
      have ht := (toks ⟨n, by omega⟩).2.2
      simp only at ht
      rw [ht] at hT
      subst hT
      obtain ⟨r, ⟨c, D, x1, x2, x3, x4, x5⟩, r1, r2⟩ := in_range ⟨n, by omega⟩ ⟨k, by omega⟩ (by simp; omega) (by simp; omega)
      refine ⟨r, by simpa using r1, by simpa using r2, fun _ => ⟨c, D, ?_, x2, x3, x4, fun h => x5 (by simp; omega)⟩⟩
      refine Ev.congr (f := fun j => (impl_choose.f j ((setN n).length : Int) ((k : Nat) : Int)).bind fun c => some (c, true)) (fun j => ?_) (Ev.bind (f := fun j (c : Int) => some (c, true)) x1 ⟨0, fun _ _ => rfl⟩)
      unfold impl_CountHands.f
      rw [g2]
      simp only [Option.bind_some, if_true]

end Go.Proofs.Ytafcjfilhdpgdaa.QPureB
