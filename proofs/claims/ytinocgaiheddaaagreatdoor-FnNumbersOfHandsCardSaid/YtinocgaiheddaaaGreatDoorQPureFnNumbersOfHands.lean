/- For every input the law FnNumbersOfHands answers true: the plain statement over lists and numbers. No conditions. -/
import Derived.Test.YtinocgaiheddaaaGreatDoorQFnNumbersOfHandsx1
import Derived.Test.YtinocgaiheddaaaGreatDoorQFnNumbersOfHandsx2
import Derived.Test.YtinocgaiheddaaaGreatDoorQFnNumbersOfHandsx3
import Derived.Test.YtinocgaiheddaaaGreatDoorQFnNumbersOfHandsx4
import Derived.Test.YtinocgaiheddaaaGreatDoorQFnNumbersOfHandsx5
import Derived.Test.YtinocgaiheddaaaGreatDoorQFnNumbersOfHandsx6
import Derived.Test.YtinocgaiheddaaaGreatDoorQFnNumbersOfHandsx7
import Derived.Test.YtinocgaiheddaaaGreatDoorQFnNumbersOfHandsx8
import Derived.Test.YtinocgaiheddaaaGreatDoorQFnNumbersOfHandsx9
import Derived.Test.YtinocgaiheddaaaGreatDoorQFnNumbersOfHandsx10
import Derived.Test.YtinocgaiheddaaaGreatDoorQFnNumbersOfHandsx11
import Derived.Test.YtinocgaiheddaaaGreatDoorQFnNumbersOfHandsx12
import Derived.Test.YtinocgaiheddaaaGreatDoorQFnNumbersOfHandsx13
import Derived.Test.YtinocgaiheddaaaGreatDoorQFnNumbersOfHandsx14
import Derived.Test.YtinocgaiheddaaaGreatDoorQFnNumbersOfHandsx15
namespace Go.Proofs.YtinocgaiheddaaaGreatDoor.QPure
open Go.RowKit Go.Proofs.YtinocgaiheddaaaGreatDoor.QFnNumbersOfHands Go.Proofs.YtinocgaiheddaaaGreatDoorW.PrintWords Go.Proofs.YtinocgaiheddaaaGreatDoorW.PrintLast

set_option linter.unusedVariables false
theorem t_ext (x y:S43) (h0:x.f0 = y.f0) (h1:x.f1 = y.f1):x = y:=by
  cases x
  cases y
  simp_all
instance t_dec : DecidableEq S43:=fun x y => if h : x.f0 = y.f0 ∧ x.f1 = y.f1 then isTrue (t_ext x y h.1 h.2) else isFalse (fun e => h (by subst e; exact ⟨rfl,rfl⟩))
theorem t_beq (x y:S43):(x.f0 == y.f0 && (x.f1 == y.f1)) = decide (x = y):=by
  by_cases h:x = y
  · subst h
    simp
  · have:¬ (x.f0 = y.f0 ∧ x.f1 = y.f1):=fun e => h (t_ext x y e.1 e.2)
    rw [decide_eq_false h]
    by_cases h0:x.f0 = y.f0
    · have h1:¬ x.f1 = y.f1:=fun e => this ⟨h0,e⟩
      simp [h1]
    · simp [h0]
theorem t_mid (pre:List S43) (x:S43) (xs:List S43) (d:S43):(pre ++ x :: xs).getD pre.length d = x:=by
  rw [List.getD_eq_getElem?_getD,List.getElem?_append_right (Nat.le_refl _),Nat.sub_self]
  rfl
theorem t_wrap (n:Int) (h : -1000000000 ≤ n) (h':n ≤ 1000000000):wrap64 n = n:=by
  unfold wrap64
  omega

def good (x:S43):Bool:=decide (0 ≤ x.f0) && (decide (x.f0 ≤ x.f1) && decide (x.f1 ≤ 9))
theorem good_iff (x:S43):good x = true ↔ 0 ≤ x.f0 ∧ x.f0 ≤ x.f1 ∧ x.f1 ≤ 9:=by
  unfold good
  simp
theorem tiGood_f (x:S43):spec_tiGood.f x.f0 x.f1 = some (good x):=by
  unfold spec_tiGood.f spec_l1In.f good
  by_cases h1:0 ≤ x.f0
  · have h1':x.f0 ≥ 0:=h1
    rw [if_pos h1']
    by_cases h2:x.f0 ≤ x.f1
    · simp [h1,h2]
    · simp [h1,h2]
  · have h1':¬ x.f0 ≥ 0:=h1
    rw [if_neg h1']
    simp [h1]

theorem place_ev (t:S43):∀ (rest pre:List S43),(pre ++ rest).length ≤ 2000000 → ∃ r:Int,Ev (fun k => spec_tiPlace.l0 k (pre ++ rest) ((pre ++ rest).length:Int) (pre.length:Int) t.f0 t.f1) r ∧ decide (r ≥ 0) = decide (t ∈ rest):=by
  intro rest
  induction rest with
  | nil =>
    intro pre hl
    refine ⟨-1,Ev.step (f:=fun _ => some (-1)) (fun k => ?_) (Ev.now _),by simp⟩
    simp only [spec_tiPlace.l0,List.append_nil]
    rw [if_neg (by omega)]
  | cons x xs ih =>
    intro pre hl
    have hlen:(pre ++ x :: xs).length = pre.length + xs.length + 1:=by simp; omega
    have hget:rd_T43 (pre ++ x :: xs) (pre.length:Int) = x:=by
      unfold rd_T43
      exact t_mid pre x xs _
    by_cases e:x = t
    · refine ⟨(pre.length:Int),Ev.step (f:=fun _ => some (pre.length:Int)) (fun k => ?_) (Ev.now _),by simp [e]⟩
      simp only [spec_tiPlace.l0]
      rw [if_pos (by omega),if_pos (by omega),if_pos (by omega),hget,t_beq,if_pos (by simp [e])]
    · obtain ⟨r,h1,h2⟩:=ih (pre ++ [x]) (by simpa using hl)
      have e1:pre ++ [x] ++ xs = pre ++ x :: xs:=by simp
      rw [e1] at h1
      refine ⟨r,Ev.step (fun k => ?_) h1,by rw [h2]; simp [Ne.symm e]⟩
      simp only [spec_tiPlace.l0]
      rw [if_pos (by omega),if_pos (by omega),if_pos (by omega),hget,t_beq,if_neg (by simp [e]),t_wrap ((pre.length:Int) + 1) (by omega) (by omega)]
      simp
theorem place_f (t:S43) (l:List S43) (hl:l.length ≤ 2000000):∃ r:Int,Ev (fun k => spec_tiPlace.f k l t.f0 t.f1) r ∧ decide (r ≥ 0) = decide (t ∈ l):=place_ev t l [] hl

theorem index_ev (t:S43):∀ (rest pre:List S43),(pre ++ rest).length ≤ 2000000 → ∃ r:Int,Ev (fun k => slices_Index_impl_Tile_impl_Tile.l0 k (pre ++ rest) ((pre ++ rest).length:Int) (pre.length:Int) t.f0 t.f1) r ∧ decide (r ≥ 0) = decide (t ∈ rest):=by
  intro rest
  induction rest with
  | nil =>
    intro pre hl
    refine ⟨-1,Ev.step (f:=fun _ => some (-1)) (fun k => ?_) (Ev.now _),by simp⟩
    simp only [slices_Index_impl_Tile_impl_Tile.l0,List.append_nil]
    rw [if_neg (by omega)]
  | cons x xs ih =>
    intro pre hl
    have hlen:(pre ++ x :: xs).length = pre.length + xs.length + 1:=by simp; omega
    have hget:rd_T43 (pre ++ x :: xs) (pre.length:Int) = x:=by
      unfold rd_T43
      exact t_mid pre x xs _
    by_cases e:t = x
    · refine ⟨(pre.length:Int),Ev.step (f:=fun _ => some (pre.length:Int)) (fun k => ?_) (Ev.now _),by simp [e]⟩
      simp only [slices_Index_impl_Tile_impl_Tile.l0]
      rw [if_pos (by omega),if_pos (by omega),if_pos (by omega),hget,t_beq,if_pos (by simp [e])]
    · obtain ⟨r,h1,h2⟩:=ih (pre ++ [x]) (by simpa using hl)
      have e1:pre ++ [x] ++ xs = pre ++ x :: xs:=by simp
      rw [e1] at h1
      refine ⟨r,Ev.step (fun k => ?_) h1,by rw [h2]; simp [e]⟩
      simp only [slices_Index_impl_Tile_impl_Tile.l0]
      rw [if_pos (by omega),if_pos (by omega),if_pos (by omega),hget,t_beq,if_neg (by simp [e]),t_wrap ((pre.length:Int) + 1) (by omega) (by omega)]
      simp
theorem contains_f (t:S43) (l:List S43) (hl:l.length ≤ 2000000):Ev (fun k => slices_Contains_impl_Tile_impl_Tile.f k l t.f0 t.f1) (decide (t ∈ l)):=by
  obtain ⟨r,h1,h2⟩:=index_ev t l [] hl
  rw [← h2]
  exact Ev.bind (f:=fun _ t177 => (some (decide (t177 ≥ 0)))) h1 ⟨0,fun k _ => rfl⟩

def nd:List S43 → List S43 → Bool
  | _,[] => true
  | pre,x :: xs => !decide (x ∈ pre) && nd (pre ++ [x]) xs
def hb:List S43 → List S43 → Bool
  | _,[] => true
  | pre,x :: xs => good x && (!decide (x ∈ pre) && hb (pre ++ [x]) xs)
theorem hb_nd:∀ (rest pre:List S43),hb pre rest = (rest.all good && nd pre rest):=by
  intro rest
  induction rest with
  | nil => intro pre; rfl
  | cons x xs ih =>
    intro pre
    unfold hb nd
    rw [ih,List.all_cons]
    cases good x <;> cases decide (x ∈ pre) <;> cases xs.all good <;> simp
theorem nd_nodup:∀ (rest pre:List S43),nd pre rest = true → (∀ x ∈ rest,x ∉ pre) ∧ rest.Nodup:=by
  intro rest
  induction rest with
  | nil => intro pre _; exact ⟨(fun x h => by cases h),List.nodup_nil⟩
  | cons x xs ih =>
    intro pre h
    unfold nd at h
    simp only [Bool.and_eq_true,Bool.not_eq_true',decide_eq_false_iff_not] at h
    obtain ⟨h1,h2⟩:=ih _ h.2
    refine ⟨fun y hy => ?_,?_⟩
    · rcases List.mem_cons.1 hy with rfl | hy
      · exact h.1
      · exact fun hp => h1 y hy (List.mem_append_left _ hp)
    · rw [List.nodup_cons]
      exact ⟨fun hx => h1 x hx (by simp),h2⟩

theorem tiHand_ev:∀ (rest pre:List S43),(pre ++ rest).length ≤ 2000000 → Ev (fun k => spec_tiHand.l0 k (pre ++ rest) (pre ++ rest) ((pre ++ rest).length:Int) (pre.length:Int)) (hb pre rest):=by
  intro rest
  induction rest with
  | nil =>
    intro pre hl
    refine Ev.step (f:=fun _ => some true) (fun k => ?_) (Ev.now _)
    simp only [spec_tiHand.l0,List.append_nil]
    rw [if_neg (by omega)]
  | cons x xs ih =>
    intro pre hl
    have hlen:(pre ++ x :: xs).length = pre.length + xs.length + 1:=by simp; omega
    have hget:rd_T43 (pre ++ x :: xs) (pre.length:Int) = x:=by
      unfold rd_T43
      exact t_mid pre x xs _
    have htake:(pre ++ x :: xs).take ((pre.length:Int)).toNat = pre:=by simp
    cases hg:good x
    · refine Ev.step (f:=fun _ => some (hb pre (x :: xs))) (fun k => ?_) (Ev.now _)
      simp only [spec_tiHand.l0]
      rw [if_pos (by omega),if_pos (by omega),if_pos (by omega),hget,tiGood_f,hg]
      simp [hb,hg]
    · obtain ⟨r,h1,h2⟩:=place_f x pre (by omega)
      have e1:pre ++ [x] ++ xs = pre ++ x :: xs:=by simp
      have hi:=ih (pre ++ [x]) (by simpa using hl)
      rw [e1] at hi
      refine Ev.step (f:=fun k => (spec_tiPlace.f k pre x.f0 x.f1).bind fun t123 => (if t123 ≥ 0 then (some false) else (spec_tiHand.l0 k (pre ++ x :: xs) (pre ++ x :: xs) ((pre ++ x :: xs).length:Int) (((pre ++ [x]).length:Nat):Int)))) (fun k => ?_) ?_
      · simp only [spec_tiHand.l0]
        rw [if_pos (by omega),if_pos (by omega),if_pos (by omega),hget,tiGood_f,hg]
        simp only [Option.bind_some,if_true]
        rw [if_pos (by omega),htake,t_wrap ((pre.length:Int) + 1) (by omega) (by omega)]
        simp
      · refine Ev.bind (f:=fun k t123 => (if t123 ≥ 0 then (some false) else (spec_tiHand.l0 k (pre ++ x :: xs) (pre ++ x :: xs) ((pre ++ x :: xs).length:Int) (((pre ++ [x]).length:Nat):Int)))) h1 ?_
        by_cases hm:x ∈ pre
        · have hr:r ≥ 0:=by
            rw [decide_eq_true hm] at h2
            exact of_decide_eq_true h2
          refine ⟨0,fun k _ => ?_⟩
          (try dsimp only)
          rw [if_pos hr]
          simp [hb,hm]
        · have hr:¬ r ≥ 0:=by
            rw [decide_eq_false hm] at h2
            exact of_decide_eq_false h2
          refine Ev.congr (fun k => ?_) (show Ev _ (hb pre (x :: xs)) from by
            have:hb pre (x :: xs) = hb (pre ++ [x]) xs:=by simp [hb,hg,hm]
            rw [this]
            exact hi)
          (try dsimp only)
          rw [if_neg hr]

theorem areDiff_ev:∀ (rest pre:List S43),(pre ++ rest).length ≤ 2000000 → Ev (fun k => impl_areDifferent_impl_Tile.l0 k (pre ++ rest) (pre ++ rest) ((pre ++ rest).length:Int) (pre.length:Int)) (nd pre rest):=by
  intro rest
  induction rest with
  | nil =>
    intro pre hl
    refine Ev.step (f:=fun _ => some true) (fun k => ?_) (Ev.now _)
    simp only [impl_areDifferent_impl_Tile.l0,List.append_nil]
    rw [if_neg (by omega)]
  | cons x xs ih =>
    intro pre hl
    have hlen:(pre ++ x :: xs).length = pre.length + xs.length + 1:=by simp; omega
    have hget:rd_T43 (pre ++ x :: xs) (pre.length:Int) = x:=by
      unfold rd_T43
      exact t_mid pre x xs _
    have htake:(pre ++ x :: xs).take ((pre.length:Int)).toNat = pre:=by simp
    have h1:=contains_f x pre (by omega)
    have e1:pre ++ [x] ++ xs = pre ++ x :: xs:=by simp
    have hi:=ih (pre ++ [x]) (by simpa using hl)
    rw [e1] at hi
    refine Ev.step (f:=fun k => (slices_Contains_impl_Tile_impl_Tile.f k pre x.f0 x.f1).bind fun t184 => (if t184 = true then (some false) else (impl_areDifferent_impl_Tile.l0 k (pre ++ x :: xs) (pre ++ x :: xs) ((pre ++ x :: xs).length:Int) (((pre ++ [x]).length:Nat):Int)))) (fun k => ?_) ?_
    · simp only [impl_areDifferent_impl_Tile.l0]
      rw [if_pos (by omega),if_pos (by omega),if_pos (by omega),if_pos (by omega),hget,htake,t_wrap ((pre.length:Int) + 1) (by omega) (by omega)]
      simp
    · refine Ev.bind (f:=fun k t184 => (if t184 = true then (some false) else (impl_areDifferent_impl_Tile.l0 k (pre ++ x :: xs) (pre ++ x :: xs) ((pre ++ x :: xs).length:Int) (((pre ++ [x]).length:Nat):Int)))) h1 ?_
      by_cases hm:x ∈ pre
      · refine ⟨0,fun k _ => ?_⟩
        simp [nd,hm]
      · refine Ev.congr (fun k => ?_) (show Ev _ (nd pre (x :: xs)) from by
          have:nd pre (x :: xs) = nd (pre ++ [x]) xs:=by simp [nd,hm]
          rw [this]
          exact hi)
        simp only [hm,decide_false,Bool.false_eq_true,if_false]

theorem noTile_good (x:S43):noTile x = !good x:=rfl
theorem any_no (l:List S43):l.any noTile = !l.all good:=by
  induction l with
  | nil => rfl
  | cons x xs ih => rw [List.any_cons,List.all_cons,ih,noTile_good]; cases good x <;> simp

def isH (l:List S43):Bool:=decide (l.length ≤ 55) && (l.all good && nd [] l)
theorem isH_spec (l:List S43) (hl:l.length ≤ 2000000):Ev (fun k => spec_tiHand.f k l) (isH l):=by
  by_cases h:l.length ≤ 55
  · have hi:=tiHand_ev l [] hl
    rw [hb_nd] at hi
    refine Ev.congr (fun k => ?_) (show Ev _ (isH l) from by
      have:isH l = (l.all good && nd [] l):=by simp [isH,h]
      rw [this]
      exact hi)
    unfold spec_tiHand.f
    rw [if_neg (by omega)]
    rfl
  · refine ⟨0,fun k _ => ?_⟩
    show spec_tiHand.f k l = _
    unfold spec_tiHand.f
    rw [if_pos (by omega)]
    simp [isH,h]
theorem isH_impl (l:List S43) (hl:l.length ≤ 2000000):Ev (fun k => impl_IsHand.f k l) (isH l):=by
  by_cases h:l.length ≤ 55
  · cases hg:l.all good
    · refine ⟨0,fun k _ => ?_⟩
      show impl_IsHand.f k l = _
      unfold impl_IsHand.f
      rw [if_pos (by omega),any_no,hg]
      simp [isH,hg]
    · have hi:=areDiff_ev l [] hl
      refine Ev.congr (fun k => ?_) (show Ev _ (isH l) from by
        have:isH l = nd [] l:=by simp [isH,h,hg]
        rw [this]
        exact hi)
      unfold impl_IsHand.f
      rw [if_pos (by omega),any_no,hg]
      simp only [Bool.not_true,Bool.false_eq_true,if_false]
      rfl
  · refine ⟨0,fun k _ => ?_⟩
    show impl_IsHand.f k l = _
    unfold impl_IsHand.f
    rw [if_neg (by omega)]
    simp [isH,h]
theorem isH_true (l:List S43) (h:isH l = true):l.length ≤ 55 ∧ (∀ x ∈ l,good x = true) ∧ l.Nodup:=by
  unfold isH at h
  simp only [Bool.and_eq_true,decide_eq_true_eq] at h
  exact ⟨h.1,List.all_eq_true.1 h.2.1,(nd_nodup l [] h.2.2).2⟩

def lt (x y:S43):Prop:=x.f0 < y.f0 ∨ (x.f0 = y.f0 ∧ x.f1 < y.f1)
theorem lt_irrefl (x:S43):¬ lt x x:=by
  unfold lt
  omega
theorem lt_trans {x y z:S43} (h:lt x y) (k:lt y z):lt x z:=by
  unfold lt at *
  omega
theorem lt_asymm {x y:S43} (h:lt x y):¬ lt y x:=by
  unfold lt at *
  omega
theorem cmpT_neg (x y:S43) (hx:good x = true) (hy:good y = true):cmpT x y < 0 ↔ lt x y:=by
  rw [good_iff] at hx hy
  unfold cmpT lt
  by_cases h:x.f0 = y.f0
  · rw [if_pos h,t_wrap _ (by omega) (by omega)]
    omega
  · rw [if_neg h,t_wrap _ (by omega) (by omega)]
    omega
theorem lt_total (x y:S43) (h:¬ lt x y) (k:x ≠ y):lt y x:=by
  have:¬ (x.f0 = y.f0 ∧ x.f1 = y.f1):=fun e => k (t_ext x y e.1 e.2)
  unfold lt at *
  omega

theorem uniq:∀ (a b:List S43),a.Pairwise lt → b.Pairwise lt → (∀ x,x ∈ a ↔ x ∈ b) → a = b:=by
  intro a
  induction a with
  | nil =>
    intro b _ _ h
    cases b with
    | nil => rfl
    | cons y ys => exact absurd ((h y).2 List.mem_cons_self) (by simp)
  | cons x xs ih =>
    intro b ha hb h
    cases b with
    | nil => exact absurd ((h x).1 List.mem_cons_self) (by simp)
    | cons y ys =>
      rw [List.pairwise_cons] at ha hb
      have e:x = y:=by
        rcases List.mem_cons.1 ((h x).1 List.mem_cons_self) with e | e
        · exact e
        · rcases List.mem_cons.1 ((h y).2 List.mem_cons_self) with e2 | e2
          · exact e2.symm
          · exact absurd (ha.1 y e2) (lt_asymm (hb.1 x e))
      subst e
      congr 1
      refine ih ys ha.2 hb.2 (fun z => ?_)
      constructor
      · intro hz
        rcases List.mem_cons.1 ((h z).1 (List.mem_cons_of_mem _ hz)) with e | e
        · subst e
          exact absurd (ha.1 z hz) (lt_irrefl z)
        · exact e
      · intro hz
        rcases List.mem_cons.1 ((h z).2 (List.mem_cons_of_mem _ hz)) with e | e
        · subst e
          exact absurd (hb.1 z hz) (lt_irrefl z)
        · exact e

theorem sortedT_iff:∀ (l:List S43),(∀ x ∈ l,good x = true) → l.Nodup → (sortedT l = true ↔ l.Pairwise lt):=by
  intro l
  induction l with
  | nil => intro _ _; exact ⟨fun _ => List.Pairwise.nil,fun _ => rfl⟩
  | cons x xs ih =>
    intro hg hn
    rw [List.nodup_cons] at hn
    have hgx:=hg x List.mem_cons_self
    have hi:=ih (fun y hy => hg y (List.mem_cons_of_mem _ hy)) hn.2
    unfold sortedT
    cases xs with
    | nil => simp [sortedT]
    | cons y ys =>
      have hgy:=hg y (by simp)
      simp only [Bool.and_eq_true,Bool.not_eq_true',decide_eq_false_iff_not]
      rw [hi,cmpT_neg y x hgy hgx]
      constructor
      · rintro ⟨h1,h2⟩
        have hxy:lt x y:=lt_total y x h1 (fun e => hn.1 (by rw [← e]; exact List.mem_cons_self))
        refine List.pairwise_cons.2 ⟨fun z hz => ?_,h2⟩
        rcases List.mem_cons.1 hz with rfl | hz
        · exact hxy
        · exact lt_trans hxy ((List.pairwise_cons.1 h2).1 z hz)
      · intro h
        obtain ⟨h1,h2⟩:=List.pairwise_cons.1 h
        exact ⟨lt_asymm (h1 y List.mem_cons_self),h2⟩

def code (l:List S43):List (Int × Int):=l.map fun t => (t.f0,t.f1)
def lst (n:Nat):List (Int × Int):=(List.range (n + 1)).flatMap fun a => (List.range (n + 1 - a)).map fun b => ((a:Int),((a + b:Nat):Int))
theorem whole:∃ A:List S43,Ev (fun k => spec_tiSet.f k 9) A ∧ A.length = 55 ∧ A.Pairwise lt ∧ (∀ x,x ∈ A ↔ good x = true):=by
  have h2:((spec_tiSet.f 100 9).map code) = some (lst 9):=by decide +kernel
  obtain ⟨A,hA,hc⟩:=Option.map_eq_some_iff.1 h2
  have hl:(lst 9).length = 55:=by decide +kernel
  have hp:(lst 9).Pairwise (fun x y => x.1 < y.1 ∨ (x.1 = y.1 ∧ x.2 < y.2)):=by decide +kernel
  have hg:∀ p ∈ lst 9,0 ≤ p.1 ∧ p.1 ≤ p.2 ∧ p.2 ≤ 9:=by decide +kernel
  have hall:∀ a:Fin 10,∀ b:Fin 10,a.val ≤ b.val → (((a.val:Nat):Int),((b.val:Nat):Int)) ∈ lst 9:=by decide +kernel
  generalize lst 9 = P at hc hl hp hg hall
  subst hc
  refine ⟨A,Ev.of (fun k => spec_tiSet.mono _ k) hA,?_,?_,fun x => ?_⟩
  · unfold code at hl
    rw [List.length_map] at hl
    exact hl
  · unfold code at hp
    rw [List.pairwise_map] at hp
    exact hp
  · constructor
    · intro hx
      rw [good_iff]
      exact hg (x.f0,x.f1) (by unfold code; exact List.mem_map.2 ⟨x,hx,rfl⟩)
    · intro hx
      rw [good_iff] at hx
      have:=hall ⟨x.f0.toNat,by omega⟩ ⟨x.f1.toNat,by omega⟩ (by simp; omega)
      simp only at this
      rw [Int.toNat_of_nonneg (by omega),Int.toNat_of_nonneg (by omega)] at this
      unfold code at this
      obtain ⟨y,hy,e⟩:=List.mem_map.1 this
      simp only [Prod.mk.injEq] at e
      have:y = x:=t_ext y x e.1 e.2
      rw [← this]
      exact hy

theorem pick_ev (l:List S43) (hl:l.length ≤ 2000000) (b:Bool):∀ (rest pre out:List S43),(pre ++ rest).length ≤ 1000 → out.length ≤ pre.length →
    Ev (fun k => spec_tiPick.l0 k l b out (pre ++ rest) ((pre ++ rest).length:Int) (pre.length:Int)) (out ++ rest.filter fun x => decide (x ∈ l) == b):=by
  intro rest
  induction rest with
  | nil =>
    intro pre out h1 h2
    refine Ev.step (f:=fun _ => some (out ++ [])) (fun k => ?_) (Ev.now _)
    simp only [spec_tiPick.l0,List.append_nil]
    rw [if_neg (by omega)]
  | cons x xs ih =>
    intro pre out h1 h2
    have hlen:(pre ++ x :: xs).length = pre.length + xs.length + 1:=by simp; omega
    have hget:rd_T43 (pre ++ x :: xs) (pre.length:Int) = x:=by
      unfold rd_T43
      exact t_mid pre x xs _
    obtain ⟨r,p1,p2⟩:=place_f x l hl
    have e1:pre ++ [x] ++ xs = pre ++ x :: xs:=by simp
    refine Ev.step (f:=fun k => (spec_tiPlace.f k l x.f0 x.f1).bind fun t135 => (if ((decide (t135 ≥ 0)) == b) = true then (spec_tiPick.l0 k l b (out ++ [x]) (pre ++ x :: xs) ((pre ++ x :: xs).length:Int) (((pre ++ [x]).length:Nat):Int)) else (spec_tiPick.l0 k l b out (pre ++ x :: xs) ((pre ++ x :: xs).length:Int) (((pre ++ [x]).length:Nat):Int)))) (fun k => ?_) ?_
    · simp only [spec_tiPick.l0]
      rw [if_pos (by omega),if_pos (by omega),if_pos (by omega),hget,t_wrap ((pre.length:Int) + 1) (by omega) (by omega),if_pos (by omega)]
      simp
    · refine Ev.bind (f:=fun k t135 => (if ((decide (t135 ≥ 0)) == b) = true then (spec_tiPick.l0 k l b (out ++ [x]) (pre ++ x :: xs) ((pre ++ x :: xs).length:Int) (((pre ++ [x]).length:Nat):Int)) else (spec_tiPick.l0 k l b out (pre ++ x :: xs) ((pre ++ x :: xs).length:Int) (((pre ++ [x]).length:Nat):Int)))) p1 ?_
      rw [List.filter_cons]
      cases hd:(decide (x ∈ l) == b)
      · have hi:=ih (pre ++ [x]) out (by simpa using h1) (by simp; omega)
        rw [e1] at hi
        refine Ev.congr (fun k => ?_) (by simpa using hi)
        (try dsimp only)
        rw [p2,hd]
        simp
      · have hi:=ih (pre ++ [x]) (out ++ [x]) (by simpa using h1) (by simp; omega)
        rw [e1] at hi
        refine Ev.congr (fun k => ?_) (by simpa using hi)
        (try dsimp only)
        rw [p2,hd]
        simp

theorem len_le:∀ (a b:List S43),a.Nodup → (∀ x,x ∈ a → x ∈ b) → a.length ≤ b.length:=by
  intro a
  induction a with
  | nil => intro b _ _; simp
  | cons x xs ih =>
    intro b hn h
    rw [List.nodup_cons] at hn
    have hx:=h x List.mem_cons_self
    have:=ih (b.erase x) hn.2 (fun y hy => (List.mem_erase_of_ne (fun e => hn.1 (by rw [← e]; exact hy))).2 (h y (List.mem_cons_of_mem _ hy)))
    rw [List.length_erase_of_mem hx] at this
    have hp:0 < b.length:=List.length_pos_of_mem hx
    simp
    omega
theorem len_eq (a b:List S43) (ha:a.Nodup) (hb:b.Nodup) (h:∀ x,x ∈ a ↔ x ∈ b):a.length = b.length :=
  Nat.le_antisymm (len_le a b ha (fun x hx => (h x).1 hx)) (len_le b a hb (fun x hx => (h x).2 hx))

theorem sort_f (l:List S43) (h:isH l = true):∃ s:List S43,Ev (fun k => spec_tiSort.f k l) s ∧ s.length = l.length ∧ s.Pairwise lt ∧ (∀ x,x ∈ s ↔ x ∈ l) ∧ decide (s = l) = sortedT l:=by
  obtain ⟨h1,h2,h3⟩:=isH_true l h
  obtain ⟨A,hA,hl,hp,hm⟩:=whole
  have hk:=pick_ev l (by omega) true A [] [] (by simp; omega) (by simp)
  simp only [List.nil_append] at hk
  have hmem:∀ x,x ∈ A.filter (fun x => decide (x ∈ l) == true) ↔ x ∈ l:=by
    intro x
    rw [List.mem_filter,hm]
    constructor
    · rintro ⟨_,h⟩
      simpa using h
    · intro h
      exact ⟨h2 x h,by simp [h]⟩
  have hps:=hp.filter (fun x => decide (x ∈ l) == true)
  have hnd:∀ (s:List S43),s.Pairwise lt → s.Nodup:=fun s hs => hs.imp (fun {a b} hab e => by subst e; exact lt_irrefl a hab)
  refine ⟨A.filter (fun x => decide (x ∈ l) == true),?_,?_,hps,hmem,?_⟩
  · refine Ev.congr (fun k => ?_) (Ev.bind (f:=fun k t130 => (spec_tiPick.l0 k l true [] t130 (t130.length:Int) 0)) hA hk)
    unfold spec_tiSort.f spec_tiPick.f
    cases spec_tiSet.f k 9 with
    | none => rfl
    | some t =>
      simp only [Option.bind_some]
      cases spec_tiPick.l0 k l true [] t (t.length:Int) 0 with
      | none => rfl
      | some u => rfl
  · exact len_eq _ _ (hnd _ hps) h3 hmem
  · by_cases e:A.filter (fun x => decide (x ∈ l) == true) = l
    · rw [decide_eq_true e]
      rw [e] at hps
      exact ((sortedT_iff l h2 h3).2 hps).symm
    · rw [decide_eq_false e]
      cases hs:sortedT l
      · rfl
      · exact absurd (uniq _ _ hps ((sortedT_iff l h2 h3).1 hs) hmem) e
theorem msort_lt (l:List S43) (h:l.Nodup):(msort l).Pairwise lt:=by
  have hp:(msort l).Pairwise fun x y => (!ltT y x) = true:=by
    refine List.pairwise_mergeSort ?_ ?_ l
    · intro a b c h1 h2
      simp only [Bool.not_eq_true',ltT_no] at *
      omega
    · intro a b
      cases h1:ltT b a
      · rfl
      · have h2:=(ltT_iff _ _).1 h1
        have:ltT a b = false:=(ltT_no _ _).2 (by omega)
        rw [this]
        rfl
  have hn:(msort l).Nodup:=(List.mergeSort_perm l _).nodup_iff.2 h
  refine List.Pairwise.imp₂ (fun a b h1 h2 => ?_) hp hn
  have h3:=(ltT_no _ _).1 (by simpa using h1)
  refine lt_total b a h3 (fun e => h2 e.symm)
def tileOf (x y:Int):S43:=⟨mn x y,mx x y⟩
theorem tiOf_f (x y:Int):spec_tiOf.f x y = some ((tileOf x y).f0,(tileOf x y).f1):=by
  unfold spec_tiOf.f spec_l1Least.f spec_l1Most.f tileOf mn mx
  by_cases h:x < y
  · rw [if_pos h,if_neg (by omega)]
    simp [h]
    omega
  · by_cases h2:x > y
    · rw [if_neg h,if_pos h2]
      simp [h]
      omega
    · have:x = y:=by omega
      subst this
      simp
theorem d_bits (E:Int) (h0:0 ≤ E) (h1:E ≤ 18446744073709551615):0 ≤ Go.bits .and .u64 E 255 ∧ Go.bits .and .u64 E 255 ≤ 255:=by
  have h:=bits_and_u64_nat E.toNat 255 (by omega) (by omega)
  rw [Int.toNat_of_nonneg h0] at h
  have h2:(E.toNat &&& 255) ≤ 255:=Nat.and_le_right
  have h3:Go.bits .and .u64 E 255 = ((E.toNat &&& 255:Nat):Int):=h
  omega
theorem d_w (n:Int) (h : -1000000000 ≤ n) (h':n ≤ 1000000000):wrap64 n = n:=by
  unfold wrap64
  omega
theorem d_rd (l:List Int) (hl:∀ x ∈ l,0 ≤ x ∧ x ≤ 255) (p:Int):0 ≤ rd l p ∧ rd l p ≤ 255:=by
  unfold rd
  rw [List.getD_eq_getElem?_getD]
  by_cases h:p.toNat < l.length
  · rw [List.getElem?_eq_getElem h]
    exact hl _ (List.getElem_mem _)
  · rw [List.getElem?_eq_none (by omega)]
    simp
theorem d_next (l:List Int) (hl:∀ x ∈ l,0 ≤ x ∧ x ≤ 255) (p s:Int) (hp:0 ≤ p ∧ p ≤ 1000000):∃ v s',spec_l1Cur_next.f l p s = some (v,p + 1,s') ∧ 0 ≤ v ∧ v ≤ 255:=by
  have h:=d_rd l hl p
  have hb:∀ n:Int,0 ≤ wrap64 (Go.bits .and .u64 (IntKind.u64.wrap n / 1099511627776) 255) ∧ wrap64 (Go.bits .and .u64 (IntKind.u64.wrap n / 1099511627776) 255) ≤ 255:=by
    intro n
    have h:=d_bits (IntKind.u64.wrap n / 1099511627776) (by rw [IntKind.wrap_u64]; omega) (by rw [IntKind.wrap_u64]; omega)
    rw [d_w _ (by omega) (by omega)]
    exact h
  unfold spec_l1Cur_next.f
  rw [d_w (p + 1) (by omega) (by omega)]
  by_cases h1:p < (l.length:Int)
  · rw [if_pos h1,if_pos hp.1]
    by_cases h2:p + 1 ≤ (l.length:Int)
    · rw [if_pos h2]
      exact ⟨_,_,rfl,by rw [d_w _ (by omega) (by omega)]; exact h⟩
    · rw [if_neg h2]
      exact ⟨_,_,rfl,hb _⟩
  · rw [if_neg h1]
    by_cases h2:p + 1 ≤ (l.length:Int)
    · rw [if_pos h2]
      exact ⟨_,_,rfl,by omega,by omega⟩
    · rw [if_neg h2]
      exact ⟨_,_,rfl,hb _⟩
theorem d_pick (l:List Int) (hl:∀ x ∈ l,0 ≤ x ∧ x ≤ 255) (p s:Int) (hp:0 ≤ p ∧ p ≤ 100000) (a:Int) (ha:1 ≤ a):∃ v p' s',spec_l1Cur_pick.f l p s a = some (v,p',s') ∧ 0 ≤ v ∧ v < a ∧ 0 ≤ p' ∧ p' ≤ p + 2:=by
  unfold spec_l1Cur_pick.f
  by_cases h1:a ≤ 1
  · rw [if_pos h1]
    exact ⟨0,p,s,rfl,by omega,by omega,by omega,by omega⟩
  · rw [if_neg h1]
    obtain ⟨v,s1,e1,v0,v1⟩:=d_next l hl p s (by omega)
    rw [e1]
    simp only [Option.bind_some]
    by_cases h2:a > 200
    · rw [if_pos h2]
      obtain ⟨u,s2,e2,u0,u1⟩:=d_next l hl (p + 1) s1 (by omega)
      rw [e2]
      simp only [Option.bind_some]
      rw [if_neg (by omega),d_w (v * 256) (by omega) (by omega),d_w _ (by omega) (by omega)]
      exact ⟨_,_,_,rfl,Int.tmod_nonneg _ (by omega),Int.tmod_lt_of_pos _ (by omega),by omega,by omega⟩
    · rw [if_neg h2,if_neg (by omega)]
      exact ⟨_,_,_,rfl,Int.tmod_nonneg _ (by omega),Int.tmod_lt_of_pos _ (by omega),by omega,by omega⟩
theorem d_among (l:List Int) (hl:∀ x ∈ l,0 ≤ x ∧ x ≤ 255) (p s:Int) (hp:0 ≤ p ∧ p ≤ 100000) (xs:List Int) (hx:1 ≤ xs.length):∃ v p' s',spec_l1Cur_among.f l p s xs = some (v,p',s') ∧ 0 ≤ p' ∧ p' ≤ p + 2:=by
  unfold spec_l1Cur_among.f
  obtain ⟨v,q,s1,e1,v0,v1,q0,q1⟩:=d_pick l hl p s hp (xs.length:Int) (by omega)
  rw [e1]
  simp only [Option.bind_some]
  rw [if_pos v0,if_pos v1]
  exact ⟨_,_,_,rfl,q0,q1⟩
theorem d_one (l:List Int) (hl:∀ x ∈ l,0 ≤ x ∧ x ≤ 255) (p s:Int) (hp:0 ≤ p ∧ p ≤ 100000) (a:Int) (ha:1 ≤ a):∃ v p' s',spec_l1Cur_one.f l p s a = some (v,p',s') ∧ 0 ≤ p' ∧ p' ≤ p + 2:=by
  unfold spec_l1Cur_one.f
  obtain ⟨v,q,s1,e1,v0,v1,q0,q1⟩:=d_pick l hl p s hp a ha
  rw [e1]
  exact ⟨_,_,_,rfl,q0,q1⟩
theorem d_sureHandLoop (l:List Int) (hl:∀ x ∈ l,0 ≤ x ∧ x ≤ 255) (m:Int) (hm:0 ≤ m ∧ m ≤ 9):∀ (n:Nat) (c:List S43) (p s:Int),c.length + n ≤ 100 → 0 ≤ p → p + 4 * n ≤ 100000 →
    ∃ c' p' s',Ev (fun k => spec_l1Cur_sureHand.l0 k m c (n:Int) l p s) (c',p',s') ∧ c'.length ≤ c.length + n ∧ 0 ≤ p' ∧ p' ≤ p + 4 * n:=by
  intro n
  induction n with
  | zero =>
    intro c p s h1 h3 h4
    refine ⟨c,p,s,Ev.step (f:=fun _ => some (c,p,s)) (fun k => ?_) (Ev.now _),by omega,h3,by omega⟩
    simp only [spec_l1Cur_sureHand.l0]
    rw [if_neg (by omega)]
  | succ n ih =>
    intro c p s h1 h3 h4
    obtain ⟨v,q,s1,e1,v0,v1,q0,q1⟩:=d_pick l hl p s (by omega) (m + 1) (by omega)
    obtain ⟨u,q',s2,e2,u0,u1,r0,r1⟩:=d_pick l hl q s1 (by omega) (m + 1) (by omega)
    obtain ⟨r,hr,_⟩:=place_f (tileOf v u) c (by omega)
    have hw:wrap64 (m + 1) = m + 1:=t_wrap _ (by omega) (by omega)
    have hn:((n + 1:Nat):Int) - 1 = (n:Int):=by omega
    have hw2:wrap64 (((n + 1:Nat):Int) - 1) = (n:Int):=by rw [hn]; exact t_wrap _ (by omega) (by omega)
    have st:∀ R,Ev (fun k => (spec_tiPlace.f k c (tileOf v u).f0 (tileOf v u).f1).bind fun t351 => (if t351 < 0 then (spec_l1Cur_sureHand.l0 k m (c ++ [tileOf v u]) (n:Int) l q' s2) else (spec_l1Cur_sureHand.l0 k m c (n:Int) l q' s2))) R → Ev (fun k => spec_l1Cur_sureHand.l0 k m c ((n + 1:Nat):Int) l p s) R:=fun R h => by
      refine Ev.step (fun k => ?_) h
      simp only [spec_l1Cur_sureHand.l0]
      rw [if_pos (by omega),hw,e1,hw2]
      simp only [Option.bind_some]
      rw [e2]
      simp only [Option.bind_some,tiOf_f]
      rw [if_pos (show c.length < 8796093022208 from by omega)]
    by_cases hb:r < 0
    · obtain ⟨c',p',s',g1,g3,g4,g5⟩:=ih (c ++ [tileOf v u]) q' s2 (by simp; omega) r0 (by omega)
      exact ⟨c',p',s',st _ (Ev.bind (f:=fun k t => _) hr (by simpa [hb] using g1)),by simp at g3; omega,g4,by omega⟩
    · obtain ⟨c',p',s',g1,g3,g4,g5⟩:=ih c q' s2 (by omega) r0 (by omega)
      exact ⟨c',p',s',st _ (Ev.bind (f:=fun k t => _) hr (by simpa [hb] using g1)),by omega,g4,by omega⟩
theorem d_sureHand (l:List Int) (hl:∀ x ∈ l,0 ≤ x ∧ x ≤ 255) (a m:Int) (ha:0 ≤ a ∧ a ≤ 20) (hm:0 ≤ m ∧ m ≤ 9) (p s:Int) (hp:0 ≤ p ∧ p ≤ 10000) :
    ∃ c' p' s',Ev (fun k => spec_l1Cur_sureHand.f k l p s a m) (c',p',s') ∧ c'.length ≤ 20 ∧ 0 ≤ p' ∧ p' ≤ p + 90:=by
  obtain ⟨u,q',s2,e2,u0,u1,r0,r1⟩:=d_pick l hl p s (by omega) (a + 1) (by omega)
  obtain ⟨c',p',s',g1,g3,g4,g5⟩:=d_sureHandLoop l hl m hm u.toNat [] q' s2 (by simp; omega) r0 (by omega)
  refine ⟨c',p',s',?_,by simp at g3; omega,g4,by omega⟩
  unfold spec_l1Cur_sureHand.f
  rw [t_wrap (a + 1) (by omega) (by omega),e2]
  simp only [Option.bind_some]
  rw [Int.toNat_of_nonneg u0] at g1
  exact g1
theorem d_tile (l:List Int) (hl:∀ x ∈ l,0 ≤ x ∧ x ≤ 255) (p s:Int) (hp:0 ≤ p ∧ p ≤ 10000):∃ x y p' s',spec_l1Cur_tile.f l p s = some (x,y,p',s') ∧ 0 ≤ p' ∧ p' ≤ p + 6:=by
  unfold spec_l1Cur_tile.f
  obtain ⟨b,q,s1,e1,q0,q1⟩:=d_one l hl p s (by omega) 10 (by omega)
  rw [e1]
  simp only [Option.bind_some]
  cases b
  · obtain ⟨v,q2,s2,e2,_,_,a2,b2⟩:=d_pick l hl q s1 (by omega) 10 (by omega)
    obtain ⟨u,q3,s3,e3,_,_,a3,b3⟩:=d_pick l hl q2 s2 (by omega) 10 (by omega)
    simp only [Bool.false_eq_true,if_false,e2,Option.bind_some,e3,tiOf_f]
    exact ⟨_,_,_,_,rfl,a3,by omega⟩
  · obtain ⟨v,q2,s2,e2,a2,b2⟩:=d_among l hl q s1 (by omega) [(-1),3,9,10] (by simp)
    obtain ⟨u,q3,s3,e3,a3,b3⟩:=d_among l hl q2 s2 (by omega) [2,9,10,4611686018427387904] (by simp)
    simp only [if_true,e2,Option.bind_some,e3]
    exact ⟨_,_,_,_,rfl,a3,by omega⟩
theorem d_sets:∀ n:Fin 10,((spec_tiSet.f 100 ((n.val:Nat):Int)).map fun A => decide (A.length ≤ 60)) = some true:=by decide +kernel
theorem d_set (v:Int) (h0:0 ≤ v) (h1:v < 10):∃ A:List S43,Ev (fun k => spec_tiSet.f k v) A ∧ A.length ≤ 60:=by
  have h:=d_sets ⟨v.toNat,by omega⟩
  simp only [Int.toNat_of_nonneg h0] at h
  obtain ⟨A,hA,hd⟩:=Option.map_eq_some_iff.1 h
  exact ⟨A,Ev.of (fun k => spec_tiSet.mono _ k) hA,of_decide_eq_true hd⟩
theorem d_hand (l:List Int) (hl:∀ x ∈ l,0 ≤ x ∧ x ≤ 255) (a m:Int) (ha:0 ≤ a ∧ a ≤ 20) (hm:0 ≤ m ∧ m ≤ 9) (p s:Int) (hp:0 ≤ p ∧ p ≤ 9000) :
    ∃ c' p' s',Ev (fun k => spec_l1Cur_hand.f k l p s a m) (c',p',s') ∧ c'.length ≤ 100 ∧ 0 ≤ p' ∧ p' ≤ p + 100:=by
  obtain ⟨c,q,s1,g1,g3,g4,g5⟩:=d_sureHand l hl a m ha hm p s (by omega)
  obtain ⟨v,q',s2,e1,v0,v1,q0,q1⟩:=d_pick l hl q s1 (by omega) 18 (by omega)
  unfold spec_l1Cur_hand.f
  by_cases h0:v = 0
  · obtain ⟨x,y,q2,s3,e2,r0,r1⟩:=d_tile l hl q' s2 (by omega)
    refine ⟨c ++ [⟨x,y⟩],q2,s3,Ev.bind (f:=fun k (b:List S43 × Int × Int) => _) g1 ⟨0,fun k _ => ?_⟩,by simp; omega,r0,by omega⟩
    simp only [e1,Option.bind_some]
    rw [if_pos h0,e2]
    simp only [Option.bind_some]
    rw [if_pos (by omega)]
  · by_cases h1:v = 1
    · by_cases hc:(c.length:Int) > 0
      · refine ⟨c ++ [⟨(rd_T43 c 0).f0,(rd_T43 c 0).f1⟩],q',s2,Ev.bind (f:=fun k (b:List S43 × Int × Int) => _) g1 ⟨0,fun k _ => ?_⟩,by simp; omega,q0,by omega⟩
        simp only [e1,Option.bind_some]
        rw [if_neg h0,if_pos h1,if_pos hc,if_pos (by omega),if_pos (by omega)]
      · refine ⟨c,q',s2,Ev.bind (f:=fun k (b:List S43 × Int × Int) => _) g1 ⟨0,fun k _ => ?_⟩,by omega,q0,by omega⟩
        simp only [e1,Option.bind_some]
        rw [if_neg h0,if_pos h1,if_neg hc]
    · by_cases h2:v = 2
      · obtain ⟨u,q3,s3,e3,u0,u1,a3,b3⟩:=d_pick l hl q' s2 (by omega) 10 (by omega)
        obtain ⟨A,hA,hA2⟩:=d_set u u0 u1
        refine ⟨A,q3,s3,Ev.bind (f:=fun k (b:List S43 × Int × Int) => _) g1 ?_,by omega,a3,by omega⟩
        simp only [e1,Option.bind_some,if_neg h0,if_neg h1,if_pos h2,e3]
        exact Ev.bind (f:=fun k (t:List S43) => _) hA ⟨0,fun k _ => rfl⟩
      · by_cases h3:v = 3
        · obtain ⟨A,hA,hA2⟩:=d_set 9 (by omega) (by omega)
          refine ⟨A ++ [⟨0,0⟩],q',s2,Ev.bind (f:=fun k (b:List S43 × Int × Int) => _) g1 ?_,by simp; omega,q0,by omega⟩
          simp only [e1,Option.bind_some,if_neg h0,if_neg h1,if_neg h2,if_pos h3]
          exact Ev.bind (f:=fun k (t:List S43) => _) hA ⟨0,fun k _ => by rw [if_pos (by omega)]⟩
        · refine ⟨c,q',s2,Ev.bind (f:=fun k (b:List S43 × Int × Int) => _) g1 ⟨0,fun k _ => ?_⟩,by omega,q0,by omega⟩
          simp only [e1,Option.bind_some]
          rw [if_neg h0,if_neg h1,if_neg h2,if_neg h3]
theorem rd_at' (A:List S43) (x:S43) (r:List S43):rd_T43 (A ++ x :: r) (A.length:Int) = x:=by
  unfold rd_T43
  exact t_mid A x r _
theorem msort_mem (l:List S43) (x:S43):x ∈ msort l ↔ x ∈ l:=(List.mergeSort_perm l _).mem_iff
theorem msort_len (l:List S43):(msort l).length = l.length:=(List.mergeSort_perm l _).length_eq
theorem nd_lt {l:List S43} (h:l.Pairwise lt):l.Nodup:=h.imp (fun {a b} hab e => by subst e; exact lt_irrefl a hab)
theorem sorted_i (l:List S43) (h2:∀ x ∈ l,good x = true) (hl:l.length ≤ 2000000):impl_sorted.f l = some (msort l):=by
  unfold impl_sorted.f slices_Clone_impl_Tile_impl_Tile.f
  rw [if_pos (by omega)]
  simp only [Option.bind_some]
  rw [if_pos (List.all_eq_true.2 (fun x hx => by rw [smallT_iff]; have:=(good_iff x).1 (h2 x hx); omega))]
def qN (n:Int) (x:S43):Bool:=!(x.f0 == n || x.f1 == n)
theorem prN (x:S43) (n:Int):Ev (fun k => g78_impl_kept_1.f k x.f0 x.f1 n) (qN n x):=by
  refine ⟨0,fun k _ => ?_⟩
  by_cases h1:x.f0 = n <;> simp [g78_impl_kept_1.f,g48_impl_WithNumber_1.f,impl_Tile_has.f,qN,h1]
theorem ixN (b:Int):∀ (rest pre:List S43),(pre ++ rest).length ≤ 2000000 → ∃ r:Int,Ev (fun k => g73_impl_Tile.l0 k (pre ++ rest) b ((pre ++ rest).length:Int) (pre.length:Int)) r ∧ ((r = -1 ∧ ∀ x ∈ rest,qN b x = false) ∨ ∃ A x R,rest = A ++ x :: R ∧ r = ((pre.length + A.length:Nat):Int) ∧ qN b x = true ∧ ∀ y ∈ A,qN b y = false):=by
  intro rest
  induction rest with
  | nil =>
    intro pre hl
    refine ⟨-1,Ev.step (f:=fun _ => some (-1)) (fun k => ?_) (Ev.now _),.inl ⟨rfl,fun x hx => by cases hx⟩⟩
    simp only [g73_impl_Tile.l0,List.append_nil]
    rw [if_neg (by omega)]
  | cons x xs ih =>
    intro pre hl
    have hlen:(pre ++ x :: xs).length = pre.length + xs.length + 1:=by simp; omega
    have hget:rd_T43 (pre ++ x :: xs) (pre.length:Int) = x:=by
      unfold rd_T43
      exact t_mid pre x xs _
    have e1:pre ++ [x] ++ xs = pre ++ x :: xs:=by simp
    cases hq:qN b x
    · obtain ⟨r,h1,h2⟩:=ih (pre ++ [x]) (by rw [e1]; exact hl)
      rw [e1] at h1
      refine ⟨r,Ev.step (f:=fun k => (g78_impl_kept_1.f k x.f0 x.f1 b).bind fun t => if t = true then some (pre.length:Int) else g73_impl_Tile.l0 k (pre ++ x :: xs) b ((pre ++ x :: xs).length:Int) (((pre ++ [x]).length:Nat):Int)) (fun k => ?_) (Ev.bind (f:=fun k t => if t = true then some (pre.length:Int) else g73_impl_Tile.l0 k (pre ++ x :: xs) b ((pre ++ x :: xs).length:Int) (((pre ++ [x]).length:Nat):Int)) (prN x b) (by rw [hq]; exact h1)),?_⟩
      · simp only [g73_impl_Tile.l0]
        rw [if_pos (by omega),if_pos (by omega),if_pos (by omega),hget,t_wrap ((pre.length:Int) + 1) (by omega) (by omega)]
        simp
      · rcases h2 with ⟨rfl,h2⟩ | ⟨A,y,R,rfl,rfl,h2,h3⟩
        · refine .inl ⟨rfl,fun y hy => ?_⟩
          rcases List.mem_cons.1 hy with rfl | hy
          · exact hq
          · exact h2 y hy
        · refine .inr ⟨x :: A,y,R,rfl,by simp; omega,h2,fun z hz => ?_⟩
          rcases List.mem_cons.1 hz with rfl | hz
          · exact hq
          · exact h3 z hz
    · refine ⟨(pre.length:Int),Ev.step (f:=fun k => (g78_impl_kept_1.f k x.f0 x.f1 b).bind fun t => if t = true then some (pre.length:Int) else g73_impl_Tile.l0 k (pre ++ x :: xs) b ((pre ++ x :: xs).length:Int) (((pre ++ [x]).length:Nat):Int)) (fun k => ?_) (Ev.bind (f:=fun k t => if t = true then some (pre.length:Int) else g73_impl_Tile.l0 k (pre ++ x :: xs) b ((pre ++ x :: xs).length:Int) (((pre ++ [x]).length:Nat):Int)) (prN x b) (by rw [hq]; exact Ev.now _)),.inr ⟨[],x,xs,rfl,rfl,hq,fun y hy => by cases hy⟩⟩
      simp only [g73_impl_Tile.l0]
      rw [if_pos (by omega),if_pos (by omega),if_pos (by omega),hget,t_wrap ((pre.length:Int) + 1) (by omega) (by omega)]
      simp
theorem goN (b:Int):∀ (rest A G:List S43),G ≠ [] → (A ++ (G ++ rest)).length ≤ 2000000 → Ev (fun k => g77_impl_Tile.l0 k (A ++ (G ++ rest)) b (A.length:Int) ((A.length + G.length:Nat):Int)) (A ++ rest.filter fun x => !qN b x):=by
  intro rest
  induction rest with
  | nil =>
    intro A G hG hl
    have hg:0 < G.length:=List.length_pos_iff.2 hG
    have hlen:(A ++ (G ++ [])).length = A.length + G.length:=by simp
    refine Ev.step (f:=fun _ => some (A ++ [].filter fun x => !qN b x)) (fun k => ?_) (Ev.now _)
    simp only [g77_impl_Tile.l0]
    rw [if_neg (by omega),if_pos (by omega),if_pos (by omega),if_pos (by simp; omega)]
    simp
  | cons x xs ih =>
    intro A G hG hl
    obtain ⟨g,G',rfl⟩ : ∃ g G',G = g :: G':=by cases G with | nil => exact absurd rfl hG | cons g G' => exact ⟨g,G',rfl⟩
    have hlen:(A ++ (g :: G' ++ x :: xs)).length = A.length + G'.length + xs.length + 2:=by simp; omega
    have hget:rd_T43 (A ++ (g :: G' ++ x :: xs)) ((A.length + (g :: G').length:Nat):Int) = x:=by
      have:=t_mid (A ++ g :: G') x xs z43
      unfold rd_T43
      rw [show A ++ (g :: G' ++ x :: xs) = (A ++ g :: G') ++ x :: xs by simp,show ((A.length + (g :: G').length:Nat):Int).toNat = (A ++ g :: G').length by rw [Int.toNat_natCast]; simp]
      exact this
    refine Ev.step (f:=fun k => (g78_impl_kept_1.f k x.f0 x.f1 b).bind fun t => if t = true then g77_impl_Tile.l0 k (A ++ (g :: G' ++ x :: xs)) b (A.length:Int) ((A.length + (g :: (G' ++ [x])).length:Nat):Int) else g77_impl_Tile.l0 k (A ++ [x] ++ (G' ++ [x] ++ xs)) b ((A ++ [x]).length:Int) (((A ++ [x]).length + (G' ++ [x]).length:Nat):Int)) (fun k => ?_) ?_
    · simp only [g77_impl_Tile.l0]
      rw [if_pos (by simp only [List.length_cons]; omega),if_pos (by omega),hget,t_wrap ((A.length:Int) + 1) (by omega) (by omega),t_wrap (((A.length + (g :: G').length:Nat):Int) + 1) (by omega) (by simp only [List.length_cons]; omega),if_pos (by omega),if_pos (by omega)]
      congr 1
      funext t
      have e2:(A ++ (g :: G' ++ x :: xs)).set (A.length:Int).toNat x = A ++ [x] ++ (G' ++ [x] ++ xs):=by
        rw [Int.toNat_natCast,List.set_append_right _ _ (Nat.le_refl _)]
        simp
      rw [show (⟨x.f0,x.f1⟩ : S43) = x from rfl,e2]
      rw [show ((A.length:Int) + 1) = ((A ++ [x]).length:Int) by simp,show (((A.length + (g :: G').length:Nat):Int) + 1) = (((A ++ [x]).length + (G' ++ [x]).length:Nat):Int) by simp; omega,show ((A.length + (g :: (G' ++ [x])).length:Nat):Int) = (((A ++ [x]).length + (G' ++ [x]).length:Nat):Int) by simp; omega]
    · cases hq:qN b x
      · have:=ih (A ++ [x]) (G' ++ [x]) (by simp) (by simp at hl ⊢; omega)
        rw [show (x :: xs).filter (fun x => !qN b x) = x :: xs.filter (fun x => !qN b x) by simp [hq]]
        refine Ev.bind (f:=fun k t => if t = true then g77_impl_Tile.l0 k (A ++ (g :: G' ++ x :: xs)) b (A.length:Int) ((A.length + (g :: (G' ++ [x])).length:Nat):Int) else g77_impl_Tile.l0 k (A ++ [x] ++ (G' ++ [x] ++ xs)) b ((A ++ [x]).length:Int) (((A ++ [x]).length + (G' ++ [x]).length:Nat):Int)) (prN x b) ?_
        rw [hq]
        simpa using this
      · have:=ih A (g :: (G' ++ [x])) (by simp) (by simp at hl ⊢; omega)
        rw [show (x :: xs).filter (fun x => !qN b x) = xs.filter (fun x => !qN b x) by simp [hq]]
        refine Ev.bind (f:=fun k t => if t = true then g77_impl_Tile.l0 k (A ++ (g :: G' ++ x :: xs)) b (A.length:Int) ((A.length + (g :: (G' ++ [x])).length:Nat):Int) else g77_impl_Tile.l0 k (A ++ [x] ++ (G' ++ [x] ++ xs)) b ((A ++ [x]).length:Int) (((A ++ [x]).length + (G' ++ [x]).length:Nat):Int)) (prN x b) ?_
        rw [hq]
        simpa using this
theorem delN (b:Int) (l:List S43) (hl:l.length ≤ 2000000):Ev (fun k => g77_impl_Tile.f k l b) (l.filter fun x => !qN b x):=by
  obtain ⟨r,h1,h2⟩:=ixN b l [] hl
  refine Ev.bind (f:=fun k (b1:Int) => if b1 = (-1) then some l else g77_impl_Tile.l0 k l b b1 (wrap64 (b1 + 1))) h1 ?_
  rcases h2 with ⟨rfl,h2⟩ | ⟨A,x,R,rfl,rfl,h2,h3⟩
  · rw [List.filter_eq_self.2 (fun x hx => by rw [h2 x hx]; rfl)]
    exact Ev.congr (fun k => if_pos rfl) (Ev.now _)
  · have:=goN b R A [x] (by simp) (by simpa using hl)
    have hlen:(A ++ x :: R).length = A.length + R.length + 1:=by simp; omega
    refine Ev.congr (fun k => if_neg (by simp only [List.length_nil]; omega)) ?_
    rw [t_wrap _ (by omega) (by simp only [List.length_nil]; omega)]
    rw [show (A ++ x :: R).filter (fun x => !qN b x) = A ++ R.filter (fun x => !qN b x) by
      rw [List.filter_append,List.filter_eq_self.2 (fun y hy => by rw [h3 y hy]; rfl)]
      simp [h2]]
    simpa using this
theorem ev_up {α:Type} {g:Nat → Option α} {r:α} {K:Nat} (h:∀ k,K ≤ k → g (k + 1) = some r):Ev g r :=
  ⟨K + 1,fun k hk => by
    obtain ⟨m,rfl⟩ : ∃ m,k = m + 1:=⟨k - 1,by omega⟩
    exact h m (by omega)⟩
theorem nd_of:∀ (rest pre:List S43),(∀ x ∈ rest,x ∉ pre) → rest.Nodup → nd pre rest = true
  | [],_,_,_ => rfl
  | x :: xs,pre,h,hn => by
    rw [List.nodup_cons] at hn
    simp only [nd,Bool.and_eq_true,Bool.not_eq_true',decide_eq_false_iff_not]
    refine ⟨h x List.mem_cons_self,nd_of xs _ (fun y hy hm => ?_) hn.2⟩
    rcases List.mem_append.1 hm with hm | hm
    · exact h y (List.mem_cons_of_mem _ hy) hm
    · rw [List.mem_singleton] at hm
      subst hm
      exact hn.1 hy
theorem isH_of (l:List S43) (h1:l.length ≤ 55) (h2:∀ x ∈ l,good x = true) (h3:l.Nodup):isH l = true:=by
  unfold isH
  simp only [Bool.and_eq_true,decide_eq_true_eq,List.all_eq_true]
  exact ⟨h1,h2,nd_of l [] (fun _ _ h => by cases h) h3⟩
theorem isH_lt (l a:List S43) (ha:isH a = true) (h:l.Pairwise lt) (hm:∀ x ∈ l,x ∈ a):isH l = true:=by
  obtain ⟨h1,h2,h3⟩:=isH_true a ha
  exact isH_of l (Nat.le_trans (len_le l a (nd_lt h) hm) h1) (fun x hx => h2 x (hm x hx)) (nd_lt h)
theorem isH_msort (a:List S43) (ha:isH a = true):isH (msort a) = true:=isH_lt _ a ha (msort_lt a (isH_true a ha).2.2) (fun x hx => (msort_mem a x).1 hx)
theorem tiSort_f (a:List S43) (ha:isH a = true):Ev (fun k => spec_tiSort.f k a) (msort a):=by
  obtain ⟨s,h1,h2,h3,h4,_⟩:=sort_f a ha
  have:msort a = s:=uniq _ _ (msort_lt a (isH_true a ha).2.2) h3 (fun x => by rw [h4,msort_mem])
  rw [this]
  exact h1
theorem mTiles_ev:∀ (rest pre:List S43),(pre ++ rest).length ≤ 2000000 → Ev (fun k => laws_mTiles.l0 k (pre ++ rest) (pre ++ rest) ((pre ++ rest).length:Int) (pre.length:Int)) true:=by
  intro rest
  induction rest with
  | nil =>
    intro pre hl
    refine Ev.step (f:=fun _ => some true) (fun k => ?_) (Ev.now _)
    simp only [laws_mTiles.l0,List.append_nil]
    rw [if_neg (by omega)]
  | cons x xs ih =>
    intro pre hl
    have hlen:(pre ++ x :: xs).length = pre.length + xs.length + 1:=by simp; omega
    have e1:pre ++ [x] ++ xs = pre ++ x :: xs:=by simp
    have:=ih (pre ++ [x]) (by rw [e1]; exact hl)
    rw [e1] at this
    refine Ev.step (fun k => ?_) this
    simp only [laws_mTiles.l0]
    rw [if_pos (by omega),if_pos (by omega),if_pos (by omega),if_pos (by omega),if_neg (by simp),t_wrap ((pre.length:Int) + 1) (by omega) (by omega)]
    simp
theorem mTiles_f (l:List S43) (hl:l.length ≤ 2000000):Ev (fun k => laws_mTiles.f k l l) true:=by
  refine Ev.congr (fun k => ?_) (mTiles_ev l [] hl)
  unfold laws_mTiles.f
  rw [if_pos rfl]
  rfl
theorem mHas_ev (t:S43):∀ (rest pre:List S43),(pre ++ rest).length ≤ 2000000 → Ev (fun k => laws_mHas.l0 k (pre ++ rest) ((pre ++ rest).length:Int) (pre.length:Int) t.f0 t.f1) (decide (t ∈ rest)):=by
  intro rest
  induction rest with
  | nil =>
    intro pre hl
    refine Ev.step (f:=fun _ => some (decide (t ∈ ([] : List S43)))) (fun k => ?_) (Ev.now _)
    simp only [laws_mHas.l0,List.append_nil]
    rw [if_neg (by omega)]
    simp
  | cons x xs ih =>
    intro pre hl
    have hlen:(pre ++ x :: xs).length = pre.length + xs.length + 1:=by simp; omega
    have hget:rd_T43 (pre ++ x :: xs) (pre.length:Int) = x:=rd_at' pre x xs
    have e1:pre ++ [x] ++ xs = pre ++ x :: xs:=by simp
    by_cases e:x = t
    · refine Ev.step (f:=fun _ => some (decide (t ∈ x :: xs))) (fun k => ?_) (Ev.now _)
      simp only [laws_mHas.l0]
      rw [if_pos (by omega),if_pos (by omega),if_pos (by omega),hget,t_beq,if_pos (by simp [e])]
      simp [e]
    · have:=ih (pre ++ [x]) (by rw [e1]; exact hl)
      rw [e1,show decide (t ∈ xs) = decide (t ∈ x :: xs) by simp [List.mem_cons,show ¬ t = x from fun h => e h.symm]] at this
      refine Ev.step (fun k => ?_) this
      simp only [laws_mHas.l0]
      rw [if_pos (by omega),if_pos (by omega),if_pos (by omega),hget,t_beq,if_neg (by simp [e]),t_wrap ((pre.length:Int) + 1) (by omega) (by omega)]
      simp
theorem mHas_f (t:S43) (l:List S43) (hl:l.length ≤ 2000000):Ev (fun k => laws_mHas.f k l t.f0 t.f1) (decide (t ∈ l)):=mHas_ev t l [] hl
theorem number_i (n:Int):impl_isNumber.f n = some (decide (0 ≤ n ∧ n ≤ 9)):=by
  unfold impl_isNumber.f impl_within.f
  by_cases h:0 ≤ n <;> simp [h]
theorem number_s (n:Int):spec_tiNumber.f n = some (decide (0 ≤ n ∧ n ≤ 9)):=by
  unfold spec_tiNumber.f spec_l1In.f
  by_cases h:0 ≤ n
  · have h':n ≥ 0:=h
    simp [h,h']
  · have h':¬ n ≥ 0:=h
    rw [if_neg h']
    simp [h]
theorem count_nd:∀ (l:List S43) (x:S43),l.Nodup → l.count x = if x ∈ l then 1 else 0
  | [],x,_ => by simp
  | y :: l,x,h => by
    rw [List.nodup_cons] at h
    rw [List.count_cons,count_nd l x h.2]
    by_cases e:y = x
    · subst e
      simp [h.1]
    · have e':¬ x = y:=fun q => e q.symm
      simp [e,e']
theorem d_number (l:List Int) (hl:∀ x ∈ l,0 ≤ x ∧ x ≤ 255) (p s:Int) (hp:0 ≤ p ∧ p ≤ 1000):∃ v p' s',spec_l1Cur_number.f l p s = some (v,p',s') ∧ 0 ≤ p' ∧ p' ≤ p + 4:=by
  unfold spec_l1Cur_number.f
  obtain ⟨b,q,s1,e1,q0,q1⟩:=d_one l hl p s (by omega) 12 (by omega)
  rw [e1]
  simp only [Option.bind_some]
  cases b
  · obtain ⟨v,q2,s2,e2,_,_,r0,r1⟩:=d_pick l hl q s1 (by omega) 8 (by omega)
    simp only [Bool.false_eq_true,if_false]
    rw [e2]
    exact ⟨v,q2,s2,rfl,by omega,by omega⟩
  · obtain ⟨v,q2,s2,e2,r0,r1⟩:=d_among l hl q s1 (by omega) [(-1),9,10,4611686018427387904] (by simp)
    simp only [if_true]
    rw [e2]
    exact ⟨v,q2,s2,rfl,by omega,by omega⟩
theorem wf_u8 (l:List Int) (h:∀ x_ ∈ l,(Lit.int .u8 x_).wf = true):∀ x ∈ l,0 ≤ x ∧ x ≤ 255:=by
  intro x hx
  have h1:(decide (IntKind.u8.min ≤ x) && decide (x ≤ IntKind.u8.max)) = true:=h x hx
  have h2:IntKind.u8.min = 0:=by decide
  have h3:IntKind.u8.max = 255:=by decide
  rw [h2,h3] at h1
  simpa using h1
theorem i_mid (pre:List Int) (x:Int) (xs:List Int):rd (pre ++ x :: xs) (pre.length:Int) = x:=by
  unfold rd
  rw [show ((pre.length:Int)).toNat = pre.length from rfl,List.getD_eq_getElem?_getD,List.getElem?_append_right (Nat.le_refl _),Nat.sub_self]
  rfl
theorem any_out (lo hi:Int) (l:List Int):(!(l.any fun n => !inB lo hi n)) = l.all (inB lo hi):=by
  induction l with
  | nil => rfl
  | cons x xs ih => rw [List.any_cons,List.all_cons,← ih]; cases inB lo hi x <;> simp
theorem inB_iff (lo hi n:Int):inB lo hi n = true ↔ lo ≤ n ∧ n ≤ hi:=by
  unfold inB
  simp
def cut1 (c:UInt8):List UInt8 → List UInt8 × List UInt8 × Bool
  | [] => ([],[],false)
  | b :: l => if b = c then ([],l,true) else (b :: (cut1 c l).1,(cut1 c l).2.1,(cut1 c l).2.2)
theorem index_one (c:UInt8):∀ l:List UInt8,(Lib.index l [c] = -1 ∧ cut1 c l = (l,[],false)) ∨ (0 ≤ Lib.index l [c] ∧ cut1 c l = (l.take (Lib.index l [c]).toNat,l.drop ((Lib.index l [c]).toNat + 1),true))
  | [] => .inl ⟨rfl,rfl⟩
  | b :: l => by
    by_cases h:b = c
    · refine .inr ?_
      have e:Lib.index (b :: l) [c] = 0:=by simp [Lib.index,h]
      rw [e]
      simp [cut1,h]
    · have hp:([c] : List UInt8).isPrefixOf (b :: l) = false:=by
        simp [List.isPrefixOf,Ne.symm h]
      rcases index_one c l with ⟨h1,h2⟩ | ⟨h1,h2⟩
      · refine .inl ⟨by simp only [Lib.index,hp,h1]; rfl,?_⟩
        simp [cut1,h,h2]
      · refine .inr ?_
        have e:Lib.index (b :: l) [c] = Lib.index l [c] + 1:=by
          have hn:(Lib.index l [c] == -1) = false:=beq_eq_false_iff_ne.2 (by omega)
          simp only [Lib.index,hp,hn]
          rfl
        rw [e]
        refine ⟨by omega,?_⟩
        have e2:(Lib.index l [c] + 1).toNat = (Lib.index l [c]).toNat + 1:=by omega
        rw [e2]
        simp only [cut1,h,if_false,h2,List.take_succ_cons,List.drop_succ_cons]
def sp1 (c:UInt8):List UInt8 → List (List UInt8)
  | [] => [[]]
  | b :: l => if b = c then [] :: sp1 c l else (match sp1 c l with | [] => [[b]] | x :: xs => (b :: x) :: xs)
theorem sp1_cut (c:UInt8):∀ l:List UInt8,sp1 c l = if (cut1 c l).2.2 = true then (cut1 c l).1 :: sp1 c (cut1 c l).2.1 else [(cut1 c l).1]
  | [] => rfl
  | b :: l => by
    by_cases h:b = c
    · simp [sp1,cut1,h]
    · have ih:=sp1_cut c l
      simp only [sp1,cut1,h,if_false]
      rw [ih]
      cases h2:(cut1 c l).2.2 <;> simp
theorem split_sp (c:UInt8) (sep:ByteArray) (hsep:sep.data.toList = [c]):∀ (k:Nat) (s:ByteArray),Lib.countB s sep = k → (Lib.splitB sep 0 k s).map (·.data.toList) = sp1 c s.data.toList:=by
  have h1:1 ≤ sep.size:=by
    have:=Lib.size_eq sep
    rw [hsep] at this
    simp at this
    omega
  have hsz:sep.size = 1:=by
    have:=Lib.size_eq sep
    rw [hsep] at this
    simpa using this
  intro k
  induction k with
  | zero =>
    intro s hk
    rw [Lib.splitB_zero,sp1_cut]
    rcases index_one c s.data.toList with ⟨_,h3⟩ | ⟨h2,h3⟩
    · rw [h3]
      rfl
    · exfalso
      have hi:Lib.indexB s sep = ((Lib.indexB s sep).toNat:Nat):=by
        show Lib.index s.data.toList sep.data.toList = ((Lib.index s.data.toList sep.data.toList).toNat:Nat)
        rw [hsep]
        omega
      have:=Lib.countB_hit s sep _ h1 hi
      omega
  | succ k ih =>
    intro s hk
    rw [sp1_cut]
    rcases index_one c s.data.toList with ⟨h2,h3⟩ | ⟨h2,h3⟩
    · exfalso
      have hm:Lib.indexB s sep = -1:=by
        show Lib.index s.data.toList sep.data.toList = -1
        rw [hsep]
        exact h2
      have:=Lib.countB_miss s sep hm
      omega
    · have hi:Lib.indexB s sep = ((Lib.index s.data.toList [c]).toNat:Nat):=by
        show Lib.index s.data.toList sep.data.toList = _
        rw [hsep]
        omega
      have hc:=Lib.countB_hit s sep _ h1 hi
      rw [Lib.splitB_hit sep 0 k s _ hi,List.map_cons,ih _ (by omega),h3]
      simp only [if_true,hsz]
      congr 1
      · rw [Lib.extract_from_zero]
        rfl
      · rw [Lib.extract_to_end]
theorem bt_is (s:ByteArray) (i:Nat) (c:UInt8) (r:List UInt8) (h:s.data.toList.drop i = c :: r):bt s (i:Int) = (c.toNat:Int):=by
  have h2:s.data.toList[i]? = some c:=by
    have:=congrArg (fun l => l[0]?) h
    simpa [List.getElem?_drop] using this
  have hl:i < s.size:=by
    rw [Lib.size_eq]
    exact (List.getElem?_eq_some_iff.1 h2).1
  have h3:s[i]'hl = c:=by
    have h4:=(List.getElem?_eq_some_iff.1 h2).2
    rw [← h4]
    rfl
  unfold bt
  simp only [Int.toNat_natCast]
  rw [dif_pos hl,h3]
def pcs (c:UInt8) (s:List UInt8) (j i:Nat):List (List UInt8):=match sp1 c (s.drop i) with
  | [] => []
  | x :: xs => ((s.drop j).take (i - j) ++ x) :: xs
theorem sp1_ne (c:UInt8):∀ l,sp1 c l ≠ []
  | [] => by simp [sp1]
  | b :: l => by
    unfold sp1
    split
    · simp
    · split <;> simp
theorem l1Split_ev (s:ByteArray) (hs:s.size ≤ 1000000):∀ (d i j:Nat) (o:List ByteArray),i + d = s.size → j ≤ i → o.length ≤ i →
    ∃ R:List ByteArray,Ev (fun k => spec_l1Split.l0 k s 44 o (j:Int) (i:Int)) R ∧ R.map (·.data.toList) = o.map (·.data.toList) ++ pcs 44 s.data.toList j i:=by
  intro d
  induction d with
  | zero =>
    intro i j o h1 h2 h3
    have hi:i = s.size:=by omega
    subst hi
    refine ⟨o ++ [s.extract j s.size],Ev.step (f:=fun _ => some (o ++ [s.extract j s.size])) (fun k => ?_) (Ev.now _),?_⟩
    · simp only [spec_l1Split.l0]
      rw [if_neg (by omega),if_pos (by omega),if_pos (by omega),if_pos (by omega)]
      rfl
    · have hd:s.data.toList.drop s.size = []:=List.drop_eq_nil_of_le (by rw [← Lib.size_eq]; exact Nat.le_refl _)
      simp only [List.map_append,List.map_cons,List.map_nil,pcs,hd,sp1,List.append_nil]
      rw [Lib.extract_to_end]
      congr 2
      exact (List.take_of_length_le (by rw [List.length_drop,← Lib.size_eq]; exact Nat.le_refl _)).symm
  | succ d ih =>
    intro i j o h1 h2 h3
    have hlt:i < s.data.toList.length:=by rw [← Lib.size_eq]; omega
    have hdrop:=List.drop_eq_getElem_cons hlt
    have hb:=bt_is s i _ _ hdrop
    have htk:(s.data.toList.drop j).take (i + 1 - j) = (s.data.toList.drop j).take (i - j) ++ [s.data.toList[i]]:=by
      have e:i + 1 - j = (i - j) + 1:=by omega
      rw [e,List.take_add_one,List.getElem?_drop]
      have e2:j + (i - j) = i:=by omega
      rw [e2,List.getElem?_eq_getElem hlt]
      rfl
    by_cases hc:s.data.toList[i] = 44
    · obtain ⟨R,r1,r2⟩:=ih (i + 1) (i + 1) (o ++ [s.extract j i]) (by omega) (Nat.le_refl _) (by simp; omega)
      refine ⟨R,Ev.step (fun k => ?_) r1,?_⟩
      · simp only [spec_l1Split.l0]
        rw [if_pos (by omega),if_pos (by omega),hb,hc,if_pos (by rfl),if_pos (by omega),if_pos (by omega),if_pos (by omega),if_pos (by omega),t_wrap ((i:Int) + 1) (by omega) (by omega)]
        rfl
      · rw [r2]
        simp only [pcs,hdrop,hc,sp1,if_true,List.map_append,List.map_cons,List.map_nil,List.append_nil,List.append_assoc]
        congr 1
        obtain ⟨x,xs,hx⟩:=List.exists_cons_of_ne_nil (sp1_ne 44 (s.data.toList.drop (i + 1)))
        rw [hx]
        simp only [Nat.sub_self,List.take_zero,List.nil_append,List.singleton_append]
        congr 1
        rw [Lib.extract_data]
    · obtain ⟨R,r1,r2⟩:=ih (i + 1) j o (by omega) (by omega) (by omega)
      refine ⟨R,Ev.step (fun k => ?_) r1,?_⟩
      · simp only [spec_l1Split.l0]
        rw [if_pos (by omega),if_pos (by omega),hb,if_neg (by
          intro e
          apply hc
          have:s.data.toList[i].toNat = 44:=by omega
          exact UInt8.toNat_inj.1 this),t_wrap ((i:Int) + 1) (by omega) (by omega)]
        rfl
      · rw [r2]
        congr 1
        simp only [pcs,hdrop,hc,sp1,if_false]
        obtain ⟨x,xs,hx⟩:=List.exists_cons_of_ne_nil (sp1_ne 44 (s.data.toList.drop (i + 1)))
        rw [hx,htk]
        simp
theorem sp1_sum (c:UInt8):∀ l:List UInt8,((sp1 c l).map (fun x => x.length + 1)).sum = l.length + 1
  | [] => rfl
  | b :: l => by
    have ih:=sp1_sum c l
    by_cases h:b = c
    · simp only [sp1,h,if_true,List.map_cons,List.sum_cons,ih,List.length_nil,List.length_cons]
      omega
    · obtain ⟨x,xs,hx⟩:=List.exists_cons_of_ne_nil (sp1_ne c l)
      rw [hx] at ih
      simp only [List.map_cons,List.sum_cons] at ih
      simp only [sp1,h,if_false,hx,List.map_cons,List.sum_cons,List.length_cons]
      omega
theorem sum_two:∀ L:List (List UInt8),(∀ x ∈ L,x.length = 2) → (L.map (fun x => x.length + 1)).sum = 3 * L.length
  | [],_ => rfl
  | x :: xs,h => by
    have ih:=sum_two xs (fun y hy => h y (List.mem_cons_of_mem _ hy))
    have hx:=h x List.mem_cons_self
    simp only [List.map_cons,List.sum_cons,List.length_cons,ih,hx]
    omega
theorem rdOf_mid (pre:List ByteArray) (x:ByteArray) (xs:List ByteArray):rdOf ByteArray.empty (pre ++ x :: xs) (pre.length:Int) = x:=by
  unfold rdOf
  simp
theorem hand_bad:∀ (rest pre:List ByteArray) (o:List S43),pre.length + rest.length ≤ 2000000 → o.length ≤ pre.length → (∃ x ∈ o,good x = false) →
    Ev (fun k => impl_ParseHand.l0 k o (pre ++ rest) ((pre.length + rest.length:Nat):Int) (pre.length:Int)) (([] : List S43),false):=by
  intro rest
  induction rest with
  | nil =>
    intro pre o h1 h2 ⟨x,hx,hg⟩
    have hn:isH o = false:=by
      have:o.all good = false:=by
        rw [List.all_eq_false]
        exact ⟨x,hx,by simp [hg]⟩
      simp [isH,this]
    have hi:=isH_impl o (by omega)
    rw [hn] at hi
    refine Ev.step (f:=fun k => (impl_IsHand.f k o).bind fun t219 => (if t219 = true then (some (o,true)) else (some (([] : List S43),false)))) (fun k => ?_) (Ev.bind (f:=fun _ (t:Bool) => (if t = true then (some (o,true)) else (some (([] : List S43),false)))) hi ⟨0,fun k _ => rfl⟩)
    simp only [impl_ParseHand.l0,List.length_nil,List.append_nil]
    rw [if_neg (by omega)]
  | cons b bs ih =>
    intro pre o h1 h2 hb
    have hl2:(b :: bs).length = bs.length + 1:=rfl
    have hlen:(pre ++ b :: bs).length = pre.length + bs.length + 1:=by simp; omega
    by_cases hz:(b.size:Int) = 2
    · have hi:=ih (pre ++ [b]) (o ++ [(⟨wrap64 ((wrap64 (bt b 0)) - 48),wrap64 ((wrap64 (bt b 1)) - 48)⟩ : S43)]) (by simp; omega) (by simp; omega) (by
        obtain ⟨x,hx,hg⟩:=hb
        exact ⟨x,List.mem_append_left _ hx,hg⟩)
      have e2:(pre ++ [b]).length + bs.length = pre.length + (b :: bs).length:=by simp; omega
      rw [e2] at hi
      refine Ev.step (fun k => ?_) hi
      simp only [impl_ParseHand.l0]
      rw [rdOf_mid,if_pos (by omega),if_pos (by omega),if_pos (by omega),if_pos hz,if_pos (by omega),if_pos (by omega),if_pos (by omega),t_wrap ((pre.length:Int) + 1) (by omega) (by omega)]
      simp
    · refine Ev.step (f:=fun _ => some (([] : List S43),false)) (fun k => ?_) (Ev.now _)
      simp only [impl_ParseHand.l0]
      rw [rdOf_mid,if_pos (by omega),if_pos (by omega),if_pos (by omega),if_neg hz]
theorem hand_both:∀ (rest pre:List ByteArray) (o:List S43),pre.length + rest.length ≤ 2000000 → o.length ≤ pre.length →
    ∃ r:List S43 × Bool,Ev (fun k => spec_tiParse.l0 k o (pre ++ rest) ((pre.length + rest.length:Nat):Int) (pre.length:Int)) r ∧
      Ev (fun k => impl_ParseHand.l0 k o (pre ++ rest) ((pre.length + rest.length:Nat):Int) (pre.length:Int)) r ∧ (r.2 = false → r.1 = []) ∧ (r.2 = true → isH r.1 = true ∧ ∃ l,r.1 = o ++ l ∧ l.length = rest.length ∧ ∀ i,∀ h:i < rest.length,∃ t:S43,l[i]? = some t ∧ (rest[i]).size = 2 ∧ bt rest[i] 0 = t.f0 + 48 ∧ bt rest[i] 1 = t.f1 + 48):=by
  intro rest
  induction rest with
  | nil =>
    intro pre o h1 h2
    have hs:=isH_spec o (by omega)
    have hi:=isH_impl o (by omega)
    refine ⟨if isH o = true then (o,true) else ([],false),?_,?_,?_,?_⟩
    · refine Ev.step (f:=fun k => (spec_tiHand.f k o).bind fun t127 => (if t127 = true then (some (o,true)) else (some (([] : List S43),false)))) (fun k => ?_) (Ev.bind (f:=fun _ (t:Bool) => (if t = true then (some (o,true)) else (some (([] : List S43),false)))) hs ⟨0,fun k _ => ?_⟩)
      · simp only [spec_tiParse.l0,List.length_nil,List.append_nil]
        rw [if_neg (by omega)]
      · cases isH o <;> rfl
    · refine Ev.step (f:=fun k => (impl_IsHand.f k o).bind fun t127 => (if t127 = true then (some (o,true)) else (some (([] : List S43),false)))) (fun k => ?_) (Ev.bind (f:=fun _ (t:Bool) => (if t = true then (some (o,true)) else (some (([] : List S43),false)))) hi ⟨0,fun k _ => ?_⟩)
      · simp only [impl_ParseHand.l0,List.length_nil,List.append_nil]
        rw [if_neg (by omega)]
      · cases isH o <;> rfl
    · cases h:isH o <;> simp
    · cases h:isH o
      · simp
      · simp [h]
  | cons b bs ih =>
    intro pre o h1 h2
    have hl2:(b :: bs).length = bs.length + 1:=rfl
    have hlen:(pre ++ b :: bs).length = pre.length + bs.length + 1:=by simp; omega
    have r0:=bt_range b 0
    have r1:=bt_range b 1
    by_cases hz:(b.size:Int) = 2
    · have e2:(pre ++ [b]).length + bs.length = pre.length + (b :: bs).length:=by simp; omega
      have w0:wrap64 ((wrap64 (bt b 0)) - 48) = bt b 0 - 48:=by rw [t_wrap (bt b 0) (by omega) (by omega),t_wrap _ (by omega) (by omega)]
      have w1:wrap64 ((wrap64 (bt b 1)) - 48) = bt b 1 - 48:=by rw [t_wrap (bt b 1) (by omega) (by omega),t_wrap _ (by omega) (by omega)]
      have himp:∀ R,Ev (fun k => impl_ParseHand.l0 k (o ++ [(⟨bt b 0 - 48,bt b 1 - 48⟩ : S43)]) (pre ++ b :: bs) ((pre.length + (b :: bs).length:Nat):Int) ((pre.length + 1:Nat):Int)) R → Ev (fun k => impl_ParseHand.l0 k o (pre ++ b :: bs) ((pre.length + (b :: bs).length:Nat):Int) (pre.length:Int)) R:=by
        intro R hR
        refine Ev.step (fun k => ?_) hR
        simp only [impl_ParseHand.l0]
        rw [rdOf_mid,if_pos (by omega),if_pos (by omega),if_pos (by omega),if_pos hz,if_pos (by omega),if_pos (by omega),if_pos (by omega),t_wrap ((pre.length:Int) + 1) (by omega) (by omega),w0,w1]
        rfl
      have e3:pre ++ [b] ++ bs = pre ++ b :: bs:=by simp
      by_cases hd:(48 ≤ bt b 0 ∧ bt b 0 ≤ 57) ∧ (48 ≤ bt b 1 ∧ bt b 1 ≤ 57)
      · obtain ⟨r,i1,i2,i3,i4⟩:=ih (pre ++ [b]) (o ++ [(⟨bt b 0 - 48,bt b 1 - 48⟩ : S43)]) (by simp; omega) (by simp; omega)
        rw [e2,e3] at i1 i2
        have e4:(((pre ++ [b]).length:Nat):Int) = ((pre.length + 1:Nat):Int):=by simp
        rw [e4] at i1 i2
        refine ⟨r,Ev.step (fun k => ?_) i1,himp r i2,i3,fun h => ?_⟩
        · simp only [spec_tiParse.l0]
          rw [rdOf_mid,if_pos (by omega),if_pos (by omega),if_pos (by omega),if_pos hz,if_pos (by omega),if_neg (by omega),if_neg (by omega),if_pos (by omega),if_neg (by omega),if_neg (by omega),if_pos (by omega),t_wrap ((pre.length:Int) + 1) (by omega) (by omega),show (bt b 0 - 48) % 256 = bt b 0 - 48 from by omega,show (bt b 1 - 48) % 256 = bt b 1 - 48 from by omega]
          rfl
        · obtain ⟨j1,l,j2,j3,j4⟩:=i4 h
          refine ⟨j1,(⟨bt b 0 - 48,bt b 1 - 48⟩ : S43) :: l,by rw [j2]; simp,by simp [j3],fun i hi => ?_⟩
          cases i with
          | zero => exact ⟨_,rfl,by simp; omega,by simp,by simp⟩
          | succ i =>
            obtain ⟨t,t1,t2,t3,t4⟩:=j4 i (by simpa using hi)
            exact ⟨t,by simpa using t1,by simpa using t2,by simpa using t3,by simpa using t4⟩
      · refine ⟨([],false),?_,himp _ ?_,fun _ => rfl,fun h => by cases h⟩
        · refine Ev.step (f:=fun _ => some (([] : List S43),false)) (fun k => ?_) (Ev.now _)
          simp only [spec_tiParse.l0]
          rw [rdOf_mid,if_pos (by omega),if_pos (by omega),if_pos (by omega),if_pos hz,if_pos (by omega)]
          by_cases c1:bt b 0 < 48
          · rw [if_pos c1]
          · rw [if_neg c1]
            by_cases c2:bt b 0 > 57
            · rw [if_pos c2]
            · rw [if_neg c2,if_pos (by omega)]
              by_cases c3:bt b 1 < 48
              · rw [if_pos c3]
              · rw [if_neg c3,if_pos (by omega)]
        · have hbad:=hand_bad bs (pre ++ [b]) (o ++ [(⟨bt b 0 - 48,bt b 1 - 48⟩ : S43)]) (by simp; omega) (by simp; omega) ⟨⟨bt b 0 - 48,bt b 1 - 48⟩,by simp,by
            rw [Bool.eq_false_iff]
            intro hg
            have:=(good_iff _).1 hg
            simp only at this
            omega⟩
          rw [e2,e3] at hbad
          have e4:(((pre ++ [b]).length:Nat):Int) = ((pre.length + 1:Nat):Int):=by simp
          rw [e4] at hbad
          exact hbad
    · refine ⟨([],false),?_,?_,fun _ => rfl,fun h => by cases h⟩
      · refine Ev.step (f:=fun _ => some (([] : List S43),false)) (fun k => ?_) (Ev.now _)
        simp only [spec_tiParse.l0]
        rw [rdOf_mid,if_pos (by omega),if_pos (by omega),if_pos (by omega),if_neg hz]
      · refine Ev.step (f:=fun _ => some (([] : List S43),false)) (fun k => ?_) (Ev.now _)
        simp only [impl_ParseHand.l0]
        rw [rdOf_mid,if_pos (by omega),if_pos (by omega),if_pos (by omega),if_neg hz]
theorem data_inj (a b:ByteArray) (h:a.data.toList = b.data.toList):a = b:=by
  cases a; cases b
  simpa using h
theorem datas_inj:∀ (A B:List ByteArray),A.map (fun x => x.data.toList) = B.map (fun x => x.data.toList) → A = B
  | [],[],_ => rfl
  | [],_ :: _,h => by simp at h
  | _ :: _,[],h => by simp at h
  | a :: A,b :: B,h => by
    simp only [List.map_cons,List.cons.injEq] at h
    rw [data_inj a b h.1,datas_inj A B h.2]
def dgt (t:S43):List UInt8:=[UInt8.ofNat (t.f0 + 48).toNat,UInt8.ofNat (t.f1 + 48).toNat]
theorem two_bytes (b:ByteArray) (t:S43) (hs:b.size = 2) (h0:bt b 0 = t.f0 + 48) (h1:bt b 1 = t.f1 + 48):b.data.toList = dgt t:=by
  have hl:b.data.toList.length = 2:=by rw [← Lib.size_eq]; exact hs
  match hb:b.data.toList,hl with
  | [x,y],_ =>
    have e0:=bt_is b 0 x [y] (by rw [hb]; rfl)
    have e1:=bt_is b 1 y [] (by rw [hb]; rfl)
    unfold dgt
    have f0:(t.f0 + 48).toNat = x.toNat:=by
      have:bt b ((0:Nat):Int) = t.f0 + 48:=h0
      omega
    have f1:(t.f1 + 48).toNat = y.toNat:=by
      have:bt b ((1:Nat):Int) = t.f1 + 48:=h1
      omega
    rw [f0,f1]
    simp
theorem head_both (a:ByteArray) (ha:a.size ≤ 1048576):∃ r:List S43 × Bool,Ev (fun k => spec_tiParse.f k a) r ∧ Ev (fun k => impl_ParseHand.f k a) r ∧ (r.2 = false → r.1 = []) ∧
    (r.2 = true → isH r.1 = true ∧ ((a.toList = [45] ∧ r.1 = []) ∨ sp1 44 a.data.toList = r.1.map dgt)):=by
  by_cases h45:a.toList = ([45] : List UInt8)
  · refine ⟨([],true),⟨0,fun k _ => ?_⟩,⟨0,fun k _ => ?_⟩,(fun h => by cases h),fun _ => ⟨rfl,.inl ⟨h45,rfl⟩⟩⟩
    · simp [spec_tiParse.f,h45]
    · simp [impl_ParseHand.f,h45]
  · obtain ⟨P,hP⟩ : ∃ P,P = Lib.splitB (⟨#[44]⟩ : ByteArray) 0 (Lib.countB a ⟨#[44]⟩) a:=⟨_,rfl⟩
    have hsplit:strings_Split.f a (⟨#[44]⟩ : ByteArray) = some P:=by
      unfold strings_Split.f
      rw [if_pos ⟨by omega,by decide⟩,hP]
    have hdata:P.map (fun x => x.data.toList) = sp1 44 a.data.toList:=by
      rw [hP]
      exact split_sp 44 ⟨#[44]⟩ rfl _ a rfl
    have hsum:=sp1_sum 44 a.data.toList
    have hPl:P.length ≤ a.size + 1:=by
      have hc:∀ L:List (List UInt8),L.length ≤ (L.map (fun x => x.length + 1)).sum:=by
        intro L
        induction L with
        | nil => simp
        | cons x xs ih => simp only [List.length_cons,List.map_cons,List.sum_cons]; omega
      have h1:=hc (sp1 44 a.data.toList)
      rw [hsum,← hdata,List.length_map,← Lib.size_eq] at h1
      exact h1
    obtain ⟨r,i1,i2,i3,i4⟩:=hand_both P [] [] (by simp; omega) (by simp)
    simp only [List.nil_append,List.length_nil,Nat.zero_add] at i1 i2
    have shape:r.2 = true → isH r.1 = true ∧ sp1 44 a.data.toList = r.1.map dgt:=by
      intro h
      obtain ⟨j1,l,j2,j3,j4⟩:=i4 h
      refine ⟨j1,?_⟩
      rw [List.nil_append] at j2
      rw [← hdata,j2]
      refine List.ext_getElem (by simp [j3]) (fun i h1 h2 => ?_)
      have hi:i < P.length:=by simpa using h1
      obtain ⟨t,t1,t2,t3,t4⟩:=j4 i hi
      have hil:i < l.length:=by rw [j3]; exact hi
      have ht:l[i] = t:=by
        rw [List.getElem?_eq_getElem hil] at t1
        exact Option.some.inj t1
      simp only [List.getElem_map,ht]
      exact two_bytes _ t t2 t3 t4
    have himp:Ev (fun k => impl_ParseHand.f k a) r:=by
      refine Ev.congr (fun k => ?_) i2
      simp only [impl_ParseHand.f,Option.bind_some,h45,if_false,hsplit]
      rfl
    by_cases hbig:(a.size:Int) > 165
    · have hf:r.2 = false:=by
        cases hr:r.2 with
        | false => rfl
        | true =>
          exfalso
          obtain ⟨s1,s2⟩:=shape hr
          have h55:=(isH_true _ s1).1
          have h2:=sum_two (r.1.map dgt) (fun x hx => by
            obtain ⟨t,_,rfl⟩:=List.mem_map.1 hx
            rfl)
          rw [← s2,hsum,s2,List.length_map,← Lib.size_eq] at h2
          omega
      have e:r = ([],false):=Prod.ext (i3 hf) hf
      refine ⟨r,⟨0,fun k _ => ?_⟩,himp,i3,fun h => by rw [hf] at h; cases h⟩
      rw [e]
      simp [spec_tiParse.f,h45,hbig]
    · obtain ⟨R,q1,q2⟩:=l1Split_ev a (by omega) a.size 0 0 [] (by omega) (Nat.le_refl _) (by simp)
      have hR:R = P:=by
        refine datas_inj _ _ ?_
        rw [hdata]
        have e:pcs 44 a.data.toList 0 0 = sp1 44 a.data.toList:=by
          obtain ⟨x,xs,hx⟩:=List.exists_cons_of_ne_nil (sp1_ne 44 a.data.toList)
          simp [pcs,hx]
        rw [← e]
        simpa using q2
      subst hR
      refine ⟨r,?_,himp,i3,fun h => ⟨(shape h).1,.inr (shape h).2⟩⟩
      refine Ev.congr (f:=fun k => (spec_l1Split.f k a 44).bind fun t120 => (spec_tiParse.l0 k ([] : List S43) t120 (t120.length:Int) 0)) (fun k => ?_) (Ev.bind (f:=fun k (t:List ByteArray) => _) (show Ev (fun k => spec_l1Split.f k a 44) R from q1) (by simpa using i1))
      simp only [spec_tiParse.f,h45,if_false,hbig]
def jt (c:UInt8):List (List UInt8) → List UInt8
  | [] => []
  | x :: xs => c :: (x ++ jt c xs)
theorem sp1_join (c:UInt8):∀ l:List UInt8,∃ x xs,sp1 c l = x :: xs ∧ l = x ++ jt c xs
  | [] => ⟨[],[],rfl,rfl⟩
  | b :: l => by
    obtain ⟨x,xs,h1,h2⟩:=sp1_join c l
    by_cases h:b = c
    · refine ⟨[],x :: xs,?_,?_⟩
      · simp only [sp1,h,if_true,h1]
      · rw [h,h2]
        rfl
    · refine ⟨b :: x,xs,?_,?_⟩
      · simp only [sp1,h,if_false,h1]
      · rw [List.cons_append,← h2]
theorem tl_loop (a:ByteArray):∀ (d i:Nat) (r:List UInt8),i + d = a.size → ByteArray.toList.loop a i r = r.reverse ++ a.data.toList.drop i:=by
  intro d
  induction d with
  | zero =>
    intro i r h
    rw [ByteArray.toList.loop,if_neg (by omega)]
    rw [List.drop_eq_nil_of_le (by show a.data.toList.length ≤ i; rw [Array.length_toList]; show a.size ≤ i; omega)]
    simp
  | succ d ih =>
    intro i r h
    rw [ByteArray.toList.loop,if_pos (by omega),ih (i + 1) _ (by omega)]
    have hl:i < a.data.toList.length:=by rw [Array.length_toList]; show i < a.size; omega
    rw [List.drop_eq_getElem_cons hl]
    have:a.get! i = a.data.toList[i]:=by
      show a.data[i]! = _
      have h2:i < a.data.size:=by show i < a.size; omega
      rw [getElem!_pos a.data i h2]
      rfl
    rw [this]
    simp
theorem tl_data (a:ByteArray):a.toList = a.data.toList:=by
  have:=tl_loop a a.size 0 [] (by omega)
  simpa [ByteArray.toList] using this
abbrev No:List S43 × List Int × Bool:=([],[],false)
theorem ba_ext (a b:ByteArray) (h:a.data.toList = b.data.toList):a = b:=by
  cases a
  cases b
  simp only [ByteArray.mk.injEq]
  exact Array.toList_inj.1 h
theorem ba_app (a b:ByteArray):(a ++ b).data.toList = a.data.toList ++ b.data.toList:=by
  rw [ByteArray.data_append,Array.toList_append]
theorem ba_size (a:ByteArray):a.size = a.data.toList.length:=rfl
theorem s_num (n:Int):(strOfNums [(wrap64 (48 + n)) % 256]).size = 1:=by
  rw [strOfNums_size]
  rfl
theorem s_44:(⟨#[44]⟩ : ByteArray).size = 1:=rfl
theorem s_46:(⟨#[46]⟩ : ByteArray).size = 1:=rfl
theorem s_58:(⟨#[58]⟩ : ByteArray).size = 1:=rfl
theorem s_0:(⟨#[]⟩ : ByteArray).size = 0:=rfl
def dgn (n:Int):UInt8:=UInt8.ofNat ((wrap64 (48 + n)) % 256).toNat
def tl (x:S43):List UInt8:=[dgn x.f0,dgn x.f1]
theorem num_f (n:Int) (h:n < 10):Ev (fun k => spec_l1Num.f k n) (strOfNums [(wrap64 (48 + n)) % 256]):=by
  refine Ev.step (f:=fun _ => some (strOfNums [(wrap64 (48 + n)) % 256])) (fun k => ?_) (Ev.now _)
  simp only [spec_l1Num.f]
  rw [if_pos h]
theorem num_list (n:Int):(strOfNums [(wrap64 (48 + n)) % 256]).data.toList = [dgn n]:=rfl
theorem joinTail_len (l:List S43):(Lib.joinTail [44] (l.map tl)).length = 3 * l.length:=by
  induction l with
  | nil => rfl
  | cons x xs ih =>
    have:Lib.joinTail [44] ((x :: xs).map tl) = [44] ++ tl x ++ Lib.joinTail [44] (xs.map tl):=by simp [Lib.joinTail]
    rw [this]
    simp only [List.length_append,List.length_cons,ih,tl,List.length_nil]
    omega
theorem joinTail_cons (x:S43) (xs:List S43):Lib.joinTail [44] ((x :: xs).map tl) = 44 :: dgn x.f0 :: dgn x.f1 :: Lib.joinTail [44] (xs.map tl):=by
  simp [Lib.joinTail,tl]
theorem tt_ev:∀ (rest pre:List S43) (o:ByteArray),(∀ x ∈ rest,x.f0 < 10 ∧ x.f1 < 10) → 0 < pre.length → (pre ++ rest).length ≤ 1000 → o.size + 3 * rest.length ≤ 10000 →
    ∃ y:ByteArray,Ev (fun k => spec_tiText.l0 k o (pre ++ rest) ((pre ++ rest).length:Int) (pre.length:Int)) y ∧ y.data.toList = o.data.toList ++ Lib.joinTail [44] (rest.map tl):=by
  intro rest
  induction rest with
  | nil =>
    intro pre o _ h0 h1 h2
    refine ⟨o,Ev.step (f:=fun _ => some o) (fun k => ?_) (Ev.now _),by simp [Lib.joinTail]⟩
    simp only [spec_tiText.l0,List.append_nil]
    rw [if_neg (by omega)]
  | cons x xs ih =>
    intro pre o hd h0 h1 h2
    have hlen:(pre ++ x :: xs).length = pre.length + xs.length + 1:=by simp; omega
    have hl2:(x :: xs).length = xs.length + 1:=rfl
    have hget:rd_T43 (pre ++ x :: xs) (pre.length:Int) = x:=by
      unfold rd_T43
      exact t_mid pre x xs _
    have e1:pre ++ [x] ++ xs = pre ++ x :: xs:=by simp
    obtain ⟨hx0,hx1⟩:=hd x List.mem_cons_self
    have hol:((o ++ (⟨#[44]⟩ : ByteArray)) ++ (strOfNums [(wrap64 (48 + x.f0)) % 256] ++ strOfNums [(wrap64 (48 + x.f1)) % 256])).data.toList = o.data.toList ++ [44] ++ ([dgn x.f0] ++ [dgn x.f1]):=by
      rw [ba_app,ba_app,ba_app,num_list,num_list]
    obtain ⟨y,y1,y2⟩:=ih (pre ++ [x]) ((o ++ (⟨#[44]⟩ : ByteArray)) ++ (strOfNums [(wrap64 (48 + x.f0)) % 256] ++ strOfNums [(wrap64 (48 + x.f1)) % 256])) (fun z hz => hd z (List.mem_cons_of_mem _ hz)) (by simp) (by simpa using h1) (by simp only [ByteArray.size_append,s_num,s_44,s_46,s_58,s_0]; omega)
    rw [e1] at y1
    refine ⟨y,Ev.step (f:=fun k => (spec_l1Num.f k x.f0).bind fun a => (spec_l1Num.f k x.f1).bind fun b => (if a.size + b.size ≤ 9223372036854775807 then (if (o ++ (⟨#[44]⟩ : ByteArray)).size + (a ++ b).size ≤ 9223372036854775807 then (spec_tiText.l0 k ((o ++ (⟨#[44]⟩ : ByteArray)) ++ (a ++ b)) (pre ++ x :: xs) ((pre ++ x :: xs).length:Int) (((pre ++ [x]).length:Nat):Int)) else none) else none)) (fun k => ?_) ?_,?_⟩
    · simp only [spec_tiText.l0]
      rw [if_pos (by omega),if_pos (by omega),if_pos (by omega),if_pos (by omega),if_pos (by omega),hget,t_wrap ((pre.length:Int) + 1) (by omega) (by omega)]
      simp
    · refine Ev.bind (f:=fun k a => _) (num_f _ hx0) ?_
      refine Ev.bind (f:=fun k b => _) (num_f _ hx1) ?_
      simp only [if_pos (show (strOfNums [(wrap64 (48 + x.f0)) % 256]).size + (strOfNums [(wrap64 (48 + x.f1)) % 256]).size ≤ 9223372036854775807 from by simp only [ByteArray.size_append,s_num,s_44,s_46,s_58,s_0]; omega),
        if_pos (show (o ++ (⟨#[44]⟩ : ByteArray)).size + (strOfNums [(wrap64 (48 + x.f0)) % 256] ++ strOfNums [(wrap64 (48 + x.f1)) % 256]).size ≤ 9223372036854775807 from by simp only [ByteArray.size_append,s_num,s_44,s_46,s_58,s_0]; omega)]
      exact y1
    · rw [y2,hol,joinTail_cons]
      simp
theorem tt_f (l:List S43) (hl:l.length ≤ 55) (hd:∀ x ∈ l,x.f0 < 10 ∧ x.f1 < 10):∃ y:ByteArray,Ev (fun k => spec_tiText.f k l) y ∧ y.data.toList = (if l = [] then [45] else Lib.join (l.map tl) [44]):=by
  unfold spec_tiText.f
  cases l with
  | nil => exact ⟨⟨#[45]⟩,⟨0,fun k _ => rfl⟩,rfl⟩
  | cons x xs =>
    have hl2:(x :: xs).length = xs.length + 1:=rfl
    obtain ⟨hx0,hx1⟩:=hd x List.mem_cons_self
    have hol:((⟨#[]⟩ : ByteArray) ++ (strOfNums [(wrap64 (48 + x.f0)) % 256] ++ strOfNums [(wrap64 (48 + x.f1)) % 256])).data.toList = [dgn x.f0] ++ [dgn x.f1]:=by
      rw [ba_app,ba_app,num_list,num_list]
      rfl
    obtain ⟨y,y1,y2⟩:=tt_ev xs [x] ((⟨#[]⟩ : ByteArray) ++ (strOfNums [(wrap64 (48 + x.f0)) % 256] ++ strOfNums [(wrap64 (48 + x.f1)) % 256])) (fun z hz => hd z (List.mem_cons_of_mem _ hz)) (by simp) (by simp; omega) (by simp only [ByteArray.size_append,s_num,s_44,s_46,s_58,s_0]; omega)
    refine ⟨y,?_,?_⟩
    · simp only [if_neg (show ¬ ((x :: xs).length:Int) = 0 from by omega)]
      refine Ev.step (f:=fun k => (spec_l1Num.f k x.f0).bind fun a => (spec_l1Num.f k x.f1).bind fun b => (if a.size + b.size ≤ 9223372036854775807 then (if (⟨#[]⟩ : ByteArray).size + (a ++ b).size ≤ 9223372036854775807 then (spec_tiText.l0 k ((⟨#[]⟩ : ByteArray) ++ (a ++ b)) (x :: xs) ((x :: xs).length:Int) 1) else none) else none)) (fun k => ?_) ?_
      · have hget:rd_T43 (x :: xs) 0 = x:=rfl
        simp only [spec_tiText.l0]
        rw [if_pos (by omega),if_pos (by omega),if_pos (by omega),if_neg (by omega),hget,t_wrap (0 + 1) (by omega) (by omega)]
        rfl
      · refine Ev.bind (f:=fun k a => _) (num_f _ hx0) ?_
        refine Ev.bind (f:=fun k b => _) (num_f _ hx1) ?_
        simp only [if_pos (show (strOfNums [(wrap64 (48 + x.f0)) % 256]).size + (strOfNums [(wrap64 (48 + x.f1)) % 256]).size ≤ 9223372036854775807 from by simp only [ByteArray.size_append,s_num,s_44,s_46,s_58,s_0]; omega),
          if_pos (show (⟨#[]⟩ : ByteArray).size + (strOfNums [(wrap64 (48 + x.f0)) % 256] ++ strOfNums [(wrap64 (48 + x.f1)) % 256]).size ≤ 9223372036854775807 from by simp only [ByteArray.size_append,s_num,s_44,s_46,s_58,s_0]; omega)]
        exact y1
    · rw [y2,hol,if_neg (by simp),List.map_cons,Lib.join_cons]
      rfl
theorem ht_ev:∀ (rest pre:List S43) (P:List ByteArray),P.map (·.data.toList) = pre.map tl → (pre ++ rest).length ≤ 55 → 0 < (pre ++ rest).length →
    Ev (fun k => impl_handText.l0 k P (pre ++ rest) ((pre ++ rest).length:Int) (pre.length:Int)) ⟨(Lib.join ((pre ++ rest).map tl) [44]).toArray⟩:=by
  intro rest
  induction rest with
  | nil =>
    intro pre P hP h1 h2
    have hPl:P.length = pre.length:=by
      have:=congrArg List.length hP
      simpa using this
    simp only [List.append_nil] at h1 h2 ⊢
    refine Ev.step (f:=fun _ => some ⟨(Lib.join (pre.map tl) [44]).toArray⟩) (fun k => ?_) (Ev.now _)
    simp only [impl_handText.l0]
    rw [if_neg (by omega)]
    unfold strings_Join.f
    have hj:Lib.join (P.map (·.data.toList)) (⟨#[44]⟩ : ByteArray).data.toList = Lib.join (pre.map tl) [44]:=by rw [hP]
    have hlen:(Lib.join (pre.map tl) [44]).length ≤ 1000:=by
      cases pre with
      | nil => simp at h2
      | cons x xs =>
        rw [List.map_cons,Lib.join_cons,List.length_append,joinTail_len]
        simp [tl] at h1 ⊢
        omega
    rw [hj,if_pos ⟨by omega,by omega⟩]
    rfl
  | cons x xs ih =>
    intro pre P hP h1 h2
    have hlen:(pre ++ x :: xs).length = pre.length + xs.length + 1:=by simp; omega
    have hPl:P.length = pre.length:=by
      have:=congrArg List.length hP
      simpa using this
    have hget:rd_T43 (pre ++ x :: xs) (pre.length:Int) = x:=by
      unfold rd_T43
      exact t_mid pre x xs _
    have e1:pre ++ [x] ++ xs = pre ++ x :: xs:=by simp
    have hi:=ih (pre ++ [x]) (P ++ [strOfNums [(wrap64 (48 + x.f0)) % 256,(wrap64 (48 + x.f1)) % 256]]) (by rw [List.map_append,List.map_append,hP]; rfl) (by simpa using h1) (by simp; omega)
    rw [e1] at hi
    refine Ev.step (fun k => ?_) hi
    simp only [impl_handText.l0,impl_Tile_digits.f,Option.bind_some]
    rw [if_pos (by omega),if_pos (by omega),if_pos (by omega),if_pos (by omega),hget,t_wrap ((pre.length:Int) + 1) (by omega) (by omega)]
    simp
theorem ht_f (l:List S43) (hl:l.length ≤ 55):∃ y:ByteArray,Ev (fun k => impl_handText.f k l) y ∧ y.data.toList = (if l = [] then [45] else Lib.join (l.map tl) [44]):=by
  unfold impl_handText.f
  cases l with
  | nil => exact ⟨⟨#[45]⟩,⟨0,fun k _ => rfl⟩,rfl⟩
  | cons x xs =>
    have hl2:(x :: xs).length = xs.length + 1:=rfl
    refine ⟨⟨(Lib.join ((x :: xs).map tl) [44]).toArray⟩,?_,by simp⟩
    simp only [if_neg (show ¬ ((x :: xs).length:Int) = 0 from by omega)]
    exact ht_ev (x :: xs) [] [] rfl (by simpa using hl) (by simp)
theorem ext_size (t:ByteArray) (i j:Nat) (h:j ≤ t.size):(t.extract i j).size = j - i:=by
  rw [ByteArray.size_extract]
  omega
theorem spx1 (t c:ByteArray) (n:Nat) (hn:n < t.size) (hc:c.size = 1) (ht:t.size ≤ 1000):(t.extract 0 n).size + c.size ≤ 9223372036854775807 ∧ (t.extract 0 n ++ c).size + (t.extract n t.size).size ≤ 9223372036854775807 ∧ ((t.extract 0 n ++ c) ++ t.extract n t.size).size ≤ t.size + 1:=by
  simp only [ByteArray.size_append,ext_size t 0 n (by omega),ext_size t n t.size (Nat.le_refl _),hc]
  omega
theorem spx2 (t c:ByteArray) (n:Nat) (hn:n < t.size) (hc:c.size = 1) (ht:t.size ≤ 1000):(t.extract 0 n).size + c.size ≤ 9223372036854775807 ∧ (t.extract 0 n ++ c).size + (t.extract (n + 1) t.size).size ≤ 9223372036854775807 ∧ ((t.extract 0 n ++ c) ++ t.extract (n + 1) t.size).size ≤ t.size + 1:=by
  simp only [ByteArray.size_append,ext_size t 0 n (by omega),ext_size t (n + 1) t.size (Nat.le_refl _),hc]
  omega
theorem spx3 (t:ByteArray) (n:Nat) (hn:n < t.size) (ht:t.size ≤ 1000):(t.extract 0 n).size + (t.extract (n + 1) t.size).size ≤ 9223372036854775807 ∧ (t.extract 0 n ++ t.extract (n + 1) t.size).size ≤ t.size + 1:=by
  simp only [ByteArray.size_append,ext_size t 0 n (by omega),ext_size t (n + 1) t.size (Nat.le_refl _)]
  omega
theorem d_spoil_l (l:List Int) (hl:∀ x ∈ l,0 ≤ x ∧ x ≤ 255) (w:ByteArray) (hw:1 ≤ w.size ∧ w.size ≤ 100):∀ (m:Nat) (t:ByteArray) (p s:Int),m ≤ 20 → t.size + m ≤ 1000 → 0 ≤ p ∧ p + 6 * m ≤ 10000 →
    ∃ r p' s',Ev (fun k => spec_l1Cur_spoilt.l0 k t w (m:Int) l p s) (r,p',s') ∧ r.size ≤ 1000:=by
  intro m
  induction m with
  | zero =>
    intro t p s _ h1 h2
    refine ⟨t,p,s,⟨2,fun k hk => ?_⟩,by omega⟩
    obtain ⟨j,rfl⟩ : ∃ j,k = j + 2:=⟨k - 2,by omega⟩
    simp only [spec_l1Cur_spoilt.l0]
    rw [if_neg (by omega)]
    simp only [spec_l1Cur_spoilt.j1,Bool.false_eq_true,if_false]
  | succ m ih =>
    intro t p s hm h1 h2
    by_cases h0:0 < t.size
    · obtain ⟨i,q1,s1,e1,i0,i1,q10,q11⟩:=d_pick l hl p s (by omega) (t.size:Int) (by omega)
      obtain ⟨v,q2,s2,e2,v0,v1,q20,q21⟩:=d_pick l hl q1 s1 (by omega) (w.size:Int) (by omega)
      obtain ⟨u,q3,s3,e3,u0,u1,q30,q31⟩:=d_pick l hl q2 s2 (by omega) 3 (by omega)
      obtain ⟨n,rfl⟩ : ∃ n:Nat,i = (n:Int):=⟨i.toNat,by omega⟩
      have hn:n < t.size:=by omega
      have hnl:(n:Int) ≤ (t.size:Int):=by omega
      have ht:t.size ≤ 1000:=by omega
      have hm':m ≤ 20:=by omega
      have hq:0 ≤ q3 ∧ q3 + 6 * m ≤ 10000:=by omega
      have hsz:∀ z:ByteArray,z.size ≤ t.size + 1 → z.size + m ≤ 1000:=by
        intro z h
        omega
      have hn1:(0:Int) ≤ ((n + 1:Nat):Int):=by omega
      have hn2:((n + 1:Nat):Int) ≤ (t.size:Int):=by omega
      have hmp:((m + 1:Nat):Int) > 0:=by omega
      have htp:(t.size:Int) > 0:=by omega
      have go:∀ r p' s' z,Ev (fun k => spec_l1Cur_spoilt.l0 k z w (m:Int) l q3 s3) (r,p',s') → r.size ≤ 1000 →
          (∀ k,spec_l1Cur_spoilt.j1 (k + 1) t w ((m + 1:Nat):Int) true l p s = spec_l1Cur_spoilt.l0 k z w (m:Int) l q3 s3) →
          ∃ r p' s',Ev (fun k => spec_l1Cur_spoilt.l0 k t w ((m + 1:Nat):Int) l p s) (r,p',s') ∧ r.size ≤ 1000:=by
        intro r p' s' z ⟨K,hK⟩ hr hz
        refine ⟨r,p',s',⟨K + 2,fun k hk => ?_⟩,hr⟩
        obtain ⟨j,rfl⟩ : ∃ j,k = j + 2:=⟨k - 2,by omega⟩
        simp only [spec_l1Cur_spoilt.l0]
        rw [if_pos hmp,decide_eq_true htp,hz j]
        exact hK j (by omega)
      have wi:wrap64 ((n:Int) + 1) = ((n + 1:Nat):Int):=by rw [d_w _ (by omega) (by omega)]; rfl
      have wm:wrap64 (((m + 1:Nat):Int) - 1) = (m:Int):=by rw [d_w _ (by omega) (by omega)]; omega
      have x4:(strOfNums [bt w v]).size = 1:=(strOfNums_size _).trans rfl
      obtain ⟨c,hc⟩ : ∃ c,c = strOfNums [bt w v]:=⟨_,rfl⟩
      rw [← hc] at x4
      by_cases hu0:u = 0
      · obtain ⟨y1,y2,y3⟩:=spx1 t c n hn x4 ht
        obtain ⟨r,p',s',a1,a2⟩:=ih ((t.extract 0 n ++ c) ++ t.extract n t.size) q3 s3 hm' (hsz _ y3) hq
        refine go r p' s' _ a1 a2 (fun k => ?_)
        simp only [spec_l1Cur_spoilt.j1,if_true]
        rw [e1]
        simp only [Option.bind_some]
        rw [e2]
        simp only [Option.bind_some]
        rw [if_pos v0,if_pos v1,e3]
        simp only [Option.bind_some,Int.toNat_natCast]
        rw [← hc,if_pos hu0,if_pos i0,if_pos hnl,if_pos y1,if_pos y2,wm]
      · by_cases hu1:u = 1
        · obtain ⟨y1,y2,y3⟩:=spx2 t c n hn x4 ht
          obtain ⟨r,p',s',a1,a2⟩:=ih ((t.extract 0 n ++ c) ++ t.extract (n + 1) t.size) q3 s3 hm' (hsz _ y3) hq
          refine go r p' s' _ a1 a2 (fun k => ?_)
          simp only [spec_l1Cur_spoilt.j1,if_true]
          rw [e1]
          simp only [Option.bind_some]
          rw [e2]
          simp only [Option.bind_some]
          rw [if_pos v0,if_pos v1,e3,wi]
          simp only [Option.bind_some,Int.toNat_natCast]
          rw [← hc,if_neg hu0,if_pos hu1,if_pos i0,if_pos hnl,if_pos y1,if_pos hn1,if_pos hn2,if_pos y2,wm]
        · obtain ⟨y1,y3⟩:=spx3 t n hn ht
          obtain ⟨r,p',s',a1,a2⟩:=ih (t.extract 0 n ++ t.extract (n + 1) t.size) q3 s3 hm' (hsz _ y3) hq
          refine go r p' s' _ a1 a2 (fun k => ?_)
          simp only [spec_l1Cur_spoilt.j1,if_true]
          rw [e1]
          simp only [Option.bind_some]
          rw [e2]
          simp only [Option.bind_some]
          rw [if_pos v0,if_pos v1,e3,wi]
          simp only [Option.bind_some,Int.toNat_natCast]
          rw [if_neg hu0,if_neg hu1,if_pos i0,if_pos hnl,if_pos hn1,if_pos hn2,if_pos y1,wm]
    · refine ⟨t,p,s,⟨2,fun k hk => ?_⟩,by omega⟩
      obtain ⟨j,rfl⟩ : ∃ j,k = j + 2:=⟨k - 2,by omega⟩
      simp only [spec_l1Cur_spoilt.l0]
      rw [if_pos (by omega),decide_eq_false (by omega)]
      simp only [spec_l1Cur_spoilt.j1,Bool.false_eq_true,if_false]
def ndI:List Int → List Int → Bool
  | _,[] => true
  | pre,x :: xs => !decide (x ∈ pre) && ndI (pre ++ [x]) xs
theorem ndI_nodup:∀ (rest pre:List Int),ndI pre rest = true → (∀ x ∈ rest,x ∉ pre) ∧ rest.Nodup:=by
  intro rest
  induction rest with
  | nil => intro pre _; exact ⟨(fun x h => by cases h),List.nodup_nil⟩
  | cons x xs ih =>
    intro pre h
    unfold ndI at h
    simp only [Bool.and_eq_true,Bool.not_eq_true',decide_eq_false_iff_not] at h
    obtain ⟨h1,h2⟩:=ih _ h.2
    refine ⟨fun y hy => ?_,?_⟩
    · rcases List.mem_cons.1 hy with rfl | hy
      · exact h.1
      · exact fun hp => h1 y hy (List.mem_append_left _ hp)
    · rw [List.nodup_cons]
      exact ⟨fun hx => h1 x hx (by simp),h2⟩
theorem nd_of2:∀ (rest pre:List S43),rest.Nodup → (∀ x ∈ rest,x ∉ pre) → nd pre rest = true:=by
  intro rest
  induction rest with
  | nil => intro pre _ _; rfl
  | cons x xs ih =>
    intro pre h1 h2
    rw [List.nodup_cons] at h1
    unfold nd
    rw [ih (pre ++ [x]) h1.2 (fun y hy => by
      rw [List.mem_append]
      rintro (h | h)
      · exact h2 y (List.mem_cons_of_mem _ hy) h
      · rw [List.mem_singleton] at h
        subst h
        exact h1.1 hy)]
    simp [h2 x List.mem_cons_self]
theorem idxI_ev (t:Int):∀ (rest pre:List Int),(pre ++ rest).length ≤ 2000000 → ∃ r:Int,Ev (fun k => slices_Index_int_int.l0 k (pre ++ rest) t ((pre ++ rest).length:Int) (pre.length:Int)) r ∧ decide (r ≥ 0) = decide (t ∈ rest):=by
  intro rest
  induction rest with
  | nil =>
    intro pre hl
    refine ⟨-1,Ev.step (f:=fun _ => some (-1)) (fun k => ?_) (Ev.now _),by simp⟩
    simp only [slices_Index_int_int.l0,List.append_nil]
    rw [if_neg (by omega)]
  | cons x xs ih =>
    intro pre hl
    have hlen:(pre ++ x :: xs).length = pre.length + xs.length + 1:=by simp; omega
    have hget:=i_mid pre x xs
    by_cases e:t = x
    · refine ⟨(pre.length:Int),Ev.step (f:=fun _ => some (pre.length:Int)) (fun k => ?_) (Ev.now _),by simp [e]⟩
      simp only [slices_Index_int_int.l0]
      rw [if_pos (by omega),if_pos (by omega),if_pos (by omega),hget,if_pos e]
    · obtain ⟨r,h1,h2⟩:=ih (pre ++ [x]) (by simpa using hl)
      have e1:pre ++ [x] ++ xs = pre ++ x :: xs:=by simp
      rw [e1] at h1
      refine ⟨r,Ev.step (fun k => ?_) h1,by rw [h2]; simp [e]⟩
      simp only [slices_Index_int_int.l0]
      rw [if_pos (by omega),if_pos (by omega),if_pos (by omega),hget,if_neg e,t_wrap ((pre.length:Int) + 1) (by omega) (by omega)]
      simp
theorem containsI_f (t:Int) (l:List Int) (hl:l.length ≤ 2000000):Ev (fun k => slices_Contains_int_int.f k l t) (decide (t ∈ l)):=by
  obtain ⟨r,h1,h2⟩:=idxI_ev t l [] hl
  rw [← h2]
  exact Ev.bind (f:=fun _ t177 => (some (decide (t177 ≥ 0)))) h1 ⟨0,fun k _ => rfl⟩
theorem areDiffI_ev:∀ (rest pre:List Int),(pre ++ rest).length ≤ 2000000 → Ev (fun k => impl_areDifferent_int.l0 k (pre ++ rest) (pre ++ rest) ((pre ++ rest).length:Int) (pre.length:Int)) (ndI pre rest):=by
  intro rest
  induction rest with
  | nil =>
    intro pre hl
    refine Ev.step (f:=fun _ => some true) (fun k => ?_) (Ev.now _)
    simp only [impl_areDifferent_int.l0,List.append_nil]
    rw [if_neg (by omega)]
  | cons x xs ih =>
    intro pre hl
    have hlen:(pre ++ x :: xs).length = pre.length + xs.length + 1:=by simp; omega
    have hget:=i_mid pre x xs
    have htake:(pre ++ x :: xs).take ((pre.length:Int)).toNat = pre:=by simp
    have h1:=containsI_f x pre (by omega)
    have e1:pre ++ [x] ++ xs = pre ++ x :: xs:=by simp
    have hi:=ih (pre ++ [x]) (by simpa using hl)
    rw [e1] at hi
    refine Ev.step (f:=fun k => (slices_Contains_int_int.f k pre x).bind fun t184 => (if t184 = true then (some false) else (impl_areDifferent_int.l0 k (pre ++ x :: xs) (pre ++ x :: xs) ((pre ++ x :: xs).length:Int) (((pre ++ [x]).length:Nat):Int)))) (fun k => ?_) ?_
    · simp only [impl_areDifferent_int.l0]
      rw [if_pos (by omega),if_pos (by omega),if_pos (by omega),if_pos (by omega),hget,htake,t_wrap ((pre.length:Int) + 1) (by omega) (by omega)]
      simp
    · refine Ev.bind (f:=fun k t184 => (if t184 = true then (some false) else (impl_areDifferent_int.l0 k (pre ++ x :: xs) (pre ++ x :: xs) ((pre ++ x :: xs).length:Int) (((pre ++ [x]).length:Nat):Int)))) h1 ?_
      by_cases hm:x ∈ pre
      · refine ⟨0,fun k _ => ?_⟩
        simp [ndI,hm]
      · refine Ev.congr (fun k => ?_) (show Ev _ (ndI pre (x :: xs)) from by
          have:ndI pre (x :: xs) = ndI (pre ++ [x]) xs:=by simp [ndI,hm]
          rw [this]
          exact hi)
        simp only [hm,decide_false,Bool.false_eq_true,if_false]
theorem hasI_ev (t:Int):∀ (rest pre:List Int),(pre ++ rest).length ≤ 2000000 → Ev (fun k => spec_l1Has.l0 k t (pre ++ rest) ((pre ++ rest).length:Int) (pre.length:Int)) (decide (t ∈ rest)):=by
  intro rest
  induction rest with
  | nil =>
    intro pre hl
    refine Ev.step (f:=fun _ => some (decide (t ∈ ([] : List Int)))) (fun k => ?_) (Ev.now _)
    simp only [spec_l1Has.l0,List.append_nil]
    rw [if_neg (by omega)]
    simp
  | cons x xs ih =>
    intro pre hl
    have hlen:(pre ++ x :: xs).length = pre.length + xs.length + 1:=by simp; omega
    have hget:=i_mid pre x xs
    by_cases e:x = t
    · refine Ev.step (f:=fun _ => some (decide (t ∈ x :: xs))) (fun k => ?_) (Ev.now _)
      simp only [spec_l1Has.l0]
      rw [if_pos (by omega),if_pos (by omega),if_pos (by omega),hget,if_pos e]
      simp [e]
    · have hi:=ih (pre ++ [x]) (by simpa using hl)
      have e1:pre ++ [x] ++ xs = pre ++ x :: xs:=by simp
      rw [e1] at hi
      refine Ev.step (fun k => ?_) (show Ev _ (decide (t ∈ x :: xs)) from by
        have:decide (t ∈ x :: xs) = decide (t ∈ xs):=by simp [Ne.symm e]
        rw [this]
        exact hi)
      simp only [spec_l1Has.l0]
      rw [if_pos (by omega),if_pos (by omega),if_pos (by omega),hget,if_neg e,t_wrap ((pre.length:Int) + 1) (by omega) (by omega)]
      simp
theorem hasI_f (t:Int) (l:List Int) (hl:l.length ≤ 2000000):Ev (fun k => spec_l1Has.f k l t) (decide (t ∈ l)):=hasI_ev t l [] hl
def nms (ns:List Int):Bool:=decide ((ns.length:Int) = 10) && (ns.all (inB 0 9) && ndI [] ns)
theorem nms_true (ns:List Int) (h:nms ns = true):ns.length = 10 ∧ (∀ x ∈ ns,0 ≤ x ∧ x ≤ 9) ∧ ns.Nodup:=by
  unfold nms at h
  simp only [Bool.and_eq_true,decide_eq_true_eq] at h
  exact ⟨by omega,fun x hx => (inB_iff _ _ _).1 (List.all_eq_true.1 h.2.1 x hx),(ndI_nodup ns [] h.2.2).2⟩
theorem nms_impl (ns:List Int) (h:ns.length ≤ 2000000):Ev (fun k => impl_areNames.f k ns) (nms ns):=by
  by_cases h1:(ns.length:Int) = 10
  · by_cases h2:ns.all (inB 0 9) = true
    · have hi:=areDiffI_ev ns [] h
      refine Ev.congr (f:=fun k => (impl_areDifferent_int.f k ns).bind fun t248 => (some t248)) (fun k => ?_) (Ev.bind (f:=fun _ t => some t) hi ⟨0,fun k _ => ?_⟩)
      · unfold impl_areNames.f impl_areWithin.f
        rw [if_pos h1,any_out,h2]
        simp only [Option.bind_some,if_true]
      · simp [nms,h1,h2]
    · refine ⟨0,fun k _ => ?_⟩
      (try dsimp only)
      unfold impl_areNames.f impl_areWithin.f
      rw [if_pos h1,any_out,Bool.eq_false_iff.2 h2]
      simp [nms,Bool.eq_false_iff.2 h2]
  · refine ⟨0,fun k _ => ?_⟩
    (try dsimp only)
    unfold impl_areNames.f
    rw [if_neg h1]
    simp [nms,h1]
def ren (ns:List Int) (t:S43):S43:=tileOf (rd ns t.f0) (rd ns t.f1)
theorem tiles_impl (ns:List Int) (hns:ns.length = 10) (l s:List S43) (hl:l.length ≤ 1000) (hg:∀ x ∈ l,good x = true):∀ (rest pre out:List S43),pre ++ rest = l → out.length ≤ pre.length →
    impl_sorted.f (out ++ rest.map (ren ns)) = some s →
    Ev (fun k => impl_renamedHand.l0 k ns out l (l.length:Int) (pre.length:Int)) s:=by
  intro rest
  induction rest with
  | nil =>
    intro pre out e h0 h
    refine Ev.step (f:=fun _ => some s) (fun k => ?_) (Ev.now _)
    simp only [List.map_nil,List.append_nil] at h
    simp only [impl_renamedHand.l0]
    rw [if_neg (by rw [← e]; simp),h]
    rfl
  | cons x xs ih =>
    intro pre out e h0 h
    have hlen:l.length = pre.length + xs.length + 1:=by rw [← e]; simp; omega
    have hget:rd_T43 l (pre.length:Int) = x:=by
      rw [← e]
      unfold rd_T43
      exact t_mid pre x xs _
    have hx:=(good_iff x).1 (hg x (by rw [← e]; simp))
    refine Ev.step (fun k => ?_) (ih (pre ++ [x]) (out ++ [ren ns x]) (by rw [← e]; simp) (by simp; omega) (by simpa using h))
    simp only [impl_renamedHand.l0,impl_Tile_renamed.f,impl_tile.f]
    rw [if_pos (by omega),if_pos (by omega),if_pos (by omega),hget,if_pos (by omega),if_pos (by omega),if_pos (by omega),if_pos (by omega),t_wrap ((pre.length:Int) + 1) (by omega) (by omega)]
    simp only [Option.bind_some]
    rw [if_pos (by omega)]
    simp [ren,tileOf]
theorem rd_inj (ns:List Int) (hn:ns.Nodup) (a b:Int) (ha:0 ≤ a) (ha2:a < ns.length) (hb:0 ≤ b) (hb2:b < ns.length) (e:rd ns a = rd ns b):a = b:=by
  have h1:a.toNat < ns.length:=by omega
  have h2:b.toNat < ns.length:=by omega
  unfold rd at e
  rw [List.getD_eq_getElem?_getD,List.getD_eq_getElem?_getD,List.getElem?_eq_getElem h1,List.getElem?_eq_getElem h2] at e
  have e2:ns[a.toNat] = ns[b.toNat]:=e
  have hp:=List.pairwise_iff_getElem.1 hn
  rcases Nat.lt_trichotomy a.toNat b.toNat with h | h | h
  · exact absurd e2 (hp _ _ h1 h2 h)
  · omega
  · exact absurd e2.symm (hp _ _ h2 h1 h)
theorem rd_in (ns:List Int) (h9:∀ x ∈ ns,0 ≤ x ∧ x ≤ 9) (a:Int) (ha:0 ≤ a) (ha2:a < ns.length):0 ≤ rd ns a ∧ rd ns a ≤ 9:=by
  have h1:a.toNat < ns.length:=by omega
  unfold rd
  rw [List.getD_eq_getElem?_getD,List.getElem?_eq_getElem h1]
  exact h9 _ (List.getElem_mem h1)
theorem ren_hand (ns:List Int) (hns:nms ns = true) (l:List S43) (h:isH l = true):isH (l.map (ren ns)) = true:=by
  obtain ⟨n1,n2,n3⟩:=nms_true ns hns
  obtain ⟨i1,i2,i3⟩:=isH_true l h
  have hg:∀ x ∈ l,0 ≤ x.f0 ∧ x.f0 ≤ x.f1 ∧ x.f1 ≤ 9:=fun x hx => (good_iff x).1 (i2 x hx)
  have hall:(l.map (ren ns)).all good = true:=by
    rw [List.all_eq_true]
    intro y hy
    obtain ⟨x,hx,rfl⟩:=List.mem_map.1 hy
    have hx2:=hg x hx
    have a1:=rd_in ns n2 x.f0 (by omega) (by omega)
    have a2:=rd_in ns n2 x.f1 (by omega) (by omega)
    rw [good_iff]
    unfold ren tileOf mn mx
    (try dsimp only)
    (repeat' split) <;> omega
  have hnd:(l.map (ren ns)).Nodup:=by
    refine List.pairwise_map.2 (List.Pairwise.imp_of_mem (fun {x y} hx hy hne e => hne ?_) i3)
    have hx2:=hg x hx
    have hy2:=hg y hy
    have e0:=congrArg (fun t:S43 => t.f0) e
    have e1:=congrArg (fun t:S43 => t.f1) e
    unfold ren tileOf mn mx at e0 e1
    (try dsimp only at e0 e1)
    have j:∀ a b:Int,0 ≤ a → a ≤ 9 → 0 ≤ b → b ≤ 9 → rd ns a = rd ns b → a = b:=fun a b h1 h2 h3 h4 => rd_inj ns n3 a b h1 (by omega) h3 (by omega)
    have c:(rd ns x.f0 = rd ns y.f0 ∧ rd ns x.f1 = rd ns y.f1) ∨ (rd ns x.f0 = rd ns y.f1 ∧ rd ns x.f1 = rd ns y.f0):=by
      split at e0 <;> split at e0 <;> (repeat' (split at e1)) <;> omega
    rcases c with ⟨c1,c2⟩ | ⟨c1,c2⟩
    · exact t_ext x y (j _ _ (by omega) (by omega) (by omega) (by omega) c1) (j _ _ (by omega) (by omega) (by omega) (by omega) c2)
    · have d1:=j _ _ (by omega) (by omega) (by omega) (by omega) c1
      have d2:=j _ _ (by omega) (by omega) (by omega) (by omega) c2
      exact t_ext x y (by omega) (by omega)
  unfold isH
  rw [hall,nd_of2 _ _ hnd (fun x _ h => by cases h)]
  simp [i1]
def tm (l:List S43) (n:Int):Int:=(l.map fun t => (if t.f0 = n then (1:Int) else 0) + (if t.f1 = n then 1 else 0)).sum
theorem tm_cons (t:S43) (l:List S43) (n:Int):tm (t :: l) n = (if t.f0 = n then (1:Int) else 0) + (if t.f1 = n then 1 else 0) + tm l n:=by simp [tm]
theorem tm_small:∀ (l:List S43) (n:Int),0 ≤ tm l n ∧ tm l n ≤ 2 * l.length
  | [],n => by simp [tm]
  | t :: l,n => by
    have:=tm_small l n
    rw [tm_cons]
    simp only [List.length_cons]
    split <;> split <;> omega
theorem itm_ev (n:Int):∀ (rest pre:List S43) (acc:Int),(pre ++ rest).length ≤ 1000000 → 0 ≤ acc → acc ≤ 2 * pre.length → Ev (fun k => impl_times.l0 k n acc (pre ++ rest) ((pre ++ rest).length:Int) (pre.length:Int)) (acc + tm rest n):=by
  intro rest
  induction rest with
  | nil =>
    intro pre acc hl h0 h1
    refine Ev.step (f:=fun _ => some (acc + tm [] n)) (fun k => ?_) (Ev.now _)
    simp only [impl_times.l0,List.append_nil]
    rw [if_neg (by omega)]
    simp [tm]
  | cons x xs ih =>
    intro pre acc hl h0 h1
    have hlen:(pre ++ x :: xs).length = pre.length + xs.length + 1:=by simp; omega
    have hget:rd_T43 (pre ++ x :: xs) (pre.length:Int) = x:=rd_at' pre x xs
    have e1:pre ++ [x] ++ xs = pre ++ x :: xs:=by simp
    have hb:∀ a:Int,impl_bit.f (a == n) = some (if a = n then 1 else 0):=fun a => by
      unfold impl_bit.f
      by_cases e:a = n <;> simp [e]
    obtain ⟨v,hv⟩ : ∃ v:Int,v = (if x.f0 = n then (1:Int) else 0) + (if x.f1 = n then 1 else 0):=⟨_,rfl⟩
    have hv2:0 ≤ v ∧ v ≤ 2:=by rw [hv]; split <;> split <;> omega
    have:=ih (pre ++ [x]) (acc + v) (by rw [e1]; exact hl) (by omega) (by simp; omega)
    rw [e1,show acc + v + tm xs n = acc + tm (x :: xs) n by rw [tm_cons]; omega] at this
    refine Ev.step (fun k => ?_) this
    simp only [impl_times.l0]
    rw [if_pos (by omega),if_pos (by omega),if_pos (by omega),hget]
    simp only [hb,Option.bind_some,← hv]
    rw [t_wrap v (by omega) (by omega),t_wrap (acc + v) (by omega) (by omega),t_wrap ((pre.length:Int) + 1) (by omega) (by omega)]
    simp
theorem stm_ev (n:Int):∀ (rest pre:List S43) (acc:Int),(pre ++ rest).length ≤ 1000000 → 0 ≤ acc → acc ≤ 2 * pre.length → Ev (fun k => spec_tiTimes.l0 k n acc (pre ++ rest) ((pre ++ rest).length:Int) (pre.length:Int)) (acc + tm rest n):=by
  intro rest
  induction rest with
  | nil =>
    intro pre acc hl h0 h1
    refine Ev.step (f:=fun _ => some (acc + tm [] n)) (fun k => ?_) (Ev.now _)
    simp only [spec_tiTimes.l0,List.append_nil]
    rw [if_neg (by omega)]
    simp [tm]
  | cons x xs ih =>
    intro pre acc hl h0 h1
    have hlen:(pre ++ x :: xs).length = pre.length + xs.length + 1:=by simp; omega
    have hget:rd_T43 (pre ++ x :: xs) (pre.length:Int) = x:=rd_at' pre x xs
    have e1:pre ++ [x] ++ xs = pre ++ x :: xs:=by simp
    obtain ⟨v,hv⟩ : ∃ v:Int,v = (if x.f0 = n then (1:Int) else 0) + (if x.f1 = n then 1 else 0):=⟨_,rfl⟩
    have hv2:0 ≤ v ∧ v ≤ 2:=by rw [hv]; split <;> split <;> omega
    have:=ih (pre ++ [x]) (acc + v) (by rw [e1]; exact hl) (by omega) (by simp; omega)
    rw [e1,show acc + v + tm xs n = acc + tm (x :: xs) n by rw [tm_cons]; omega,show ((pre ++ [x]).length:Int) = (pre.length:Int) + 1 by simp] at this
    refine Ev.step (fun k => ?_) this
    simp only [spec_tiTimes.l0]
    rw [if_pos (by omega),if_pos (by omega),if_pos (by omega),hget,t_wrap ((pre.length:Int) + 1) (by omega) (by omega)]
    by_cases e0:x.f0 = n <;> by_cases e2:x.f1 = n
    · rw [if_pos e0,if_pos e2] at hv
      rw [if_pos e0,if_pos e2,t_wrap (acc + 1) (by omega) (by omega),t_wrap (acc + 1 + 1) (by omega) (by omega),show acc + 1 + 1 = acc + v by omega]
    · rw [if_pos e0,if_neg e2] at hv
      rw [if_pos e0,if_neg e2,t_wrap (acc + 1) (by omega) (by omega),show acc + 1 = acc + v by omega]
    · rw [if_neg e0,if_pos e2] at hv
      rw [if_neg e0,if_pos e2,t_wrap (acc + 1) (by omega) (by omega),show acc + 1 = acc + v by omega]
    · rw [if_neg e0,if_neg e2] at hv
      rw [if_neg e0,if_neg e2,show acc + v = acc by omega]
theorem times_i (l:List S43) (n:Int) (hl:l.length ≤ 1000000):Ev (fun k => impl_times.f k l n) (tm l n):=by
  have:=itm_ev n l [] 0 hl (Int.le_refl _) (by simp)
  simpa [impl_times.f] using this
theorem times_s (l:List S43) (n:Int) (hl:l.length ≤ 1000000):Ev (fun k => spec_tiTimes.f k l n) (tm l n):=by
  have:=stm_ev n l [] 0 hl (Int.le_refl _) (by simp)
  simpa [spec_tiTimes.f] using this
def timesR (l:List S43) (n:Int):Int × Bool:=if isH l = true ∧ 0 ≤ n ∧ n ≤ 9 then (tm l n,true) else (0,false)
theorem timesOf_i (l:List S43) (n:Int) (hl:l.length ≤ 1000000):Ev (fun k => impl_TimesOf.f k l n) (timesR l n):=by
  obtain ⟨K1,h1⟩:=isH_impl l (by omega)
  obtain ⟨K2,h2⟩:=times_i l n hl
  simp only at h1 h2
  refine ⟨K1 + K2,fun k hk => ?_⟩
  cases e:isH l <;> by_cases e2:0 ≤ n ∧ n ≤ 9 <;> simp [impl_TimesOf.f,timesR,h1 k (by omega),h2 k (by omega),number_i,e,e2]
theorem timesOf_s (l:List S43) (n:Int) (hl:l.length ≤ 1000000):Ev (fun k => spec_TimesOf.f k l n) (timesR l n):=by
  obtain ⟨K1,h1⟩:=isH_spec l (by omega)
  obtain ⟨K2,h2⟩:=times_s l n hl
  simp only at h1 h2
  refine ⟨K1 + K2,fun k hk => ?_⟩
  cases e:isH l <;> by_cases e2:0 ≤ n ∧ n ≤ 9 <;> simp [spec_TimesOf.f,timesR,h1 k (by omega),h2 k (by omega),number_s,e,e2]
def nf (l:List S43):Nat → Nat → List Int
  | 0,_ => []
  | d + 1,i => if tm l (i:Int) > 0 then (i:Int) :: nf l d (i + 1) else nf l d (i + 1)
theorem nf_mem (l:List S43) (x:Int):∀ d i,x ∈ nf l d i ↔ ((i:Int) ≤ x ∧ x < (i + d:Nat) ∧ tm l x > 0)
  | 0,i => by
    simp only [nf,List.not_mem_nil,false_iff]
    omega
  | d + 1,i => by
    unfold nf
    by_cases e:tm l (i:Int) > 0
    · rw [if_pos e,List.mem_cons,nf_mem l x d (i + 1)]
      constructor
      · rintro (rfl | h)
        · exact ⟨Int.le_refl _,by omega,e⟩
        · exact ⟨by omega,by omega,h.2.2⟩
      · rintro ⟨h1,h2,h3⟩
        by_cases e2:x = i
        · exact .inl e2
        · exact .inr ⟨by omega,by omega,h3⟩
    · rw [if_neg e,nf_mem l x d (i + 1)]
      constructor
      · rintro ⟨h1,h2,h3⟩
        exact ⟨by omega,by omega,h3⟩
      · rintro ⟨h1,h2,h3⟩
        refine ⟨?_,by omega,h3⟩
        by_cases e2:x = i
        · subst e2
          exact absurd h3 e
        · omega
theorem nf_len (l:List S43):∀ d i,(nf l d i).length ≤ d
  | 0,i => by simp [nf]
  | d + 1,i => by
    unfold nf
    have:=nf_len l d (i + 1)
    split
    · simp only [List.length_cons]
      omega
    · omega
def nums (l:List S43):List Int:=nf l 10 0
theorem inums_ev (l:List S43) (hl:l.length ≤ 1000000):∀ (d i:Nat) (o:List Int),i + d = 10 → o.length ≤ i → Ev (fun k => impl_numbers.l0 k l o (i:Int)) (o ++ nf l d i):=by
  intro d
  induction d with
  | zero =>
    intro i o h0 h1
    refine Ev.step (f:=fun _ => some (o ++ nf l 0 i)) (fun k => ?_) (Ev.now _)
    simp only [impl_numbers.l0]
    rw [if_neg (by omega)]
    simp [nf]
  | succ d ih =>
    intro i o h0 h1
    obtain ⟨K1,h2⟩:=times_i l i hl
    simp only at h2
    have hw:wrap64 ((i:Int) + 1) = ((i + 1:Nat):Int):=by rw [t_wrap _ (by omega) (by omega)]; rfl
    by_cases e:tm l (i:Int) > 0
    · obtain ⟨K2,h3⟩:=ih (i + 1) (o ++ [(i:Int)]) (by omega) (by simp; omega)
      refine ev_up (K:=K1 + K2) fun k hk => ?_
      simp only [impl_numbers.l0]
      rw [if_pos (by omega),h2 k (by omega)]
      simp only [Option.bind_some,hw]
      rw [if_pos e,if_pos (by omega),show nf l (d + 1) i = (i:Int) :: nf l d (i + 1) by simp [nf,e]]
      have:=h3 k (by omega)
      simpa using this
    · obtain ⟨K2,h3⟩:=ih (i + 1) o (by omega) (by omega)
      refine ev_up (K:=K1 + K2) fun k hk => ?_
      simp only [impl_numbers.l0]
      rw [if_pos (by omega),h2 k (by omega)]
      simp only [Option.bind_some,hw]
      rw [if_neg e,show nf l (d + 1) i = nf l d (i + 1) by simp [nf,e]]
      exact h3 k (by omega)
theorem snums_ev (l:List S43) (hl:l.length ≤ 1000000):∀ (d i:Nat) (o:List Int),i + d = 10 → o.length ≤ i → Ev (fun k => spec_NumbersOf.l0 k l o (i:Int)) (o ++ nf l d i,true):=by
  intro d
  induction d with
  | zero =>
    intro i o h0 h1
    refine Ev.step (f:=fun _ => some (o ++ nf l 0 i,true)) (fun k => ?_) (Ev.now _)
    simp only [spec_NumbersOf.l0]
    rw [if_neg (by omega)]
    simp [nf]
  | succ d ih =>
    intro i o h0 h1
    obtain ⟨K1,h2⟩:=times_s l i hl
    simp only at h2
    have hw:wrap64 ((i:Int) + 1) = ((i + 1:Nat):Int):=by rw [t_wrap _ (by omega) (by omega)]; rfl
    by_cases e:tm l (i:Int) > 0
    · obtain ⟨K2,h3⟩:=ih (i + 1) (o ++ [(i:Int)]) (by omega) (by simp; omega)
      refine ev_up (K:=K1 + K2) fun k hk => ?_
      simp only [spec_NumbersOf.l0]
      rw [if_pos (by omega),h2 k (by omega)]
      simp only [Option.bind_some,hw]
      rw [if_pos e,if_pos (by omega),show nf l (d + 1) i = (i:Int) :: nf l d (i + 1) by simp [nf,e]]
      have:=h3 k (by omega)
      simpa using this
    · obtain ⟨K2,h3⟩:=ih (i + 1) o (by omega) (by omega)
      refine ev_up (K:=K1 + K2) fun k hk => ?_
      simp only [spec_NumbersOf.l0]
      rw [if_pos (by omega),h2 k (by omega)]
      simp only [Option.bind_some,hw]
      rw [if_neg e,show nf l (d + 1) i = nf l d (i + 1) by simp [nf,e]]
      exact h3 k (by omega)
def numsR (l:List S43):List Int × Bool:=if isH l = true then (nums l,true) else ([],false)
theorem numbers_i (l:List S43) (hl:l.length ≤ 1000000):Ev (fun k => impl_NumbersOf.f k l) (numsR l):=by
  obtain ⟨K1,h1⟩:=isH_impl l (by omega)
  obtain ⟨K2,h2⟩:=inums_ev l hl 10 0 [] rfl (by simp)
  simp only [List.nil_append] at h1 h2
  have h2:∀ k,K2 ≤ k → impl_numbers.f k l = some (nums l):=h2
  refine ⟨K1 + K2,fun k hk => ?_⟩
  cases e:isH l <;> simp [impl_NumbersOf.f,numsR,h1 k (by omega),h2 k (by omega),e]
theorem numbers_s (l:List S43) (hl:l.length ≤ 1000000):Ev (fun k => spec_NumbersOf.f k l) (numsR l):=by
  obtain ⟨K1,h1⟩:=isH_spec l (by omega)
  obtain ⟨K2,h2⟩:=snums_ev l hl 10 0 [] rfl (by simp)
  simp only [List.nil_append] at h1 h2
  have h2:∀ k,K2 ≤ k → spec_NumbersOf.l0 k l [] 0 = some (nums l,true):=h2
  refine ⟨K1 + K2,fun k hk => ?_⟩
  cases e:isH l <;> simp [spec_NumbersOf.f,numsR,h1 k (by omega),h2 k (by omega),e]
def dbl (l:List S43):List Int:=(l.filter fun t => t.f0 == t.f1).map fun t => t.f0
theorem idbl_ev:∀ (rest pre:List S43) (o:List Int),(pre ++ rest).length ≤ 1000000 → o.length ≤ pre.length → Ev (fun k => impl_doubles.l0 k o (pre ++ rest) ((pre ++ rest).length:Int) (pre.length:Int)) (o ++ dbl rest):=by
  intro rest
  induction rest with
  | nil =>
    intro pre o hl h0
    refine Ev.step (f:=fun _ => some (o ++ dbl [])) (fun k => ?_) (Ev.now _)
    simp only [impl_doubles.l0,List.append_nil]
    rw [if_neg (by omega)]
    simp [dbl]
  | cons x xs ih =>
    intro pre o hl h0
    have hlen:(pre ++ x :: xs).length = pre.length + xs.length + 1:=by simp; omega
    have hget:rd_T43 (pre ++ x :: xs) (pre.length:Int) = x:=rd_at' pre x xs
    have e1:pre ++ [x] ++ xs = pre ++ x :: xs:=by simp
    by_cases e:x.f0 = x.f1
    · have:=ih (pre ++ [x]) (o ++ [x.f0]) (by rw [e1]; exact hl) (by simp; omega)
      rw [e1,show o ++ [x.f0] ++ dbl xs = o ++ dbl (x :: xs) by simp [dbl,e]] at this
      refine Ev.step (fun k => ?_) this
      simp only [impl_doubles.l0,impl_isDouble.f]
      rw [if_pos (by omega),if_pos (by omega),if_pos (by omega),hget,t_wrap ((pre.length:Int) + 1) (by omega) (by omega),if_pos (by omega)]
      simp [e]
    · have:=ih (pre ++ [x]) o (by rw [e1]; exact hl) (by simp; omega)
      rw [e1,show o ++ dbl xs = o ++ dbl (x :: xs) by simp [dbl,e]] at this
      refine Ev.step (fun k => ?_) this
      simp only [impl_doubles.l0,impl_isDouble.f]
      rw [if_pos (by omega),if_pos (by omega),if_pos (by omega),hget,t_wrap ((pre.length:Int) + 1) (by omega) (by omega),if_pos (by omega)]
      simp [e]
theorem sdbl_ev:∀ (rest pre:List S43) (o:List Int),(pre ++ rest).length ≤ 1000000 → o.length ≤ pre.length → Ev (fun k => spec_DoublesOf.l0 k o (pre ++ rest) ((pre ++ rest).length:Int) (pre.length:Int)) (o ++ dbl rest,true):=by
  intro rest
  induction rest with
  | nil =>
    intro pre o hl h0
    refine Ev.step (f:=fun _ => some (o ++ dbl [],true)) (fun k => ?_) (Ev.now _)
    simp only [spec_DoublesOf.l0,List.append_nil]
    rw [if_neg (by omega)]
    simp [dbl]
  | cons x xs ih =>
    intro pre o hl h0
    have hlen:(pre ++ x :: xs).length = pre.length + xs.length + 1:=by simp; omega
    have hget:rd_T43 (pre ++ x :: xs) (pre.length:Int) = x:=rd_at' pre x xs
    have e1:pre ++ [x] ++ xs = pre ++ x :: xs:=by simp
    by_cases e:x.f0 = x.f1
    · have:=ih (pre ++ [x]) (o ++ [x.f0]) (by rw [e1]; exact hl) (by simp; omega)
      rw [e1,show o ++ [x.f0] ++ dbl xs = o ++ dbl (x :: xs) by simp [dbl,e]] at this
      refine Ev.step (fun k => ?_) this
      simp only [spec_DoublesOf.l0]
      rw [if_pos (by omega),if_pos (by omega),if_pos (by omega),hget,t_wrap ((pre.length:Int) + 1) (by omega) (by omega),if_pos e,if_pos (by omega)]
      simp
    · have:=ih (pre ++ [x]) o (by rw [e1]; exact hl) (by simp; omega)
      rw [e1,show o ++ dbl xs = o ++ dbl (x :: xs) by simp [dbl,e]] at this
      refine Ev.step (fun k => ?_) this
      simp only [spec_DoublesOf.l0]
      rw [if_pos (by omega),if_pos (by omega),if_pos (by omega),hget,t_wrap ((pre.length:Int) + 1) (by omega) (by omega),if_neg e]
      simp
def dblR (l:List S43):List Int × Bool:=if isH l = true then (dbl (msort l),true) else ([],false)
theorem doubles_i (l:List S43) (hl:l.length ≤ 1000000):Ev (fun k => impl_DoublesOf.f k l) (dblR l):=by
  obtain ⟨K1,h1⟩:=isH_impl l (by omega)
  simp only at h1
  cases e:isH l
  · refine ⟨K1,fun k hk => ?_⟩
    simp [impl_DoublesOf.f,dblR,h1 k (by omega),e]
  · obtain ⟨a1,a2,a3⟩:=isH_true l e
    obtain ⟨K2,h2⟩:=idbl_ev (msort l) [] [] (by simp [msort_len]; omega) (by simp)
    simp only [List.nil_append,List.length_nil] at h2
    have h2:∀ k,K2 ≤ k → impl_doubles.l0 k [] (msort l) ((msort l).length:Int) 0 = some (dbl (msort l)):=h2
    refine ⟨K1 + K2,fun k hk => ?_⟩
    simp [impl_DoublesOf.f,impl_doubles.f,dblR,h1 k (by omega),sorted_i l a2 (by omega),h2 k (by omega),e]
theorem doubles_s (l:List S43) (hl:l.length ≤ 1000000):Ev (fun k => spec_DoublesOf.f k l) (dblR l):=by
  obtain ⟨K1,h1⟩:=isH_spec l (by omega)
  simp only at h1
  cases e:isH l
  · refine ⟨K1,fun k hk => ?_⟩
    simp [spec_DoublesOf.f,dblR,h1 k (by omega),e]
  · obtain ⟨a1,a2,a3⟩:=isH_true l e
    obtain ⟨K2,h2⟩:=sdbl_ev (msort l) [] [] (by simp [msort_len]; omega) (by simp)
    obtain ⟨K3,h3⟩:=tiSort_f l e
    simp only [List.nil_append,List.length_nil] at h2 h3
    have h2:∀ k,K2 ≤ k → spec_DoublesOf.l0 k [] (msort l) ((msort l).length:Int) 0 = some (dbl (msort l),true):=h2
    refine ⟨K1 + K2 + K3,fun k hk => ?_⟩
    simp [spec_DoublesOf.f,dblR,h1 k (by omega),h3 k (by omega),h2 k (by omega),e]
def hasN (n:Int) (t:S43):Bool:=(t.f0 == n) || (t.f1 == n)
theorem kept_n (l:List S43) (n:Int) (e:isH l = true):Ev (fun k => g47_impl_kept.f k l n) ((msort l).filter (hasN n)):=by
  obtain ⟨a1,a2,a3⟩:=isH_true l e
  obtain ⟨K,h⟩:=delN n (msort l) (by rw [msort_len]; omega)
  simp only [qN,Bool.not_not] at h
  exact ⟨K,fun k hk => by
    simp [g47_impl_kept.f,sorted_i l a2 (by omega),h k hk]
    rfl⟩
theorem with_ev (n:Int):∀ (rest pre o:List S43),(pre ++ rest).length ≤ 1000000 → o.length ≤ pre.length → Ev (fun k => spec_WithNumber.l0 k n o (pre ++ rest) ((pre ++ rest).length:Int) (pre.length:Int)) (o ++ rest.filter (hasN n),true):=by
  intro rest
  induction rest with
  | nil =>
    intro pre o hl h0
    refine Ev.step (f:=fun _ => some (o ++ [].filter (hasN n),true)) (fun k => ?_) (Ev.now _)
    simp only [spec_WithNumber.l0,List.append_nil]
    rw [if_neg (by omega)]
    simp
  | cons x xs ih =>
    intro pre o hl h0
    have hlen:(pre ++ x :: xs).length = pre.length + xs.length + 1:=by simp; omega
    have hget:rd_T43 (pre ++ x :: xs) (pre.length:Int) = x:=rd_at' pre x xs
    have e1:pre ++ [x] ++ xs = pre ++ x :: xs:=by simp
    have hw:wrap64 ((pre.length:Int) + 1) = ((pre ++ [x]).length:Int):=by rw [t_wrap _ (by omega) (by omega)]; simp
    cases e:hasN n x
    · have:=ih (pre ++ [x]) o (by rw [e1]; exact hl) (by simp; omega)
      rw [e1,show o ++ xs.filter (hasN n) = o ++ (x :: xs).filter (hasN n) by simp [e]] at this
      refine Ev.step (fun k => ?_) this
      simp only [hasN,Bool.or_eq_false_iff,beq_eq_false_iff_ne] at e
      simp only [spec_WithNumber.l0]
      rw [if_pos (by omega),if_pos (by omega),if_pos (by omega),hget,if_neg e.1,if_neg e.2,hw]
    · have:=ih (pre ++ [x]) (o ++ [x]) (by rw [e1]; exact hl) (by simp; omega)
      rw [e1,show o ++ [x] ++ xs.filter (hasN n) = o ++ (x :: xs).filter (hasN n) by simp [e]] at this
      refine Ev.step (fun k => ?_) this
      simp only [hasN,Bool.or_eq_true,beq_iff_eq] at e
      simp only [spec_WithNumber.l0]
      rw [if_pos (by omega),if_pos (by omega),if_pos (by omega),hget,hw]
      by_cases e2:x.f0 = n
      · rw [if_pos e2,if_pos (by omega)]
      · rw [if_neg e2,if_pos (by rcases e with h | h; exact absurd h e2; exact h),if_pos (by omega)]
def withR (l:List S43) (n:Int):List S43 × Bool:=if isH l = true ∧ 0 ≤ n ∧ n ≤ 9 then ((msort l).filter (hasN n),true) else ([],false)
theorem with_i (l:List S43) (n:Int) (hl:l.length ≤ 1000000):Ev (fun k => g18_impl_WithNumber.f k l n) (withR l n):=by
  obtain ⟨K1,h1⟩:=isH_impl l (by omega)
  simp only at h1
  cases e:isH l
  · exact ⟨K1,fun k hk => by simp [g18_impl_WithNumber.f,withR,h1 k (by omega),e]⟩
  · obtain ⟨K2,h2⟩:=kept_n l n e
    simp only at h2
    refine ⟨K1 + K2,fun k hk => ?_⟩
    by_cases e2:0 ≤ n ∧ n ≤ 9 <;> simp [g18_impl_WithNumber.f,withR,h1 k (by omega),h2 k (by omega),number_i,e,e2]
theorem with_s (l:List S43) (n:Int) (hl:l.length ≤ 1000000):Ev (fun k => spec_WithNumber.f k l n) (withR l n):=by
  obtain ⟨K1,h1⟩:=isH_spec l (by omega)
  simp only at h1
  have no:∀ k,spec_WithNumber.j0 (k + 1) l n true = some ([],false):=fun k => by simp [spec_WithNumber.j0]
  cases e:isH l
  · refine ⟨K1 + 1,fun k hk => ?_⟩
    obtain ⟨m,rfl⟩ : ∃ m,k = m + 1:=⟨k - 1,by omega⟩
    simp [spec_WithNumber.f,withR,h1 (m + 1) (by omega),e,no]
  · obtain ⟨a1,a2,a3⟩:=isH_true l e
    obtain ⟨K2,h2⟩:=with_ev n (msort l) [] [] (by simp [msort_len]; omega) (by simp)
    obtain ⟨K3,h3⟩:=tiSort_f l e
    simp only [List.nil_append,List.length_nil] at h2 h3
    have h2:∀ k,K2 ≤ k → spec_WithNumber.l0 k n [] (msort l) ((msort l).length:Int) 0 = some ((msort l).filter (hasN n),true):=h2
    refine ⟨K1 + K2 + K3 + 1,fun k hk => ?_⟩
    obtain ⟨m,rfl⟩ : ∃ m,k = m + 1:=⟨k - 1,by omega⟩
    by_cases e2:0 ≤ n ∧ n ≤ 9
    · simp [spec_WithNumber.f,withR,h1 (m + 1) (by omega),number_s,e,e2,spec_WithNumber.j0,h3 m (by omega),h2 m (by omega)]
    · simp [spec_WithNumber.f,withR,h1 (m + 1) (by omega),number_s,e,e2,no]
theorem tm_perm {a b:List S43} (h:a.Perm b) (n:Int):tm a n = tm b n:=by
  induction h with
  | nil => rfl
  | cons x _ ih => rw [tm_cons,tm_cons,ih]
  | swap x y l => rw [tm_cons,tm_cons,tm_cons,tm_cons]; omega
  | trans _ _ h1 h2 => rw [h1,h2]
theorem tm_with:∀ (l:List S43) (n:Int),tm l n = ((l.filter (hasN n)).length:Int) + ((l.count (⟨n,n⟩ : S43):Nat):Int)
  | [],n => by simp [tm]
  | x :: l,n => by
    rw [tm_cons,tm_with l n,List.count_cons,List.filter_cons]
    have hb:(x == (⟨n,n⟩ : S43)) = decide (x.f0 = n ∧ x.f1 = n):=by
      by_cases e:x.f0 = n ∧ x.f1 = n
      · have:x = ⟨n,n⟩:=t_ext _ _ e.1 e.2
        rw [this]
        simp
      · rw [decide_eq_false e,beq_eq_false_iff_ne]
        rintro rfl
        exact e ⟨rfl,rfl⟩
    rw [hb]
    by_cases e0:x.f0 = n <;> by_cases e1:x.f1 = n <;> simp [hasN,e0,e1] <;> omega
theorem with_len (l:List S43) (n:Int) (h:isH l = true):tm l n = (((msort l).filter (hasN n)).length:Int) + (if (⟨n,n⟩ : S43) ∈ l then 1 else 0):=by
  obtain ⟨a1,a2,a3⟩:=isH_true l h
  have hp:(msort l).Perm l:=List.mergeSort_perm l _
  rw [← tm_perm hp,tm_with,hp.count_eq,count_nd l _ a3]
  split <;> rfl
theorem dbl_mem (l:List S43) (n:Int):n ∈ dbl (msort l) ↔ (⟨n,n⟩ : S43) ∈ l:=by
  unfold dbl
  rw [List.mem_map]
  constructor
  · rintro ⟨t,ht,rfl⟩
    rw [List.mem_filter,msort_mem] at ht
    have:(⟨t.f0,t.f0⟩ : S43) = t:=t_ext _ _ rfl (by simpa using ht.2)
    rw [this]
    exact ht.1
  · intro h
    exact ⟨⟨n,n⟩,List.mem_filter.2 ⟨(msort_mem l _).2 h,by simp⟩,rfl⟩
def sm (l:List S43):Nat → Int
  | 0 => 0
  | i + 1 => sm l i + tm l (i:Int)
theorem sm_nil:∀ i,sm [] i = 0
  | 0 => rfl
  | i + 1 => by simp [sm,sm_nil i,tm]
theorem sm_cons (t:S43) (l:List S43) (h0:0 ≤ t.f0) (h1:0 ≤ t.f1):∀ i:Nat,sm (t :: l) i = sm l i + (if t.f0 < i then 1 else 0) + (if t.f1 < i then 1 else 0)
  | 0 => by
    simp only [sm]
    rw [if_neg (by omega),if_neg (by omega)]
    rfl
  | i + 1 => by
    simp only [sm]
    rw [sm_cons t l h0 h1 i,tm_cons]
    by_cases a1:t.f0 < i <;> by_cases a2:t.f0 = i <;> by_cases b1:t.f1 < i <;> by_cases b2:t.f1 = i <;> first | omega | (simp only [a1,a2,b1,b2,if_true,if_false]; (repeat rw [if_pos (by omega)]); (repeat rw [if_neg (by omega)]); omega) | (split <;> split <;> split <;> split <;> split <;> split <;> omega)
theorem sm_all:∀ (l:List S43),(∀ x ∈ l,good x = true) → sm l 10 = 2 * l.length
  | [],_ => sm_nil 10
  | t :: l,h => by
    have g:=(good_iff t).1 (h t List.mem_cons_self)
    rw [sm_cons t l (by omega) (by omega),sm_all l (fun x hx => h x (List.mem_cons_of_mem _ hx)),if_pos (by omega),if_pos (by omega)]
    simp only [List.length_cons]
    omega
theorem sm_small (l:List S43):∀ i:Nat,0 ≤ sm l i ∧ sm l i ≤ 2 * l.length * i
  | 0 => by simp [sm]
  | i + 1 => by
    have h1:=sm_small l i
    have h2:=tm_small l i
    simp only [sm]
    have:2 * (l.length:Int) * ((i + 1:Nat):Int) = 2 * l.length * i + 2 * l.length:=by
      rw [show ((i + 1:Nat):Int) = (i:Int) + 1 from rfl,Int.mul_add,Int.mul_one]
    omega
theorem all_names (ns:List Int) (h:nms ns = true):∀ n:Nat,n < 10 → (n:Int) ∈ ns:=by
  obtain ⟨h1,h2,h3⟩:=nms_true ns h
  intro n hn
  refine Classical.byContradiction fun hno => ?_
  have hsub:∀ x ∈ ns,x ∈ ((List.range 10).map fun i => ((i:Nat):Int)).erase (n:Int):=by
    intro x hx
    have hx9:=h2 x hx
    rw [List.mem_erase_of_ne (fun e => hno (by rw [← e]; exact hx))]
    exact List.mem_map.2 ⟨x.toNat,List.mem_range.2 (by omega),Int.toNat_of_nonneg hx9.1⟩
  have hle:∀ (a b:List Int),a.Nodup → (∀ x ∈ a,x ∈ b) → a.length ≤ b.length:=by
    intro a
    induction a with
    | nil => intro b _ _; simp
    | cons x xs ih =>
      intro b hn h
      rw [List.nodup_cons] at hn
      have hx:=h x List.mem_cons_self
      have:=ih (b.erase x) hn.2 (fun y hy => (List.mem_erase_of_ne (fun e => hn.1 (by rw [← e]; exact hy))).2 (h y (List.mem_cons_of_mem _ hy)))
      rw [List.length_erase_of_mem hx] at this
      have hp:0 < b.length:=List.length_pos_of_mem hx
      simp
      omega
  have:=hle ns _ h3 hsub
  rw [List.length_erase_of_mem (List.mem_map.2 ⟨n,List.mem_range.2 hn,rfl⟩)] at this
  simp at this
  omega
theorem names_all (ns:List Int) (h1:ns.length = 10) (h:∀ n:Nat,n < 10 → (n:Int) ∈ ns):nms ns = true:=by
  obtain ⟨R,hR⟩ : ∃ R,R = (List.range 10).map fun i => ((i:Nat):Int):=⟨_,rfl⟩
  have hRl:R.length = 10:=by rw [hR]; rfl
  have hRn:R.Nodup:=by rw [hR]; decide
  have hsub:∀ x ∈ R,x ∈ ns:=by
    intro x hx
    rw [hR] at hx
    obtain ⟨i,hi,rfl⟩:=List.mem_map.1 hx
    exact h i (List.mem_range.1 hi)
  have hperm:R.Perm ns:=by
    have gen:∀ (a b:List Int),a.Nodup → (∀ x ∈ a,x ∈ b) → b.length ≤ a.length → a.Perm b:=by
      intro a
      induction a with
      | nil =>
        intro b _ _ hl
        have:b = []:=List.length_eq_zero_iff.1 (by simpa using hl)
        rw [this]
      | cons x xs ih =>
        intro b hn hs hl
        rw [List.nodup_cons] at hn
        have hx:=hs x List.mem_cons_self
        have:=ih (b.erase x) hn.2 (fun y hy => (List.mem_erase_of_ne (fun e => hn.1 (by rw [← e]; exact hy))).2 (hs y (List.mem_cons_of_mem _ hy))) (by
          rw [List.length_erase_of_mem hx]
          simp at hl
          omega)
        exact (this.cons x).trans (List.perm_cons_erase hx).symm
    exact gen R ns hRn hsub (by omega)
  have hnd:ns.Nodup:=hperm.nodup_iff.1 hRn
  have hin:∀ x ∈ ns,inB 0 9 x = true:=by
    intro x hx
    have:=hperm.mem_iff.2 hx
    rw [hR] at this
    obtain ⟨i,hi,rfl⟩:=List.mem_map.1 this
    have:=List.mem_range.1 hi
    simp [inB]
    omega
  have hI:∀ (rest pre:List Int),(∀ x ∈ rest,x ∉ pre) → rest.Nodup → ndI pre rest = true:=by
    intro rest
    induction rest with
    | nil => intro pre _ _; rfl
    | cons x xs ih =>
      intro pre h hn
      rw [List.nodup_cons] at hn
      simp only [ndI,Bool.and_eq_true,Bool.not_eq_true',decide_eq_false_iff_not]
      refine ⟨h x List.mem_cons_self,ih _ (fun y hy hm => ?_) hn.2⟩
      rcases List.mem_append.1 hm with hm | hm
      · exact h y (List.mem_cons_of_mem _ hy) hm
      · rw [List.mem_singleton] at hm
        subst hm
        exact hn.1 hy
  unfold nms
  simp only [Bool.and_eq_true,decide_eq_true_eq,List.all_eq_true]
  exact ⟨by omega,hin,hI ns [] (fun _ _ h => by cases h) hnd⟩
def renR (l:List S43) (ns:List Int):List S43 × Bool:=if isH l = true ∧ nms ns = true then (msort (l.map (ren ns)),true) else ([],false)
theorem rename_i (l:List S43) (ns:List Int) (hl:l.length ≤ 1000000) (hn:ns.length ≤ 1000000):Ev (fun k => impl_RenameHand.f k l ns) (renR l ns):=by
  obtain ⟨K1,h1⟩:=isH_impl l (by omega)
  obtain ⟨K2,h2⟩:=nms_impl ns (by omega)
  simp only at h1 h2
  cases e:isH l
  · exact ⟨K1,fun k hk => by simp [impl_RenameHand.f,renR,h1 k (by omega),e]⟩
  · cases e2:nms ns
    · exact ⟨K1 + K2,fun k hk => by simp [impl_RenameHand.f,renR,h1 k (by omega),h2 k (by omega),e,e2]⟩
    · obtain ⟨a1,a2,a3⟩:=isH_true l e
      have hH:=ren_hand ns e2 l e
      obtain ⟨b1,b2,b3⟩:=isH_true _ hH
      obtain ⟨K3,h3⟩:=tiles_impl ns (nms_true ns e2).1 l (msort (l.map (ren ns))) (by omega) a2 l [] [] rfl (by simp) (by rw [List.nil_append]; exact sorted_i _ b2 (by omega))
      have h3:∀ k,K3 ≤ k → impl_renamedHand.f k l ns = some (msort (l.map (ren ns))):=h3
      exact ⟨K1 + K2 + K3,fun k hk => by simp [impl_RenameHand.f,renR,h1 k (by omega),h2 k (by omega),h3 k (by omega),e,e2]⟩
theorem names0_ev (l:List S43) (ns:List Int) (R:List S43 × Bool) (hn:ns.length = 10):∀ (d i:Nat),i + d = 10 → ((∀ n:Nat,i ≤ n → n < 10 → (n:Int) ∈ ns) → Ev (fun k => spec_RenameHand.l1 k ns ([] : List S43) l (l.length:Int) 0) R) → ((¬ ∀ n:Nat,i ≤ n → n < 10 → (n:Int) ∈ ns) → R = ([],false)) →
    Ev (fun k => spec_RenameHand.l0 k l ns (ns.length:Int) (i:Int)) R:=by
  intro d
  induction d with
  | zero =>
    intro i hi h1 h2
    refine Ev.step (fun k => ?_) (h1 (fun n h3 h4 => by omega))
    simp only [spec_RenameHand.l0]
    rw [if_neg (by omega)]
  | succ d ih =>
    intro i hi h1 h2
    obtain ⟨K1,g1⟩:=hasI_f (i:Int) ns (by omega)
    simp only at g1
    have hw:wrap64 ((i:Int) + 1) = ((i + 1:Nat):Int):=by rw [t_wrap _ (by omega) (by omega)]; rfl
    by_cases hm:(i:Int) ∈ ns
    · obtain ⟨K2,g2⟩:=ih (i + 1) (by omega) (fun h => h1 (fun n h3 h4 => by
        by_cases e:n = i
        · subst e
          exact hm
        · exact h n (by omega) h4)) (fun h => h2 (fun h5 => h (fun n h3 h4 => h5 n (by omega) h4)))
      refine ev_up (K:=K1 + K2) fun k hk => ?_
      simp only [spec_RenameHand.l0]
      rw [if_pos (by omega),g1 k (by omega)]
      simp only [Option.bind_some,hm,decide_true,if_true,hw]
      exact g2 k (by omega)
    · have hR:=h2 (fun h => hm (h i (Nat.le_refl _) (by omega)))
      subst hR
      refine ev_up (K:=K1) fun k hk => ?_
      simp only [spec_RenameHand.l0]
      rw [if_pos (by omega),g1 k (by omega)]
      simp only [Option.bind_some,hm,decide_false,Bool.false_eq_true,if_false]
theorem tilesS_ev (ns:List Int) (hns:ns.length = 10) (l:List S43) (R:List S43 × Bool) (hl:l.length ≤ 1000) (hg:∀ x ∈ l,good x = true):∀ (rest pre out:List S43),pre ++ rest = l → out.length ≤ pre.length →
    Ev (fun k => (spec_tiSort.f k (out ++ rest.map (ren ns))).bind fun t324 => (some (t324,true))) R →
    Ev (fun k => spec_RenameHand.l1 k ns out l (l.length:Int) (pre.length:Int)) R:=by
  intro rest
  induction rest with
  | nil =>
    intro pre out e h0 h
    refine Ev.step (fun k => ?_) h
    simp only [spec_RenameHand.l1,List.map_nil,List.append_nil]
    rw [if_neg (by rw [← e]; simp)]
  | cons x xs ih =>
    intro pre out e h0 h
    have hlen:l.length = pre.length + xs.length + 1:=by rw [← e]; simp; omega
    have hget:rd_T43 l (pre.length:Int) = x:=by rw [← e]; exact rd_at' pre x xs
    have hx:=(good_iff x).1 (hg x (by rw [← e]; simp))
    refine Ev.step (fun k => ?_) (ih (pre ++ [x]) (out ++ [ren ns x]) (by rw [← e]; simp) (by simp; omega) (by simpa using h))
    simp only [spec_RenameHand.l1]
    rw [if_pos (by omega),if_pos (by omega),if_pos (by omega),hget,if_pos (by omega),if_pos (by omega),if_pos (by omega),if_pos (by omega),tiOf_f,t_wrap ((pre.length:Int) + 1) (by omega) (by omega)]
    simp only [Option.bind_some]
    rw [if_pos (by omega)]
    simp [ren]
theorem rename_s (l:List S43) (ns:List Int) (hl:l.length ≤ 1000000) (hn:ns.length ≤ 1000000):Ev (fun k => spec_RenameHand.f k l ns) (renR l ns):=by
  obtain ⟨K1,h1⟩:=isH_spec l (by omega)
  simp only at h1
  have no:∀ k,spec_RenameHand.j0 (k + 1) l ns true = some ([],false):=fun k => by simp [spec_RenameHand.j0]
  cases e:isH l
  · refine ⟨K1 + 1,fun k hk => ?_⟩
    obtain ⟨m,rfl⟩ : ∃ m,k = m + 1:=⟨k - 1,by omega⟩
    simp [spec_RenameHand.f,renR,h1 (m + 1) (by omega),e,no]
  · obtain ⟨a1,a2,a3⟩:=isH_true l e
    by_cases h10:ns.length = 10
    · obtain ⟨K2,h2⟩:=names0_ev l ns (renR l ns) h10 10 0 rfl (fun h => by
        have hnm:=names_all ns h10 (fun n hn => h n (Nat.zero_le _) hn)
        have hH:=ren_hand ns hnm l e
        refine tilesS_ev ns h10 l _ (by omega) a2 l [] [] rfl (by simp) ?_
        rw [renR,if_pos ⟨e,hnm⟩]
        exact Ev.bind (f:=fun _ t324 => some (t324,true)) (tiSort_f _ hH) (Ev.now _)) (fun h => by
        rw [renR,if_neg]
        rintro ⟨_,hnm⟩
        exact h (fun n _ hn => all_names ns hnm n hn))
      simp only at h2
      refine ⟨K1 + K2 + 1,fun k hk => ?_⟩
      obtain ⟨m,rfl⟩ : ∃ m,k = m + 1:=⟨k - 1,by omega⟩
      have h2:spec_RenameHand.l0 m l ns (ns.length:Int) 0 = some (renR l ns):=h2 m (by omega)
      have hb:((ns.length:Int) != 10) = false:=by rw [h10]; rfl
      simp only [spec_RenameHand.f,h1 (m + 1) (by omega),Option.bind_some,e,if_true,hb,spec_RenameHand.j0,Bool.false_eq_true,if_false,h2]
    · have hnm:nms ns = false:=by
        unfold nms
        rw [decide_eq_false (by omega)]
        rfl
      have hb:((ns.length:Int) != 10) = true:=by simp; omega
      refine ⟨K1 + 1,fun k hk => ?_⟩
      obtain ⟨m,rfl⟩ : ∃ m,k = m + 1:=⟨k - 1,by omega⟩
      simp [spec_RenameHand.f,renR,h1 (m + 1) (by omega),e,no,hb,hnm]
theorem tm_ren (ns:List Int) (h:nms ns = true) (n:Int) (h0:0 ≤ n) (h9:n ≤ 9):∀ l:List S43,(∀ x ∈ l,good x = true) → tm (l.map (ren ns)) (rd ns n) = tm l n
  | [],_ => rfl
  | t :: l,hg => by
    obtain ⟨n1,n2,n3⟩:=nms_true ns h
    have g:=(good_iff t).1 (hg t List.mem_cons_self)
    rw [List.map_cons,tm_cons,tm_cons,tm_ren ns h n h0 h9 l (fun x hx => hg x (List.mem_cons_of_mem _ hx))]
    have e0:rd ns t.f0 = rd ns n ↔ t.f0 = n:=⟨rd_inj ns n3 _ _ (by omega) (by omega) h0 (by omega),fun e => by rw [e]⟩
    have e1:rd ns t.f1 = rd ns n ↔ t.f1 = n:=⟨rd_inj ns n3 _ _ (by omega) (by omega) h0 (by omega),fun e => by rw [e]⟩
    have hm:∀ a b v:Int,(if mn a b = v then (1:Int) else 0) + (if mx a b = v then 1 else 0) = (if a = v then 1 else 0) + (if b = v then 1 else 0):=by
      intro a b v
      unfold mn mx
      by_cases h1:b < a
      · rw [if_pos h1,if_neg (show ¬ a < b by omega)]
        exact Int.add_comm _ _
      · by_cases h2:a < b
        · rw [if_neg h1,if_pos h2]
        · have:a = b:=by omega
          subst this
          simp
    show (if mn (rd ns t.f0) (rd ns t.f1) = rd ns n then (1:Int) else 0) + (if mx (rd ns t.f0) (rd ns t.f1) = rd ns n then 1 else 0) + tm l n = _
    rw [hm]
    simp only [e0,e1]
theorem jt_tail:∀ L:List (List UInt8),Lib.joinTail [44] L = jt 44 L
  | [] => rfl
  | x :: xs => by
    have:(xs.map fun y => [44] ++ y).flatten = jt 44 xs:=jt_tail xs
    show ((x :: xs).map fun y => [44] ++ y).flatten = 44 :: (x ++ jt 44 xs)
    rw [List.map_cons,List.flatten_cons,this]
    rfl
def txtD (l:List S43):List UInt8:=if l = [] then [45] else Lib.join (l.map tl) [44]
def txtB (l:List S43):ByteArray:=⟨(txtD l).toArray⟩
theorem txt_data (l:List S43):(txtB l).data.toList = txtD l:=by simp [txtB]
def textR (l:List S43):ByteArray × Bool:=if isH l = true then (txtB l,true) else ((⟨#[]⟩ : ByteArray),false)
theorem text_i (l:List S43) (hl:l.length ≤ 1000000):Ev (fun k => impl_HandText.f k l) (textR l):=by
  obtain ⟨K1,h1⟩:=isH_impl l (by omega)
  simp only at h1
  cases e:isH l
  · exact ⟨K1,fun k hk => by simp [impl_HandText.f,textR,h1 k (by omega),e]⟩
  · obtain ⟨a1,a2,a3⟩:=isH_true l e
    obtain ⟨y,⟨K2,h2⟩,hy⟩:=ht_f l a1
    have:y = txtB l:=ba_ext _ _ (by rw [hy,txt_data]; rfl)
    subst this
    simp only at h2
    exact ⟨K1 + K2,fun k hk => by simp [impl_HandText.f,textR,h1 k (by omega),h2 k (by omega),e]⟩
theorem text_s (l:List S43) (hl:l.length ≤ 1000000):Ev (fun k => spec_HandText.f k l) (textR l):=by
  obtain ⟨K1,h1⟩:=isH_spec l (by omega)
  simp only at h1
  cases e:isH l
  · exact ⟨K1,fun k hk => by simp [spec_HandText.f,textR,h1 k (by omega),e]⟩
  · obtain ⟨a1,a2,a3⟩:=isH_true l e
    obtain ⟨y,⟨K2,h2⟩,hy⟩:=tt_f l a1 (fun x hx => by have:=(good_iff x).1 (a2 x hx); omega)
    have:y = txtB l:=ba_ext _ _ (by rw [hy,txt_data]; rfl)
    subst this
    simp only at h2
    exact ⟨K1 + K2,fun k hk => by simp [spec_HandText.f,textR,h1 k (by omega),h2 k (by omega),e]⟩
theorem dgn_fin:∀ n:Fin 10,(dgn ((n.val:Nat):Int)).toNat = 48 + n.val:=by decide +kernel
theorem dgn_val (n:Int) (h0:0 ≤ n) (h9:n ≤ 9):((dgn n).toNat:Int) = 48 + n:=by
  have:=dgn_fin ⟨n.toNat,by omega⟩
  simp only [Int.toNat_of_nonneg h0] at this
  omega
theorem dgn_ne (n:Int) (h0:0 ≤ n) (h9:n ≤ 9):dgn n ≠ 44:=by
  intro e
  have:=dgn_val n h0 h9
  rw [e] at this
  have h44:(44:UInt8).toNat = 44:=rfl
  omega
theorem dg_tl (x:S43) (h:good x = true):dgt x = tl x:=by
  have g:=(good_iff x).1 h
  unfold dgt tl
  have e:∀ n:Int,0 ≤ n → n ≤ 9 → UInt8.ofNat (n + 48).toNat = dgn n:=fun n h0 h9 => by
    apply UInt8.toNat_inj.1
    have:=dgn_val n h0 h9
    simp
    omega
  rw [e _ (by omega) (by omega),e _ (by omega) (by omega)]
theorem sp1_none (c:UInt8):∀ l:List UInt8,c ∉ l → sp1 c l = [l]
  | [],_ => rfl
  | b :: l,h => by
    have hb:¬ b = c:=fun e => h (by rw [e]; exact List.mem_cons_self)
    rw [sp1,if_neg hb,sp1_none c l (fun hm => h (List.mem_cons_of_mem _ hm))]
theorem sp1_some (c:UInt8) (r:List UInt8):∀ l:List UInt8,c ∉ l → sp1 c (l ++ c :: r) = l :: sp1 c r
  | [],_ => by simp [sp1]
  | b :: l,h => by
    have hb:¬ b = c:=fun e => h (by rw [e]; exact List.mem_cons_self)
    rw [List.cons_append,sp1,if_neg hb,sp1_some c r l (fun hm => h (List.mem_cons_of_mem _ hm))]
theorem sp1_jt (c:UInt8):∀ (xs:List (List UInt8)) (x:List UInt8),(∀ y ∈ x :: xs,c ∉ y) → sp1 c (x ++ jt c xs) = x :: xs
  | [],x,h => by
    rw [jt,List.append_nil]
    exact sp1_none c x (h x List.mem_cons_self)
  | y :: ys,x,h => by
    rw [jt,sp1_some c _ x (h x List.mem_cons_self),sp1_jt c ys y (fun z hz => h z (List.mem_cons_of_mem _ hz))]
theorem sp1_txt (l:List S43) (hg:∀ x ∈ l,good x = true) (hn:l ≠ []):sp1 44 (txtD l) = l.map tl:=by
  cases l with
  | nil => exact absurd rfl hn
  | cons x xs =>
    unfold txtD
    rw [if_neg hn,List.map_cons,Lib.join_cons,jt_tail]
    refine sp1_jt 44 _ _ (fun y hy => ?_)
    rw [← List.map_cons] at hy
    obtain ⟨t,ht,rfl⟩:=List.mem_map.1 hy
    have g:=(good_iff t).1 (hg t ht)
    intro hm
    simp only [tl,List.mem_cons,List.not_mem_nil,or_false] at hm
    rcases hm with hm | hm
    · exact dgn_ne _ (by omega) (by omega) hm.symm
    · exact dgn_ne _ (by omega) (by omega) hm.symm
theorem txt_len (l:List S43):(txtD l).length = if l = [] then 1 else 3 * l.length - 1:=by
  cases l with
  | nil => rfl
  | cons x xs =>
    unfold txtD
    rw [if_neg (by simp),if_neg (by simp),List.map_cons,Lib.join_cons,List.length_append,joinTail_len]
    simp [tl]
    omega
theorem txt_size (l:List S43):(txtB l).size = (txtD l).length:=by rw [ba_size,txt_data]
theorem parse_ev (l:List S43) (hl:isH l = true) (P:List ByteArray) (hP:P.map (fun x => x.data.toList) = l.map tl):∀ (rest pre:List S43),l = pre ++ rest → Ev (fun k => impl_ParseHand.l0 k pre P (P.length:Int) (pre.length:Int)) (l,true):=by
  obtain ⟨a1,a2,a3⟩:=isH_true l hl
  have hPl:P.length = l.length:=by
    have:=congrArg List.length hP
    simpa using this
  intro rest
  induction rest with
  | nil =>
    intro pre e
    rw [List.append_nil] at e
    subst e
    obtain ⟨K1,h1⟩:=isH_impl l (by omega)
    simp only at h1
    refine ev_up (K:=K1) fun k hk => ?_
    simp only [impl_ParseHand.l0]
    rw [if_neg (by omega),h1 k (by omega),hl]
    rfl
  | cons x xs ih =>
    intro pre e
    have hlen:l.length = pre.length + xs.length + 1:=by rw [e]; simp; omega
    have g:=(good_iff x).1 (a2 x (by rw [e]; simp))
    rw [e,List.map_append,List.map_cons] at hP
    obtain ⟨A,B,rfl,hA,hB⟩:=List.map_eq_append_iff.1 hP
    obtain ⟨b,B',rfl,hb,hB'⟩:=List.map_eq_cons_iff.1 hB
    have hAl:A.length = pre.length:=by
      have:=congrArg List.length hA
      simpa using this
    have hget:rdOf ByteArray.empty (A ++ b :: B') (pre.length:Int) = b:=by rw [← hAl]; exact rdOf_mid A b B'
    have hbs:(b.size:Int) = 2:=by
      rw [ba_size,hb]
      rfl
    have b0:bt b 0 = 48 + x.f0:=by
      have:=bt_is b 0 (dgn x.f0) [dgn x.f1] (by rw [hb]; rfl)
      rw [dgn_val x.f0 (by omega) (by omega)] at this
      exact this
    have b1:bt b 1 = 48 + x.f1:=by
      have:=bt_is b 1 (dgn x.f1) [] (by rw [hb]; rfl)
      rw [dgn_val x.f1 (by omega) (by omega)] at this
      exact this
    have w0:wrap64 ((wrap64 (bt b 0)) - 48) = x.f0:=by rw [b0,t_wrap (48 + x.f0) (by omega) (by omega),t_wrap _ (by omega) (by omega)]; omega
    have w1:wrap64 ((wrap64 (bt b 1)) - 48) = x.f1:=by rw [b1,t_wrap (48 + x.f1) (by omega) (by omega),t_wrap _ (by omega) (by omega)]; omega
    have hw:wrap64 ((pre.length:Int) + 1) = ((pre ++ [x]).length:Int):=by rw [t_wrap _ (by omega) (by omega)]; simp
    refine Ev.step (fun k => ?_) (ih (pre ++ [x]) (by rw [e]; simp))
    simp only [impl_ParseHand.l0]
    rw [hget,w0,w1,if_pos (by omega),if_pos (by omega),if_pos (by omega),if_pos hbs,if_pos (by omega),if_pos (by omega),if_pos (by omega),hw]
theorem parse_txt (l:List S43) (hl:isH l = true):Ev (fun k => impl_ParseHand.f k (txtB l)) (l,true):=by
  obtain ⟨a1,a2,a3⟩:=isH_true l hl
  by_cases hn:l = []
  · subst hn
    refine ⟨0,fun k _ => ?_⟩
    have:(txtB []).toList = ([45] : List UInt8):=by rw [tl_data,txt_data]; rfl
    simp [impl_ParseHand.f,this]
  · have hne:¬ (txtB l).toList = ([45] : List UInt8):=by
      rw [tl_data,txt_data]
      intro e
      have:=congrArg List.length e
      rw [txt_len,if_neg hn] at this
      have hp:0 < l.length:=List.length_pos_iff.2 hn
      simp at this
      omega
    obtain ⟨P,hP⟩ : ∃ P,P = Lib.splitB (⟨#[44]⟩ : ByteArray) 0 (Lib.countB (txtB l) ⟨#[44]⟩) (txtB l):=⟨_,rfl⟩
    have hsz:(txtB l).size ≤ 1000:=by
      rw [txt_size,txt_len]
      split <;> omega
    have hsplit:strings_Split.f (txtB l) (⟨#[44]⟩ : ByteArray) = some P:=by
      unfold strings_Split.f
      rw [if_pos ⟨by omega,by decide⟩,hP]
    have hdata:P.map (fun x => x.data.toList) = l.map tl:=by
      rw [← sp1_txt l a2 hn,← txt_data,hP]
      exact split_sp 44 ⟨#[44]⟩ rfl _ (txtB l) rfl
    have h:=parse_ev l hl P hdata l [] rfl
    refine Ev.congr (fun k => ?_) h
    simp only [impl_ParseHand.f,Option.bind_some,hne,if_false,hsplit]
    rfl
theorem txt_back (s:ByteArray) (r:List S43) (hr:isH r = true) (h:(s.toList = [45] ∧ r = []) ∨ sp1 44 s.data.toList = r.map dgt):txtB r = s:=by
  obtain ⟨a1,a2,a3⟩:=isH_true r hr
  refine ba_ext _ _ ?_
  rw [txt_data]
  rcases h with ⟨h1,rfl⟩ | h
  · rw [← tl_data,h1]
    rfl
  · obtain ⟨x,xs,h1,h2⟩:=sp1_join 44 s.data.toList
    rw [h1] at h
    cases r with
    | nil => cases h
    | cons y ys =>
      rw [List.map_cons] at h
      injection h with e1 e2
      have e3:ys.map dgt = ys.map tl:=List.map_congr_left (fun z hz => dg_tl z (a2 z (List.mem_cons_of_mem _ hz)))
      rw [h2,e1,e2,e3,dg_tl y (a2 y List.mem_cons_self)]
      unfold txtD
      rw [if_neg (by simp),List.map_cons,Lib.join_cons,jt_tail]
theorem d_sure9 (l:List Int) (hl:∀ x ∈ l,0 ≤ x ∧ x ≤ 255) (m:Int) (hm:0 ≤ m ∧ m ≤ 9):∀ (n:Nat) (c:List S43) (p s:Int),c.length + n ≤ 50 → (∀ x ∈ c,x.f0 < 10 ∧ x.f1 < 10) → 0 ≤ p → p + 4 * n ≤ 100000 →
    ∃ c' p' s',Ev (fun k => spec_l1Cur_sureHand.l0 k m c (n:Int) l p s) (c',p',s') ∧ c'.length ≤ c.length + n ∧ (∀ x ∈ c',x.f0 < 10 ∧ x.f1 < 10) ∧ 0 ≤ p' ∧ p' ≤ p + 4 * n:=by
  intro n
  induction n with
  | zero =>
    intro c p s h1 hc h3 h4
    refine ⟨c,p,s,Ev.step (f:=fun _ => some (c,p,s)) (fun k => ?_) (Ev.now _),by omega,hc,h3,by omega⟩
    simp only [spec_l1Cur_sureHand.l0]
    rw [if_neg (by omega)]
  | succ n ih =>
    intro c p s h1 hc h3 h4
    obtain ⟨v,q,s1,e1,v0,v1,q0,q1⟩:=d_pick l hl p s (by omega) (m + 1) (by omega)
    obtain ⟨u,q',s2,e2,u0,u1,r0,r1⟩:=d_pick l hl q s1 (by omega) (m + 1) (by omega)
    obtain ⟨r,hr,_⟩:=place_f (tileOf v u) c (by omega)
    have hw:wrap64 (m + 1) = m + 1:=t_wrap _ (by omega) (by omega)
    have hn:((n + 1:Nat):Int) - 1 = (n:Int):=by omega
    have hw2:wrap64 (((n + 1:Nat):Int) - 1) = (n:Int):=by rw [hn]; exact t_wrap _ (by omega) (by omega)
    have hsm:∀ x ∈ c ++ [tileOf v u],x.f0 < 10 ∧ x.f1 < 10:=by
      intro x hx
      rcases List.mem_append.1 hx with hx | hx
      · exact hc x hx
      · rw [List.mem_singleton] at hx
        subst hx
        unfold tileOf mn mx
        constructor
        · show (if u < v then u else v) < 10
          split <;> omega
        · show (if v < u then u else v) < 10
          split <;> omega
    have st:∀ R,Ev (fun k => (spec_tiPlace.f k c (tileOf v u).f0 (tileOf v u).f1).bind fun t351 => (if t351 < 0 then (spec_l1Cur_sureHand.l0 k m (c ++ [tileOf v u]) (n:Int) l q' s2) else (spec_l1Cur_sureHand.l0 k m c (n:Int) l q' s2))) R → Ev (fun k => spec_l1Cur_sureHand.l0 k m c ((n + 1:Nat):Int) l p s) R:=fun R h => by
      refine Ev.step (fun k => ?_) h
      simp only [spec_l1Cur_sureHand.l0]
      rw [if_pos (by omega),hw,e1,hw2]
      simp only [Option.bind_some]
      rw [e2]
      simp only [Option.bind_some,tiOf_f]
      rw [if_pos (show c.length < 8796093022208 from by omega)]
    by_cases hb:r < 0
    · obtain ⟨c',p',s',g1,g3,g2,g4,g5⟩:=ih (c ++ [tileOf v u]) q' s2 (by simp; omega) hsm r0 (by omega)
      exact ⟨c',p',s',st _ (Ev.bind (f:=fun k t => _) hr (by simpa [hb] using g1)),by simp at g3; omega,g2,g4,by omega⟩
    · obtain ⟨c',p',s',g1,g3,g2,g4,g5⟩:=ih c q' s2 (by omega) hc r0 (by omega)
      exact ⟨c',p',s',st _ (Ev.bind (f:=fun k t => _) hr (by simpa [hb] using g1)),by omega,g2,g4,by omega⟩
theorem d_parse (l:List Int) (hl:∀ x ∈ l,0 ≤ x ∧ x ≤ 255):∃ t,Ev (fun k => spec_DrawParseHand.f k l) t ∧ t.size ≤ 1000:=by
  obtain ⟨u,q',s2,e2,u0,u1,r0,r1⟩:=d_pick l hl 0 0 (by omega) (6 + 1) (by omega)
  obtain ⟨c,p,s,⟨K1,g1⟩,g3,g2,g4,g5⟩:=d_sure9 l hl 9 (by omega) u.toNat [] q' s2 (by simp; omega) (fun x hx => by cases hx) r0 (by omega)
  simp only [List.length_nil,Nat.zero_add] at g3
  obtain ⟨y,⟨K2,h2⟩,hy⟩:=tt_f c (by omega) g2
  have hys:y.size ≤ 100:=by
    have:y = txtB c:=ba_ext _ _ (by rw [hy,txt_data]; rfl)
    rw [this,txt_size,txt_len]
    split <;> omega
  obtain ⟨b,p1,s1,e3,p10,p11⟩:=d_one l hl p s (by omega) 3 (by omega)
  have hw:wrap64 (6 + 1) = 6 + 1:=t_wrap _ (by omega) (by omega)
  have i1:∀ k,K1 ≤ k → spec_l1Cur_sureHand.f k l 0 0 6 9 = some (c,p,s):=fun k hk => by
    unfold spec_l1Cur_sureHand.f
    rw [hw,e2]
    have:=g1 k hk
    rw [Int.toNat_of_nonneg u0] at this
    exact this
  simp only at h2
  cases b
  · exact ⟨y,⟨K1 + K2,fun k hk => by simp [spec_DrawParseHand.f,i1 k (by omega),h2 k (by omega),e3]⟩,by omega⟩
  · obtain ⟨u2,q3,s3,e4,v0,v1,r2,r3⟩:=d_pick l hl p1 s1 (by omega) 2 (by omega)
    have hws:((⟨#[48,49,50,57,44,45,120]⟩ : ByteArray)).size = 7:=rfl
    obtain ⟨r,p5,s5,⟨K3,h3⟩,h4⟩:=d_spoil_l l hl (⟨#[48,49,50,57,44,45,120]⟩ : ByteArray) (by rw [hws]; omega) (1 + u2).toNat y q3 s3 (by omega) (by omega) (by omega)
    have i3:∀ k,K3 ≤ k → spec_l1Cur_spoilt.f k l p1 s1 y (⟨#[48,49,50,57,44,45,120]⟩ : ByteArray) = some (r,p5,s5):=fun k hk => by
      unfold spec_l1Cur_spoilt.f
      rw [e4]
      have:=h3 k hk
      rw [Int.toNat_of_nonneg (by omega)] at this
      simp only [Option.bind_some]
      rw [t_wrap (1 + u2) (by omega) (by omega)]
      exact this
    exact ⟨r,⟨K1 + K2 + K3,fun k hk => by simp [spec_DrawParseHand.f,i1 k (by omega),h2 k (by omega),e3,i3 k (by omega)]⟩,h4⟩
theorem d_renLoop (l:List Int) (hl:∀ x ∈ l,0 ≤ x ∧ x ≤ 255) (h:List S43):∀ (d i:Nat) (ns:List Int) (p s:Int),i + d = 10 → ns.length = i → 0 ≤ p → p + 2 * d ≤ 90000 → ∃ ns',Ev (fun k => g5_spec_DrawRenameHand.l0 k l p s h ns (i:Int)) (h,ns') ∧ ns'.length ≤ 10:=by
  intro d
  induction d with
  | zero =>
    intro i ns p s hi hn p0 p1
    obtain ⟨v,q,s1,e1,v0,v1,q0,q1⟩:=d_pick l hl p s (by omega) 12 (by omega)
    by_cases h0:v = 0
    · obtain ⟨u,q2,s2,e2,a2,b2⟩:=d_among l hl q s1 (by omega) [(-1),10,rd ns 1] (by simp)
      refine ⟨ns.set (0:Int).toNat u,Ev.step (f:=fun _ => some (h,ns.set (0:Int).toNat u)) (fun k => ?_) (Ev.now _),by simp; omega⟩
      simp only [g5_spec_DrawRenameHand.l0]
      rw [if_neg (by omega),e1]
      simp only [Option.bind_some]
      rw [if_pos h0,if_pos (by omega),e2]
      simp only [Option.bind_some]
      rw [if_pos (by omega)]
    · by_cases h1:v = 1
      · refine ⟨ns.drop (1:Int).toNat,Ev.step (f:=fun _ => some (h,ns.drop (1:Int).toNat)) (fun k => ?_) (Ev.now _),by simp; omega⟩
        simp only [g5_spec_DrawRenameHand.l0]
        rw [if_neg (by omega),e1]
        simp only [Option.bind_some]
        rw [if_neg h0,if_pos h1,if_pos (by omega)]
      · refine ⟨ns,Ev.step (f:=fun _ => some (h,ns)) (fun k => ?_) (Ev.now _),by omega⟩
        simp only [g5_spec_DrawRenameHand.l0]
        rw [if_neg (by omega),e1]
        simp only [Option.bind_some]
        rw [if_neg h0,if_neg h1]
  | succ d ih =>
    intro i ns p s hi hn p0 p1
    have hw:wrap64 ((i:Int) + 1) = (i:Int) + 1:=t_wrap _ (by omega) (by omega)
    obtain ⟨v,q,s1,e1,v0,v1,q0,q1⟩:=d_pick l hl p s (by omega) ((i:Int) + 1) (by omega)
    have hlen:(([] ++ ns.take v.toNat) ++ [(i:Int)] ++ ns.drop v.toNat:List Int).length = i + 1:=by simp; omega
    obtain ⟨ns',⟨K,hK⟩,hl2⟩:=ih (i + 1) (([] ++ ns.take v.toNat) ++ [(i:Int)] ++ ns.drop v.toNat) q s1 (by omega) hlen (by omega) (by omega)
    refine ⟨ns',ev_up (K:=K) fun k hk => ?_,hl2⟩
    simp only [g5_spec_DrawRenameHand.l0]
    rw [if_pos (by omega),hw,e1]
    simp only [Option.bind_some]
    rw [if_pos v0,if_pos (by omega),if_pos (by simp; omega),if_pos (by simp; omega)]
    exact hK k hk
theorem d_ren (l:List Int) (hl:∀ x ∈ l,0 ≤ x ∧ x ≤ 255):∃ (h:List S43) (ns:List Int),Ev (fun k => g5_spec_DrawRenameHand.f k l) (h,ns) ∧ h.length ≤ 100 ∧ ns.length ≤ 10:=by
  obtain ⟨a,p,s,⟨K1,h1⟩,a1,p0,p1⟩:=d_hand l hl 10 6 (by omega) (by omega) 0 0 (by omega)
  obtain ⟨ns,⟨K2,h2⟩,h3⟩:=d_renLoop l hl a 10 0 [] p s rfl rfl p0 (by omega)
  simp only at h1 h2
  refine ⟨a,ns,⟨K1 + K2,fun k hk => ?_⟩,a1,h3⟩
  simp only [g5_spec_DrawRenameHand.f,h1 k (by omega),Option.bind_some]
  exact h2 k (by omega)
theorem d_with (l:List Int) (hl:∀ x ∈ l,0 ≤ x ∧ x ≤ 255):∃ (h:List S43) (n:Int),Ev (fun k => spec_DrawWithNumber.f k l) (h,n) ∧ h.length ≤ 100:=by
  obtain ⟨a,p,s,⟨K1,h1⟩,a1,p0,p1⟩:=d_hand l hl 10 6 (by omega) (by omega) 0 0 (by omega)
  obtain ⟨v,p',s',h2,_⟩:=d_number l hl p s (by omega)
  simp only at h1
  exact ⟨a,v,⟨K1,fun k hk => by simp [spec_DrawWithNumber.f,spec_DrawTimesOf.f,h1 k (by omega),h2]⟩,a1⟩
theorem mSame_ev:∀ (rest pre:List Int),(pre ++ rest).length ≤ 2000000 → Ev (fun k => laws_mSame.l0 k (pre ++ rest) (pre ++ rest) ((pre ++ rest).length:Int) (pre.length:Int)) true:=by
  intro rest
  induction rest with
  | nil =>
    intro pre hl
    refine Ev.step (f:=fun _ => some true) (fun k => ?_) (Ev.now _)
    simp only [laws_mSame.l0,List.append_nil]
    rw [if_neg (by omega)]
  | cons x xs ih =>
    intro pre hl
    have hlen:(pre ++ x :: xs).length = pre.length + xs.length + 1:=by simp; omega
    have e1:pre ++ [x] ++ xs = pre ++ x :: xs:=by simp
    have:=ih (pre ++ [x]) (by rw [e1]; exact hl)
    rw [e1] at this
    refine Ev.step (fun k => ?_) this
    simp only [laws_mSame.l0]
    rw [if_pos (by omega),if_pos (by omega),if_pos (by omega),if_pos (by omega),if_pos trivial,t_wrap ((pre.length:Int) + 1) (by omega) (by omega)]
    simp
theorem mSame_f (l:List Int) (hl:l.length ≤ 2000000):Ev (fun k => laws_mSame.f k l l) true:=by
  refine Ev.congr (fun k => ?_) (mSame_ev l [] hl)
  unfold laws_mSame.f
  rw [if_pos rfl]
  rfl
theorem mIn_ev (t:Int):∀ (rest pre:List Int),(pre ++ rest).length ≤ 2000000 → Ev (fun k => laws_mIn.l0 k t (pre ++ rest) ((pre ++ rest).length:Int) (pre.length:Int)) (decide (t ∈ rest)):=by
  intro rest
  induction rest with
  | nil =>
    intro pre hl
    refine Ev.step (f:=fun _ => some (decide (t ∈ ([] : List Int)))) (fun k => ?_) (Ev.now _)
    simp only [laws_mIn.l0,List.append_nil]
    rw [if_neg (by omega)]
    simp
  | cons x xs ih =>
    intro pre hl
    have hlen:(pre ++ x :: xs).length = pre.length + xs.length + 1:=by simp; omega
    have hget:rd (pre ++ x :: xs) (pre.length:Int) = x:=i_mid pre x xs
    have e1:pre ++ [x] ++ xs = pre ++ x :: xs:=by simp
    by_cases e:x = t
    · refine Ev.step (f:=fun _ => some (decide (t ∈ x :: xs))) (fun k => ?_) (Ev.now _)
      simp only [laws_mIn.l0]
      rw [if_pos (by omega),if_pos (by omega),if_pos (by omega),hget,if_pos e]
      simp [e]
    · have:=ih (pre ++ [x]) (by rw [e1]; exact hl)
      rw [e1,show decide (t ∈ xs) = decide (t ∈ x :: xs) by simp [List.mem_cons,show ¬ t = x from fun h => e h.symm]] at this
      refine Ev.step (fun k => ?_) this
      simp only [laws_mIn.l0]
      rw [if_pos (by omega),if_pos (by omega),if_pos (by omega),hget,if_neg e,t_wrap ((pre.length:Int) + 1) (by omega) (by omega)]
      simp
theorem mIn_f (t:Int) (l:List Int) (hl:l.length ≤ 2000000):Ev (fun k => laws_mIn.f k l t) (decide (t ∈ l)):=mIn_ev t l [] hl
theorem filter_le (l:List S43) (p:S43 → Bool) (h:l.length ≤ 55):((msort l).filter p).length ≤ 55:=by
  have:=List.length_filter_le p (msort l)
  rw [msort_len] at this
  omega
theorem withR_len (l:List S43) (n:Int):(withR l n).1.length ≤ 55:=by
  unfold withR
  split
  · rename_i h
    exact filter_le l _ (isH_true l h.1).1
  · simp
theorem j4_ev (l:List Int) (hl:∀ x ∈ l,0 ≤ x ∧ x ≤ 255):Ev (fun k => laws_FnNumbersOfHands.j4 k l) true:=by
  obtain ⟨h,n,⟨K0,h0⟩,hh⟩:=d_with l hl
  obtain ⟨K1,h1⟩:=with_i h n (by omega)
  obtain ⟨K2,h2⟩:=with_s h n (by omega)
  obtain ⟨K3,h3⟩:=timesOf_i h n (by omega)
  obtain ⟨K4,h4⟩:=timesOf_s h n (by omega)
  obtain ⟨t,⟨K5,h5⟩,ht⟩:=d_parse l hl
  obtain ⟨⟨r,ok⟩,⟨K6,h6⟩,⟨K7,h7⟩,r1,r2⟩:=head_both t (by omega)
  obtain ⟨K8,h8⟩:=mTiles_f (withR h n).1 (by have:=withR_len h n; omega)
  simp only at h0 h1 h2 h3 h4 h5 h6 h7 h8 r1 r2
  have i6:∀ k,K6 ≤ k → spec_ParseHand.f k t = some (r,ok):=fun k hk => by simp [spec_ParseHand.f,h6 k hk]
  cases ok
  · obtain rfl:=r1 rfl
    obtain ⟨K9,h9⟩:=mTiles_f ([] : List S43) (by simp)
    simp only at h9
    refine ev_up (K:=K0 + K1 + K2 + K3 + K4 + K5 + K6 + K7 + K8 + K9) fun k hk => ?_
    simp [laws_FnNumbersOfHands.j4,h0 k (by omega),h1 k (by omega),h2 k (by omega),h3 k (by omega),h4 k (by omega),h5 k (by omega),i6 k (by omega),h7 k (by omega),h8 k (by omega),h9 k (by omega)]
  · obtain ⟨rH,rs⟩:=r2 rfl
    obtain ⟨a1,a2,a3⟩:=isH_true r rH
    obtain ⟨K9,h9⟩:=mTiles_f r (by omega)
    obtain ⟨K10,h10⟩:=text_i r (by omega)
    rw [textR,if_pos rH,txt_back t r rH rs] at h10
    simp only at h9 h10
    refine ev_up (K:=K0 + K1 + K2 + K3 + K4 + K5 + K6 + K7 + K8 + K9 + K10) fun k hk => ?_
    simp [laws_FnNumbersOfHands.j4,h0 k (by omega),h1 k (by omega),h2 k (by omega),h3 k (by omega),h4 k (by omega),h5 k (by omega),i6 k (by omega),h7 k (by omega),h8 k (by omega),h9 k (by omega),h10 k (by omega)]
theorem loop_ev (l:List Int) (hl:∀ x ∈ l,0 ≤ x ∧ x ≤ 255) (h:List S43) (ns:List Int) (rn:List S43) (ok:Bool) (hH:isH h = true) (hok:ok = true → nms ns = true ∧ rn = msort (h.map (ren ns))):∀ (d i:Nat),i + d = 10 → Ev (fun k => laws_FnNumbersOfHands.l0 k l h ns rn ok (nums h) (dbl (msort h)) (txtB h) (sm h i) (i:Int)) true:=by
  obtain ⟨a1,a2,a3⟩:=isH_true h hH
  intro d
  induction d with
  | zero =>
    intro i hi
    obtain rfl:i = 10:=by omega
    obtain ⟨K1,h1⟩:=parse_txt h hH
    obtain ⟨K2,h2⟩:=mTiles_f h (by omega)
    obtain ⟨K3,h3⟩:=j4_ev l hl
    simp only at h1 h2 h3
    have hs:sm h 10 = wrap64 (2 * (h.length:Int)):=by rw [sm_all h a2,t_wrap _ (by omega) (by omega)]
    refine ev_up (K:=K1 + K2 + K3) fun k hk => ?_
    simp only [laws_FnNumbersOfHands.l0]
    rw [if_neg (by omega),h1 k (by omega)]
    simp only [Option.bind_some]
    rw [if_pos hs]
    simp only [if_true,h2 k (by omega),Option.bind_some]
    exact h3 k (by omega)
  | succ d ih =>
    intro i hi
    obtain ⟨K1,h1⟩:=timesOf_i h i (by omega)
    obtain ⟨K2,h2⟩:=with_i h i (by omega)
    obtain ⟨K3,h3⟩:=mIn_f (i:Int) (dbl (msort h)) (by
      have:(dbl (msort h)).length ≤ (msort h).length:=by unfold dbl; rw [List.length_map]; exact List.length_filter_le _ _
      rw [msort_len] at this
      omega)
    obtain ⟨K4,h4⟩:=mIn_f (i:Int) (nums h) (by have:=nf_len h 10 0; unfold nums; omega)
    obtain ⟨K5,h5⟩:=mHas_f (⟨(i:Int),(i:Int)⟩ : S43) h (by omega)
    obtain ⟨K6,h6⟩:=ih (i + 1) (by omega)
    rw [timesR,if_pos ⟨hH,by omega,by omega⟩] at h1
    rw [withR,if_pos ⟨hH,by omega,by omega⟩] at h2
    rw [show decide ((i:Int) ∈ dbl (msort h)) = decide ((⟨(i:Int),(i:Int)⟩ : S43) ∈ h) by rw [decide_eq_decide]; exact dbl_mem h _] at h3
    rw [show decide ((i:Int) ∈ nums h) = decide (tm h (i:Int) > 0) by
      rw [decide_eq_decide]
      unfold nums
      rw [nf_mem]
      constructor
      · exact fun h => h.2.2
      · exact fun h => ⟨by omega,by omega,h⟩] at h4
    simp only at h1 h2 h3 h4 h5 h6
    have hwl:=with_len h (i:Int) hH
    have hfl:=filter_le h (hasN (i:Int)) a1
    have ht:=tm_small h (i:Int)
    have hsm:=sm_small h i
    have hmul:2 * (h.length:Int) * (i:Int) ≤ 2 * h.length * 10:=Int.mul_le_mul_of_nonneg_left (by omega) (by omega)
    have hw1:wrap64 ((i:Int) + 1) = ((i + 1:Nat):Int):=by rw [t_wrap _ (by omega) (by omega)]; rfl
    have hw2:wrap64 (sm h i + tm h (i:Int)) = sm h (i + 1):=by rw [t_wrap _ (by omega) (by omega)]; rfl
    have i3:∀ ok',Ev (fun k => laws_FnNumbersOfHands.j3 k l h ns rn ok' (nums h) (dbl (msort h)) (txtB h) (sm h (i + 1)) (i:Int)) true → True:=fun _ _ => trivial
    have g3:Ev (fun k => laws_FnNumbersOfHands.j3 k l h ns rn ok (nums h) (dbl (msort h)) (txtB h) (sm h (i + 1)) (i:Int)) true:=by
      refine ev_up (K:=K6) fun k hk => ?_
      simp only [laws_FnNumbersOfHands.j3,hw1]
      exact h6 k hk
    obtain ⟨K7,g3⟩:=g3
    have g2:Ev (fun k => laws_FnNumbersOfHands.j2 k l h ns rn ok (nums h) (dbl (msort h)) (txtB h) (sm h i) (i:Int) (tm h (i:Int))) true:=by
      cases ok
      · refine ev_up (K:=K7) fun k hk => ?_
        simp only [laws_FnNumbersOfHands.j2,Bool.false_eq_true,if_false,hw2]
        exact g3 k hk
      · obtain ⟨hn,rfl⟩:=hok rfl
        obtain ⟨n1,n2,n3⟩:=nms_true ns hn
        have hr:=rd_in ns n2 (i:Int) (by omega) (by omega)
        have hrH:=isH_msort _ (ren_hand ns hn h hH)
        obtain ⟨K8,h8⟩:=timesOf_i (msort (h.map (ren ns))) (rd ns (i:Int)) (by rw [msort_len,List.length_map]; omega)
        rw [timesR,if_pos ⟨hrH,hr.1,hr.2⟩,tm_perm (show (msort (h.map (ren ns))).Perm (h.map (ren ns)) from List.mergeSort_perm _ _),tm_ren ns hn (i:Int) (by omega) (by omega) h a2] at h8
        simp only at h8
        refine ev_up (K:=K7 + K8) fun k hk => ?_
        simp only [laws_FnNumbersOfHands.j2,if_true]
        rw [if_pos (by omega),if_pos (by omega),h8 k (by omega)]
        simp only [Option.bind_some,if_true,hw2]
        exact g3 k (by omega)
    obtain ⟨K8,g2⟩:=g2
    simp only at g2
    refine ⟨K1 + K2 + K3 + K4 + K5 + K8 + 2,fun k hk => ?_⟩
    obtain ⟨m,rfl⟩ : ∃ m,k = m + 2:=⟨k - 2,by omega⟩
    show laws_FnNumbersOfHands.l0 (m + 1 + 1) l h ns rn ok (nums h) (dbl (msort h)) (txtB h) (sm h i) (i:Int) = some true
    simp only [laws_FnNumbersOfHands.l0]
    rw [if_pos (by omega),h1 (m + 1) (by omega)]
    simp only [Option.bind_some,h2 (m + 1) (by omega),h3 (m + 1) (by omega)]
    by_cases e:(⟨(i:Int),(i:Int)⟩ : S43) ∈ h
    · rw [if_pos e] at hwl
      have hw3:wrap64 ((((msort h).filter (hasN (i:Int))).length:Int) + 1) = tm h (i:Int):=by rw [t_wrap _ (by omega) (by omega)]; omega
      simp only [e,decide_true,if_true,laws_FnNumbersOfHands.j1,hw3,h4 m (by omega),h5 m (by omega),Option.bind_some]
      exact g2 m (by omega)
    · rw [if_neg e] at hwl
      have hw3:wrap64 ((((msort h).filter (hasN (i:Int))).length:Int) + 0) = tm h (i:Int):=by rw [t_wrap _ (by omega) (by omega)]; omega
      simp only [e,decide_false,Bool.false_eq_true,if_false,if_true,laws_FnNumbersOfHands.j1,hw3,h4 m (by omega),Option.bind_some]
      rw [if_neg (by omega)]
      exact g2 m (by omega)
theorem FnNumbersOfHands (l0:List Int) (l1:List Int) (_h0:(l0.length ≤ 9223372036854775807 ∧ ∀ x_ ∈ l0,(Lit.int .u8 x_).wf = true)) (_h1:(l1.length ≤ 9223372036854775807 ∧ ∀ x_ ∈ l1,(Lit.int .u8 x_).wf = true)):∃ k,laws_FnNumbersOfHands.f k l0 l1 = some true:=by
  have u0:=wf_u8 l0 _h0.2
  have u1:=wf_u8 l1 _h1.2
  refine Ev.rounds (g:=fun k => laws_FnNumbersOfHands.f k l0 l1) ?_
  cases hbig:laws_big.f l0 l1 with
  | none =>
    exfalso
    unfold laws_big.f at hbig
    split at hbig <;> cases hbig
  | some u =>
    cases u
    · obtain ⟨h,ns,⟨K0,h0⟩,a0,b0⟩:=d_ren l0 u0
      obtain ⟨K1,h1⟩:=rename_i h ns (by omega) (by omega)
      obtain ⟨K2,h2⟩:=rename_s h ns (by omega) (by omega)
      obtain ⟨K3,h3⟩:=numbers_i h (by omega)
      obtain ⟨K4,h4⟩:=numbers_s h (by omega)
      obtain ⟨K5,h5⟩:=doubles_i h (by omega)
      obtain ⟨K6,h6⟩:=doubles_s h (by omega)
      obtain ⟨K7,h7⟩:=text_i h (by omega)
      obtain ⟨K8,h8⟩:=text_s h (by omega)
      obtain ⟨K9,h9⟩:=isH_impl h (by omega)
      obtain ⟨K10,h10⟩:=mTiles_f (renR h ns).1 (by
        unfold renR
        split
        · simp only [msort_len,List.length_map]
          omega
        · simp)
      obtain ⟨K11,h11⟩:=mSame_f (numsR h).1 (by
        unfold numsR
        split
        · have:=nf_len h 10 0
          simp only [nums]
          omega
        · simp)
      obtain ⟨K12,h12⟩:=mSame_f (dblR h).1 (by
        unfold dblR
        split
        · have:(dbl (msort h)).length ≤ (msort h).length:=by unfold dbl; rw [List.length_map]; exact List.length_filter_le _ _
          rw [msort_len] at this
          simp only
          omega
        · simp)
      obtain ⟨K13,h13⟩:=j4_ev l1 u1
      simp only at h0 h1 h2 h3 h4 h5 h6 h7 h8 h9 h10 h11 h12 h13
      cases hH:isH h
      · have e1:renR h ns = ([],false):=by simp [renR,hH]
        have e2:numsR h = ([],false):=by simp [numsR,hH]
        have e3:dblR h = ([],false):=by simp [dblR,hH]
        have e4:textR h = ((⟨#[]⟩ : ByteArray),false):=by simp [textR,hH]
        rw [e1] at h1 h2 h10
        rw [e2] at h3 h4 h11
        rw [e3] at h5 h6 h12
        rw [e4] at h7 h8
        rw [hH] at h9
        refine ⟨K0 + K1 + K2 + K3 + K4 + K5 + K6 + K7 + K8 + K9 + K10 + K11 + K12 + K13 + 1,fun k hk => ?_⟩
        obtain ⟨m,rfl⟩ : ∃ m,k = m + 1:=⟨k - 1,by omega⟩
        simp [laws_FnNumbersOfHands.f,hbig,h0 (m + 1) (by omega),h1 (m + 1) (by omega),h2 (m + 1) (by omega),h3 (m + 1) (by omega),h4 (m + 1) (by omega),h5 (m + 1) (by omega),h6 (m + 1) (by omega),h7 (m + 1) (by omega),h8 (m + 1) (by omega),h9 (m + 1) (by omega),h10 (m + 1) (by omega),h11 (m + 1) (by omega),h12 (m + 1) (by omega),laws_FnNumbersOfHands.j0,h13 m (by omega)]
      · have e2:numsR h = (nums h,true):=by simp [numsR,hH]
        have e3:dblR h = (dbl (msort h),true):=by simp [dblR,hH]
        have e4:textR h = (txtB h,true):=by simp [textR,hH]
        rw [e2] at h3 h4 h11
        rw [e3] at h5 h6 h12
        rw [e4] at h7 h8
        rw [hH] at h9
        obtain ⟨K14,h14⟩:=loop_ev l1 u1 h ns (renR h ns).1 (renR h ns).2 hH (fun hr => by
          unfold renR at hr ⊢
          split at hr
          · rename_i hc
            rw [if_pos hc]
            exact ⟨hc.2,rfl⟩
          · cases hr) 10 0 rfl
        have e5:((0:Nat):Int) = 0:=rfl
        simp only [sm,e5] at h14
        generalize hrr:renR h ns = RR at h1 h2 h10 h14
        obtain ⟨rn,ok⟩:=RR
        refine ⟨K0 + K1 + K2 + K3 + K4 + K5 + K6 + K7 + K8 + K9 + K10 + K11 + K12 + K13 + K14 + 1,fun k hk => ?_⟩
        obtain ⟨m,rfl⟩ : ∃ m,k = m + 1:=⟨k - 1,by omega⟩
        cases ok <;> simp [laws_FnNumbersOfHands.f,hbig,h0 (m + 1) (by omega),h1 (m + 1) (by omega),h2 (m + 1) (by omega),h3 (m + 1) (by omega),h4 (m + 1) (by omega),h5 (m + 1) (by omega),h6 (m + 1) (by omega),h7 (m + 1) (by omega),h8 (m + 1) (by omega),h9 (m + 1) (by omega),h10 (m + 1) (by omega),h11 (m + 1) (by omega),h12 (m + 1) (by omega),laws_FnNumbersOfHands.j0,h14 m (by omega)]
    · exact ⟨0,fun k _ => by simp [laws_FnNumbersOfHands.f,hbig]⟩

end Go.Proofs.YtinocgaiheddaaaGreatDoor.QPure
