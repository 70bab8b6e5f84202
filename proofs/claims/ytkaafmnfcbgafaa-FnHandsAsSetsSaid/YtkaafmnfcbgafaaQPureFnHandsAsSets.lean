/- For every input the law FnHandsAsSets answers true: the plain statement over lists and numbers. No conditions. -/
import Derived.Test.YtkaafmnfcbgafaaQFnHandsAsSetsx1
import Derived.Test.YtkaafmnfcbgafaaQFnHandsAsSetsx2
import Derived.Test.YtkaafmnfcbgafaaQFnHandsAsSetsx3
import Derived.Test.YtkaafmnfcbgafaaQFnHandsAsSetsx4
import Derived.Test.YtkaafmnfcbgafaaQFnHandsAsSetsx5
import Derived.Test.YtkaafmnfcbgafaaQFnHandsAsSetsx6
import Derived.Test.YtkaafmnfcbgafaaQFnHandsAsSetsx7
import Derived.Test.YtkaafmnfcbgafaaQFnHandsAsSetsx8
import Derived.Test.YtkaafmnfcbgafaaQFnHandsAsSetsx9
import Derived.Test.YtkaafmnfcbgafaaQFnHandsAsSetsx10
namespace Go.Proofs.Ytkaafmnfcbgafaa.QPure
open Go.RowKit Go.Proofs.Ytkaafmnfcbgafaa.QFnHandsAsSets Go.Proofs.YtkaafmnfcbgafaaW.PrintWords Go.Proofs.YtkaafmnfcbgafaaW.PrintLast

set_option linter.unusedVariables false
theorem t_ext (x y:S35) (h0:x.f0 = y.f0) (h1:x.f1 = y.f1):x = y:=by
  cases x
  cases y
  simp_all
instance t_dec : DecidableEq S35:=fun x y => if h : x.f0 = y.f0 ∧ x.f1 = y.f1 then isTrue (t_ext x y h.1 h.2) else isFalse (fun e => h (by subst e; exact ⟨rfl,rfl⟩))
theorem t_beq (x y:S35):(x.f0 == y.f0 && (x.f1 == y.f1)) = decide (x = y):=by
  by_cases h:x = y
  · subst h
    simp
  · have:¬ (x.f0 = y.f0 ∧ x.f1 = y.f1):=fun e => h (t_ext x y e.1 e.2)
    rw [decide_eq_false h]
    by_cases h0:x.f0 = y.f0
    · have h1:¬ x.f1 = y.f1:=fun e => this ⟨h0,e⟩
      simp [h1]
    · simp [h0]
theorem t_mid (pre:List S35) (x:S35) (xs:List S35) (d:S35):(pre ++ x :: xs).getD pre.length d = x:=by
  rw [List.getD_eq_getElem?_getD,List.getElem?_append_right (Nat.le_refl _),Nat.sub_self]
  rfl
theorem t_wrap (n:Int) (h : -1000000000 ≤ n) (h':n ≤ 1000000000):wrap64 n = n:=by
  unfold wrap64
  omega

def good (x:S35):Bool:=decide (0 ≤ x.f0) && (decide (x.f0 ≤ x.f1) && decide (x.f1 ≤ 9))
theorem good_iff (x:S35):good x = true ↔ 0 ≤ x.f0 ∧ x.f0 ≤ x.f1 ∧ x.f1 ≤ 9:=by
  unfold good
  simp
theorem tiGood_f (x:S35):spec_tiGood.f x.f0 x.f1 = some (good x):=by
  unfold spec_tiGood.f spec_l1In.f good
  by_cases h1:0 ≤ x.f0
  · have h1':x.f0 ≥ 0:=h1
    rw [if_pos h1']
    by_cases h2:x.f0 ≤ x.f1
    · simp [h1,h2]
    · simp [h1,h2]
  · have h1':¬ x.f0 ≥ 0:=h1
    rw [if_neg h1']
    simp [h1]

theorem place_ev (t:S35):∀ (rest pre:List S35),(pre ++ rest).length ≤ 2000000 → ∃ r:Int,Ev (fun k => spec_tiPlace.l0 k (pre ++ rest) ((pre ++ rest).length:Int) (pre.length:Int) t.f0 t.f1) r ∧ decide (r ≥ 0) = decide (t ∈ rest):=by
  intro rest
  induction rest with
  | nil =>
    intro pre hl
    refine ⟨-1,Ev.step (f:=fun _ => some (-1)) (fun k => ?_) (Ev.now _),by simp⟩
    simp only [spec_tiPlace.l0,List.append_nil]
    rw [if_neg (by omega)]
  | cons x xs ih =>
    intro pre hl
    have hlen:(pre ++ x :: xs).length = pre.length + xs.length + 1:=by simp; omega
    have hget:rd_T35 (pre ++ x :: xs) (pre.length:Int) = x:=by
      unfold rd_T35
      exact t_mid pre x xs _
    by_cases e:x = t
    · refine ⟨(pre.length:Int),Ev.step (f:=fun _ => some (pre.length:Int)) (fun k => ?_) (Ev.now _),by simp [e]⟩
      simp only [spec_tiPlace.l0]
      rw [if_pos (by omega),if_pos (by omega),if_pos (by omega),hget,t_beq,if_pos (by simp [e])]
    · obtain ⟨r,h1,h2⟩:=ih (pre ++ [x]) (by simpa using hl)
      have e1:pre ++ [x] ++ xs = pre ++ x :: xs:=by simp
      rw [e1] at h1
      refine ⟨r,Ev.step (fun k => ?_) h1,by rw [h2]; simp [Ne.symm e]⟩
      simp only [spec_tiPlace.l0]
      rw [if_pos (by omega),if_pos (by omega),if_pos (by omega),hget,t_beq,if_neg (by simp [e]),t_wrap ((pre.length:Int) + 1) (by omega) (by omega)]
      simp
theorem place_f (t:S35) (l:List S35) (hl:l.length ≤ 2000000):∃ r:Int,Ev (fun k => spec_tiPlace.f k l t.f0 t.f1) r ∧ decide (r ≥ 0) = decide (t ∈ l):=place_ev t l [] hl

theorem index_ev (t:S35):∀ (rest pre:List S35),(pre ++ rest).length ≤ 2000000 → ∃ r:Int,Ev (fun k => slices_Index_impl_Tile_impl_Tile.l0 k (pre ++ rest) ((pre ++ rest).length:Int) (pre.length:Int) t.f0 t.f1) r ∧ decide (r ≥ 0) = decide (t ∈ rest):=by
  intro rest
  induction rest with
  | nil =>
    intro pre hl
    refine ⟨-1,Ev.step (f:=fun _ => some (-1)) (fun k => ?_) (Ev.now _),by simp⟩
    simp only [slices_Index_impl_Tile_impl_Tile.l0,List.append_nil]
    rw [if_neg (by omega)]
  | cons x xs ih =>
    intro pre hl
    have hlen:(pre ++ x :: xs).length = pre.length + xs.length + 1:=by simp; omega
    have hget:rd_T35 (pre ++ x :: xs) (pre.length:Int) = x:=by
      unfold rd_T35
      exact t_mid pre x xs _
    by_cases e:t = x
    · refine ⟨(pre.length:Int),Ev.step (f:=fun _ => some (pre.length:Int)) (fun k => ?_) (Ev.now _),by simp [e]⟩
      simp only [slices_Index_impl_Tile_impl_Tile.l0]
      rw [if_pos (by omega),if_pos (by omega),if_pos (by omega),hget,t_beq,if_pos (by simp [e])]
    · obtain ⟨r,h1,h2⟩:=ih (pre ++ [x]) (by simpa using hl)
      have e1:pre ++ [x] ++ xs = pre ++ x :: xs:=by simp
      rw [e1] at h1
      refine ⟨r,Ev.step (fun k => ?_) h1,by rw [h2]; simp [e]⟩
      simp only [slices_Index_impl_Tile_impl_Tile.l0]
      rw [if_pos (by omega),if_pos (by omega),if_pos (by omega),hget,t_beq,if_neg (by simp [e]),t_wrap ((pre.length:Int) + 1) (by omega) (by omega)]
      simp
theorem contains_f (t:S35) (l:List S35) (hl:l.length ≤ 2000000):Ev (fun k => slices_Contains_impl_Tile_impl_Tile.f k l t.f0 t.f1) (decide (t ∈ l)):=by
  obtain ⟨r,h1,h2⟩:=index_ev t l [] hl
  rw [← h2]
  exact Ev.bind (f:=fun _ t177 => (some (decide (t177 ≥ 0)))) h1 ⟨0,fun k _ => rfl⟩

def nd:List S35 → List S35 → Bool
  | _,[] => true
  | pre,x :: xs => !decide (x ∈ pre) && nd (pre ++ [x]) xs
def hb:List S35 → List S35 → Bool
  | _,[] => true
  | pre,x :: xs => good x && (!decide (x ∈ pre) && hb (pre ++ [x]) xs)
theorem hb_nd:∀ (rest pre:List S35),hb pre rest = (rest.all good && nd pre rest):=by
  intro rest
  induction rest with
  | nil => intro pre; rfl
  | cons x xs ih =>
    intro pre
    unfold hb nd
    rw [ih,List.all_cons]
    cases good x <;> cases decide (x ∈ pre) <;> cases xs.all good <;> simp
theorem nd_nodup:∀ (rest pre:List S35),nd pre rest = true → (∀ x ∈ rest,x ∉ pre) ∧ rest.Nodup:=by
  intro rest
  induction rest with
  | nil => intro pre _; exact ⟨(fun x h => by cases h),List.nodup_nil⟩
  | cons x xs ih =>
    intro pre h
    unfold nd at h
    simp only [Bool.and_eq_true,Bool.not_eq_true',decide_eq_false_iff_not] at h
    obtain ⟨h1,h2⟩:=ih _ h.2
    refine ⟨fun y hy => ?_,?_⟩
    · rcases List.mem_cons.1 hy with rfl | hy
      · exact h.1
      · exact fun hp => h1 y hy (List.mem_append_left _ hp)
    · rw [List.nodup_cons]
      exact ⟨fun hx => h1 x hx (by simp),h2⟩

theorem tiHand_ev:∀ (rest pre:List S35),(pre ++ rest).length ≤ 2000000 → Ev (fun k => spec_tiHand.l0 k (pre ++ rest) (pre ++ rest) ((pre ++ rest).length:Int) (pre.length:Int)) (hb pre rest):=by
  intro rest
  induction rest with
  | nil =>
    intro pre hl
    refine Ev.step (f:=fun _ => some true) (fun k => ?_) (Ev.now _)
    simp only [spec_tiHand.l0,List.append_nil]
    rw [if_neg (by omega)]
  | cons x xs ih =>
    intro pre hl
    have hlen:(pre ++ x :: xs).length = pre.length + xs.length + 1:=by simp; omega
    have hget:rd_T35 (pre ++ x :: xs) (pre.length:Int) = x:=by
      unfold rd_T35
      exact t_mid pre x xs _
    have htake:(pre ++ x :: xs).take ((pre.length:Int)).toNat = pre:=by simp
    cases hg:good x
    · refine Ev.step (f:=fun _ => some (hb pre (x :: xs))) (fun k => ?_) (Ev.now _)
      simp only [spec_tiHand.l0]
      rw [if_pos (by omega),if_pos (by omega),if_pos (by omega),hget,tiGood_f,hg]
      simp [hb,hg]
    · obtain ⟨r,h1,h2⟩:=place_f x pre (by omega)
      have e1:pre ++ [x] ++ xs = pre ++ x :: xs:=by simp
      have hi:=ih (pre ++ [x]) (by simpa using hl)
      rw [e1] at hi
      refine Ev.step (f:=fun k => (spec_tiPlace.f k pre x.f0 x.f1).bind fun t123 => (if t123 ≥ 0 then (some false) else (spec_tiHand.l0 k (pre ++ x :: xs) (pre ++ x :: xs) ((pre ++ x :: xs).length:Int) (((pre ++ [x]).length:Nat):Int)))) (fun k => ?_) ?_
      · simp only [spec_tiHand.l0]
        rw [if_pos (by omega),if_pos (by omega),if_pos (by omega),hget,tiGood_f,hg]
        simp only [Option.bind_some,if_true]
        rw [if_pos (by omega),htake,t_wrap ((pre.length:Int) + 1) (by omega) (by omega)]
        simp
      · refine Ev.bind (f:=fun k t123 => (if t123 ≥ 0 then (some false) else (spec_tiHand.l0 k (pre ++ x :: xs) (pre ++ x :: xs) ((pre ++ x :: xs).length:Int) (((pre ++ [x]).length:Nat):Int)))) h1 ?_
        by_cases hm:x ∈ pre
        · have hr:r ≥ 0:=by
            rw [decide_eq_true hm] at h2
            exact of_decide_eq_true h2
          refine ⟨0,fun k _ => ?_⟩
          (try dsimp only)
          rw [if_pos hr]
          simp [hb,hm]
        · have hr:¬ r ≥ 0:=by
            rw [decide_eq_false hm] at h2
            exact of_decide_eq_false h2
          refine Ev.congr (fun k => ?_) (show Ev _ (hb pre (x :: xs)) from by
            have:hb pre (x :: xs) = hb (pre ++ [x]) xs:=by simp [hb,hg,hm]
            rw [this]
            exact hi)
          (try dsimp only)
          rw [if_neg hr]

theorem areDiff_ev:∀ (rest pre:List S35),(pre ++ rest).length ≤ 2000000 → Ev (fun k => impl_areDifferent_impl_Tile.l0 k (pre ++ rest) (pre ++ rest) ((pre ++ rest).length:Int) (pre.length:Int)) (nd pre rest):=by
  intro rest
  induction rest with
  | nil =>
    intro pre hl
    refine Ev.step (f:=fun _ => some true) (fun k => ?_) (Ev.now _)
    simp only [impl_areDifferent_impl_Tile.l0,List.append_nil]
    rw [if_neg (by omega)]
  | cons x xs ih =>
    intro pre hl
    have hlen:(pre ++ x :: xs).length = pre.length + xs.length + 1:=by simp; omega
    have hget:rd_T35 (pre ++ x :: xs) (pre.length:Int) = x:=by
      unfold rd_T35
      exact t_mid pre x xs _
    have htake:(pre ++ x :: xs).take ((pre.length:Int)).toNat = pre:=by simp
    have h1:=contains_f x pre (by omega)
    have e1:pre ++ [x] ++ xs = pre ++ x :: xs:=by simp
    have hi:=ih (pre ++ [x]) (by simpa using hl)
    rw [e1] at hi
    refine Ev.step (f:=fun k => (slices_Contains_impl_Tile_impl_Tile.f k pre x.f0 x.f1).bind fun t184 => (if t184 = true then (some false) else (impl_areDifferent_impl_Tile.l0 k (pre ++ x :: xs) (pre ++ x :: xs) ((pre ++ x :: xs).length:Int) (((pre ++ [x]).length:Nat):Int)))) (fun k => ?_) ?_
    · simp only [impl_areDifferent_impl_Tile.l0]
      rw [if_pos (by omega),if_pos (by omega),if_pos (by omega),if_pos (by omega),hget,htake,t_wrap ((pre.length:Int) + 1) (by omega) (by omega)]
      simp
    · refine Ev.bind (f:=fun k t184 => (if t184 = true then (some false) else (impl_areDifferent_impl_Tile.l0 k (pre ++ x :: xs) (pre ++ x :: xs) ((pre ++ x :: xs).length:Int) (((pre ++ [x]).length:Nat):Int)))) h1 ?_
      by_cases hm:x ∈ pre
      · refine ⟨0,fun k _ => ?_⟩
        simp [nd,hm]
      · refine Ev.congr (fun k => ?_) (show Ev _ (nd pre (x :: xs)) from by
          have:nd pre (x :: xs) = nd (pre ++ [x]) xs:=by simp [nd,hm]
          rw [this]
          exact hi)
        simp only [hm,decide_false,Bool.false_eq_true,if_false]

theorem noTile_good (x:S35):noTile x = !good x:=rfl
theorem any_no (l:List S35):l.any noTile = !l.all good:=by
  induction l with
  | nil => rfl
  | cons x xs ih => rw [List.any_cons,List.all_cons,ih,noTile_good]; cases good x <;> simp

def isH (l:List S35):Bool:=decide (l.length ≤ 55) && (l.all good && nd [] l)
theorem isH_spec (l:List S35) (hl:l.length ≤ 2000000):Ev (fun k => spec_tiHand.f k l) (isH l):=by
  by_cases h:l.length ≤ 55
  · have hi:=tiHand_ev l [] hl
    rw [hb_nd] at hi
    refine Ev.congr (fun k => ?_) (show Ev _ (isH l) from by
      have:isH l = (l.all good && nd [] l):=by simp [isH,h]
      rw [this]
      exact hi)
    unfold spec_tiHand.f
    rw [if_neg (by omega)]
    rfl
  · refine ⟨0,fun k _ => ?_⟩
    show spec_tiHand.f k l = _
    unfold spec_tiHand.f
    rw [if_pos (by omega)]
    simp [isH,h]
theorem isH_impl (l:List S35) (hl:l.length ≤ 2000000):Ev (fun k => impl_IsHand.f k l) (isH l):=by
  by_cases h:l.length ≤ 55
  · cases hg:l.all good
    · refine ⟨0,fun k _ => ?_⟩
      show impl_IsHand.f k l = _
      unfold impl_IsHand.f
      rw [if_pos (by omega),any_no,hg]
      simp [isH,hg]
    · have hi:=areDiff_ev l [] hl
      refine Ev.congr (fun k => ?_) (show Ev _ (isH l) from by
        have:isH l = nd [] l:=by simp [isH,h,hg]
        rw [this]
        exact hi)
      unfold impl_IsHand.f
      rw [if_pos (by omega),any_no,hg]
      simp only [Bool.not_true,Bool.false_eq_true,if_false]
      rfl
  · refine ⟨0,fun k _ => ?_⟩
    show impl_IsHand.f k l = _
    unfold impl_IsHand.f
    rw [if_neg (by omega)]
    simp [isH,h]
theorem isH_true (l:List S35) (h:isH l = true):l.length ≤ 55 ∧ (∀ x ∈ l,good x = true) ∧ l.Nodup:=by
  unfold isH at h
  simp only [Bool.and_eq_true,decide_eq_true_eq] at h
  exact ⟨h.1,List.all_eq_true.1 h.2.1,(nd_nodup l [] h.2.2).2⟩

def lt (x y:S35):Prop:=x.f0 < y.f0 ∨ (x.f0 = y.f0 ∧ x.f1 < y.f1)
theorem lt_irrefl (x:S35):¬ lt x x:=by
  unfold lt
  omega
theorem lt_trans {x y z:S35} (h:lt x y) (k:lt y z):lt x z:=by
  unfold lt at *
  omega
theorem lt_asymm {x y:S35} (h:lt x y):¬ lt y x:=by
  unfold lt at *
  omega
theorem cmpT_neg (x y:S35) (hx:good x = true) (hy:good y = true):cmpT x y < 0 ↔ lt x y:=by
  rw [good_iff] at hx hy
  unfold cmpT lt
  by_cases h:x.f0 = y.f0
  · rw [if_pos h,t_wrap _ (by omega) (by omega)]
    omega
  · rw [if_neg h,t_wrap _ (by omega) (by omega)]
    omega
theorem lt_total (x y:S35) (h:¬ lt x y) (k:x ≠ y):lt y x:=by
  have:¬ (x.f0 = y.f0 ∧ x.f1 = y.f1):=fun e => k (t_ext x y e.1 e.2)
  unfold lt at *
  omega

theorem uniq:∀ (a b:List S35),a.Pairwise lt → b.Pairwise lt → (∀ x,x ∈ a ↔ x ∈ b) → a = b:=by
  intro a
  induction a with
  | nil =>
    intro b _ _ h
    cases b with
    | nil => rfl
    | cons y ys => exact absurd ((h y).2 List.mem_cons_self) (by simp)
  | cons x xs ih =>
    intro b ha hb h
    cases b with
    | nil => exact absurd ((h x).1 List.mem_cons_self) (by simp)
    | cons y ys =>
      rw [List.pairwise_cons] at ha hb
      have e:x = y:=by
        rcases List.mem_cons.1 ((h x).1 List.mem_cons_self) with e | e
        · exact e
        · rcases List.mem_cons.1 ((h y).2 List.mem_cons_self) with e2 | e2
          · exact e2.symm
          · exact absurd (ha.1 y e2) (lt_asymm (hb.1 x e))
      subst e
      congr 1
      refine ih ys ha.2 hb.2 (fun z => ?_)
      constructor
      · intro hz
        rcases List.mem_cons.1 ((h z).1 (List.mem_cons_of_mem _ hz)) with e | e
        · subst e
          exact absurd (ha.1 z hz) (lt_irrefl z)
        · exact e
      · intro hz
        rcases List.mem_cons.1 ((h z).2 (List.mem_cons_of_mem _ hz)) with e | e
        · subst e
          exact absurd (hb.1 z hz) (lt_irrefl z)
        · exact e

theorem sortedT_iff:∀ (l:List S35),(∀ x ∈ l,good x = true) → l.Nodup → (sortedT l = true ↔ l.Pairwise lt):=by
  intro l
  induction l with
  | nil => intro _ _; exact ⟨fun _ => List.Pairwise.nil,fun _ => rfl⟩
  | cons x xs ih =>
    intro hg hn
    rw [List.nodup_cons] at hn
    have hgx:=hg x List.mem_cons_self
    have hi:=ih (fun y hy => hg y (List.mem_cons_of_mem _ hy)) hn.2
    unfold sortedT
    cases xs with
    | nil => simp [sortedT]
    | cons y ys =>
      have hgy:=hg y (by simp)
      simp only [Bool.and_eq_true,Bool.not_eq_true',decide_eq_false_iff_not]
      rw [hi,cmpT_neg y x hgy hgx]
      constructor
      · rintro ⟨h1,h2⟩
        have hxy:lt x y:=lt_total y x h1 (fun e => hn.1 (by rw [← e]; exact List.mem_cons_self))
        refine List.pairwise_cons.2 ⟨fun z hz => ?_,h2⟩
        rcases List.mem_cons.1 hz with rfl | hz
        · exact hxy
        · exact lt_trans hxy ((List.pairwise_cons.1 h2).1 z hz)
      · intro h
        obtain ⟨h1,h2⟩:=List.pairwise_cons.1 h
        exact ⟨lt_asymm (h1 y List.mem_cons_self),h2⟩

def code (l:List S35):List (Int × Int):=l.map fun t => (t.f0,t.f1)
theorem code_inj (a b:List S35) (h:code a = code b):a = b:=by
  unfold code at h
  induction a generalizing b with
  | nil => cases b with
    | nil => rfl
    | cons y b => simp at h
  | cons x a ih => cases b with
    | nil => simp at h
    | cons y b =>
      simp only [List.map_cons,List.cons.injEq,Prod.mk.injEq] at h
      rw [ih b h.2]
      cases x
      cases y
      simp_all
def lst (n:Nat):List (Int × Int):=(List.range (n + 1)).flatMap fun a => (List.range (n + 1 - a)).map fun b => ((a:Int),((a + b:Nat):Int))
theorem whole:∃ A:List S35,Ev (fun k => spec_tiSet.f k 9) A ∧ A.length = 55 ∧ A.Pairwise lt ∧ (∀ x,x ∈ A ↔ good x = true):=by
  have h2:((spec_tiSet.f 100 9).map code) = some (lst 9):=by decide +kernel
  obtain ⟨A,hA,hc⟩:=Option.map_eq_some_iff.1 h2
  have hl:(lst 9).length = 55:=by decide +kernel
  have hp:(lst 9).Pairwise (fun x y => x.1 < y.1 ∨ (x.1 = y.1 ∧ x.2 < y.2)):=by decide +kernel
  have hg:∀ p ∈ lst 9,0 ≤ p.1 ∧ p.1 ≤ p.2 ∧ p.2 ≤ 9:=by decide +kernel
  have hall:∀ a:Fin 10,∀ b:Fin 10,a.val ≤ b.val → (((a.val:Nat):Int),((b.val:Nat):Int)) ∈ lst 9:=by decide +kernel
  generalize lst 9 = P at hc hl hp hg hall
  subst hc
  refine ⟨A,Ev.of (fun k => spec_tiSet.mono _ k) hA,?_,?_,fun x => ?_⟩
  · unfold code at hl
    rw [List.length_map] at hl
    exact hl
  · unfold code at hp
    rw [List.pairwise_map] at hp
    exact hp
  · constructor
    · intro hx
      rw [good_iff]
      exact hg (x.f0,x.f1) (by unfold code; exact List.mem_map.2 ⟨x,hx,rfl⟩)
    · intro hx
      rw [good_iff] at hx
      have:=hall ⟨x.f0.toNat,by omega⟩ ⟨x.f1.toNat,by omega⟩ (by simp; omega)
      simp only at this
      rw [Int.toNat_of_nonneg (by omega),Int.toNat_of_nonneg (by omega)] at this
      unfold code at this
      obtain ⟨y,hy,e⟩:=List.mem_map.1 this
      simp only [Prod.mk.injEq] at e
      have:y = x:=t_ext y x e.1 e.2
      rw [← this]
      exact hy

theorem pick_ev (l:List S35) (hl:l.length ≤ 2000000) (b:Bool):∀ (rest pre out:List S35),(pre ++ rest).length ≤ 1000 → out.length ≤ pre.length →
    Ev (fun k => spec_tiPick.l0 k l b out (pre ++ rest) ((pre ++ rest).length:Int) (pre.length:Int)) (out ++ rest.filter fun x => decide (x ∈ l) == b):=by
  intro rest
  induction rest with
  | nil =>
    intro pre out h1 h2
    refine Ev.step (f:=fun _ => some (out ++ [])) (fun k => ?_) (Ev.now _)
    simp only [spec_tiPick.l0,List.append_nil]
    rw [if_neg (by omega)]
  | cons x xs ih =>
    intro pre out h1 h2
    have hlen:(pre ++ x :: xs).length = pre.length + xs.length + 1:=by simp; omega
    have hget:rd_T35 (pre ++ x :: xs) (pre.length:Int) = x:=by
      unfold rd_T35
      exact t_mid pre x xs _
    obtain ⟨r,p1,p2⟩:=place_f x l hl
    have e1:pre ++ [x] ++ xs = pre ++ x :: xs:=by simp
    refine Ev.step (f:=fun k => (spec_tiPlace.f k l x.f0 x.f1).bind fun t135 => (if ((decide (t135 ≥ 0)) == b) = true then (spec_tiPick.l0 k l b (out ++ [x]) (pre ++ x :: xs) ((pre ++ x :: xs).length:Int) (((pre ++ [x]).length:Nat):Int)) else (spec_tiPick.l0 k l b out (pre ++ x :: xs) ((pre ++ x :: xs).length:Int) (((pre ++ [x]).length:Nat):Int)))) (fun k => ?_) ?_
    · simp only [spec_tiPick.l0]
      rw [if_pos (by omega),if_pos (by omega),if_pos (by omega),hget,t_wrap ((pre.length:Int) + 1) (by omega) (by omega),if_pos (by omega)]
      simp
    · refine Ev.bind (f:=fun k t135 => (if ((decide (t135 ≥ 0)) == b) = true then (spec_tiPick.l0 k l b (out ++ [x]) (pre ++ x :: xs) ((pre ++ x :: xs).length:Int) (((pre ++ [x]).length:Nat):Int)) else (spec_tiPick.l0 k l b out (pre ++ x :: xs) ((pre ++ x :: xs).length:Int) (((pre ++ [x]).length:Nat):Int)))) p1 ?_
      rw [List.filter_cons]
      cases hd:(decide (x ∈ l) == b)
      · have hi:=ih (pre ++ [x]) out (by simpa using h1) (by simp; omega)
        rw [e1] at hi
        refine Ev.congr (fun k => ?_) (by simpa using hi)
        (try dsimp only)
        rw [p2,hd]
        simp
      · have hi:=ih (pre ++ [x]) (out ++ [x]) (by simpa using h1) (by simp; omega)
        rw [e1] at hi
        refine Ev.congr (fun k => ?_) (by simpa using hi)
        (try dsimp only)
        rw [p2,hd]
        simp

theorem len_le:∀ (a b:List S35),a.Nodup → (∀ x,x ∈ a → x ∈ b) → a.length ≤ b.length:=by
  intro a
  induction a with
  | nil => intro b _ _; simp
  | cons x xs ih =>
    intro b hn h
    rw [List.nodup_cons] at hn
    have hx:=h x List.mem_cons_self
    have:=ih (b.erase x) hn.2 (fun y hy => (List.mem_erase_of_ne (fun e => hn.1 (by rw [← e]; exact hy))).2 (h y (List.mem_cons_of_mem _ hy)))
    rw [List.length_erase_of_mem hx] at this
    have hp:0 < b.length:=List.length_pos_of_mem hx
    simp
    omega
theorem len_eq (a b:List S35) (ha:a.Nodup) (hb:b.Nodup) (h:∀ x,x ∈ a ↔ x ∈ b):a.length = b.length :=
  Nat.le_antisymm (len_le a b ha (fun x hx => (h x).1 hx)) (len_le b a hb (fun x hx => (h x).2 hx))

theorem sort_f (l:List S35) (h:isH l = true):∃ s:List S35,Ev (fun k => spec_tiSort.f k l) s ∧ s.length = l.length ∧ s.Pairwise lt ∧ (∀ x,x ∈ s ↔ x ∈ l) ∧ decide (s = l) = sortedT l:=by
  obtain ⟨h1,h2,h3⟩:=isH_true l h
  obtain ⟨A,hA,hl,hp,hm⟩:=whole
  have hk:=pick_ev l (by omega) true A [] [] (by simp; omega) (by simp)
  simp only [List.nil_append] at hk
  have hmem:∀ x,x ∈ A.filter (fun x => decide (x ∈ l) == true) ↔ x ∈ l:=by
    intro x
    rw [List.mem_filter,hm]
    constructor
    · rintro ⟨_,h⟩
      simpa using h
    · intro h
      exact ⟨h2 x h,by simp [h]⟩
  have hps:=hp.filter (fun x => decide (x ∈ l) == true)
  have hnd:∀ (s:List S35),s.Pairwise lt → s.Nodup:=fun s hs => hs.imp (fun {a b} hab e => by subst e; exact lt_irrefl a hab)
  refine ⟨A.filter (fun x => decide (x ∈ l) == true),?_,?_,hps,hmem,?_⟩
  · refine Ev.congr (fun k => ?_) (Ev.bind (f:=fun k t130 => (spec_tiPick.l0 k l true [] t130 (t130.length:Int) 0)) hA hk)
    unfold spec_tiSort.f spec_tiPick.f
    cases spec_tiSet.f k 9 with
    | none => rfl
    | some t =>
      simp only [Option.bind_some]
      cases spec_tiPick.l0 k l true [] t (t.length:Int) 0 with
      | none => rfl
      | some u => rfl
  · exact len_eq _ _ (hnd _ hps) h3 hmem
  · by_cases e:A.filter (fun x => decide (x ∈ l) == true) = l
    · rw [decide_eq_true e]
      rw [e] at hps
      exact ((sortedT_iff l h2 h3).2 hps).symm
    · rw [decide_eq_false e]
      cases hs:sortedT l
      · rfl
      · exact absurd (uniq _ _ hps ((sortedT_iff l h2 h3).1 hs) hmem) e
theorem msort_lt (l:List S35) (h:l.Nodup):(msort l).Pairwise lt:=by
  have hp:(msort l).Pairwise fun x y => (!ltT y x) = true:=by
    refine List.pairwise_mergeSort ?_ ?_ l
    · intro a b c h1 h2
      simp only [Bool.not_eq_true',ltT_no] at *
      omega
    · intro a b
      cases h1:ltT b a
      · rfl
      · have h2:=(ltT_iff _ _).1 h1
        have:ltT a b = false:=(ltT_no _ _).2 (by omega)
        rw [this]
        rfl
  have hn:(msort l).Nodup:=(List.mergeSort_perm l _).nodup_iff.2 h
  refine List.Pairwise.imp₂ (fun a b h1 h2 => ?_) hp hn
  have h3:=(ltT_no _ _).1 (by simpa using h1)
  refine lt_total b a h3 (fun e => h2 e.symm)
def tileOf (x y:Int):S35:=⟨mn x y,mx x y⟩
theorem tiOf_f (x y:Int):spec_tiOf.f x y = some ((tileOf x y).f0,(tileOf x y).f1):=by
  unfold spec_tiOf.f spec_l1Least.f spec_l1Most.f tileOf mn mx
  by_cases h:x < y
  · rw [if_pos h,if_neg (by omega)]
    simp [h]
    omega
  · by_cases h2:x > y
    · rw [if_neg h,if_pos h2]
      simp [h]
      omega
    · have:x = y:=by omega
      subst this
      simp
theorem d_bits (E:Int) (h0:0 ≤ E) (h1:E ≤ 18446744073709551615):0 ≤ Go.bits .and .u64 E 255 ∧ Go.bits .and .u64 E 255 ≤ 255:=by
  have h:=bits_and_u64_nat E.toNat 255 (by omega) (by omega)
  rw [Int.toNat_of_nonneg h0] at h
  have h2:(E.toNat &&& 255) ≤ 255:=Nat.and_le_right
  have h3:Go.bits .and .u64 E 255 = ((E.toNat &&& 255:Nat):Int):=h
  omega
theorem d_w (n:Int) (h : -1000000000 ≤ n) (h':n ≤ 1000000000):wrap64 n = n:=by
  unfold wrap64
  omega
theorem d_rd (l:List Int) (hl:∀ x ∈ l,0 ≤ x ∧ x ≤ 255) (p:Int):0 ≤ rd l p ∧ rd l p ≤ 255:=by
  unfold rd
  rw [List.getD_eq_getElem?_getD]
  by_cases h:p.toNat < l.length
  · rw [List.getElem?_eq_getElem h]
    exact hl _ (List.getElem_mem _)
  · rw [List.getElem?_eq_none (by omega)]
    simp
theorem d_next (l:List Int) (hl:∀ x ∈ l,0 ≤ x ∧ x ≤ 255) (p s:Int) (hp:0 ≤ p ∧ p ≤ 1000000):∃ v s',spec_l1Cur_next.f l p s = some (v,p + 1,s') ∧ 0 ≤ v ∧ v ≤ 255:=by
  have h:=d_rd l hl p
  have hb:∀ n:Int,0 ≤ wrap64 (Go.bits .and .u64 (IntKind.u64.wrap n / 1099511627776) 255) ∧ wrap64 (Go.bits .and .u64 (IntKind.u64.wrap n / 1099511627776) 255) ≤ 255:=by
    intro n
    have h:=d_bits (IntKind.u64.wrap n / 1099511627776) (by rw [IntKind.wrap_u64]; omega) (by rw [IntKind.wrap_u64]; omega)
    rw [d_w _ (by omega) (by omega)]
    exact h
  unfold spec_l1Cur_next.f
  rw [d_w (p + 1) (by omega) (by omega)]
  by_cases h1:p < (l.length:Int)
  · rw [if_pos h1,if_pos hp.1]
    by_cases h2:p + 1 ≤ (l.length:Int)
    · rw [if_pos h2]
      exact ⟨_,_,rfl,by rw [d_w _ (by omega) (by omega)]; exact h⟩
    · rw [if_neg h2]
      exact ⟨_,_,rfl,hb _⟩
  · rw [if_neg h1]
    by_cases h2:p + 1 ≤ (l.length:Int)
    · rw [if_pos h2]
      exact ⟨_,_,rfl,by omega,by omega⟩
    · rw [if_neg h2]
      exact ⟨_,_,rfl,hb _⟩
theorem d_pick (l:List Int) (hl:∀ x ∈ l,0 ≤ x ∧ x ≤ 255) (p s:Int) (hp:0 ≤ p ∧ p ≤ 100000) (a:Int) (ha:1 ≤ a):∃ v p' s',spec_l1Cur_pick.f l p s a = some (v,p',s') ∧ 0 ≤ v ∧ v < a ∧ 0 ≤ p' ∧ p' ≤ p + 2:=by
  unfold spec_l1Cur_pick.f
  by_cases h1:a ≤ 1
  · rw [if_pos h1]
    exact ⟨0,p,s,rfl,by omega,by omega,by omega,by omega⟩
  · rw [if_neg h1]
    obtain ⟨v,s1,e1,v0,v1⟩:=d_next l hl p s (by omega)
    rw [e1]
    simp only [Option.bind_some]
    by_cases h2:a > 200
    · rw [if_pos h2]
      obtain ⟨u,s2,e2,u0,u1⟩:=d_next l hl (p + 1) s1 (by omega)
      rw [e2]
      simp only [Option.bind_some]
      rw [if_neg (by omega),d_w (v * 256) (by omega) (by omega),d_w _ (by omega) (by omega)]
      exact ⟨_,_,_,rfl,Int.tmod_nonneg _ (by omega),Int.tmod_lt_of_pos _ (by omega),by omega,by omega⟩
    · rw [if_neg h2,if_neg (by omega)]
      exact ⟨_,_,_,rfl,Int.tmod_nonneg _ (by omega),Int.tmod_lt_of_pos _ (by omega),by omega,by omega⟩
theorem d_among (l:List Int) (hl:∀ x ∈ l,0 ≤ x ∧ x ≤ 255) (p s:Int) (hp:0 ≤ p ∧ p ≤ 100000) (xs:List Int) (hx:1 ≤ xs.length):∃ v p' s',spec_l1Cur_among.f l p s xs = some (v,p',s') ∧ 0 ≤ p' ∧ p' ≤ p + 2:=by
  unfold spec_l1Cur_among.f
  obtain ⟨v,q,s1,e1,v0,v1,q0,q1⟩:=d_pick l hl p s hp (xs.length:Int) (by omega)
  rw [e1]
  simp only [Option.bind_some]
  rw [if_pos v0,if_pos v1]
  exact ⟨_,_,_,rfl,q0,q1⟩
theorem d_one (l:List Int) (hl:∀ x ∈ l,0 ≤ x ∧ x ≤ 255) (p s:Int) (hp:0 ≤ p ∧ p ≤ 100000) (a:Int) (ha:1 ≤ a):∃ v p' s',spec_l1Cur_one.f l p s a = some (v,p',s') ∧ 0 ≤ p' ∧ p' ≤ p + 2:=by
  unfold spec_l1Cur_one.f
  obtain ⟨v,q,s1,e1,v0,v1,q0,q1⟩:=d_pick l hl p s hp a ha
  rw [e1]
  exact ⟨_,_,_,rfl,q0,q1⟩
theorem d_sureHandLoop (l:List Int) (hl:∀ x ∈ l,0 ≤ x ∧ x ≤ 255) (m:Int) (hm:0 ≤ m ∧ m ≤ 9):∀ (n:Nat) (c:List S35) (p s:Int),c.length + n ≤ 100 → 0 ≤ p → p + 4 * n ≤ 100000 →
    ∃ c' p' s',Ev (fun k => spec_l1Cur_sureHand.l0 k m c (n:Int) l p s) (c',p',s') ∧ c'.length ≤ c.length + n ∧ 0 ≤ p' ∧ p' ≤ p + 4 * n:=by
  intro n
  induction n with
  | zero =>
    intro c p s h1 h3 h4
    refine ⟨c,p,s,Ev.step (f:=fun _ => some (c,p,s)) (fun k => ?_) (Ev.now _),by omega,h3,by omega⟩
    simp only [spec_l1Cur_sureHand.l0]
    rw [if_neg (by omega)]
  | succ n ih =>
    intro c p s h1 h3 h4
    obtain ⟨v,q,s1,e1,v0,v1,q0,q1⟩:=d_pick l hl p s (by omega) (m + 1) (by omega)
    obtain ⟨u,q',s2,e2,u0,u1,r0,r1⟩:=d_pick l hl q s1 (by omega) (m + 1) (by omega)
    obtain ⟨r,hr,_⟩:=place_f (tileOf v u) c (by omega)
    have hw:wrap64 (m + 1) = m + 1:=t_wrap _ (by omega) (by omega)
    have hn:((n + 1:Nat):Int) - 1 = (n:Int):=by omega
    have hw2:wrap64 (((n + 1:Nat):Int) - 1) = (n:Int):=by rw [hn]; exact t_wrap _ (by omega) (by omega)
    have st:∀ R,Ev (fun k => (spec_tiPlace.f k c (tileOf v u).f0 (tileOf v u).f1).bind fun t351 => (if t351 < 0 then (spec_l1Cur_sureHand.l0 k m (c ++ [tileOf v u]) (n:Int) l q' s2) else (spec_l1Cur_sureHand.l0 k m c (n:Int) l q' s2))) R → Ev (fun k => spec_l1Cur_sureHand.l0 k m c ((n + 1:Nat):Int) l p s) R:=fun R h => by
      refine Ev.step (fun k => ?_) h
      simp only [spec_l1Cur_sureHand.l0]
      rw [if_pos (by omega),hw,e1,hw2]
      simp only [Option.bind_some]
      rw [e2]
      simp only [Option.bind_some,tiOf_f]
      rw [if_pos (show c.length < 8796093022208 from by omega)]
    by_cases hb:r < 0
    · obtain ⟨c',p',s',g1,g3,g4,g5⟩:=ih (c ++ [tileOf v u]) q' s2 (by simp; omega) r0 (by omega)
      exact ⟨c',p',s',st _ (Ev.bind (f:=fun k t => _) hr (by simpa [hb] using g1)),by simp at g3; omega,g4,by omega⟩
    · obtain ⟨c',p',s',g1,g3,g4,g5⟩:=ih c q' s2 (by omega) r0 (by omega)
      exact ⟨c',p',s',st _ (Ev.bind (f:=fun k t => _) hr (by simpa [hb] using g1)),by omega,g4,by omega⟩
theorem d_sureHand (l:List Int) (hl:∀ x ∈ l,0 ≤ x ∧ x ≤ 255) (a m:Int) (ha:0 ≤ a ∧ a ≤ 20) (hm:0 ≤ m ∧ m ≤ 9) (p s:Int) (hp:0 ≤ p ∧ p ≤ 10000) :
    ∃ c' p' s',Ev (fun k => spec_l1Cur_sureHand.f k l p s a m) (c',p',s') ∧ c'.length ≤ 20 ∧ 0 ≤ p' ∧ p' ≤ p + 90:=by
  obtain ⟨u,q',s2,e2,u0,u1,r0,r1⟩:=d_pick l hl p s (by omega) (a + 1) (by omega)
  obtain ⟨c',p',s',g1,g3,g4,g5⟩:=d_sureHandLoop l hl m hm u.toNat [] q' s2 (by simp; omega) r0 (by omega)
  refine ⟨c',p',s',?_,by simp at g3; omega,g4,by omega⟩
  unfold spec_l1Cur_sureHand.f
  rw [t_wrap (a + 1) (by omega) (by omega),e2]
  simp only [Option.bind_some]
  rw [Int.toNat_of_nonneg u0] at g1
  exact g1
theorem d_tile (l:List Int) (hl:∀ x ∈ l,0 ≤ x ∧ x ≤ 255) (p s:Int) (hp:0 ≤ p ∧ p ≤ 10000):∃ x y p' s',spec_l1Cur_tile.f l p s = some (x,y,p',s') ∧ 0 ≤ p' ∧ p' ≤ p + 6:=by
  unfold spec_l1Cur_tile.f
  obtain ⟨b,q,s1,e1,q0,q1⟩:=d_one l hl p s (by omega) 10 (by omega)
  rw [e1]
  simp only [Option.bind_some]
  cases b
  · obtain ⟨v,q2,s2,e2,_,_,a2,b2⟩:=d_pick l hl q s1 (by omega) 10 (by omega)
    obtain ⟨u,q3,s3,e3,_,_,a3,b3⟩:=d_pick l hl q2 s2 (by omega) 10 (by omega)
    simp only [Bool.false_eq_true,if_false,e2,Option.bind_some,e3,tiOf_f]
    exact ⟨_,_,_,_,rfl,a3,by omega⟩
  · obtain ⟨v,q2,s2,e2,a2,b2⟩:=d_among l hl q s1 (by omega) [(-1),3,9,10] (by simp)
    obtain ⟨u,q3,s3,e3,a3,b3⟩:=d_among l hl q2 s2 (by omega) [2,9,10,4611686018427387904] (by simp)
    simp only [if_true,e2,Option.bind_some,e3]
    exact ⟨_,_,_,_,rfl,a3,by omega⟩
theorem d_sets:∀ n:Fin 10,((spec_tiSet.f 100 ((n.val:Nat):Int)).map fun A => decide (A.length ≤ 60)) = some true:=by decide +kernel
theorem d_set (v:Int) (h0:0 ≤ v) (h1:v < 10):∃ A:List S35,Ev (fun k => spec_tiSet.f k v) A ∧ A.length ≤ 60:=by
  have h:=d_sets ⟨v.toNat,by omega⟩
  simp only [Int.toNat_of_nonneg h0] at h
  obtain ⟨A,hA,hd⟩:=Option.map_eq_some_iff.1 h
  exact ⟨A,Ev.of (fun k => spec_tiSet.mono _ k) hA,of_decide_eq_true hd⟩
theorem d_hand (l:List Int) (hl:∀ x ∈ l,0 ≤ x ∧ x ≤ 255) (a m:Int) (ha:0 ≤ a ∧ a ≤ 20) (hm:0 ≤ m ∧ m ≤ 9) (p s:Int) (hp:0 ≤ p ∧ p ≤ 9000) :
    ∃ c' p' s',Ev (fun k => spec_l1Cur_hand.f k l p s a m) (c',p',s') ∧ c'.length ≤ 100 ∧ 0 ≤ p' ∧ p' ≤ p + 100:=by
  obtain ⟨c,q,s1,g1,g3,g4,g5⟩:=d_sureHand l hl a m ha hm p s (by omega)
  obtain ⟨v,q',s2,e1,v0,v1,q0,q1⟩:=d_pick l hl q s1 (by omega) 18 (by omega)
  unfold spec_l1Cur_hand.f
  by_cases h0:v = 0
  · obtain ⟨x,y,q2,s3,e2,r0,r1⟩:=d_tile l hl q' s2 (by omega)
    refine ⟨c ++ [⟨x,y⟩],q2,s3,Ev.bind (f:=fun k (b:List S35 × Int × Int) => _) g1 ⟨0,fun k _ => ?_⟩,by simp; omega,r0,by omega⟩
    simp only [e1,Option.bind_some]
    rw [if_pos h0,e2]
    simp only [Option.bind_some]
    rw [if_pos (by omega)]
  · by_cases h1:v = 1
    · by_cases hc:(c.length:Int) > 0
      · refine ⟨c ++ [⟨(rd_T35 c 0).f0,(rd_T35 c 0).f1⟩],q',s2,Ev.bind (f:=fun k (b:List S35 × Int × Int) => _) g1 ⟨0,fun k _ => ?_⟩,by simp; omega,q0,by omega⟩
        simp only [e1,Option.bind_some]
        rw [if_neg h0,if_pos h1,if_pos hc,if_pos (by omega),if_pos (by omega)]
      · refine ⟨c,q',s2,Ev.bind (f:=fun k (b:List S35 × Int × Int) => _) g1 ⟨0,fun k _ => ?_⟩,by omega,q0,by omega⟩
        simp only [e1,Option.bind_some]
        rw [if_neg h0,if_pos h1,if_neg hc]
    · by_cases h2:v = 2
      · obtain ⟨u,q3,s3,e3,u0,u1,a3,b3⟩:=d_pick l hl q' s2 (by omega) 10 (by omega)
        obtain ⟨A,hA,hA2⟩:=d_set u u0 u1
        refine ⟨A,q3,s3,Ev.bind (f:=fun k (b:List S35 × Int × Int) => _) g1 ?_,by omega,a3,by omega⟩
        simp only [e1,Option.bind_some,if_neg h0,if_neg h1,if_pos h2,e3]
        exact Ev.bind (f:=fun k (t:List S35) => _) hA ⟨0,fun k _ => rfl⟩
      · by_cases h3:v = 3
        · obtain ⟨A,hA,hA2⟩:=d_set 9 (by omega) (by omega)
          refine ⟨A ++ [⟨0,0⟩],q',s2,Ev.bind (f:=fun k (b:List S35 × Int × Int) => _) g1 ?_,by simp; omega,q0,by omega⟩
          simp only [e1,Option.bind_some,if_neg h0,if_neg h1,if_neg h2,if_pos h3]
          exact Ev.bind (f:=fun k (t:List S35) => _) hA ⟨0,fun k _ => by rw [if_pos (by omega)]⟩
        · refine ⟨c,q',s2,Ev.bind (f:=fun k (b:List S35 × Int × Int) => _) g1 ⟨0,fun k _ => ?_⟩,by omega,q0,by omega⟩
          simp only [e1,Option.bind_some]
          rw [if_neg h0,if_neg h1,if_neg h2,if_neg h3]
theorem rd_at' (A:List S35) (x:S35) (r:List S35):rd_T35 (A ++ x :: r) (A.length:Int) = x:=by
  unfold rd_T35
  exact t_mid A x r _
def da (p:S35):List S35 → List S35
  | [] => []
  | q :: r => if q = p then da q r else q :: da q r
def dd:List S35 → List S35
  | [] => []
  | p :: r => p :: da p r
def sh (G:List S35) (p:S35):List S35 :=
  match G with
  | [] => []
  | g :: G' => G' ++ [p]
theorem cp_go (t:Int) (ht:0 ≤ t):∀ (rest A G:List S35) (p:S35) (x5:Int),(A ++ (G ++ p :: rest)).length ≤ 2000000 → 1 ≤ x5 → t + x5 = A.length + G.length + 1 →
    Ev (fun k => g28_impl_Tile.l1 k (A ++ (G ++ p :: rest)) (A.length:Int) t x5) (A ++ da p rest):=by
  intro rest
  induction rest with
  | nil =>
    intro A G p x5 hl h1 h2
    have hlen:(A ++ (G ++ [p])).length = A.length + G.length + 1:=by simp; omega
    refine Ev.step (f:=fun _ => some (A ++ da p [])) (fun k => ?_) (Ev.now _)
    simp only [g28_impl_Tile.l1]
    rw [if_neg (by omega),if_pos (by omega),if_pos (by omega),if_pos (by simp; omega)]
    simp [da]
  | cons q r ih =>
    intro A G p x5 hl h1 h2
    have hlen:(A ++ (G ++ p :: q :: r)).length = A.length + G.length + r.length + 2:=by simp; omega
    have hw1:wrap64 (x5 - 1) = x5 - 1:=t_wrap _ (by omega) (by omega)
    have hw2:wrap64 (x5 + 1) = x5 + 1:=t_wrap _ (by omega) (by omega)
    have hw3:wrap64 ((A.length:Int) + 1) = A.length + 1:=t_wrap _ (by omega) (by omega)
    have hq:rd_T35 (A ++ (G ++ p :: q :: r)) ((t.toNat + x5.toNat:Nat):Int) = q:=by
      unfold rd_T35
      rw [show A ++ (G ++ p :: q :: r) = (A ++ G ++ [p]) ++ q :: r by simp,show ((t.toNat + x5.toNat:Nat):Int).toNat = (A ++ G ++ [p]).length by simp; omega]
      exact t_mid _ _ _ _
    have hp:rd_T35 (A ++ (G ++ p :: q :: r)) ((t.toNat + (x5 - 1).toNat:Nat):Int) = p:=by
      unfold rd_T35
      rw [show A ++ (G ++ p :: q :: r) = (A ++ G) ++ p :: q :: r by simp,show ((t.toNat + (x5 - 1).toNat:Nat):Int).toNat = (A ++ G).length by simp; omega]
      exact t_mid _ _ _ _
    by_cases e:q = p
    · have:=ih A (G ++ [p]) q (x5 + 1) (by simp at hl ⊢; omega) (by omega) (by simp; omega)
      rw [show A ++ (G ++ [p] ++ q :: r) = A ++ (G ++ p :: q :: r) by simp] at this
      rw [show da p (q :: r) = da q r by simp [da,e]]
      refine Ev.step (fun k => ?_) this
      simp only [g28_impl_Tile.l1,hw1,hw2]
      rw [if_pos (by omega),if_pos (by omega),if_pos (by omega),if_pos (by omega),if_pos (by omega),if_pos (by omega),if_pos (by omega),hq,hp,t_beq,if_pos (by simp [e])]
    · have e2:(A ++ (G ++ p :: q :: r)).set (A.length:Int).toNat q = A ++ [q] ++ (sh G p ++ q :: r):=by
        rw [Int.toNat_natCast,List.set_append_right _ _ (Nat.le_refl _)]
        cases G with
        | nil => simp [sh]
        | cons g G' => simp [sh]
      have:=ih (A ++ [q]) (sh G p) q (x5 + 1) (by rw [← e2]; simpa using hl) (by omega) (by cases G <;> simp [sh] <;> simp at h2 <;> omega)
      rw [← e2,show A ++ [q] ++ da q r = A ++ da p (q :: r) by simp [da,e]] at this
      refine Ev.step (fun k => ?_) this
      simp only [g28_impl_Tile.l1,hw1,hw2,hw3]
      rw [if_pos (by omega),if_pos (by omega),if_pos (by omega),if_pos (by omega),if_pos (by omega),if_pos (by omega),if_pos (by omega),hq,hp,t_beq,if_neg (by simp [e]),if_pos (by omega),if_pos (by omega)]
      simp
theorem cp_first:∀ (rest pre:List S35) (p:S35),(pre ++ p :: rest).length ≤ 2000000 → Ev (fun k => g28_impl_Tile.l0 k (pre ++ p :: rest) ((pre.length + 1:Nat):Int)) (pre ++ p :: da p rest):=by
  intro rest
  induction rest with
  | nil =>
    intro pre p hl
    have hlen:(pre ++ [p]).length = pre.length + 1:=by simp
    refine Ev.step (f:=fun _ => some (pre ++ p :: da p [])) (fun k => ?_) (Ev.now _)
    simp only [g28_impl_Tile.l0]
    rw [if_neg (by omega)]
    rfl
  | cons q r ih =>
    intro pre p hl
    have hlen:(pre ++ p :: q :: r).length = pre.length + r.length + 2:=by simp; omega
    have hw1:wrap64 (((pre.length + 1:Nat):Int) - 1) = (pre.length:Int):=by rw [t_wrap _ (by omega) (by omega)]; omega
    have hw2:wrap64 (((pre.length + 1:Nat):Int) + 1) = (((pre ++ [p]).length + 1:Nat):Int):=by rw [t_wrap _ (by omega) (by omega)]; simp
    have hp:rd_T35 (pre ++ p :: q :: r) (pre.length:Int) = p:=by
      unfold rd_T35
      exact t_mid _ _ _ _
    have hq:rd_T35 (pre ++ p :: q :: r) ((pre.length + 1:Nat):Int) = q:=by
      unfold rd_T35
      rw [show pre ++ p :: q :: r = (pre ++ [p]) ++ q :: r by simp,show ((pre.length + 1:Nat):Int).toNat = (pre ++ [p]).length by simp]
      exact t_mid _ _ _ _
    by_cases e:q = p
    · have:=cp_go ((pre.length + 1:Nat):Int) (by omega) r (pre ++ [p]) [] q 1 (by simpa using hl) (by omega) (by simp)
      rw [show pre ++ [p] ++ ([] ++ q :: r) = pre ++ p :: q :: r by simp,show pre ++ [p] ++ da q r = pre ++ p :: da p (q :: r) by simp [da,e],show ((pre ++ [p]).length:Int) = ((pre.length + 1:Nat):Int) by simp] at this
      refine Ev.step (fun k => ?_) this
      simp only [g28_impl_Tile.l0,hw1]
      rw [if_pos (by omega),if_pos (by omega),if_pos (by omega),if_pos (by omega),hq,hp,t_beq,if_pos (by simp [e])]
    · have:=ih (pre ++ [p]) q (by simpa using hl)
      rw [show pre ++ [p] ++ q :: r = pre ++ p :: q :: r by simp,show pre ++ [p] ++ q :: da q r = pre ++ p :: da p (q :: r) by simp [da,e]] at this
      refine Ev.step (fun k => ?_) this
      simp only [g28_impl_Tile.l0,hw1,hw2]
      rw [if_pos (by omega),if_pos (by omega),if_pos (by omega),if_pos (by omega),hq,hp,t_beq,if_neg (by simp [e])]
theorem compact_f (l:List S35) (hl:l.length ≤ 2000000):Ev (fun k => g28_impl_Tile.f k l) (dd l):=by
  unfold g28_impl_Tile.f
  match l,hl with
  | [],_ => exact Ev.now _
  | [p],_ => exact Ev.now _
  | p :: q :: r,hl =>
    have:=cp_first (q :: r) [] p hl
    refine Ev.congr (fun k => ?_) this
    rw [if_neg (by simp only [List.length_cons]; omega)]
    rfl
def le (x y:S35):Prop:=¬ lt y x
theorem lt_of_le {x y:S35} (h:le x y) (k:x ≠ y):lt x y:=lt_total y x h (fun e => k e.symm)
theorem le_lt {x y z:S35} (h:lt x y) (k:le y z):lt x z:=by
  by_cases e:y = z
  · rw [← e]
    exact h
  · exact lt_trans h (lt_of_le k e)
theorem da_spec:∀ (rest:List S35) (p:S35),(p :: rest).Pairwise le → (p :: da p rest).Pairwise lt ∧ ∀ x,x ∈ p :: da p rest ↔ x ∈ p :: rest:=by
  intro rest
  induction rest with
  | nil => intro p h; exact ⟨by simp [da],fun x => Iff.rfl⟩
  | cons q r ih =>
    intro p h
    rw [List.pairwise_cons] at h
    obtain ⟨h1,h2⟩:=h
    obtain ⟨i1,i2⟩:=ih q h2
    by_cases e:q = p
    · subst e
      rw [show da q (q :: r) = da q r by simp [da]]
      refine ⟨i1,fun x => ?_⟩
      rw [i2]
      simp
    · rw [show da p (q :: r) = q :: da q r by simp [da,e]]
      refine ⟨List.pairwise_cons.2 ⟨fun x hx => ?_,i1⟩,fun x => ?_⟩
      · have hx:=(i2 x).1 hx
        have hq:lt p q:=lt_of_le (h1 q List.mem_cons_self) (fun h => e h.symm)
        rcases List.mem_cons.1 hx with rfl | hx
        · exact hq
        · exact le_lt hq ((List.pairwise_cons.1 h2).1 x hx)
      · rw [List.mem_cons,i2]
        simp
theorem msort_le (l:List S35):(msort l).Pairwise le:=by
  have hp:(msort l).Pairwise fun x y => (!ltT y x) = true:=by
    refine List.pairwise_mergeSort ?_ ?_ l
    · intro a b c h1 h2
      simp only [Bool.not_eq_true',ltT_no] at *
      omega
    · intro a b
      cases h1:ltT b a
      · rfl
      · have h2:=(ltT_iff _ _).1 h1
        have:ltT a b = false:=(ltT_no _ _).2 (by omega)
        rw [this]
        rfl
  refine hp.imp (fun {a b} h => ?_)
  exact (ltT_no _ _).1 (by simpa using h)
theorem msort_mem (l:List S35) (x:S35):x ∈ msort l ↔ x ∈ l:=(List.mergeSort_perm l _).mem_iff
theorem msort_len (l:List S35):(msort l).length = l.length:=(List.mergeSort_perm l _).length_eq
def jn (a b:List S35):List S35:=dd (msort (a ++ b))
theorem dd_spec (l:List S35) (h:l.Pairwise le):(dd l).Pairwise lt ∧ ∀ x,x ∈ dd l ↔ x ∈ l:=by
  cases l with
  | nil => exact ⟨by simp [dd],fun x => Iff.rfl⟩
  | cons p r => exact da_spec r p h
theorem jn_spec (a b:List S35):(jn a b).Pairwise lt ∧ ∀ x,x ∈ jn a b ↔ x ∈ a ∨ x ∈ b:=by
  obtain ⟨h1,h2⟩:=dd_spec _ (msort_le (a ++ b))
  exact ⟨h1,fun x => by unfold jn; rw [h2,msort_mem,List.mem_append]⟩
theorem nd_lt {l:List S35} (h:l.Pairwise lt):l.Nodup:=h.imp (fun {a b} hab e => by subst e; exact lt_irrefl a hab)
theorem sort_g (l:List S35) (h2:∀ x ∈ l,good x = true) (hl:l.length ≤ 2000000):∃ s:List S35,Ev (fun k => spec_tiSort.f k l) s ∧ s.Pairwise lt ∧ (∀ x,x ∈ s ↔ x ∈ l):=by
  obtain ⟨A,hA,_,hp,hm⟩:=whole
  have hk:=pick_ev l hl true A [] [] (by simp; omega) (by simp)
  simp only [List.nil_append] at hk
  refine ⟨A.filter (fun x => decide (x ∈ l) == true),?_,hp.filter _,fun x => ?_⟩
  · refine Ev.congr (fun k => ?_) (Ev.bind (f:=fun k t130 => (spec_tiPick.l0 k l true [] t130 (t130.length:Int) 0)) hA hk)
    unfold spec_tiSort.f spec_tiPick.f
    cases spec_tiSet.f k 9 with
    | none => rfl
    | some t =>
      simp only [Option.bind_some]
      cases spec_tiPick.l0 k l true [] t (t.length:Int) 0 with
      | none => rfl
      | some u => rfl
  · rw [List.mem_filter,hm]
    constructor
    · rintro ⟨_,h⟩
      simpa using h
    · intro h
      exact ⟨h2 x h,by simp [h]⟩
theorem sorted_i (l:List S35) (h2:∀ x ∈ l,good x = true) (hl:l.length ≤ 2000000):impl_sorted.f l = some (msort l):=by
  unfold impl_sorted.f slices_Clone_impl_Tile_impl_Tile.f
  rw [if_pos (by omega)]
  simp only [Option.bind_some]
  rw [if_pos (List.all_eq_true.2 (fun x hx => by rw [smallT_iff]; have:=(good_iff x).1 (h2 x hx); omega))]
theorem concat_f (a b:List S35) (ha:a.length ≤ 2000000) (hb:b.length ≤ 2000000):Ev (fun k => slices_Concat_impl_Tile_impl_Tile.f k [a,b]) (a ++ b):=by
  refine ⟨10,fun k hk => ?_⟩
  obtain ⟨m,rfl⟩ : ∃ m,k = m + 10:=⟨k - 10,by omega⟩
  have r0:rd_L3 [a,b] 0 = a:=rfl
  have r1:rd_L3 [a,b] 1 = b:=rfl
  have w0:wrap64 (0 + (a.length:Int)) = a.length:=by rw [t_wrap _ (by omega) (by omega)]; omega
  have w1:wrap64 ((a.length:Int) + b.length) = a.length + b.length:=by rw [t_wrap _ (by omega) (by omega)]
  have v0:wrap64 (0 + 1) = 1:=t_wrap _ (by omega) (by omega)
  have v1:wrap64 (1 + 1) = 2:=t_wrap _ (by omega) (by omega)
  have hg:slices_Grow_impl_Tile_impl_Tile.f [] ((a.length:Int) + b.length) = some []:=by
    unfold slices_Grow_impl_Tile_impl_Tile.f
    rw [if_pos (show ([] : List S35).length = 0 from rfl),if_pos (by omega),if_pos (by omega)]
  unfold slices_Concat_impl_Tile_impl_Tile.f
  simp only [slices_Concat_impl_Tile_impl_Tile.l0,List.length_cons,List.length_nil,r0,w0,v0]
  rw [if_pos (by omega),if_pos (by omega),if_pos (by omega),if_neg (by omega),if_pos (by omega),if_pos (by omega),if_pos (by omega)]
  simp only [r1,w1,v1]
  rw [if_neg (by omega),if_neg (by omega),hg]
  simp only [Option.bind_some,slices_Concat_impl_Tile_impl_Tile.l1,List.length_cons,List.length_nil,r0,v0]
  rw [if_pos (by omega),if_pos (by omega),if_pos (by omega),if_pos (by simp; omega),if_pos (by omega),if_pos (by omega),if_pos (by omega)]
  simp only [r1,v1]
  rw [if_pos (by simp; omega),if_neg (by omega)]
  simp
def qB (b:List S35) (x:S35):Bool:=!(decide (x ∈ b))
theorem prB (x:S35) (b:List S35) (hb:b.length ≤ 2000000):Ev (fun k => g64_impl_kept_1.f k x.f0 x.f1 b) (qB b x):=by
  obtain ⟨K,h⟩:=contains_f x b hb
  refine ⟨K,fun k hk => ?_⟩
  have h:=h k hk
  simp only at h
  unfold g64_impl_kept_1.f g34_impl_BothHands_1.f qB
  simp [h]
theorem ixB (b:List S35) (hb:b.length ≤ 2000000):∀ (rest pre:List S35),(pre ++ rest).length ≤ 2000000 → ∃ r:Int,Ev (fun k => g67_impl_Tile.l0 k (pre ++ rest) ((pre ++ rest).length:Int) (pre.length:Int) b) r ∧ ((r = -1 ∧ ∀ x ∈ rest,qB b x = false) ∨ ∃ A x R,rest = A ++ x :: R ∧ r = ((pre.length + A.length:Nat):Int) ∧ qB b x = true ∧ ∀ y ∈ A,qB b y = false):=by
  intro rest
  induction rest with
  | nil =>
    intro pre hl
    refine ⟨-1,Ev.step (f:=fun _ => some (-1)) (fun k => ?_) (Ev.now _),.inl ⟨rfl,fun x hx => by cases hx⟩⟩
    simp only [g67_impl_Tile.l0,List.append_nil]
    rw [if_neg (by omega)]
  | cons x xs ih =>
    intro pre hl
    have hlen:(pre ++ x :: xs).length = pre.length + xs.length + 1:=by simp; omega
    have hget:rd_T35 (pre ++ x :: xs) (pre.length:Int) = x:=by
      unfold rd_T35
      exact t_mid pre x xs _
    have e1:pre ++ [x] ++ xs = pre ++ x :: xs:=by simp
    cases hq:qB b x
    · obtain ⟨r,h1,h2⟩:=ih (pre ++ [x]) (by rw [e1]; exact hl)
      rw [e1] at h1
      refine ⟨r,Ev.step (f:=fun k => (g64_impl_kept_1.f k x.f0 x.f1 b).bind fun t => if t = true then some (pre.length:Int) else g67_impl_Tile.l0 k (pre ++ x :: xs) ((pre ++ x :: xs).length:Int) (((pre ++ [x]).length:Nat):Int) b) (fun k => ?_) (Ev.bind (f:=fun k t => if t = true then some (pre.length:Int) else g67_impl_Tile.l0 k (pre ++ x :: xs) ((pre ++ x :: xs).length:Int) (((pre ++ [x]).length:Nat):Int) b) (prB x b hb) (by rw [hq]; exact h1)),?_⟩
      · simp only [g67_impl_Tile.l0]
        rw [if_pos (by omega),if_pos (by omega),if_pos (by omega),hget,t_wrap ((pre.length:Int) + 1) (by omega) (by omega)]
        simp
      · rcases h2 with ⟨rfl,h2⟩ | ⟨A,y,R,rfl,rfl,h2,h3⟩
        · refine .inl ⟨rfl,fun y hy => ?_⟩
          rcases List.mem_cons.1 hy with rfl | hy
          · exact hq
          · exact h2 y hy
        · refine .inr ⟨x :: A,y,R,rfl,by simp; omega,h2,fun z hz => ?_⟩
          rcases List.mem_cons.1 hz with rfl | hz
          · exact hq
          · exact h3 z hz
    · refine ⟨(pre.length:Int),Ev.step (f:=fun k => (g64_impl_kept_1.f k x.f0 x.f1 b).bind fun t => if t = true then some (pre.length:Int) else g67_impl_Tile.l0 k (pre ++ x :: xs) ((pre ++ x :: xs).length:Int) (((pre ++ [x]).length:Nat):Int) b) (fun k => ?_) (Ev.bind (f:=fun k t => if t = true then some (pre.length:Int) else g67_impl_Tile.l0 k (pre ++ x :: xs) ((pre ++ x :: xs).length:Int) (((pre ++ [x]).length:Nat):Int) b) (prB x b hb) (by rw [hq]; exact Ev.now _)),.inr ⟨[],x,xs,rfl,rfl,hq,fun y hy => by cases hy⟩⟩
      simp only [g67_impl_Tile.l0]
      rw [if_pos (by omega),if_pos (by omega),if_pos (by omega),hget,t_wrap ((pre.length:Int) + 1) (by omega) (by omega)]
      simp
theorem goB (b:List S35) (hb:b.length ≤ 2000000):∀ (rest A G:List S35),G ≠ [] → (A ++ (G ++ rest)).length ≤ 2000000 → Ev (fun k => g63_impl_Tile.l0 k (A ++ (G ++ rest)) (A.length:Int) ((A.length + G.length:Nat):Int) b) (A ++ rest.filter fun x => !qB b x):=by
  intro rest
  induction rest with
  | nil =>
    intro A G hG hl
    have hg:0 < G.length:=List.length_pos_iff.2 hG
    have hlen:(A ++ (G ++ [])).length = A.length + G.length:=by simp
    refine Ev.step (f:=fun _ => some (A ++ [].filter fun x => !qB b x)) (fun k => ?_) (Ev.now _)
    simp only [g63_impl_Tile.l0]
    rw [if_neg (by omega),if_pos (by omega),if_pos (by omega),if_pos (by simp; omega)]
    simp
  | cons x xs ih =>
    intro A G hG hl
    obtain ⟨g,G',rfl⟩ : ∃ g G',G = g :: G':=by cases G with | nil => exact absurd rfl hG | cons g G' => exact ⟨g,G',rfl⟩
    have hlen:(A ++ (g :: G' ++ x :: xs)).length = A.length + G'.length + xs.length + 2:=by simp; omega
    have hget:rd_T35 (A ++ (g :: G' ++ x :: xs)) ((A.length + (g :: G').length:Nat):Int) = x:=by
      have:=t_mid (A ++ g :: G') x xs z35
      unfold rd_T35
      rw [show A ++ (g :: G' ++ x :: xs) = (A ++ g :: G') ++ x :: xs by simp,show ((A.length + (g :: G').length:Nat):Int).toNat = (A ++ g :: G').length by rw [Int.toNat_natCast]; simp]
      exact this
    refine Ev.step (f:=fun k => (g64_impl_kept_1.f k x.f0 x.f1 b).bind fun t => if t = true then g63_impl_Tile.l0 k (A ++ (g :: G' ++ x :: xs)) (A.length:Int) ((A.length + (g :: (G' ++ [x])).length:Nat):Int) b else g63_impl_Tile.l0 k (A ++ [x] ++ (G' ++ [x] ++ xs)) ((A ++ [x]).length:Int) (((A ++ [x]).length + (G' ++ [x]).length:Nat):Int) b) (fun k => ?_) ?_
    · simp only [g63_impl_Tile.l0]
      rw [if_pos (by simp only [List.length_cons]; omega),if_pos (by omega),hget,t_wrap ((A.length:Int) + 1) (by omega) (by omega),t_wrap (((A.length + (g :: G').length:Nat):Int) + 1) (by omega) (by simp only [List.length_cons]; omega),if_pos (by omega),if_pos (by omega)]
      congr 1
      funext t
      have e2:(A ++ (g :: G' ++ x :: xs)).set (A.length:Int).toNat x = A ++ [x] ++ (G' ++ [x] ++ xs):=by
        rw [Int.toNat_natCast,List.set_append_right _ _ (Nat.le_refl _)]
        simp
      rw [show (⟨x.f0,x.f1⟩ : S35) = x from rfl,e2]
      rw [show ((A.length:Int) + 1) = ((A ++ [x]).length:Int) by simp,show (((A.length + (g :: G').length:Nat):Int) + 1) = (((A ++ [x]).length + (G' ++ [x]).length:Nat):Int) by simp; omega,show ((A.length + (g :: (G' ++ [x])).length:Nat):Int) = (((A ++ [x]).length + (G' ++ [x]).length:Nat):Int) by simp; omega]
    · cases hq:qB b x
      · have:=ih (A ++ [x]) (G' ++ [x]) (by simp) (by simp at hl ⊢; omega)
        rw [show (x :: xs).filter (fun x => !qB b x) = x :: xs.filter (fun x => !qB b x) by simp [hq]]
        refine Ev.bind (f:=fun k t => if t = true then g63_impl_Tile.l0 k (A ++ (g :: G' ++ x :: xs)) (A.length:Int) ((A.length + (g :: (G' ++ [x])).length:Nat):Int) b else g63_impl_Tile.l0 k (A ++ [x] ++ (G' ++ [x] ++ xs)) ((A ++ [x]).length:Int) (((A ++ [x]).length + (G' ++ [x]).length:Nat):Int) b) (prB x b hb) ?_
        rw [hq]
        simpa using this
      · have:=ih A (g :: (G' ++ [x])) (by simp) (by simp at hl ⊢; omega)
        rw [show (x :: xs).filter (fun x => !qB b x) = xs.filter (fun x => !qB b x) by simp [hq]]
        refine Ev.bind (f:=fun k t => if t = true then g63_impl_Tile.l0 k (A ++ (g :: G' ++ x :: xs)) (A.length:Int) ((A.length + (g :: (G' ++ [x])).length:Nat):Int) b else g63_impl_Tile.l0 k (A ++ [x] ++ (G' ++ [x] ++ xs)) ((A ++ [x]).length:Int) (((A ++ [x]).length + (G' ++ [x]).length:Nat):Int) b) (prB x b hb) ?_
        rw [hq]
        simpa using this
theorem delB (b:List S35) (hb:b.length ≤ 2000000) (l:List S35) (hl:l.length ≤ 2000000):Ev (fun k => g63_impl_Tile.f k l b) (l.filter fun x => !qB b x):=by
  obtain ⟨r,h1,h2⟩:=ixB b hb l [] hl
  refine Ev.bind (f:=fun k (b1:Int) => if b1 = (-1) then some l else g63_impl_Tile.l0 k l b1 (wrap64 (b1 + 1)) b) h1 ?_
  rcases h2 with ⟨rfl,h2⟩ | ⟨A,x,R,rfl,rfl,h2,h3⟩
  · rw [List.filter_eq_self.2 (fun x hx => by rw [h2 x hx]; rfl)]
    exact Ev.congr (fun k => if_pos rfl) (Ev.now _)
  · have:=goB b hb R A [x] (by simp) (by simpa using hl)
    have hlen:(A ++ x :: R).length = A.length + R.length + 1:=by simp; omega
    refine Ev.congr (fun k => if_neg (by simp only [List.length_nil]; omega)) ?_
    rw [t_wrap _ (by omega) (by simp only [List.length_nil]; omega)]
    rw [show (A ++ x :: R).filter (fun x => !qB b x) = A ++ R.filter (fun x => !qB b x) by
      rw [List.filter_append,List.filter_eq_self.2 (fun y hy => by rw [h3 y hy]; rfl)]
      simp [h2]]
    simpa using this
def qL (b:List S35) (x:S35):Bool:=decide (x ∈ b)
theorem prL (x:S35) (b:List S35) (hb:b.length ≤ 2000000):Ev (fun k => g100064_impl_kept_1_v1.f k x.f0 x.f1 b) (qL b x):=by
  obtain ⟨K,h⟩:=contains_f x b hb
  refine ⟨K,fun k hk => ?_⟩
  have h:=h k hk
  simp only at h
  unfold g100064_impl_kept_1_v1.f g66_impl_less_1.f qL
  simp [h]
theorem ixL (b:List S35) (hb:b.length ≤ 2000000):∀ (rest pre:List S35),(pre ++ rest).length ≤ 2000000 → ∃ r:Int,Ev (fun k => g100067_impl_Tile__v1.l0 k (pre ++ rest) ((pre ++ rest).length:Int) (pre.length:Int) b) r ∧ ((r = -1 ∧ ∀ x ∈ rest,qL b x = false) ∨ ∃ A x R,rest = A ++ x :: R ∧ r = ((pre.length + A.length:Nat):Int) ∧ qL b x = true ∧ ∀ y ∈ A,qL b y = false):=by
  intro rest
  induction rest with
  | nil =>
    intro pre hl
    refine ⟨-1,Ev.step (f:=fun _ => some (-1)) (fun k => ?_) (Ev.now _),.inl ⟨rfl,fun x hx => by cases hx⟩⟩
    simp only [g100067_impl_Tile__v1.l0,List.append_nil]
    rw [if_neg (by omega)]
  | cons x xs ih =>
    intro pre hl
    have hlen:(pre ++ x :: xs).length = pre.length + xs.length + 1:=by simp; omega
    have hget:rd_T35 (pre ++ x :: xs) (pre.length:Int) = x:=by
      unfold rd_T35
      exact t_mid pre x xs _
    have e1:pre ++ [x] ++ xs = pre ++ x :: xs:=by simp
    cases hq:qL b x
    · obtain ⟨r,h1,h2⟩:=ih (pre ++ [x]) (by rw [e1]; exact hl)
      rw [e1] at h1
      refine ⟨r,Ev.step (f:=fun k => (g100064_impl_kept_1_v1.f k x.f0 x.f1 b).bind fun t => if t = true then some (pre.length:Int) else g100067_impl_Tile__v1.l0 k (pre ++ x :: xs) ((pre ++ x :: xs).length:Int) (((pre ++ [x]).length:Nat):Int) b) (fun k => ?_) (Ev.bind (f:=fun k t => if t = true then some (pre.length:Int) else g100067_impl_Tile__v1.l0 k (pre ++ x :: xs) ((pre ++ x :: xs).length:Int) (((pre ++ [x]).length:Nat):Int) b) (prL x b hb) (by rw [hq]; exact h1)),?_⟩
      · simp only [g100067_impl_Tile__v1.l0]
        rw [if_pos (by omega),if_pos (by omega),if_pos (by omega),hget,t_wrap ((pre.length:Int) + 1) (by omega) (by omega)]
        simp
      · rcases h2 with ⟨rfl,h2⟩ | ⟨A,y,R,rfl,rfl,h2,h3⟩
        · refine .inl ⟨rfl,fun y hy => ?_⟩
          rcases List.mem_cons.1 hy with rfl | hy
          · exact hq
          · exact h2 y hy
        · refine .inr ⟨x :: A,y,R,rfl,by simp; omega,h2,fun z hz => ?_⟩
          rcases List.mem_cons.1 hz with rfl | hz
          · exact hq
          · exact h3 z hz
    · refine ⟨(pre.length:Int),Ev.step (f:=fun k => (g100064_impl_kept_1_v1.f k x.f0 x.f1 b).bind fun t => if t = true then some (pre.length:Int) else g100067_impl_Tile__v1.l0 k (pre ++ x :: xs) ((pre ++ x :: xs).length:Int) (((pre ++ [x]).length:Nat):Int) b) (fun k => ?_) (Ev.bind (f:=fun k t => if t = true then some (pre.length:Int) else g100067_impl_Tile__v1.l0 k (pre ++ x :: xs) ((pre ++ x :: xs).length:Int) (((pre ++ [x]).length:Nat):Int) b) (prL x b hb) (by rw [hq]; exact Ev.now _)),.inr ⟨[],x,xs,rfl,rfl,hq,fun y hy => by cases hy⟩⟩
      simp only [g100067_impl_Tile__v1.l0]
      rw [if_pos (by omega),if_pos (by omega),if_pos (by omega),hget,t_wrap ((pre.length:Int) + 1) (by omega) (by omega)]
      simp
theorem goL (b:List S35) (hb:b.length ≤ 2000000):∀ (rest A G:List S35),G ≠ [] → (A ++ (G ++ rest)).length ≤ 2000000 → Ev (fun k => g100063_impl_Tile__v1.l0 k (A ++ (G ++ rest)) (A.length:Int) ((A.length + G.length:Nat):Int) b) (A ++ rest.filter fun x => !qL b x):=by
  intro rest
  induction rest with
  | nil =>
    intro A G hG hl
    have hg:0 < G.length:=List.length_pos_iff.2 hG
    have hlen:(A ++ (G ++ [])).length = A.length + G.length:=by simp
    refine Ev.step (f:=fun _ => some (A ++ [].filter fun x => !qL b x)) (fun k => ?_) (Ev.now _)
    simp only [g100063_impl_Tile__v1.l0]
    rw [if_neg (by omega),if_pos (by omega),if_pos (by omega),if_pos (by simp; omega)]
    simp
  | cons x xs ih =>
    intro A G hG hl
    obtain ⟨g,G',rfl⟩ : ∃ g G',G = g :: G':=by cases G with | nil => exact absurd rfl hG | cons g G' => exact ⟨g,G',rfl⟩
    have hlen:(A ++ (g :: G' ++ x :: xs)).length = A.length + G'.length + xs.length + 2:=by simp; omega
    have hget:rd_T35 (A ++ (g :: G' ++ x :: xs)) ((A.length + (g :: G').length:Nat):Int) = x:=by
      have:=t_mid (A ++ g :: G') x xs z35
      unfold rd_T35
      rw [show A ++ (g :: G' ++ x :: xs) = (A ++ g :: G') ++ x :: xs by simp,show ((A.length + (g :: G').length:Nat):Int).toNat = (A ++ g :: G').length by rw [Int.toNat_natCast]; simp]
      exact this
    refine Ev.step (f:=fun k => (g100064_impl_kept_1_v1.f k x.f0 x.f1 b).bind fun t => if t = true then g100063_impl_Tile__v1.l0 k (A ++ (g :: G' ++ x :: xs)) (A.length:Int) ((A.length + (g :: (G' ++ [x])).length:Nat):Int) b else g100063_impl_Tile__v1.l0 k (A ++ [x] ++ (G' ++ [x] ++ xs)) ((A ++ [x]).length:Int) (((A ++ [x]).length + (G' ++ [x]).length:Nat):Int) b) (fun k => ?_) ?_
    · simp only [g100063_impl_Tile__v1.l0]
      rw [if_pos (by simp only [List.length_cons]; omega),if_pos (by omega),hget,t_wrap ((A.length:Int) + 1) (by omega) (by omega),t_wrap (((A.length + (g :: G').length:Nat):Int) + 1) (by omega) (by simp only [List.length_cons]; omega),if_pos (by omega),if_pos (by omega)]
      congr 1
      funext t
      have e2:(A ++ (g :: G' ++ x :: xs)).set (A.length:Int).toNat x = A ++ [x] ++ (G' ++ [x] ++ xs):=by
        rw [Int.toNat_natCast,List.set_append_right _ _ (Nat.le_refl _)]
        simp
      rw [show (⟨x.f0,x.f1⟩ : S35) = x from rfl,e2]
      rw [show ((A.length:Int) + 1) = ((A ++ [x]).length:Int) by simp,show (((A.length + (g :: G').length:Nat):Int) + 1) = (((A ++ [x]).length + (G' ++ [x]).length:Nat):Int) by simp; omega,show ((A.length + (g :: (G' ++ [x])).length:Nat):Int) = (((A ++ [x]).length + (G' ++ [x]).length:Nat):Int) by simp; omega]
    · cases hq:qL b x
      · have:=ih (A ++ [x]) (G' ++ [x]) (by simp) (by simp at hl ⊢; omega)
        rw [show (x :: xs).filter (fun x => !qL b x) = x :: xs.filter (fun x => !qL b x) by simp [hq]]
        refine Ev.bind (f:=fun k t => if t = true then g100063_impl_Tile__v1.l0 k (A ++ (g :: G' ++ x :: xs)) (A.length:Int) ((A.length + (g :: (G' ++ [x])).length:Nat):Int) b else g100063_impl_Tile__v1.l0 k (A ++ [x] ++ (G' ++ [x] ++ xs)) ((A ++ [x]).length:Int) (((A ++ [x]).length + (G' ++ [x]).length:Nat):Int) b) (prL x b hb) ?_
        rw [hq]
        simpa using this
      · have:=ih A (g :: (G' ++ [x])) (by simp) (by simp at hl ⊢; omega)
        rw [show (x :: xs).filter (fun x => !qL b x) = xs.filter (fun x => !qL b x) by simp [hq]]
        refine Ev.bind (f:=fun k t => if t = true then g100063_impl_Tile__v1.l0 k (A ++ (g :: G' ++ x :: xs)) (A.length:Int) ((A.length + (g :: (G' ++ [x])).length:Nat):Int) b else g100063_impl_Tile__v1.l0 k (A ++ [x] ++ (G' ++ [x] ++ xs)) ((A ++ [x]).length:Int) (((A ++ [x]).length + (G' ++ [x]).length:Nat):Int) b) (prL x b hb) ?_
        rw [hq]
        simpa using this
theorem delL (b:List S35) (hb:b.length ≤ 2000000) (l:List S35) (hl:l.length ≤ 2000000):Ev (fun k => g100063_impl_Tile__v1.f k l b) (l.filter fun x => !qL b x):=by
  obtain ⟨r,h1,h2⟩:=ixL b hb l [] hl
  refine Ev.bind (f:=fun k (b1:Int) => if b1 = (-1) then some l else g100063_impl_Tile__v1.l0 k l b1 (wrap64 (b1 + 1)) b) h1 ?_
  rcases h2 with ⟨rfl,h2⟩ | ⟨A,x,R,rfl,rfl,h2,h3⟩
  · rw [List.filter_eq_self.2 (fun x hx => by rw [h2 x hx]; rfl)]
    exact Ev.congr (fun k => if_pos rfl) (Ev.now _)
  · have:=goL b hb R A [x] (by simp) (by simpa using hl)
    have hlen:(A ++ x :: R).length = A.length + R.length + 1:=by simp; omega
    refine Ev.congr (fun k => if_neg (by simp only [List.length_nil]; omega)) ?_
    rw [t_wrap _ (by omega) (by simp only [List.length_nil]; omega)]
    rw [show (A ++ x :: R).filter (fun x => !qL b x) = A ++ R.filter (fun x => !qL b x) by
      rw [List.filter_append,List.filter_eq_self.2 (fun y hy => by rw [h3 y hy]; rfl)]
      simp [h2]]
    simpa using this
theorem ev_up {α:Type} {g:Nat → Option α} {r:α} {K:Nat} (h:∀ k,K ≤ k → g (k + 1) = some r):Ev g r :=
  ⟨K + 1,fun k hk => by
    obtain ⟨m,rfl⟩ : ∃ m,k = m + 1:=⟨k - 1,by omega⟩
    exact h m (by omega)⟩
theorem nd_of:∀ (rest pre:List S35),(∀ x ∈ rest,x ∉ pre) → rest.Nodup → nd pre rest = true
  | [],_,_,_ => rfl
  | x :: xs,pre,h,hn => by
    rw [List.nodup_cons] at hn
    simp only [nd,Bool.and_eq_true,Bool.not_eq_true',decide_eq_false_iff_not]
    refine ⟨h x List.mem_cons_self,nd_of xs _ (fun y hy hm => ?_) hn.2⟩
    rcases List.mem_append.1 hm with hm | hm
    · exact h y (List.mem_cons_of_mem _ hy) hm
    · rw [List.mem_singleton] at hm
      subst hm
      exact hn.1 hy
theorem isH_of (l:List S35) (h1:l.length ≤ 55) (h2:∀ x ∈ l,good x = true) (h3:l.Nodup):isH l = true:=by
  unfold isH
  simp only [Bool.and_eq_true,decide_eq_true_eq,List.all_eq_true]
  exact ⟨h1,h2,nd_of l [] (fun _ _ h => by cases h) h3⟩
theorem isH_lt (l a:List S35) (ha:isH a = true) (h:l.Pairwise lt) (hm:∀ x ∈ l,x ∈ a):isH l = true:=by
  obtain ⟨h1,h2,h3⟩:=isH_true a ha
  exact isH_of l (Nat.le_trans (len_le l a (nd_lt h) hm) h1) (fun x hx => h2 x (hm x hx)) (nd_lt h)
theorem isH_sub (a:List S35) (ha:isH a = true) (p:S35 → Bool):isH ((msort a).filter p) = true :=
  isH_lt _ a ha ((msort_lt a (isH_true a ha).2.2).filter p) (fun x hx => (msort_mem a x).1 (List.mem_filter.1 hx).1)
theorem tiSort_f (a:List S35) (ha:isH a = true):Ev (fun k => spec_tiSort.f k a) (msort a):=by
  obtain ⟨s,h1,h2,h3,h4,_⟩:=sort_f a ha
  have:msort a = s:=uniq _ _ (msort_lt a (isH_true a ha).2.2) h3 (fun x => by rw [h4,msort_mem])
  rw [this]
  exact h1
def joinR (a b:List S35):List S35 × Bool:=if isH a = true ∧ isH b = true then (jn a b,true) else ([],false)
def bothR (a b:List S35):List S35 × Bool:=if isH a = true ∧ isH b = true then ((msort a).filter fun x => decide (x ∈ b),true) else ([],false)
def lessR (a b:List S35):List S35 × Bool:=if isH a = true ∧ isH b = true then ((msort a).filter fun x => !decide (x ∈ b),true) else ([],false)
theorem join_i (a b:List S35) (ha:a.length ≤ 2000000) (hb:b.length ≤ 2000000):Ev (fun k => g6_impl_JoinHands.f k a b) (joinR a b):=by
  obtain ⟨K1,h1⟩:=isH_impl a ha
  obtain ⟨K2,h2⟩:=isH_impl b hb
  simp only at h1 h2
  by_cases hA:isH a = true
  · by_cases hB:isH b = true
    · obtain ⟨a1,a2,a3⟩:=isH_true a hA
      obtain ⟨b1,b2,b3⟩:=isH_true b hB
      obtain ⟨K3,h3⟩:=concat_f a b ha hb
      obtain ⟨K4,h4⟩:=compact_f (msort (a ++ b)) (by rw [msort_len]; simp; omega)
      have h5:=sorted_i (a ++ b) (fun x hx => by rcases List.mem_append.1 hx with h | h; exact a2 x h; exact b2 x h) (by simp; omega)
      try simp only at h3
      try simp only at h4
      refine ⟨K1 + K2 + K3 + K4,fun k hk => ?_⟩
      simp [g6_impl_JoinHands.f,joinR,jn,h1 k (by omega),h2 k (by omega),h3 k (by omega),h4 k (by omega),h5,hA,hB]
    · refine ⟨K1 + K2,fun k hk => ?_⟩
      simp [g6_impl_JoinHands.f,joinR,h1 k (by omega),h2 k (by omega),hA,hB]
  · refine ⟨K1,fun k hk => ?_⟩
    simp [g6_impl_JoinHands.f,joinR,h1 k (by omega),hA]
theorem join_s (a b:List S35) (ha:a.length ≤ 2000000) (hb:b.length ≤ 2000000):Ev (fun k => spec_JoinHands.f k a b) (joinR a b):=by
  obtain ⟨K1,h1⟩:=isH_spec a ha
  obtain ⟨K2,h2⟩:=isH_spec b hb
  simp only at h1 h2
  by_cases hA:isH a = true
  · by_cases hB:isH b = true
    · obtain ⟨a1,a2,a3⟩:=isH_true a hA
      obtain ⟨b1,b2,b3⟩:=isH_true b hB
      obtain ⟨s,⟨K3,h3⟩,s2,s3⟩:=sort_g (a ++ b) (fun x hx => by rcases List.mem_append.1 hx with h | h; exact a2 x h; exact b2 x h) (by simp; omega)
      have hs:s = jn a b:=uniq _ _ s2 (jn_spec a b).1 (fun x => by rw [s3,(jn_spec a b).2,List.mem_append])
      try simp only at h3
      have e1:([] : List S35).length + a.length < 8796093022208:=by simp; omega
      have e2:([] ++ a:List S35).length + b.length < 8796093022208:=by simp; omega
      refine ⟨K1 + K2 + K3,fun k hk => ?_⟩
      simp only [spec_JoinHands.f,joinR,h1 k (by omega),h2 k (by omega),Option.bind_some,hA,hB,if_true,and_self]
      rw [if_pos e1,if_pos e2,List.nil_append,h3 k (by omega),hs]
      rfl
    · refine ⟨K1 + K2,fun k hk => ?_⟩
      simp [spec_JoinHands.f,joinR,h1 k (by omega),h2 k (by omega),hA,hB]
  · refine ⟨K1,fun k hk => ?_⟩
    simp [spec_JoinHands.f,joinR,h1 k (by omega),hA]
theorem kept_i (a b:List S35) (hA:isH a = true) (hb:b.length ≤ 2000000):Ev (fun k => g33_impl_kept.f k a b) ((msort a).filter fun x => decide (x ∈ b)):=by
  obtain ⟨a1,a2,a3⟩:=isH_true a hA
  obtain ⟨K,h⟩:=delB b hb (msort a) (by rw [msort_len]; omega)
  simp only [qB,Bool.not_not] at h
  exact ⟨K,fun k hk => by simp [g33_impl_kept.f,sorted_i a a2 (by omega),h k hk]⟩
theorem less_f (a b:List S35) (hA:isH a = true) (hb:b.length ≤ 2000000):Ev (fun k => g37_impl_less.f k a b) ((msort a).filter fun x => !decide (x ∈ b)):=by
  obtain ⟨a1,a2,a3⟩:=isH_true a hA
  obtain ⟨K,h⟩:=delL b hb (msort a) (by rw [msort_len]; omega)
  simp only [qL] at h
  exact ⟨K,fun k hk => by simp [g37_impl_less.f,g100033_impl_kept_v1.f,sorted_i a a2 (by omega),h k hk]⟩
theorem both_i (a b:List S35) (ha:a.length ≤ 2000000) (hb:b.length ≤ 2000000):Ev (fun k => g8_impl_BothHands.f k a b) (bothR a b):=by
  obtain ⟨K1,h1⟩:=isH_impl a ha
  obtain ⟨K2,h2⟩:=isH_impl b hb
  simp only at h1 h2
  by_cases hA:isH a = true
  · by_cases hB:isH b = true
    · obtain ⟨K3,h3⟩:=kept_i a b hA hb
      try simp only at h3
      refine ⟨K1 + K2 + K3,fun k hk => ?_⟩
      simp [g8_impl_BothHands.f,bothR,h1 k (by omega),h2 k (by omega),h3 k (by omega),hA,hB]
    · refine ⟨K1 + K2,fun k hk => ?_⟩
      simp [g8_impl_BothHands.f,bothR,h1 k (by omega),h2 k (by omega),hA,hB]
  · refine ⟨K1,fun k hk => ?_⟩
    simp [g8_impl_BothHands.f,bothR,h1 k (by omega),hA]
theorem less_i (a b:List S35) (ha:a.length ≤ 2000000) (hb:b.length ≤ 2000000):Ev (fun k => g10_impl_LessHand.f k a b) (lessR a b):=by
  obtain ⟨K1,h1⟩:=isH_impl a ha
  obtain ⟨K2,h2⟩:=isH_impl b hb
  simp only at h1 h2
  by_cases hA:isH a = true
  · by_cases hB:isH b = true
    · obtain ⟨K3,h3⟩:=less_f a b hA hb
      try simp only at h3
      refine ⟨K1 + K2 + K3,fun k hk => ?_⟩
      simp [g10_impl_LessHand.f,lessR,h1 k (by omega),h2 k (by omega),h3 k (by omega),hA,hB]
    · refine ⟨K1 + K2,fun k hk => ?_⟩
      simp [g10_impl_LessHand.f,lessR,h1 k (by omega),h2 k (by omega),hA,hB]
  · refine ⟨K1,fun k hk => ?_⟩
    simp [g10_impl_LessHand.f,lessR,h1 k (by omega),hA]
theorem those_ev (l:List S35) (hl:l.length ≤ 2000000) (b:Bool):∀ (rest pre out:List S35),(pre ++ rest).length ≤ 1000 → out.length ≤ pre.length →
    Ev (fun k => spec_tiThose.l0 k l b out (pre ++ rest) ((pre ++ rest).length:Int) (pre.length:Int)) (out ++ rest.filter fun x => decide (x ∈ l) == b):=by
  intro rest
  induction rest with
  | nil =>
    intro pre out h1 h2
    refine Ev.step (f:=fun _ => some (out ++ [])) (fun k => ?_) (Ev.now _)
    simp only [spec_tiThose.l0,List.append_nil]
    rw [if_neg (by omega)]
  | cons x xs ih =>
    intro pre out h1 h2
    have hlen:(pre ++ x :: xs).length = pre.length + xs.length + 1:=by simp; omega
    have hget:rd_T35 (pre ++ x :: xs) (pre.length:Int) = x:=rd_at' pre x xs
    obtain ⟨r,⟨K1,p1⟩,p2⟩:=place_f x l hl
    have e1:pre ++ [x] ++ xs = pre ++ x :: xs:=by simp
    obtain ⟨K2,i1⟩:=ih (pre ++ [x]) out (by rw [e1]; exact h1) (by simp; omega)
    obtain ⟨K3,i2⟩:=ih (pre ++ [x]) (out ++ [x]) (by rw [e1]; exact h1) (by simp; omega)
    simp only [e1] at p1 i1 i2
    refine ev_up (K:=K1 + K2 + K3) fun k hk => ?_
    simp only [spec_tiThose.l0]
    rw [if_pos (by omega),if_pos (by omega),if_pos (by omega),hget,t_wrap ((pre.length:Int) + 1) (by omega) (by omega),if_pos (by omega),p1 k (by omega)]
    simp only [Option.bind_some,p2]
    have i1:=i1 k (by omega)
    have i2:=i2 k (by omega)
    rw [show ((pre ++ [x]).length:Int) = (pre.length:Int) + 1 by simp] at i1 i2
    rw [List.filter_cons]
    cases hd:(decide (x ∈ l) == b)
    · simp only [Bool.false_eq_true,if_false]
      exact i1
    · simp only [if_true]
      rw [show (⟨x.f0,x.f1⟩ : S35) = x from rfl,i2]
      simp
theorem those_f (a b:List S35) (hA:isH a = true) (hb:b.length ≤ 2000000) (c:Bool):Ev (fun k => spec_tiThose.f k a b c) ((msort a).filter fun x => decide (x ∈ b) == c):=by
  obtain ⟨a1,a2,a3⟩:=isH_true a hA
  have:=those_ev b hb c (msort a) [] [] (by simp [msort_len]; omega) (by simp)
  exact Ev.bind (f:=fun k s => spec_tiThose.l0 k b c [] s (s.length:Int) 0) (tiSort_f a hA) this
theorem both_s (a b:List S35) (ha:a.length ≤ 2000000) (hb:b.length ≤ 2000000):Ev (fun k => spec_BothHands.f k a b) (bothR a b):=by
  obtain ⟨K1,h1⟩:=isH_spec a ha
  obtain ⟨K2,h2⟩:=isH_spec b hb
  simp only at h1 h2
  by_cases hA:isH a = true
  · by_cases hB:isH b = true
    · obtain ⟨K3,h3⟩:=those_f a b hA hb true
      simp only [beq_true] at h3
      refine ⟨K1 + K2 + K3,fun k hk => ?_⟩
      simp [spec_BothHands.f,bothR,h1 k (by omega),h2 k (by omega),h3 k (by omega),hA,hB]
    · refine ⟨K1 + K2,fun k hk => ?_⟩
      simp [spec_BothHands.f,bothR,h1 k (by omega),h2 k (by omega),hA,hB]
  · refine ⟨K1,fun k hk => ?_⟩
    simp [spec_BothHands.f,bothR,h1 k (by omega),hA]
theorem less_s (a b:List S35) (ha:a.length ≤ 2000000) (hb:b.length ≤ 2000000):Ev (fun k => spec_LessHand.f k a b) (lessR a b):=by
  obtain ⟨K1,h1⟩:=isH_spec a ha
  obtain ⟨K2,h2⟩:=isH_spec b hb
  simp only at h1 h2
  by_cases hA:isH a = true
  · by_cases hB:isH b = true
    · obtain ⟨K3,h3⟩:=those_f a b hA hb false
      simp only [beq_false] at h3
      refine ⟨K1 + K2 + K3,fun k hk => ?_⟩
      simp [spec_LessHand.f,lessR,h1 k (by omega),h2 k (by omega),h3 k (by omega),hA,hB]
    · refine ⟨K1 + K2,fun k hk => ?_⟩
      simp [spec_LessHand.f,lessR,h1 k (by omega),h2 k (by omega),hA,hB]
  · refine ⟨K1,fun k hk => ?_⟩
    simp [spec_LessHand.f,lessR,h1 k (by omega),hA]
def pip (l:List S35):Int:=(l.map fun x => x.f0 + x.f1).sum
def pipR (l:List S35):Int × Bool:=if isH l = true then (pip l,true) else (0,false)
theorem ipips_ev:∀ (rest pre:List S35) (acc:Int),(pre ++ rest).length ≤ 1000 → 0 ≤ acc → acc ≤ 18 * pre.length → (∀ x ∈ rest,good x = true) → Ev (fun k => impl_pips.l0 k acc (pre ++ rest) ((pre ++ rest).length:Int) (pre.length:Int)) (acc + pip rest):=by
  intro rest
  induction rest with
  | nil =>
    intro pre acc hl h0 h1 hg
    refine Ev.step (f:=fun _ => some (acc + pip [])) (fun k => ?_) (Ev.now _)
    simp only [impl_pips.l0,List.append_nil]
    rw [if_neg (by omega)]
    simp [pip]
  | cons x xs ih =>
    intro pre acc hl h0 h1 hg
    have hlen:(pre ++ x :: xs).length = pre.length + xs.length + 1:=by simp; omega
    have hget:rd_T35 (pre ++ x :: xs) (pre.length:Int) = x:=rd_at' pre x xs
    have gx:=(good_iff x).1 (hg x List.mem_cons_self)
    have e1:pre ++ [x] ++ xs = pre ++ x :: xs:=by simp
    have:=ih (pre ++ [x]) (acc + (x.f0 + x.f1)) (by rw [e1]; exact hl) (by omega) (by simp; omega) (fun y hy => hg y (List.mem_cons_of_mem _ hy))
    rw [e1,show acc + (x.f0 + x.f1) + pip xs = acc + pip (x :: xs) by simp [pip]; omega] at this
    refine Ev.step (fun k => ?_) this
    simp only [impl_pips.l0]
    rw [if_pos (by omega),if_pos (by omega),if_pos (by omega),hget,t_wrap (x.f0 + x.f1) (by omega) (by omega),t_wrap (acc + _) (by omega) (by omega),t_wrap ((pre.length:Int) + 1) (by omega) (by omega)]
    simp
theorem spips_ev:∀ (rest pre:List S35) (acc:Int),(pre ++ rest).length ≤ 1000 → 0 ≤ acc → acc ≤ 18 * pre.length → (∀ x ∈ rest,good x = true) → Ev (fun k => spec_tiPips.l0 k acc (pre ++ rest) ((pre ++ rest).length:Int) (pre.length:Int)) (acc + pip rest):=by
  intro rest
  induction rest with
  | nil =>
    intro pre acc hl h0 h1 hg
    refine Ev.step (f:=fun _ => some (acc + pip [])) (fun k => ?_) (Ev.now _)
    simp only [spec_tiPips.l0,List.append_nil]
    rw [if_neg (by omega)]
    simp [pip]
  | cons x xs ih =>
    intro pre acc hl h0 h1 hg
    have hlen:(pre ++ x :: xs).length = pre.length + xs.length + 1:=by simp; omega
    have hget:rd_T35 (pre ++ x :: xs) (pre.length:Int) = x:=rd_at' pre x xs
    have gx:=(good_iff x).1 (hg x List.mem_cons_self)
    have e1:pre ++ [x] ++ xs = pre ++ x :: xs:=by simp
    have:=ih (pre ++ [x]) (acc + (x.f0 + x.f1)) (by rw [e1]; exact hl) (by omega) (by simp; omega) (fun y hy => hg y (List.mem_cons_of_mem _ hy))
    rw [e1,show acc + (x.f0 + x.f1) + pip xs = acc + pip (x :: xs) by simp [pip]; omega] at this
    refine Ev.step (fun k => ?_) this
    simp only [spec_tiPips.l0]
    rw [if_pos (by omega),if_pos (by omega),if_pos (by omega),hget,t_wrap (x.f0 + x.f1) (by omega) (by omega),t_wrap (acc + _) (by omega) (by omega),t_wrap ((pre.length:Int) + 1) (by omega) (by omega)]
    simp
theorem pips_i (l:List S35) (hl:l.length ≤ 2000000):Ev (fun k => impl_PipsOf.f k l) (pipR l):=by
  obtain ⟨K1,h1⟩:=isH_impl l hl
  simp only at h1
  by_cases hA:isH l = true
  · obtain ⟨a1,a2,a3⟩:=isH_true l hA
    obtain ⟨K2,h2⟩:=ipips_ev l [] 0 (by simp; omega) (by omega) (by simp) a2
    refine ⟨K1 + K2,fun k hk => ?_⟩
    have h2:=h2 k (by omega)
    simp only [List.nil_append,List.length_nil,Int.zero_add] at h2
    have h2:impl_pips.f k l = some (pip l):=h2
    simp [impl_PipsOf.f,pipR,h1 k (by omega),h2,hA]
  · refine ⟨K1,fun k hk => ?_⟩
    simp [impl_PipsOf.f,pipR,h1 k (by omega),hA]
theorem pips_s (l:List S35) (hl:l.length ≤ 2000000):Ev (fun k => spec_PipsOf.f k l) (pipR l):=by
  obtain ⟨K1,h1⟩:=isH_spec l hl
  simp only at h1
  by_cases hA:isH l = true
  · obtain ⟨a1,a2,a3⟩:=isH_true l hA
    obtain ⟨K2,h2⟩:=spips_ev l [] 0 (by simp; omega) (by omega) (by simp) a2
    refine ⟨K1 + K2,fun k hk => ?_⟩
    have h2:=h2 k (by omega)
    simp only [List.nil_append,List.length_nil,Int.zero_add] at h2
    have h2:spec_tiPips.f k l = some (pip l):=h2
    simp [spec_PipsOf.f,pipR,h1 k (by omega),h2,hA]
  · refine ⟨K1,fun k hk => ?_⟩
    simp [spec_PipsOf.f,pipR,h1 k (by omega),hA]
def sortR (l:List S35):List S35 × Bool:=if isH l = true then (msort l,true) else ([],false)
theorem sort_i (l:List S35) (hl:l.length ≤ 2000000):Ev (fun k => impl_SortHand.f k l) (sortR l):=by
  obtain ⟨K1,h1⟩:=isH_impl l hl
  simp only at h1
  refine ⟨K1,fun k hk => ?_⟩
  by_cases hA:isH l = true
  · obtain ⟨a1,a2,a3⟩:=isH_true l hA
    simp [impl_SortHand.f,sortR,h1 k (by omega),sorted_i l a2 hl,hA]
  · simp [impl_SortHand.f,sortR,h1 k (by omega),hA]
theorem sort_s (l:List S35) (hl:l.length ≤ 2000000):Ev (fun k => spec_SortHand.f k l) (sortR l):=by
  obtain ⟨K1,h1⟩:=isH_spec l hl
  simp only at h1
  by_cases hA:isH l = true
  · obtain ⟨K2,h2⟩:=tiSort_f l hA
    simp only at h2
    refine ⟨K1 + K2,fun k hk => ?_⟩
    simp [spec_SortHand.f,sortR,h1 k (by omega),h2 k (by omega),hA]
  · refine ⟨K1,fun k hk => ?_⟩
    simp [spec_SortHand.f,sortR,h1 k (by omega),hA]
theorem mTiles_ev:∀ (rest pre:List S35),(pre ++ rest).length ≤ 2000000 → Ev (fun k => laws_mTiles.l0 k (pre ++ rest) (pre ++ rest) ((pre ++ rest).length:Int) (pre.length:Int)) true:=by
  intro rest
  induction rest with
  | nil =>
    intro pre hl
    refine Ev.step (f:=fun _ => some true) (fun k => ?_) (Ev.now _)
    simp only [laws_mTiles.l0,List.append_nil]
    rw [if_neg (by omega)]
  | cons x xs ih =>
    intro pre hl
    have hlen:(pre ++ x :: xs).length = pre.length + xs.length + 1:=by simp; omega
    have e1:pre ++ [x] ++ xs = pre ++ x :: xs:=by simp
    have:=ih (pre ++ [x]) (by rw [e1]; exact hl)
    rw [e1] at this
    refine Ev.step (fun k => ?_) this
    simp only [laws_mTiles.l0]
    rw [if_pos (by omega),if_pos (by omega),if_pos (by omega),if_pos (by omega),if_neg (by simp),t_wrap ((pre.length:Int) + 1) (by omega) (by omega)]
    simp
theorem mTiles_f (l:List S35) (hl:l.length ≤ 2000000):Ev (fun k => laws_mTiles.f k l l) true:=by
  refine Ev.congr (fun k => ?_) (mTiles_ev l [] hl)
  unfold laws_mTiles.f
  rw [if_pos rfl]
  rfl
theorem mHas_ev (t:S35):∀ (rest pre:List S35),(pre ++ rest).length ≤ 2000000 → Ev (fun k => laws_mHas.l0 k (pre ++ rest) ((pre ++ rest).length:Int) (pre.length:Int) t.f0 t.f1) (decide (t ∈ rest)):=by
  intro rest
  induction rest with
  | nil =>
    intro pre hl
    refine Ev.step (f:=fun _ => some (decide (t ∈ ([] : List S35)))) (fun k => ?_) (Ev.now _)
    simp only [laws_mHas.l0,List.append_nil]
    rw [if_neg (by omega)]
    simp
  | cons x xs ih =>
    intro pre hl
    have hlen:(pre ++ x :: xs).length = pre.length + xs.length + 1:=by simp; omega
    have hget:rd_T35 (pre ++ x :: xs) (pre.length:Int) = x:=rd_at' pre x xs
    have e1:pre ++ [x] ++ xs = pre ++ x :: xs:=by simp
    by_cases e:x = t
    · refine Ev.step (f:=fun _ => some (decide (t ∈ x :: xs))) (fun k => ?_) (Ev.now _)
      simp only [laws_mHas.l0]
      rw [if_pos (by omega),if_pos (by omega),if_pos (by omega),hget,t_beq,if_pos (by simp [e])]
      simp [e]
    · have:=ih (pre ++ [x]) (by rw [e1]; exact hl)
      rw [e1,show decide (t ∈ xs) = decide (t ∈ x :: xs) by simp [List.mem_cons,show ¬ t = x from fun h => e h.symm]] at this
      refine Ev.step (fun k => ?_) this
      simp only [laws_mHas.l0]
      rw [if_pos (by omega),if_pos (by omega),if_pos (by omega),hget,t_beq,if_neg (by simp [e]),t_wrap ((pre.length:Int) + 1) (by omega) (by omega)]
      simp
theorem mHas_f (t:S35) (l:List S35) (hl:l.length ≤ 2000000):Ev (fun k => laws_mHas.f k l t.f0 t.f1) (decide (t ∈ l)):=mHas_ev t l [] hl
theorem sets0:∀ n:Fin 10,((spec_tiSet.f 100 ((n.val:Nat):Int)).map code) = some (lst n.val) ∧ ((impl_setOf.f 100 ((n.val:Nat):Int)).map code) = some (lst n.val):=by decide +kernel
theorem sets1:∀ n:Fin 10,(lst n.val).length ≤ 55 ∧ (lst n.val).Pairwise (fun x y => x.1 < y.1 ∨ (x.1 = y.1 ∧ x.2 < y.2)) ∧ (∀ p ∈ lst n.val,0 ≤ p.1 ∧ p.1 ≤ p.2 ∧ p.2 ≤ (n.val:Int)) ∧ ∀ a:Fin 10,∀ b:Fin 10,a.val ≤ b.val → b.val ≤ n.val → (((a.val:Nat):Int),((b.val:Nat):Int)) ∈ lst n.val:=by decide +kernel
theorem set_both (n:Int) (h0:0 ≤ n) (h9:n ≤ 9):∃ A:List S35,Ev (fun k => spec_tiSet.f k n) A ∧ Ev (fun k => impl_setOf.f k n) A ∧ A.length ≤ 55 ∧ A.Pairwise lt ∧ ∀ x,x ∈ A ↔ (good x = true ∧ x.f1 ≤ n):=by
  obtain ⟨m,rfl⟩ : ∃ m:Nat,n = (m:Int):=⟨n.toNat,by omega⟩
  obtain ⟨s1,s2⟩:=sets0 ⟨m,by omega⟩
  obtain ⟨q1,q2,q3,q4⟩:=sets1 ⟨m,by omega⟩
  simp only at s1 s2 q1 q2 q3 q4
  obtain ⟨A,hA,hc⟩:=Option.map_eq_some_iff.1 s1
  obtain ⟨B,hB,hd⟩:=Option.map_eq_some_iff.1 s2
  obtain rfl:B = A:=code_inj _ _ (hd.trans hc.symm)
  refine ⟨B,Ev.of (fun k => spec_tiSet.mono _ k) hA,Ev.of (fun k => impl_setOf.mono _ k) hB,?_,?_,fun x => ?_⟩
  · rw [← hc] at q1
    unfold code at q1
    rw [List.length_map] at q1
    exact q1
  · rw [← hc] at q2
    unfold code at q2
    rw [List.pairwise_map] at q2
    exact q2
  · rw [← hc] at q3 q4
    constructor
    · intro hx
      have:=q3 (x.f0,x.f1) (by unfold code; exact List.mem_map.2 ⟨x,hx,rfl⟩)
      rw [good_iff]
      simp only at this
      omega
    · rintro ⟨hx,hx1⟩
      rw [good_iff] at hx
      have:=q4 ⟨x.f0.toNat,by omega⟩ ⟨x.f1.toNat,by omega⟩ (by simp; omega) (by simp; omega)
      simp only at this
      rw [Int.toNat_of_nonneg (by omega),Int.toNat_of_nonneg (by omega)] at this
      unfold code at this
      obtain ⟨y,hy,e⟩:=List.mem_map.1 this
      simp only [Prod.mk.injEq] at e
      have:y = x:=t_ext y x e.1 e.2
      rw [← this]
      exact hy
theorem sets_isH {n:Int} {A:List S35} (h1:A.length ≤ 55) (h2:A.Pairwise lt) (h3:∀ x,x ∈ A ↔ (good x = true ∧ x.f1 ≤ n)):isH A = true:=isH_of A h1 (fun x hx => ((h3 x).1 hx).1) (nd_lt h2)
theorem number_i (n:Int):impl_isNumber.f n = some (decide (0 ≤ n ∧ n ≤ 9)):=by
  unfold impl_isNumber.f impl_within.f
  by_cases h:0 ≤ n <;> simp [h]
theorem number_s (n:Int):spec_tiNumber.f n = some (decide (0 ≤ n ∧ n ≤ 9)):=by
  unfold spec_tiNumber.f spec_l1In.f
  by_cases h:0 ≤ n
  · have h':n ≥ 0:=h
    simp [h,h']
  · have h':¬ n ≥ 0:=h
    rw [if_neg h']
    simp [h]
theorem within_ev (n:Int):∀ (rest pre:List S35),(pre ++ rest).length ≤ 2000000 → Ev (fun k => spec_tiWithin.l0 k n (pre ++ rest) ((pre ++ rest).length:Int) (pre.length:Int)) (!(rest.any fun x => decide (n < x.f1))):=by
  intro rest
  induction rest with
  | nil =>
    intro pre hl
    refine Ev.step (f:=fun _ => some true) (fun k => ?_) (Ev.now _)
    simp only [spec_tiWithin.l0,List.append_nil]
    rw [if_neg (by omega)]
  | cons x xs ih =>
    intro pre hl
    have hlen:(pre ++ x :: xs).length = pre.length + xs.length + 1:=by simp; omega
    have hget:rd_T35 (pre ++ x :: xs) (pre.length:Int) = x:=rd_at' pre x xs
    have e1:pre ++ [x] ++ xs = pre ++ x :: xs:=by simp
    by_cases e:x.f1 > n
    · refine Ev.step (f:=fun _ => some (!((x :: xs).any fun x => decide (n < x.f1)))) (fun k => ?_) (Ev.now _)
      simp only [spec_tiWithin.l0]
      rw [if_pos (by omega),if_pos (by omega),if_pos (by omega),hget,if_pos e]
      simp [show n < x.f1 from e]
    · have:=ih (pre ++ [x]) (by rw [e1]; exact hl)
      rw [e1,show (!(xs.any fun x => decide (n < x.f1))) = (!((x :: xs).any fun x => decide (n < x.f1))) by simp [show ¬ n < x.f1 from e]] at this
      refine Ev.step (fun k => ?_) this
      simp only [spec_tiWithin.l0]
      rw [if_pos (by omega),if_pos (by omega),if_pos (by omega),hget,if_neg e,t_wrap ((pre.length:Int) + 1) (by omega) (by omega)]
      simp
theorem within_f (l:List S35) (n:Int) (hl:l.length ≤ 2000000):Ev (fun k => spec_tiWithin.f k l n) (!(l.any fun x => decide (n < x.f1))):=within_ev n l [] hl
theorem miss_both (h:List S35) (n:Int) (hl:h.length ≤ 2000000):∃ m ok,Ev (fun k => g19_impl_MissingFrom.f k h n) (m,ok) ∧ Ev (fun k => spec_MissingFrom.f k h n) (m,ok) ∧ m.length ≤ 100 ∧
    (ok = true → isH h = true ∧ ∃ A:List S35,Ev (fun k => impl_setOf.f k n) A ∧ A.length ≤ 55 ∧ A.Pairwise lt ∧ (0 ≤ n ∧ n ≤ 9) ∧ (∀ x,x ∈ A ↔ (good x = true ∧ x.f1 ≤ n)) ∧ m = A.filter (fun x => !decide (x ∈ h)) ∧ ∀ x ∈ h,x ∈ A):=by
  obtain ⟨K1,h1⟩:=isH_impl h hl
  obtain ⟨K2,h2⟩:=isH_spec h hl
  simp only at h1 h2
  by_cases hA:isH h = true
  · by_cases hn:0 ≤ n ∧ n ≤ 9
    · obtain ⟨K3,h3⟩:=within_f h n hl
      simp only at h3
      have h3i:impl_isUpTo.f h n = some (!(h.any fun x => decide (n < x.f1))):=rfl
      cases hw:h.any fun x => decide (n < x.f1)
      · obtain ⟨A,⟨K4,h4⟩,⟨K5,h5⟩,a1,a2,a3⟩:=set_both n hn.1 hn.2
        have hAH:=sets_isH a1 a2 a3
        obtain ⟨K6,h6⟩:=less_f A h hAH hl
        have hms:msort A = A:=uniq _ _ (msort_lt A (nd_lt a2)) a2 (fun x => msort_mem A x)
        rw [hms] at h6
        obtain ⟨K7,h7⟩:=pick_ev h hl false A [] [] (by simp; omega) (by simp)
        simp only [List.nil_append,beq_false,List.length_nil] at h7
        simp only at h4 h5 h6
        rw [hw] at h3 h3i
        refine ⟨A.filter (fun x => !decide (x ∈ h)),true,⟨K1 + K5 + K6,fun k hk => ?_⟩,⟨K2 + K3 + K4 + K7,fun k hk => ?_⟩,Nat.le_trans (List.length_filter_le _ _) (by omega),fun _ => ⟨hA,A,⟨K5,h5⟩,a1,a2,hn,a3,rfl,fun x hx => ?_⟩⟩
        · simp [g19_impl_MissingFrom.f,h1 k (by omega),hA,number_i,hn,h3i,h5 k (by omega),h6 k (by omega)]
        · have h7:spec_tiPick.f k n h false = some (A.filter (fun x => !decide (x ∈ h))):=by
            unfold spec_tiPick.f
            rw [h4 k (by omega)]
            exact h7 k (by omega)
          simp [spec_MissingFrom.f,h2 k (by omega),hA,number_s,hn,h3 k (by omega),h7]
        · rw [a3]
          refine ⟨(isH_true h hA).2.1 x hx,?_⟩
          have:=List.any_eq_false.1 hw x hx
          simp at this
          omega
      · rw [hw] at h3 h3i
        refine ⟨[],false,⟨K1,fun k hk => ?_⟩,⟨K2 + K3,fun k hk => ?_⟩,by simp,fun h => by cases h⟩
        · simp [g19_impl_MissingFrom.f,h1 k (by omega),hA,number_i,hn,h3i]
        · simp [spec_MissingFrom.f,h2 k (by omega),hA,number_s,hn,h3 k (by omega)]
    · refine ⟨[],false,⟨K1,fun k hk => ?_⟩,⟨K2,fun k hk => ?_⟩,by simp,fun h => by cases h⟩
      · simp [g19_impl_MissingFrom.f,h1 k (by omega),hA,number_i,hn]
      · simp [spec_MissingFrom.f,h2 k (by omega),hA,number_s,hn]
  · refine ⟨[],false,⟨K1,fun k hk => ?_⟩,⟨K2,fun k hk => ?_⟩,by simp,fun h => by cases h⟩
    · simp [g19_impl_MissingFrom.f,h1 k (by omega),hA]
    · simp [spec_MissingFrom.f,h2 k (by omega),hA]
theorem index_at (x:S35):∀ (P pre R:List S35),x ∉ P → (pre ++ (P ++ x :: R)).length ≤ 2000000 → Ev (fun k => slices_Index_impl_Tile_impl_Tile.l0 k (pre ++ (P ++ x :: R)) ((pre ++ (P ++ x :: R)).length:Int) (pre.length:Int) x.f0 x.f1) ((pre.length + P.length:Nat):Int):=by
  intro P
  induction P with
  | nil =>
    intro pre R h hl
    have hlen:(pre ++ ([] ++ x :: R)).length = pre.length + R.length + 1:=by simp; omega
    have hget:rd_T35 (pre ++ ([] ++ x :: R)) (pre.length:Int) = x:=rd_at' pre x R
    refine Ev.step (f:=fun _ => some ((pre.length + 0:Nat):Int)) (fun k => ?_) (Ev.now _)
    simp only [slices_Index_impl_Tile_impl_Tile.l0]
    rw [if_pos (by omega),if_pos (by omega),if_pos (by omega),hget,t_beq,if_pos (by simp)]
    rfl
  | cons y ys ih =>
    intro pre R h hl
    have hlen:(pre ++ (y :: ys ++ x :: R)).length = pre.length + ys.length + R.length + 2:=by simp; omega
    have hget:rd_T35 (pre ++ (y :: ys ++ x :: R)) (pre.length:Int) = y:=rd_at' pre y (ys ++ x :: R)
    have e1:pre ++ [y] ++ (ys ++ x :: R) = pre ++ (y :: ys ++ x :: R):=by simp
    have hxy:¬ x = y:=fun e => h (by rw [e]; exact List.mem_cons_self)
    have:=ih (pre ++ [y]) R (fun hm => h (List.mem_cons_of_mem _ hm)) (by rw [e1]; exact hl)
    rw [e1,show (((pre ++ [y]).length + ys.length:Nat):Int) = ((pre.length + (y :: ys).length:Nat):Int) by simp; omega] at this
    refine Ev.step (fun k => ?_) this
    simp only [slices_Index_impl_Tile_impl_Tile.l0]
    rw [if_pos (by omega),if_pos (by omega),if_pos (by omega),hget,t_beq,if_neg (by simp [hxy]),t_wrap ((pre.length:Int) + 1) (by omega) (by omega)]
    simp
theorem isTile_f (x:S35) (h:good x = true):impl_IsTile.f x.f0 x.f1 = some true:=by
  have:=(good_iff x).1 h
  unfold impl_IsTile.f impl_within.f
  simp [this.1,this.2.1,this.2.2]
theorem rank_lt (x y:S35) (hx:good x = true) (hy:good y = true) (h:lt x y):∃ p q:Int,Ev (fun k => impl_RankOf.f k x.f0 x.f1) (p,true) ∧ Ev (fun k => impl_RankOf.f k y.f0 y.f1) (q,true) ∧ p < q:=by
  obtain ⟨A,_,⟨K1,h1⟩,a1,a2,a3⟩:=set_both 9 (by omega) (by omega)
  have mem:∀ z,good z = true → z ∈ A:=fun z hz => (a3 z).2 ⟨hz,((good_iff z).1 hz).2.2⟩
  obtain ⟨P,Q,rfl⟩:=List.append_of_mem (mem x hx)
  have hp:=List.pairwise_append.1 a2
  have hq:=List.pairwise_cons.1 hp.2.1
  have hyQ:y ∈ Q:=by
    rcases List.mem_append.1 (mem y hy) with hm | hm
    · exact absurd (hp.2.2 y hm x List.mem_cons_self) (lt_asymm h)
    · rcases List.mem_cons.1 hm with rfl | hm
      · exact absurd h (lt_irrefl _)
      · exact hm
  obtain ⟨Q1,Q2,rfl⟩:=List.append_of_mem hyQ
  have hxP:x ∉ P:=fun hm => lt_irrefl x (hp.2.2 x hm x List.mem_cons_self)
  have hq1:=List.pairwise_append.1 hq.2
  have hyP:y ∉ P ++ x :: Q1:=by
    intro hm
    rcases List.mem_append.1 hm with hm | hm
    · exact lt_irrefl y (hp.2.2 y hm y (by simp))
    · rcases List.mem_cons.1 hm with rfl | hm
      · exact lt_irrefl _ h
      · exact lt_irrefl y (hq1.2.2 y hm y List.mem_cons_self)
  obtain ⟨K2,h2⟩:=index_at x P [] (Q1 ++ y :: Q2) hxP (by simp at a1 ⊢; omega)
  obtain ⟨K3,h3⟩:=index_at y (P ++ x :: Q1) [] Q2 hyP (by simp at a1 ⊢; omega)
  simp only [List.nil_append,List.length_nil,Nat.zero_add] at h2 h3
  rw [show P ++ x :: Q1 ++ y :: Q2 = P ++ x :: (Q1 ++ y :: Q2) by simp] at h3
  simp only at h1
  have i2:∀ k,K2 ≤ k → slices_Index_impl_Tile_impl_Tile.f k (P ++ x :: (Q1 ++ y :: Q2)) x.f0 x.f1 = some ((P.length:Nat):Int):=h2
  have i3:∀ k,K3 ≤ k → slices_Index_impl_Tile_impl_Tile.f k (P ++ x :: (Q1 ++ y :: Q2)) y.f0 y.f1 = some (((P ++ x :: Q1).length:Nat):Int):=h3
  refine ⟨(P.length:Int),((P ++ x :: Q1).length:Int),⟨K1 + K2,fun k hk => ?_⟩,⟨K1 + K3,fun k hk => ?_⟩,by simp; omega⟩
  · simp [impl_RankOf.f,isTile_f x hx,impl_rank.f,h1 k (by omega),i2 k (by omega)]
  · simp only [impl_RankOf.f,isTile_f y hy,impl_rank.f,h1 k (by omega),i3 k (by omega),Option.bind_some,if_true]
theorem count_nd:∀ (l:List S35) (x:S35),l.Nodup → l.count x = if x ∈ l then 1 else 0
  | [],x,_ => by simp
  | y :: l,x,h => by
    rw [List.nodup_cons] at h
    rw [List.count_cons,count_nd l x h.2]
    by_cases e:y = x
    · subst e
      simp [h.1]
    · have e':¬ x = y:=fun q => e q.symm
      simp [e,e']
theorem two_perm (a b:List S35) (ha:isH a = true) (hb:isH b = true):(jn a b ++ (msort a).filter fun x => decide (x ∈ b)).Perm (a ++ b):=by
  obtain ⟨a1,a2,a3⟩:=isH_true a ha
  obtain ⟨b1,b2,b3⟩:=isH_true b hb
  rw [List.perm_iff_count]
  intro x
  rw [List.count_append,List.count_append,count_nd _ _ (nd_lt (jn_spec a b).1),count_nd _ _ (nd_lt ((msort_lt a a3).filter _)),count_nd _ _ a3,count_nd _ _ b3]
  simp only [(jn_spec a b).2,List.mem_filter,msort_mem,decide_eq_true_eq]
  by_cases h1:x ∈ a <;> by_cases h2:x ∈ b <;> simp [h1,h2]
theorem pip_append (a b:List S35):pip (a ++ b) = pip a + pip b:=by
  unfold pip
  rw [List.map_append,List.sum_append]
theorem pip_perm {a b:List S35} (h:a.Perm b):pip a = pip b:=by
  have hc:∀ (x:S35) (l:List S35),pip (x :: l) = x.f0 + x.f1 + pip l:=fun x l => by simp [pip]
  induction h with
  | nil => rfl
  | cons x _ ih => rw [hc,hc,ih]
  | swap x y l => rw [hc,hc,hc,hc]; omega
  | trans _ _ h1 h2 => rw [h1,h2]
theorem pip_small (l:List S35) (h:isH l = true):0 ≤ pip l ∧ pip l ≤ 990:=by
  obtain ⟨h1,h2,_⟩:=isH_true l h
  have:∀ l:List S35,(∀ x ∈ l,good x = true) → 0 ≤ pip l ∧ pip l ≤ 18 * l.length:=by
    intro l
    induction l with
    | nil => intro _; simp [pip]
    | cons x xs ih =>
      intro hg
      have:=ih (fun y hy => hg y (List.mem_cons_of_mem _ hy))
      have gx:=(good_iff x).1 (hg x List.mem_cons_self)
      rw [show pip (x :: xs) = x.f0 + x.f1 + pip xs by simp [pip]]
      simp
      omega
  have:=this l h2
  omega
theorem d_number (l:List Int) (hl:∀ x ∈ l,0 ≤ x ∧ x ≤ 255) (p s:Int) (hp:0 ≤ p ∧ p ≤ 1000):∃ v p' s',spec_l1Cur_number.f l p s = some (v,p',s') ∧ 0 ≤ p' ∧ p' ≤ p + 4:=by
  unfold spec_l1Cur_number.f
  obtain ⟨b,q,s1,e1,q0,q1⟩:=d_one l hl p s (by omega) 12 (by omega)
  rw [e1]
  simp only [Option.bind_some]
  cases b
  · obtain ⟨v,q2,s2,e2,_,_,r0,r1⟩:=d_pick l hl q s1 (by omega) 8 (by omega)
    simp only [Bool.false_eq_true,if_false]
    rw [e2]
    exact ⟨v,q2,s2,rfl,by omega,by omega⟩
  · obtain ⟨v,q2,s2,e2,r0,r1⟩:=d_among l hl q s1 (by omega) [(-1),9,10,4611686018427387904] (by simp)
    simp only [if_true]
    rw [e2]
    exact ⟨v,q2,s2,rfl,by omega,by omega⟩
theorem d_join (l:List Int) (hl:∀ x ∈ l,0 ≤ x ∧ x ≤ 255):∃ a b:List S35,Ev (fun k => spec_DrawJoinHands.f k l) (a,b) ∧ a.length ≤ 100 ∧ b.length ≤ 100:=by
  obtain ⟨a,p,s,⟨K1,h1⟩,a1,p0,p1⟩:=d_hand l hl 10 4 (by omega) (by omega) 0 0 (by omega)
  obtain ⟨b,p',s',⟨K2,h2⟩,b1,_,_⟩:=d_hand l hl 10 4 (by omega) (by omega) p s (by omega)
  simp only at h1 h2
  exact ⟨a,b,⟨K1 + K2,fun k hk => by simp [spec_DrawJoinHands.f,h1 k (by omega),h2 k (by omega)]⟩,a1,b1⟩
theorem d_times (l:List Int) (hl:∀ x ∈ l,0 ≤ x ∧ x ≤ 255):∃ (h:List S35) (n:Int),Ev (fun k => spec_DrawMissingFrom.f k l) (h,n) ∧ h.length ≤ 100:=by
  obtain ⟨a,p,s,⟨K1,h1⟩,a1,p0,p1⟩:=d_hand l hl 10 6 (by omega) (by omega) 0 0 (by omega)
  obtain ⟨v,p',s',h2,_⟩:=d_number l hl p s (by omega)
  simp only at h1
  exact ⟨a,v,⟨K1,fun k hk => by simp [spec_DrawMissingFrom.f,spec_DrawTimesOf.f,h1 k (by omega),h2]⟩,a1⟩
theorem d_is (l:List Int) (hl:∀ x ∈ l,0 ≤ x ∧ x ≤ 255):∃ h:List S35,Ev (fun k => spec_DrawSortHand.f k l) h ∧ h.length ≤ 100:=by
  obtain ⟨a,p,s,⟨K1,h1⟩,a1,p0,p1⟩:=d_hand l hl 10 6 (by omega) (by omega) 0 0 (by omega)
  simp only at h1
  exact ⟨a,⟨K1,fun k hk => by simp [spec_DrawSortHand.f,spec_DrawIsHand.f,h1 k (by omega)]⟩,a1⟩
theorem sortR_len (l:List S35):(sortR l).1.length ≤ 2000000:=by
  unfold sortR
  split
  · rename_i h
    have:=(isH_true l h).1
    simp only [msort_len]
    omega
  · simp
theorem j4_ev (l:List Int) (hl:∀ x ∈ l,0 ≤ x ∧ x ≤ 255):Ev (fun k => laws_FnHandsAsSets.j4 k l) true:=by
  obtain ⟨h,⟨K0,h0⟩,hh⟩:=d_is l hl
  obtain ⟨K1,h1⟩:=sort_i h (by omega)
  obtain ⟨K2,h2⟩:=sort_s h (by omega)
  obtain ⟨K3,h3⟩:=pips_i h (by omega)
  obtain ⟨K4,h4⟩:=pips_s h (by omega)
  obtain ⟨K5,h5⟩:=isH_impl h (by omega)
  obtain ⟨K6,h6⟩:=isH_spec h (by omega)
  obtain ⟨K7,h7⟩:=mTiles_f (sortR h).1 (sortR_len h)
  simp only at h0 h1 h2 h3 h4 h5 h6 h7
  have h6:∀ k,K6 ≤ k → spec_IsHand.f k h = some (isH h):=fun k hk => by simp [spec_IsHand.f,h6 k hk]
  refine ev_up (K:=K0 + K1 + K2 + K3 + K4 + K5 + K6 + K7) fun k hk => ?_
  simp only [laws_FnHandsAsSets.j4,h0 k (by omega),h1 k (by omega),h2 k (by omega),h3 k (by omega),h4 k (by omega),h5 k (by omega),h6 k (by omega),h7 k (by omega),Option.bind_some,if_true]
  unfold sortR
  split <;> simp_all
theorem j3_ev (l:List Int) (hl:∀ x ∈ l,0 ≤ x ∧ x ≤ 255):Ev (fun k => laws_FnHandsAsSets.j3 k l) true:=by
  obtain ⟨h,n,⟨K0,h0⟩,hh⟩:=d_times l hl
  obtain ⟨m,ok,⟨K1,h1⟩,⟨K2,h2⟩,m1,m2⟩:=miss_both h n (by omega)
  obtain ⟨K3,h3⟩:=mTiles_f m (by omega)
  obtain ⟨K4,h4⟩:=j4_ev l hl
  simp only at h0 h1 h2 h3 h4
  cases ok
  · refine ev_up (K:=K0 + K1 + K2 + K3 + K4) fun k hk => ?_
    simp [laws_FnHandsAsSets.j3,h0 k (by omega),h1 k (by omega),h2 k (by omega),h3 k (by omega),h4 k (by omega)]
  · obtain ⟨hA,A,⟨K5,h5⟩,a1,a2,a3,a4,rfl,a5⟩:=m2 rfl
    obtain ⟨K6,h6⟩:=join_i (A.filter (fun x => !decide (x ∈ h))) h (by omega) (by omega)
    have hsub:∀ x ∈ A.filter (fun x => !decide (x ∈ h)),x ∈ A:=fun x hx => (List.mem_filter.1 hx).1
    have hm:isH (A.filter (fun x => !decide (x ∈ h))) = true:=isH_lt _ A (sets_isH a1 a2 a4) (a2.filter _) hsub
    have hj:jn (A.filter (fun x => !decide (x ∈ h))) h = A:=uniq _ _ (jn_spec _ _).1 a2 (fun x => by
      rw [(jn_spec _ _).2,List.mem_filter]
      constructor
      · rintro (h | h)
        · exact h.1
        · exact a5 x h
      · intro hx
        by_cases e:x ∈ h
        · exact .inr e
        · exact .inl ⟨hx,by simp [e]⟩)
    rw [joinR,if_pos ⟨hm,hA⟩,hj] at h6
    obtain ⟨K7,h7⟩:=mTiles_f A (by omega)
    simp only at h5 h6 h7
    have i5:∀ k,K5 ≤ k → impl_SetOf.f k n = some (A,true):=fun k hk => by simp [impl_SetOf.f,number_i,a3,h5 k hk]
    have i8:∀ k,K5 ≤ k → impl_CountSet.f k n = some ((A.length:Int),true):=fun k hk => by simp [impl_CountSet.f,i5 k hk]
    have hlen:(A.filter (fun x => !decide (x ∈ h))).length + h.length = A.length:=by
      have e1:(A.filter (fun x => decide (x ∈ h))).length = h.length:=len_eq _ _ (nd_lt (a2.filter _)) (isH_true h hA).2.2 (fun x => by
        rw [List.mem_filter]
        exact ⟨fun h => by simpa using h.2,fun hx => ⟨a5 x hx,by simp [hx]⟩⟩)
      have e2:=List.length_eq_countP_add_countP (fun x => decide (x ∈ h)) (l:=A)
      rw [List.countP_eq_length_filter,List.countP_eq_length_filter,e1] at e2
      have e3:(A.filter fun a => decide ¬ (decide (a ∈ h) = true)) = A.filter (fun x => !decide (x ∈ h)):=by
        congr 1
        funext a
        by_cases e:a ∈ h <;> simp [e]
      rw [e3] at e2
      omega
    have hw:wrap64 (((A.filter (fun x => !decide (x ∈ h))).length:Int) + (h.length:Int)) = (A.length:Int):=by
      rw [t_wrap _ (by omega) (by omega)]
      omega
    refine ev_up (K:=K0 + K1 + K2 + K3 + K4 + K5 + K6 + K7) fun k hk => ?_
    simp only [laws_FnHandsAsSets.j3,h0 k (by omega),h1 k (by omega),h2 k (by omega),h3 k (by omega),h4 k (by omega),i5 k (by omega),h6 k (by omega),h7 k (by omega),i8 k (by omega),Option.bind_some,if_true,hw]
theorem loop_ev (l:List Int) (hl:∀ x ∈ l,0 ≤ x ∧ x ≤ 255) (a b:List S35) (ha:isH a = true) (hb:isH b = true):∀ (rest pre:List S35),jn a b = pre ++ rest → Ev (fun k => laws_FnHandsAsSets.l0 k l a b (jn a b) ((msort a).filter fun x => decide (x ∈ b)) ((msort a).filter fun x => !decide (x ∈ b)) (jn a b) ((jn a b).length:Int) (pre.length:Int)) true:=by
  obtain ⟨a1,a2,a3⟩:=isH_true a ha
  obtain ⟨b1,b2,b3⟩:=isH_true b hb
  have hjl:(jn a b).length ≤ 110:=by
    have:=(two_perm a b ha hb).length_eq
    simp only [List.length_append] at this
    omega
  obtain ⟨K0,h0⟩:=j3_ev l hl
  simp only at h0
  intro rest
  induction rest with
  | nil =>
    intro pre hp
    have hlen:(jn a b).length = pre.length:=by rw [hp]; simp
    refine ev_up (K:=K0) fun k hk => ?_
    simp only [laws_FnHandsAsSets.l0]
    rw [if_neg (by omega)]
    exact h0 k hk
  | cons x xs ih =>
    intro pre hp
    have hlen:(jn a b).length = pre.length + xs.length + 1:=by rw [hp]; simp; omega
    have hget:rd_T35 (jn a b) (pre.length:Int) = x:=by rw [hp]; exact rd_at' pre x xs
    obtain ⟨K1,h1⟩:=ih (pre ++ [x]) (by rw [hp]; simp)
    have hx:x ∈ a ∨ x ∈ b:=((jn_spec a b).2 x).1 (by rw [hp]; simp)
    obtain ⟨K2,h2⟩:=mHas_f x a (by omega)
    obtain ⟨K3,h3⟩:=mHas_f x b (by omega)
    have lb:=List.length_filter_le (fun x => decide (x ∈ b)) (msort a)
    have ll:=List.length_filter_le (fun x => !decide (x ∈ b)) (msort a)
    rw [msort_len] at lb ll
    obtain ⟨K4,h4⟩:=mHas_f x ((msort a).filter fun x => decide (x ∈ b)) (by omega)
    obtain ⟨K5,h5⟩:=mHas_f x ((msort a).filter fun x => !decide (x ∈ b)) (by omega)
    simp only [List.mem_filter,msort_mem,Bool.not_eq_true',decide_eq_true_eq,decide_eq_false_iff_not] at h1 h2 h3 h4 h5
    have hw:wrap64 ((pre.length:Int) + 1) = ((pre ++ [x]).length:Int):=by rw [t_wrap _ (by omega) (by omega)]; simp
    have i2:Ev (fun k => laws_FnHandsAsSets.j2 k l a b (jn a b) ((msort a).filter fun x => decide (x ∈ b)) ((msort a).filter fun x => !decide (x ∈ b)) (jn a b) ((jn a b).length:Int) (pre.length:Int)) true:=by
      refine ev_up (K:=K1) fun k hk => ?_
      simp only [laws_FnHandsAsSets.j2,hw]
      exact h1 k hk
    have gx:good x = true:=by
      rcases hx with h | h
      · exact a2 x h
      · exact b2 x h
    have i1:Ev (fun k => laws_FnHandsAsSets.j1 k l a b (jn a b) ((msort a).filter fun x => decide (x ∈ b)) ((msort a).filter fun x => !decide (x ∈ b)) (pre.length:Int) x.f0 x.f1 (jn a b) ((jn a b).length:Int) (pre.length:Int)) true:=by
      obtain ⟨K6,h6⟩:=i2
      rcases List.eq_nil_or_concat pre with rfl | ⟨pre',y,rfl⟩
      · refine ev_up (K:=K6) fun k hk => ?_
        simp only [laws_FnHandsAsSets.j1]
        rw [if_neg (by simp)]
        exact h6 k hk
      · have hy:y ∈ a ∨ y ∈ b:=((jn_spec a b).2 y).1 (by rw [hp]; simp)
        have gy:good y = true:=by
          rcases hy with h | h
          · exact a2 y h
          · exact b2 y h
        have hyx:lt y x:=by
          have:=(jn_spec a b).1
          rw [hp] at this
          exact (List.pairwise_append.1 this).2.2 y (by simp) x (by simp)
        obtain ⟨p,q,⟨K7,h7⟩,⟨K8,h8⟩,hpq⟩:=rank_lt y x gy gx hyx
        simp only at h7 h8
        have hg2:rd_T35 (jn a b) (pre'.length:Int) = y:=by rw [hp]; simpa using rd_at' pre' y (x :: xs)
        have hpl:(pre'.concat y).length = pre'.length + 1:=by simp
        have hw1:wrap64 (((pre'.concat y).length:Int) - 1) = (pre'.length:Int):=by rw [t_wrap _ (by omega) (by omega)]; omega
        refine ev_up (K:=K6 + K7 + K8) fun k hk => ?_
        simp only [laws_FnHandsAsSets.j1,hw1,hg2]
        rw [if_pos (by omega),if_pos (by omega),if_pos (by omega),h7 k (by omega)]
        simp only [Option.bind_some,h8 k (by omega),if_true]
        rw [if_neg (by omega)]
        exact h6 k (by omega)
    obtain ⟨K9,h9⟩ : Ev (fun k => laws_FnHandsAsSets.j0 k l a b (jn a b) ((msort a).filter fun x => decide (x ∈ b)) ((msort a).filter fun x => !decide (x ∈ b)) (pre.length:Int) x.f0 x.f1 (jn a b) ((jn a b).length:Int) (pre.length:Int) false) true:=by
      obtain ⟨K,h⟩:=i1
      refine ev_up (K:=K) fun k hk => ?_
      simp only [laws_FnHandsAsSets.j0]
      rw [if_neg (by simp)]
      exact h k hk
    simp only at h9
    refine ev_up (K:=K2 + K3 + K4 + K5 + K9) fun k hk => ?_
    simp only [laws_FnHandsAsSets.l0]
    rw [if_pos (by omega),if_pos (by omega),if_pos (by omega),hget]
    simp only [h2 k (by omega),h3 k (by omega),h4 k (by omega),h5 k (by omega),Option.bind_some]
    by_cases e1:x ∈ a <;> by_cases e2:x ∈ b
    · simp [e1,e2,h9 k (by omega)]
    · simp [e1,e2,h9 k (by omega)]
    · simp [e1,e2,h9 k (by omega)]
    · exact absurd hx (by simp [e1,e2])
theorem wf_u8 (l:List Int) (h:∀ x_ ∈ l,(Lit.int .u8 x_).wf = true):∀ x ∈ l,0 ≤ x ∧ x ≤ 255:=by
  intro x hx
  have h1:(decide (IntKind.u8.min ≤ x) && decide (x ≤ IntKind.u8.max)) = true:=h x hx
  have h2:IntKind.u8.min = 0:=by decide
  have h3:IntKind.u8.max = 255:=by decide
  rw [h2,h3] at h1
  simpa using h1
theorem FnHandsAsSets (l0:List Int) (l1:List Int) (_h0:(l0.length ≤ 9223372036854775807 ∧ ∀ x_ ∈ l0,(Lit.int .u8 x_).wf = true)) (_h1:(l1.length ≤ 9223372036854775807 ∧ ∀ x_ ∈ l1,(Lit.int .u8 x_).wf = true)):∃ k,laws_FnHandsAsSets.f k l0 l1 = some true:=by
  have u0:=wf_u8 l0 _h0.2
  have u1:=wf_u8 l1 _h1.2
  refine Ev.rounds (g:=fun k => laws_FnHandsAsSets.f k l0 l1) ?_
  cases hbig:laws_big.f l0 l1 with
  | none =>
    exfalso
    unfold laws_big.f at hbig
    split at hbig <;> cases hbig
  | some u =>
    cases u
    · obtain ⟨a,b,⟨K0,h0⟩,a0,b0⟩:=d_join l0 u0
      obtain ⟨K1,h1⟩:=join_i a b (by omega) (by omega)
      obtain ⟨K2,h2⟩:=join_s a b (by omega) (by omega)
      obtain ⟨K3,h3⟩:=both_i a b (by omega) (by omega)
      obtain ⟨K4,h4⟩:=both_s a b (by omega) (by omega)
      obtain ⟨K5,h5⟩:=less_i a b (by omega) (by omega)
      obtain ⟨K6,h6⟩:=less_s a b (by omega) (by omega)
      obtain ⟨K7,h7⟩:=isH_impl a (by omega)
      obtain ⟨K8,h8⟩:=isH_impl b (by omega)
      simp only at h0 h1 h2 h3 h4 h5 h6 h7 h8
      by_cases hA:isH a = true ∧ isH b = true
      · obtain ⟨ha,hb⟩:=hA
        obtain ⟨a1,a2,a3⟩:=isH_true a ha
        obtain ⟨b1,b2,b3⟩:=isH_true b hb
        rw [joinR,if_pos ⟨ha,hb⟩] at h1 h2
        rw [bothR,if_pos ⟨ha,hb⟩] at h3 h4
        rw [lessR,if_pos ⟨ha,hb⟩] at h5 h6
        rw [ha] at h7
        rw [hb] at h8
        have hperm:=two_perm a b ha hb
        have hlen:=hperm.length_eq
        have hpip:=pip_perm hperm
        simp only [List.length_append] at hlen
        rw [pip_append,pip_append] at hpip
        have lb:=List.length_filter_le (fun x => decide (x ∈ b)) (msort a)
        have ll:=List.length_filter_le (fun x => !decide (x ∈ b)) (msort a)
        rw [msort_len] at lb ll
        obtain ⟨K9,h9⟩:=mTiles_f (jn a b) (by omega)
        obtain ⟨K10,h10⟩:=mTiles_f ((msort a).filter fun x => decide (x ∈ b)) (by omega)
        obtain ⟨K11,h11⟩:=mTiles_f ((msort a).filter fun x => !decide (x ∈ b)) (by omega)
        obtain ⟨K12,h12⟩:=pips_i a (by omega)
        obtain ⟨K13,h13⟩:=pips_i b (by omega)
        obtain ⟨A,_,_,s1,s2,s3⟩:=set_both 9 (by omega) (by omega)
        have hJ:isH (jn a b) = true:=isH_lt _ A (sets_isH s1 s2 s3) (jn_spec a b).1 (fun x hx => by
          have gx:good x = true:=by
            rcases ((jn_spec a b).2 x).1 hx with h | h
            · exact a2 x h
            · exact b2 x h
          exact (s3 x).2 ⟨gx,((good_iff x).1 gx).2.2⟩)
        have hB:isH ((msort a).filter fun x => decide (x ∈ b)) = true:=isH_sub a ha _
        have hL:isH ((msort a).filter fun x => !decide (x ∈ b)) = true:=isH_sub a ha _
        obtain ⟨K14,h14⟩:=pips_i (jn a b) (by omega)
        obtain ⟨K15,h15⟩:=pips_i ((msort a).filter fun x => decide (x ∈ b)) (by omega)
        obtain ⟨K16,h16⟩:=join_i ((msort a).filter fun x => !decide (x ∈ b)) ((msort a).filter fun x => decide (x ∈ b)) (by omega) (by omega)
        obtain ⟨K17,h17⟩:=sort_i a (by omega)
        obtain ⟨K18,h18⟩:=join_i b a (by omega) (by omega)
        obtain ⟨K19,h19⟩:=mTiles_f (msort a) (by rw [msort_len]; omega)
        obtain ⟨K20,h20⟩:=loop_ev l1 u1 a b ha hb (jn a b) [] rfl
        rw [pipR,if_pos ha] at h12
        rw [pipR,if_pos hb] at h13
        rw [pipR,if_pos hJ] at h14
        rw [pipR,if_pos hB] at h15
        have e16:jn ((msort a).filter fun x => !decide (x ∈ b)) ((msort a).filter fun x => decide (x ∈ b)) = msort a:=uniq _ _ (jn_spec _ _).1 (msort_lt a a3) (fun x => by
          rw [(jn_spec _ _).2,List.mem_filter,List.mem_filter]
          by_cases e:x ∈ b <;> simp [e])
        have e18:jn b a = jn a b:=uniq _ _ (jn_spec _ _).1 (jn_spec _ _).1 (fun x => by rw [(jn_spec _ _).2,(jn_spec _ _).2,Or.comm])
        rw [joinR,if_pos ⟨hL,hB⟩,e16] at h16
        rw [sortR,if_pos ha] at h17
        rw [joinR,if_pos ⟨hb,ha⟩,e18] at h18
        have p1:=pip_small a ha
        have p2:=pip_small b hb
        have p3:=pip_small _ hJ
        have p4:=pip_small _ hB
        have w1:wrap64 (pip a + pip b) = wrap64 (pip (jn a b) + pip ((msort a).filter fun x => decide (x ∈ b))):=by rw [hpip]
        have w2:wrap64 ((a.length:Int) + (b.length:Int)) = wrap64 (((jn a b).length:Int) + (((msort a).filter fun x => decide (x ∈ b)).length:Int)):=by
          congr 1
          omega
        simp only at h9 h10 h11 h12 h13 h14 h15 h16 h17 h18 h19 h20
        refine ⟨K0 + K1 + K2 + K3 + K4 + K5 + K6 + K7 + K8 + K9 + K10 + K11 + K12 + K13 + K14 + K15 + K16 + K17 + K18 + K19 + K20,fun k hk => ?_⟩
        simp only [laws_FnHandsAsSets.f,hbig,h0 k (by omega),h1 k (by omega),h2 k (by omega),h3 k (by omega),h4 k (by omega),h5 k (by omega),h6 k (by omega),h7 k (by omega),h8 k (by omega),h9 k (by omega),h10 k (by omega),h11 k (by omega),h12 k (by omega),h13 k (by omega),h14 k (by omega),h15 k (by omega),h16 k (by omega),h17 k (by omega),h18 k (by omega),h19 k (by omega),Option.bind_some,if_true,Bool.false_eq_true,if_false,w1,w2]
        exact h20 k (by omega)
      · rw [joinR,if_neg hA] at h1 h2
        rw [bothR,if_neg hA] at h3 h4
        rw [lessR,if_neg hA] at h5 h6
        obtain ⟨K9,h9⟩:=mTiles_f ([] : List S35) (by simp)
        obtain ⟨K10,h10⟩:=j3_ev l1 u1
        simp only at h9 h10
        refine ⟨K0 + K1 + K2 + K3 + K4 + K5 + K6 + K7 + K8 + K9 + K10,fun k hk => ?_⟩
        simp only [laws_FnHandsAsSets.f,hbig,h0 k (by omega),h1 k (by omega),h2 k (by omega),h3 k (by omega),h4 k (by omega),h5 k (by omega),h6 k (by omega),h7 k (by omega),h8 k (by omega),h9 k (by omega),h10 k (by omega),Option.bind_some,if_true,Bool.false_eq_true,if_false]
        cases e1:isH a <;> cases e2:isH b <;> simp_all
    · exact ⟨0,fun k _ => by simp [laws_FnHandsAsSets.f,hbig]⟩

end Go.Proofs.Ytkaafmnfcbgafaa.QPure
