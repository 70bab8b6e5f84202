/- For every input the law FnPuzzlesFilled answers true: the plain statement over lists and numbers. No conditions. -/
import Derived.Test.YtgdefohillhdoaaGreatDoorQFnPuzzlesFilledx1
import Derived.Test.YtgdefohillhdoaaGreatDoorQFnPuzzlesFilledx2
import Derived.Test.YtgdefohillhdoaaGreatDoorQFnPuzzlesFilledx3
import Derived.Test.YtgdefohillhdoaaGreatDoorQFnPuzzlesFilledx4
import Derived.Test.YtgdefohillhdoaaGreatDoorQFnPuzzlesFilledx5
import Derived.Test.YtgdefohillhdoaaGreatDoorQFnPuzzlesFilledx6
import Derived.Test.YtgdefohillhdoaaGreatDoorQFnPuzzlesFilledx7
import Derived.Test.YtgdefohillhdoaaGreatDoorQFnPuzzlesFilledx8
import Derived.Test.YtgdefohillhdoaaGreatDoorQFnPuzzlesFilledx9
import Derived.Test.YtgdefohillhdoaaGreatDoorQFnPuzzlesFilledx10
import Derived.Test.YtgdefohillhdoaaGreatDoorQFnPuzzlesFilledx11
import Derived.Test.YtgdefohillhdoaaGreatDoorQFnPuzzlesFilledx12
import Derived.Test.YtgdefohillhdoaaGreatDoorQFnPuzzlesFilledx13
import Derived.Test.YtgdefohillhdoaaGreatDoorQFnPuzzlesFilledx14
import Derived.Test.YtgdefohillhdoaaGreatDoorQFnPuzzlesFilledx15
import Derived.Test.YtgdefohillhdoaaGreatDoorQFnPuzzlesFilledx16
import Derived.Test.YtgdefohillhdoaaGreatDoorQFnPuzzlesFilledx17
import Derived.Test.YtgdefohillhdoaaGreatDoorQFnPuzzlesFilledx18
import Derived.Test.YtgdefohillhdoaaGreatDoorQFnPuzzlesFilledx19
import Derived.Test.YtgdefohillhdoaaGreatDoorQFnPuzzlesFilledx20
import Derived.Test.YtgdefohillhdoaaGreatDoorQFnPuzzlesFilledx21
import Derived.Test.YtgdefohillhdoaaGreatDoorQFnPuzzlesFilledx22
import Derived.Test.YtgdefohillhdoaaGreatDoorQFnPuzzlesFilledx23
import Derived.Test.YtgdefohillhdoaaGreatDoorQFnPuzzlesFilledx24
import Derived.Test.YtgdefohillhdoaaGreatDoorQFnPuzzlesFilledx25
import Derived.Test.YtgdefohillhdoaaGreatDoorQFnPuzzlesFilledx26
import Derived.Test.YtgdefohillhdoaaGreatDoorQFnPuzzlesFilledx27
namespace Go.Proofs.YtgdefohillhdoaaGreatDoor.QPure
open Go.RowKit Go.Proofs.YtgdefohillhdoaaGreatDoor.QFnPuzzlesFilled Go.Proofs.YtgdefohillhdoaaGreatDoorW.PrintWords Go.Proofs.YtgdefohillhdoaaGreatDoorW.PrintLast

set_option linter.unusedVariables false
theorem t_eta (x:S64):(⟨x.f0,x.f1⟩ : S64) = x:=rfl
theorem t_ext (x y:S64) (h0:x.f0 = y.f0) (h1:x.f1 = y.f1):x = y:=by
 cases x
 cases y
 simp_all
instance t_dec : DecidableEq S64:=fun x y => if h : x.f0 = y.f0 ∧ x.f1 = y.f1 then isTrue (t_ext x y h.1 h.2) else isFalse (fun e => h (by subst e; exact ⟨rfl,rfl⟩))
theorem t_beq (x y:S64):(x.f0 == y.f0 && (x.f1 == y.f1)) = decide (x = y):=by
 by_cases h:x = y
 ·subst h
  simp
 ·have:¬ (x.f0 = y.f0 ∧ x.f1 = y.f1):=fun e => h (t_ext x y e.1 e.2)
  rw [decide_eq_false h]
  by_cases h0:x.f0 = y.f0
  ·have h1:¬ x.f1 = y.f1:=fun e => this ⟨h0,e⟩
   simp [h1]
  ·simp [h0]
theorem t_mid (pre:List S64) (x:S64) (xs:List S64) (d:S64):(pre ++ x :: xs).getD pre.length d = x:=by
 rw [List.getD_eq_getElem?_getD,List.getElem?_append_right (Nat.le_refl _),Nat.sub_self]
 rfl
theorem t_wrap (n:Int) (h : -1000000000 ≤ n) (h':n ≤ 1000000000):wrap64 n = n:=by
 unfold wrap64
 omega

def good (x:S64):Bool:=decide (0 ≤ x.f0) && (decide (x.f0 ≤ x.f1) && decide (x.f1 ≤ 9))
theorem good_iff (x:S64):good x = true ↔ 0 ≤ x.f0 ∧ x.f0 ≤ x.f1 ∧ x.f1 ≤ 9:=by
 unfold good
 simp
theorem tiGood_f (x:S64):spec_tiGood.f x.f0 x.f1 = some (good x):=by
 unfold spec_tiGood.f spec_l1In.f good
 by_cases h1:0 ≤ x.f0
 ·have h1':x.f0 ≥ 0:=h1
  rw [if_pos h1']
  by_cases h2:x.f0 ≤ x.f1
  ·simp [h1,h2]
  ·simp [h1,h2]
 ·have h1':¬ x.f0 ≥ 0:=h1
  rw [if_neg h1']
  simp [h1]

theorem place_ev (t:S64):∀ (rest pre:List S64),(pre ++ rest).length ≤ 2000000 → ∃ r:Int,Ev (fun k => spec_tiPlace.l0 k (pre ++ rest) ((pre ++ rest).length:Int) (pre.length:Int) t.f0 t.f1) r ∧ decide (r ≥ 0) = decide (t ∈ rest):=by
 intro rest
 induction rest with
 | nil =>
  intro pre hl
  refine ⟨-1,Ev.step (f:=fun _ => some (-1)) (fun k => ?_) (Ev.now _),by simp⟩
  simp only [spec_tiPlace.l0,List.append_nil]
  rw [if_neg (by omega)]
 | cons x xs ih =>
  intro pre hl
  have hlen:(pre ++ x :: xs).length = pre.length + xs.length + 1:=by simp; omega
  have hget:rd_T64 (pre ++ x :: xs) (pre.length:Int) = x:=by
   unfold rd_T64
   exact t_mid pre x xs _
  by_cases e:x = t
  ·refine ⟨(pre.length:Int),Ev.step (f:=fun _ => some (pre.length:Int)) (fun k => ?_) (Ev.now _),by simp [e]⟩
   simp only [spec_tiPlace.l0]
   rw [if_pos (by omega),if_pos (by omega),if_pos (by omega),hget,t_beq,if_pos (by simp [e])]
  ·obtain ⟨r,h1,h2⟩:=ih (pre ++ [x]) (by simpa using hl)
   have e1:pre ++ [x] ++ xs = pre ++ x :: xs:=by simp
   rw [e1] at h1
   refine ⟨r,Ev.step (fun k => ?_) h1,by rw [h2]; simp [Ne.symm e]⟩
   simp only [spec_tiPlace.l0]
   rw [if_pos (by omega),if_pos (by omega),if_pos (by omega),hget,t_beq,if_neg (by simp [e]),t_wrap ((pre.length:Int) + 1) (by omega) (by omega)]
   simp
theorem place_f (t:S64) (l:List S64) (hl:l.length ≤ 2000000):∃ r:Int,Ev (fun k => spec_tiPlace.f k l t.f0 t.f1) r ∧ decide (r ≥ 0) = decide (t ∈ l):=place_ev t l [] hl

theorem index_ev (t:S64):∀ (rest pre:List S64),(pre ++ rest).length ≤ 2000000 → ∃ r:Int,Ev (fun k => slices_Index_impl_Tile_impl_Tile.l0 k (pre ++ rest) ((pre ++ rest).length:Int) (pre.length:Int) t.f0 t.f1) r ∧ decide (r ≥ 0) = decide (t ∈ rest):=by
 intro rest
 induction rest with
 | nil =>
  intro pre hl
  refine ⟨-1,Ev.step (f:=fun _ => some (-1)) (fun k => ?_) (Ev.now _),by simp⟩
  simp only [slices_Index_impl_Tile_impl_Tile.l0,List.append_nil]
  rw [if_neg (by omega)]
 | cons x xs ih =>
  intro pre hl
  have hlen:(pre ++ x :: xs).length = pre.length + xs.length + 1:=by simp; omega
  have hget:rd_T64 (pre ++ x :: xs) (pre.length:Int) = x:=by
   unfold rd_T64
   exact t_mid pre x xs _
  by_cases e:t = x
  ·refine ⟨(pre.length:Int),Ev.step (f:=fun _ => some (pre.length:Int)) (fun k => ?_) (Ev.now _),by simp [e]⟩
   simp only [slices_Index_impl_Tile_impl_Tile.l0]
   rw [if_pos (by omega),if_pos (by omega),if_pos (by omega),hget,t_beq,if_pos (by simp [e])]
  ·obtain ⟨r,h1,h2⟩:=ih (pre ++ [x]) (by simpa using hl)
   have e1:pre ++ [x] ++ xs = pre ++ x :: xs:=by simp
   rw [e1] at h1
   refine ⟨r,Ev.step (fun k => ?_) h1,by rw [h2]; simp [e]⟩
   simp only [slices_Index_impl_Tile_impl_Tile.l0]
   rw [if_pos (by omega),if_pos (by omega),if_pos (by omega),hget,t_beq,if_neg (by simp [e]),t_wrap ((pre.length:Int) + 1) (by omega) (by omega)]
   simp
theorem contains_f (t:S64) (l:List S64) (hl:l.length ≤ 2000000):Ev (fun k => slices_Contains_impl_Tile_impl_Tile.f k l t.f0 t.f1) (decide (t ∈ l)):=by
 obtain ⟨r,h1,h2⟩:=index_ev t l [] hl
 rw [← h2]
 exact Ev.bind (f:=fun _ t177 => (some (decide (t177 ≥ 0)))) h1 ⟨0,fun k _ => rfl⟩

def nd:List S64 → List S64 → Bool
 | _,[] => true
 | pre,x :: xs => !decide (x ∈ pre) && nd (pre ++ [x]) xs
def hb:List S64 → List S64 → Bool
 | _,[] => true
 | pre,x :: xs => good x && (!decide (x ∈ pre) && hb (pre ++ [x]) xs)
theorem hb_nd:∀ (rest pre:List S64),hb pre rest = (rest.all good && nd pre rest):=by
 intro rest
 induction rest with
 | nil => intro pre; rfl
 | cons x xs ih =>
  intro pre
  unfold hb nd
  rw [ih,List.all_cons]
  cases good x <;> cases decide (x ∈ pre) <;> cases xs.all good <;> simp
theorem nd_nodup:∀ (rest pre:List S64),nd pre rest = true → (∀ x ∈ rest,x ∉ pre) ∧ rest.Nodup:=by
 intro rest
 induction rest with
 | nil => intro pre _; exact ⟨(fun x h => by cases h),List.nodup_nil⟩
 | cons x xs ih =>
  intro pre h
  unfold nd at h
  simp only [Bool.and_eq_true,Bool.not_eq_true',decide_eq_false_iff_not] at h
  obtain ⟨h1,h2⟩:=ih _ h.2
  refine ⟨fun y hy => ?_,?_⟩
  ·rcases List.mem_cons.1 hy with rfl | hy
   ·exact h.1
   ·exact fun hp => h1 y hy (List.mem_append_left _ hp)
  ·rw [List.nodup_cons]
   exact ⟨fun hx => h1 x hx (by simp),h2⟩

theorem tiHand_ev:∀ (rest pre:List S64),(pre ++ rest).length ≤ 2000000 → Ev (fun k => spec_tiHand.l0 k (pre ++ rest) (pre ++ rest) ((pre ++ rest).length:Int) (pre.length:Int)) (hb pre rest):=by
 intro rest
 induction rest with
 | nil =>
  intro pre hl
  refine Ev.step (f:=fun _ => some true) (fun k => ?_) (Ev.now _)
  simp only [spec_tiHand.l0,List.append_nil]
  rw [if_neg (by omega)]
 | cons x xs ih =>
  intro pre hl
  have hlen:(pre ++ x :: xs).length = pre.length + xs.length + 1:=by simp; omega
  have hget:rd_T64 (pre ++ x :: xs) (pre.length:Int) = x:=by
   unfold rd_T64
   exact t_mid pre x xs _
  have htake:(pre ++ x :: xs).take ((pre.length:Int)).toNat = pre:=by simp
  cases hg:good x
  ·refine Ev.step (f:=fun _ => some (hb pre (x :: xs))) (fun k => ?_) (Ev.now _)
   simp only [spec_tiHand.l0]
   rw [if_pos (by omega),if_pos (by omega),if_pos (by omega),hget,tiGood_f,hg]
   simp [hb,hg]
  ·obtain ⟨r,h1,h2⟩:=place_f x pre (by omega)
   have e1:pre ++ [x] ++ xs = pre ++ x :: xs:=by simp
   have hi:=ih (pre ++ [x]) (by simpa using hl)
   rw [e1] at hi
   refine Ev.step (f:=fun k => (spec_tiPlace.f k pre x.f0 x.f1).bind fun t123 => (if t123 ≥ 0 then (some false) else (spec_tiHand.l0 k (pre ++ x :: xs) (pre ++ x :: xs) ((pre ++ x :: xs).length:Int) (((pre ++ [x]).length:Nat):Int)))) (fun k => ?_) ?_
   ·simp only [spec_tiHand.l0]
    rw [if_pos (by omega),if_pos (by omega),if_pos (by omega),hget,tiGood_f,hg]
    simp only [Option.bind_some,if_true]
    rw [if_pos (by omega),htake,t_wrap ((pre.length:Int) + 1) (by omega) (by omega)]
    simp
   ·refine Ev.bind (f:=fun k t123 => (if t123 ≥ 0 then (some false) else (spec_tiHand.l0 k (pre ++ x :: xs) (pre ++ x :: xs) ((pre ++ x :: xs).length:Int) (((pre ++ [x]).length:Nat):Int)))) h1 ?_
    by_cases hm:x ∈ pre
    ·have hr:r ≥ 0:=by
      rw [decide_eq_true hm] at h2
      exact of_decide_eq_true h2
     refine ⟨0,fun k _ => ?_⟩
     (try dsimp only)
     rw [if_pos hr]
     simp [hb,hm]
    ·have hr:¬ r ≥ 0:=by
      rw [decide_eq_false hm] at h2
      exact of_decide_eq_false h2
     refine Ev.congr (fun k => ?_) (show Ev _ (hb pre (x :: xs)) from by
      have:hb pre (x :: xs) = hb (pre ++ [x]) xs:=by simp [hb,hg,hm]
      rw [this]
      exact hi)
     (try dsimp only)
     rw [if_neg hr]

theorem areDiff_ev:∀ (rest pre:List S64),(pre ++ rest).length ≤ 2000000 → Ev (fun k => impl_areDifferent_impl_Tile.l0 k (pre ++ rest) (pre ++ rest) ((pre ++ rest).length:Int) (pre.length:Int)) (nd pre rest):=by
 intro rest
 induction rest with
 | nil =>
  intro pre hl
  refine Ev.step (f:=fun _ => some true) (fun k => ?_) (Ev.now _)
  simp only [impl_areDifferent_impl_Tile.l0,List.append_nil]
  rw [if_neg (by omega)]
 | cons x xs ih =>
  intro pre hl
  have hlen:(pre ++ x :: xs).length = pre.length + xs.length + 1:=by simp; omega
  have hget:rd_T64 (pre ++ x :: xs) (pre.length:Int) = x:=by
   unfold rd_T64
   exact t_mid pre x xs _
  have htake:(pre ++ x :: xs).take ((pre.length:Int)).toNat = pre:=by simp
  have h1:=contains_f x pre (by omega)
  have e1:pre ++ [x] ++ xs = pre ++ x :: xs:=by simp
  have hi:=ih (pre ++ [x]) (by simpa using hl)
  rw [e1] at hi
  refine Ev.step (f:=fun k => (slices_Contains_impl_Tile_impl_Tile.f k pre x.f0 x.f1).bind fun t184 => (if t184 = true then (some false) else (impl_areDifferent_impl_Tile.l0 k (pre ++ x :: xs) (pre ++ x :: xs) ((pre ++ x :: xs).length:Int) (((pre ++ [x]).length:Nat):Int)))) (fun k => ?_) ?_
  ·simp only [impl_areDifferent_impl_Tile.l0]
   rw [if_pos (by omega),if_pos (by omega),if_pos (by omega),if_pos (by omega),hget,htake,t_wrap ((pre.length:Int) + 1) (by omega) (by omega)]
   simp
  ·refine Ev.bind (f:=fun k t184 => (if t184 = true then (some false) else (impl_areDifferent_impl_Tile.l0 k (pre ++ x :: xs) (pre ++ x :: xs) ((pre ++ x :: xs).length:Int) (((pre ++ [x]).length:Nat):Int)))) h1 ?_
   by_cases hm:x ∈ pre
   ·refine ⟨0,fun k _ => ?_⟩
    simp [nd,hm]
   ·refine Ev.congr (fun k => ?_) (show Ev _ (nd pre (x :: xs)) from by
     have:nd pre (x :: xs) = nd (pre ++ [x]) xs:=by simp [nd,hm]
     rw [this]
     exact hi)
    simp only [hm,decide_false,Bool.false_eq_true,if_false]

theorem noTile_good (x:S64):noTile x = !good x:=rfl
theorem any_no (l:List S64):l.any noTile = !l.all good:=by
 induction l with
 | nil => rfl
 | cons x xs ih => rw [List.any_cons,List.all_cons,ih,noTile_good]; cases good x <;> simp

def isH (l:List S64):Bool:=decide (l.length ≤ 55) && (l.all good && nd [] l)
theorem isH_spec (l:List S64) (hl:l.length ≤ 2000000):Ev (fun k => spec_tiHand.f k l) (isH l):=by
 by_cases h:l.length ≤ 55
 ·have hi:=tiHand_ev l [] hl
  rw [hb_nd] at hi
  refine Ev.congr (fun k => ?_) (show Ev _ (isH l) from by
   have:isH l = (l.all good && nd [] l):=by simp [isH,h]
   rw [this]
   exact hi)
  unfold spec_tiHand.f
  rw [if_neg (by omega)]
  rfl
 ·refine ⟨0,fun k _ => ?_⟩
  show spec_tiHand.f k l = _
  unfold spec_tiHand.f
  rw [if_pos (by omega)]
  simp [isH,h]
theorem isH_impl (l:List S64) (hl:l.length ≤ 2000000):Ev (fun k => impl_IsHand.f k l) (isH l):=by
 by_cases h:l.length ≤ 55
 ·cases hg:l.all good
  ·refine ⟨0,fun k _ => ?_⟩
   show impl_IsHand.f k l = _
   unfold impl_IsHand.f
   rw [if_pos (by omega),any_no,hg]
   simp [isH,hg]
  ·have hi:=areDiff_ev l [] hl
   refine Ev.congr (fun k => ?_) (show Ev _ (isH l) from by
    have:isH l = nd [] l:=by simp [isH,h,hg]
    rw [this]
    exact hi)
   unfold impl_IsHand.f
   rw [if_pos (by omega),any_no,hg]
   simp only [Bool.not_true,Bool.false_eq_true,if_false]
   rfl
 ·refine ⟨0,fun k _ => ?_⟩
  show impl_IsHand.f k l = _
  unfold impl_IsHand.f
  rw [if_neg (by omega)]
  simp [isH,h]
theorem isH_true (l:List S64) (h:isH l = true):l.length ≤ 55 ∧ (∀ x ∈ l,good x = true) ∧ l.Nodup:=by
 unfold isH at h
 simp only [Bool.and_eq_true,decide_eq_true_eq] at h
 exact ⟨h.1,List.all_eq_true.1 h.2.1,(nd_nodup l [] h.2.2).2⟩

def lt (x y:S64):Prop:=x.f0 < y.f0 ∨ (x.f0 = y.f0 ∧ x.f1 < y.f1)
theorem lt_irrefl (x:S64):¬ lt x x:=by
 unfold lt
 omega
theorem lt_trans {x y z:S64} (h:lt x y) (k:lt y z):lt x z:=by
 unfold lt at *
 omega
theorem lt_asymm {x y:S64} (h:lt x y):¬ lt y x:=by
 unfold lt at *
 omega
theorem cmpT_neg (x y:S64) (hx:good x = true) (hy:good y = true):cmpT x y < 0 ↔ lt x y:=by
 rw [good_iff] at hx hy
 unfold cmpT lt
 by_cases h:x.f0 = y.f0
 ·rw [if_pos h,t_wrap _ (by omega) (by omega)]
  omega
 ·rw [if_neg h,t_wrap _ (by omega) (by omega)]
  omega
theorem lt_total (x y:S64) (h:¬ lt x y) (k:x ≠ y):lt y x:=by
 have:¬ (x.f0 = y.f0 ∧ x.f1 = y.f1):=fun e => k (t_ext x y e.1 e.2)
 unfold lt at *
 omega

theorem uniq:∀ (a b:List S64),a.Pairwise lt → b.Pairwise lt → (∀ x,x ∈ a ↔ x ∈ b) → a = b:=by
 intro a
 induction a with
 | nil =>
  intro b _ _ h
  cases b with
  | nil => rfl
  | cons y ys => exact absurd ((h y).2 List.mem_cons_self) (by simp)
 | cons x xs ih =>
  intro b ha hb h
  cases b with
  | nil => exact absurd ((h x).1 List.mem_cons_self) (by simp)
  | cons y ys =>
   rw [List.pairwise_cons] at ha hb
   have e:x = y:=by
    rcases List.mem_cons.1 ((h x).1 List.mem_cons_self) with e | e
    ·exact e
    ·rcases List.mem_cons.1 ((h y).2 List.mem_cons_self) with e2 | e2
     ·exact e2.symm
     ·exact absurd (ha.1 y e2) (lt_asymm (hb.1 x e))
   subst e
   congr 1
   refine ih ys ha.2 hb.2 (fun z => ?_)
   constructor
   ·intro hz
    rcases List.mem_cons.1 ((h z).1 (List.mem_cons_of_mem _ hz)) with e | e
    ·subst e
     exact absurd (ha.1 z hz) (lt_irrefl z)
    ·exact e
   ·intro hz
    rcases List.mem_cons.1 ((h z).2 (List.mem_cons_of_mem _ hz)) with e | e
    ·subst e
     exact absurd (hb.1 z hz) (lt_irrefl z)
    ·exact e

theorem sortedT_iff:∀ (l:List S64),(∀ x ∈ l,good x = true) → l.Nodup → (sortedT l = true ↔ l.Pairwise lt):=by
 intro l
 induction l with
 | nil => intro _ _; exact ⟨fun _ => List.Pairwise.nil,fun _ => rfl⟩
 | cons x xs ih =>
  intro hg hn
  rw [List.nodup_cons] at hn
  have hgx:=hg x List.mem_cons_self
  have hi:=ih (fun y hy => hg y (List.mem_cons_of_mem _ hy)) hn.2
  unfold sortedT
  cases xs with
  | nil => simp [sortedT]
  | cons y ys =>
   have hgy:=hg y (by simp)
   simp only [Bool.and_eq_true,Bool.not_eq_true',decide_eq_false_iff_not]
   rw [hi,cmpT_neg y x hgy hgx]
   constructor
   ·rintro ⟨h1,h2⟩
    have hxy:lt x y:=lt_total y x h1 (fun e => hn.1 (by rw [← e]; exact List.mem_cons_self))
    refine List.pairwise_cons.2 ⟨fun z hz => ?_,h2⟩
    rcases List.mem_cons.1 hz with rfl | hz
    ·exact hxy
    ·exact lt_trans hxy ((List.pairwise_cons.1 h2).1 z hz)
   ·intro h
    obtain ⟨h1,h2⟩:=List.pairwise_cons.1 h
    exact ⟨lt_asymm (h1 y List.mem_cons_self),h2⟩

def code (l:List S64):List (Int × Int):=l.map fun t => (t.f0,t.f1)
def lst (n:Nat):List (Int × Int):=(List.range (n + 1)).flatMap fun a => (List.range (n + 1 - a)).map fun b => ((a:Int),((a + b:Nat):Int))
theorem whole:∃ A:List S64,Ev (fun k => spec_tiSet.f k 9) A ∧ A.length = 55 ∧ A.Pairwise lt ∧ (∀ x,x ∈ A ↔ good x = true):=by
 have h2:((spec_tiSet.f 100 9).map code) = some (lst 9):=by decide +kernel
 obtain ⟨A,hA,hc⟩:=Option.map_eq_some_iff.1 h2
 have hl:(lst 9).length = 55:=by decide +kernel
 have hp:(lst 9).Pairwise (fun x y => x.1 < y.1 ∨ (x.1 = y.1 ∧ x.2 < y.2)):=by decide +kernel
 have hg:∀ p ∈ lst 9,0 ≤ p.1 ∧ p.1 ≤ p.2 ∧ p.2 ≤ 9:=by decide +kernel
 have hall:∀ a:Fin 10,∀ b:Fin 10,a.val ≤ b.val → (((a.val:Nat):Int),((b.val:Nat):Int)) ∈ lst 9:=by decide +kernel
 generalize lst 9 = P at hc hl hp hg hall
 subst hc
 refine ⟨A,Ev.of (fun k => spec_tiSet.mono _ k) hA,?_,?_,fun x => ?_⟩
 ·unfold code at hl
  rw [List.length_map] at hl
  exact hl
 ·unfold code at hp
  rw [List.pairwise_map] at hp
  exact hp
 ·constructor
  ·intro hx
   rw [good_iff]
   exact hg (x.f0,x.f1) (by unfold code; exact List.mem_map.2 ⟨x,hx,rfl⟩)
  ·intro hx
   rw [good_iff] at hx
   have:=hall ⟨x.f0.toNat,by omega⟩ ⟨x.f1.toNat,by omega⟩ (by simp; omega)
   simp only at this
   rw [Int.toNat_of_nonneg (by omega),Int.toNat_of_nonneg (by omega)] at this
   unfold code at this
   obtain ⟨y,hy,e⟩:=List.mem_map.1 this
   simp only [Prod.mk.injEq] at e
   have:y = x:=t_ext y x e.1 e.2
   rw [← this]
   exact hy

theorem pick_ev (l:List S64) (hl:l.length ≤ 2000000) (b:Bool):∀ (rest pre out:List S64),(pre ++ rest).length ≤ 1000 → out.length ≤ pre.length →
  Ev (fun k => spec_tiPick.l0 k l b out (pre ++ rest) ((pre ++ rest).length:Int) (pre.length:Int)) (out ++ rest.filter fun x => decide (x ∈ l) == b):=by
 intro rest
 induction rest with
 | nil =>
  intro pre out h1 h2
  refine Ev.step (f:=fun _ => some (out ++ [])) (fun k => ?_) (Ev.now _)
  simp only [spec_tiPick.l0,List.append_nil]
  rw [if_neg (by omega)]
 | cons x xs ih =>
  intro pre out h1 h2
  have hlen:(pre ++ x :: xs).length = pre.length + xs.length + 1:=by simp; omega
  have hget:rd_T64 (pre ++ x :: xs) (pre.length:Int) = x:=by
   unfold rd_T64
   exact t_mid pre x xs _
  obtain ⟨r,p1,p2⟩:=place_f x l hl
  have e1:pre ++ [x] ++ xs = pre ++ x :: xs:=by simp
  refine Ev.step (f:=fun k => (spec_tiPlace.f k l x.f0 x.f1).bind fun t135 => (if ((decide (t135 ≥ 0)) == b) = true then (spec_tiPick.l0 k l b (out ++ [x]) (pre ++ x :: xs) ((pre ++ x :: xs).length:Int) (((pre ++ [x]).length:Nat):Int)) else (spec_tiPick.l0 k l b out (pre ++ x :: xs) ((pre ++ x :: xs).length:Int) (((pre ++ [x]).length:Nat):Int)))) (fun k => ?_) ?_
  ·simp only [spec_tiPick.l0]
   rw [if_pos (by omega),if_pos (by omega),if_pos (by omega),hget,t_wrap ((pre.length:Int) + 1) (by omega) (by omega),if_pos (by omega)]
   simp
  ·refine Ev.bind (f:=fun k t135 => (if ((decide (t135 ≥ 0)) == b) = true then (spec_tiPick.l0 k l b (out ++ [x]) (pre ++ x :: xs) ((pre ++ x :: xs).length:Int) (((pre ++ [x]).length:Nat):Int)) else (spec_tiPick.l0 k l b out (pre ++ x :: xs) ((pre ++ x :: xs).length:Int) (((pre ++ [x]).length:Nat):Int)))) p1 ?_
   rw [List.filter_cons]
   cases hd:(decide (x ∈ l) == b)
   ·have hi:=ih (pre ++ [x]) out (by simpa using h1) (by simp; omega)
    rw [e1] at hi
    refine Ev.congr (fun k => ?_) (by simpa using hi)
    (try dsimp only)
    rw [p2,hd]
    simp
   ·have hi:=ih (pre ++ [x]) (out ++ [x]) (by simpa using h1) (by simp; omega)
    rw [e1] at hi
    refine Ev.congr (fun k => ?_) (by simpa using hi)
    (try dsimp only)
    rw [p2,hd]
    simp

theorem len_le:∀ (a b:List S64),a.Nodup → (∀ x,x ∈ a → x ∈ b) → a.length ≤ b.length:=by
 intro a
 induction a with
 | nil => intro b _ _; simp
 | cons x xs ih =>
  intro b hn h
  rw [List.nodup_cons] at hn
  have hx:=h x List.mem_cons_self
  have:=ih (b.erase x) hn.2 (fun y hy => (List.mem_erase_of_ne (fun e => hn.1 (by rw [← e]; exact hy))).2 (h y (List.mem_cons_of_mem _ hy)))
  rw [List.length_erase_of_mem hx] at this
  have hp:0 < b.length:=List.length_pos_of_mem hx
  simp
  omega
theorem len_eq (a b:List S64) (ha:a.Nodup) (hb:b.Nodup) (h:∀ x,x ∈ a ↔ x ∈ b):a.length = b.length :=
 Nat.le_antisymm (len_le a b ha (fun x hx => (h x).1 hx)) (len_le b a hb (fun x hx => (h x).2 hx))

theorem sort_f (l:List S64) (h:isH l = true):∃ s:List S64,Ev (fun k => spec_tiSort.f k l) s ∧ s.length = l.length ∧ s.Pairwise lt ∧ (∀ x,x ∈ s ↔ x ∈ l) ∧ decide (s = l) = sortedT l:=by
 obtain ⟨h1,h2,h3⟩:=isH_true l h
 obtain ⟨A,hA,hl,hp,hm⟩:=whole
 have hk:=pick_ev l (by omega) true A [] [] (by simp; omega) (by simp)
 simp only [List.nil_append] at hk
 have hmem:∀ x,x ∈ A.filter (fun x => decide (x ∈ l) == true) ↔ x ∈ l:=by
  intro x
  rw [List.mem_filter,hm]
  constructor
  ·rintro ⟨_,h⟩
   simpa using h
  ·intro h
   exact ⟨h2 x h,by simp [h]⟩
 have hps:=hp.filter (fun x => decide (x ∈ l) == true)
 have hnd:∀ (s:List S64),s.Pairwise lt → s.Nodup:=fun s hs => hs.imp (fun {a b} hab e => by subst e; exact lt_irrefl a hab)
 refine ⟨A.filter (fun x => decide (x ∈ l) == true),?_,?_,hps,hmem,?_⟩
 ·refine Ev.congr (fun k => ?_) (Ev.bind (f:=fun k t130 => (spec_tiPick.l0 k l true [] t130 (t130.length:Int) 0)) hA hk)
  unfold spec_tiSort.f spec_tiPick.f
  cases spec_tiSet.f k 9 with
  | none => rfl
  | some t =>
   simp only [Option.bind_some]
   cases spec_tiPick.l0 k l true [] t (t.length:Int) 0 with
   | none => rfl
   | some u => rfl
 ·exact len_eq _ _ (hnd _ hps) h3 hmem
 ·by_cases e:A.filter (fun x => decide (x ∈ l) == true) = l
  ·rw [decide_eq_true e]
   rw [e] at hps
   exact ((sortedT_iff l h2 h3).2 hps).symm
  ·rw [decide_eq_false e]
   cases hs:sortedT l
   ·rfl
   ·exact absurd (uniq _ _ hps ((sortedT_iff l h2 h3).1 hs) hmem) e
theorem msort_lt (l:List S64) (h:l.Nodup):(msort l).Pairwise lt:=by
 have hp:(msort l).Pairwise fun x y => (!ltT y x) = true:=by
  refine List.pairwise_mergeSort ?_ ?_ l
  ·intro a b c h1 h2
   simp only [Bool.not_eq_true',ltT_no] at *
   omega
  ·intro a b
   cases h1:ltT b a
   ·rfl
   ·have h2:=(ltT_iff _ _).1 h1
    have:ltT a b = false:=(ltT_no _ _).2 (by omega)
    rw [this]
    rfl
 have hn:(msort l).Nodup:=(List.mergeSort_perm l _).nodup_iff.2 h
 refine List.Pairwise.imp₂ (fun a b h1 h2 => ?_) hp hn
 have h3:=(ltT_no _ _).1 (by simpa using h1)
 refine lt_total b a h3 (fun e => h2 e.symm)
theorem sorted_both (l:List S64) (h:isH l = true):∃ s:List S64,Ev (fun k => spec_tiSort.f k l) s ∧ impl_sorted.f l = some s ∧ s.length = l.length:=by
 obtain ⟨s,h1,h2,h3,h4,_⟩:=sort_f l h
 obtain ⟨i1,i2,i3⟩:=isH_true l h
 have hm:msort l = s:=uniq _ _ (msort_lt l i3) h3 (fun x => by rw [h4]; exact (List.mergeSort_perm l _).mem_iff)
 refine ⟨s,h1,?_,h2⟩
 unfold impl_sorted.f slices_Clone_impl_Tile_impl_Tile.f
 rw [if_pos (by omega)]
 simp only [Option.bind_some]
 rw [if_pos (List.all_eq_true.2 (fun x hx => by rw [smallT_iff]; have:=(good_iff x).1 (i2 x hx); omega)),hm]
def tileOf (x y:Int):S64:=⟨mn x y,mx x y⟩
theorem tiOf_f (x y:Int):spec_tiOf.f x y = some ((tileOf x y).f0,(tileOf x y).f1):=by
 unfold spec_tiOf.f spec_l1Least.f spec_l1Most.f tileOf mn mx
 by_cases h:x < y
 ·rw [if_pos h,if_neg (by omega)]
  simp [h]
  omega
 ·by_cases h2:x > y
  ·rw [if_neg h,if_pos h2]
   simp [h]
   omega
  ·have:x = y:=by omega
   subst this
   simp
theorem ev_up {α:Type} {g:Nat → Option α} {r:α} {K:Nat} (h:∀ k,K ≤ k → g (k + 1) = some r):Ev g r :=
 ⟨K + 1,fun k hk => by
  obtain ⟨m,rfl⟩ : ∃ m,k = m + 1:=⟨k - 1,by omega⟩
  exact h m (by omega)⟩

theorem i_mid (pre:List Int) (x:Int) (xs:List Int):rd (pre ++ x :: xs) (pre.length:Int) = x:=by
 unfold rd
 rw [show ((pre.length:Int)).toNat = pre.length from rfl,List.getD_eq_getElem?_getD,List.getElem?_append_right (Nat.le_refl _),Nat.sub_self]
 rfl
theorem l1In_f (n lo hi:Int):spec_l1In.f n lo hi = some (inB lo hi n):=by
 unfold spec_l1In.f inB
 by_cases h1:lo ≤ n
 ·rw [if_pos (show n ≥ lo from h1)]
  simp [h1]
 ·rw [if_neg (show ¬ n ≥ lo from h1)]
  simp [h1]
theorem l1All_ev (lo hi:Int):∀ (rest pre:List Int),(pre ++ rest).length ≤ 2000000 → Ev (fun k => spec_l1All.l0 k lo hi (pre ++ rest) ((pre ++ rest).length:Int) (pre.length:Int)) (rest.all (inB lo hi)):=by
 intro rest
 induction rest with
 | nil =>
  intro pre hl
  refine Ev.step (f:=fun _ => some true) (fun k => ?_) (Ev.now _)
  simp only [spec_l1All.l0,List.append_nil]
  rw [if_neg (by omega)]
 | cons x xs ih =>
  intro pre hl
  have hlen:(pre ++ x :: xs).length = pre.length + xs.length + 1:=by simp; omega
  have e1:pre ++ [x] ++ xs = pre ++ x :: xs:=by simp
  have hq:=ih (pre ++ [x]) (by simpa using hl)
  rw [e1] at hq
  rw [List.all_cons]
  cases hx:inB lo hi x
  ·refine Ev.step (f:=fun _ => some false) (fun k => ?_) (Ev.now _)
   simp only [spec_l1All.l0]
   rw [if_pos (by omega),if_pos (by omega),if_pos (by omega),i_mid,l1In_f,hx]
   rfl
  ·rw [Bool.true_and]
   refine Ev.step (fun k => ?_) hq
   simp only [spec_l1All.l0]
   rw [if_pos (by omega),if_pos (by omega),if_pos (by omega),i_mid,l1In_f,hx,t_wrap ((pre.length:Int) + 1) (by omega) (by omega)]
   simp
theorem l1All_f (lo hi:Int) (l:List Int) (hl:l.length ≤ 2000000):Ev (fun k => spec_l1All.f k l lo hi) (l.all (inB lo hi)):=l1All_ev lo hi l [] hl
theorem any_out (lo hi:Int) (l:List Int):(!(l.any fun n => !inB lo hi n)) = l.all (inB lo hi):=by
 induction l with
 | nil => rfl
 | cons x xs ih => rw [List.any_cons,List.all_cons,← ih]; cases inB lo hi x <;> simp
theorem pzl_ev (s l:List S64) (c:List Int) (hs:s.length ≤ l.length) (hl:l.length ≤ 1000):∀ (d i:Nat),i + d = s.length → ∃ b:Bool,Ev (fun k => spec_pzGood.l0 k s (s.length:Int) (i:Int) l c) b ∧ (b = true ↔ ∀ j,i ≤ j → j < s.length → s.getD j z64 = l.getD j z64):=by
 intro d
 induction d with
 | zero =>
  intro i hi
  refine ⟨true,Ev.step (f:=fun _ => some true) (fun k => ?_) (Ev.now _),by simp; intro j h1 h2; omega⟩
  simp only [spec_pzGood.l0]
  rw [if_neg (by omega)]
 | succ d ih =>
  intro i hi
  obtain ⟨b,h1,h2⟩:=ih (i + 1) (by omega)
  have hb:(!(((rd_T64 s (i:Int)).f0) == ((rd_T64 l (i:Int)).f0)) || (!(((rd_T64 s (i:Int)).f1) == ((rd_T64 l (i:Int)).f1)))) = !decide (s.getD i z64 = l.getD i z64):=by
   rw [← t_beq]
   unfold rd_T64
   rw [show ((i:Int)).toNat = i from rfl,Bool.not_and]
  by_cases e:s.getD i z64 = l.getD i z64
  ·refine ⟨b,Ev.step (fun k => ?_) h1,?_⟩
   ·simp only [spec_pzGood.l0]
    rw [if_pos (by omega),if_pos (by omega),if_pos (by omega),if_pos (by omega),hb,if_neg (by simp only [e]; simp),t_wrap ((i:Int) + 1) (by omega) (by omega)]
    rfl
   ·rw [h2]
    constructor
    ·intro h j hj1 hj2
     by_cases ej:j = i
     ·subst ej
      exact e
     ·exact h j (by omega) hj2
    ·intro h j hj1 hj2
     exact h j (by omega) hj2
  ·refine ⟨false,Ev.step (f:=fun _ => some false) (fun k => ?_) (Ev.now _),?_⟩
   ·simp only [spec_pzGood.l0]
    rw [if_pos (by omega),if_pos (by omega),if_pos (by omega),if_pos (by omega),hb,if_pos (by simp only [decide_eq_false e]; rfl)]
   ·constructor
    ·intro h
     cases h
    ·intro h
     exact absurd (h i (Nat.le_refl _) (by omega)) e
theorem pzl_all (s l:List S64) (c:List Int) (hs:s.length = l.length) (hl:l.length ≤ 1000):Ev (fun k => spec_pzGood.l0 k s (s.length:Int) 0 l c) (decide (s = l)):=by
 obtain ⟨b,h1,h2⟩:=pzl_ev s l c (by omega) hl s.length 0 (by omega)
 have:b = decide (s = l):=by
  rw [Bool.eq_iff_iff,h2,decide_eq_true_eq]
  constructor
  ·intro h
   apply List.ext_getElem hs
   intro j j1 j2
   have:=h j (by omega) j1
   rw [List.getD_eq_getElem?_getD,List.getD_eq_getElem?_getD,List.getElem?_eq_getElem j2,List.getElem?_eq_getElem j1] at this
   exact this
  ·intro e j _ _
   rw [e]
 rw [← this]
 exact h1
def pz (l:List S64) (c:List Int):Bool:=inB 1 9 (l.length:Int) && (isH l && (decide ((c.length:Int) = (l.length:Int) + 1) && (c.all (inB (-1) 9) && sortedT l)))
theorem inB_iff (lo hi n:Int):inB lo hi n = true ↔ lo ≤ n ∧ n ≤ hi:=by
 unfold inB
 simp
theorem pz_true (l:List S64) (c:List Int) (h:pz l c = true):1 ≤ l.length ∧ l.length ≤ 9 ∧ isH l = true ∧ c.length = l.length + 1 ∧ (∀ x ∈ c,-1 ≤ x ∧ x ≤ 9) ∧ sortedT l = true:=by
 unfold pz at h
 simp only [Bool.and_eq_true,decide_eq_true_eq,inB_iff] at h
 obtain ⟨h1,h2,h3,h4,h5⟩:=h
 refine ⟨by omega,by omega,h2,by omega,fun x hx => ?_,h5⟩
 exact (inB_iff _ _ _).1 (List.all_eq_true.1 h4 x hx)
theorem pz_spec (l:List S64) (c:List Int) (hl:l.length ≤ 2000000) (hc:c.length ≤ 2000000):Ev (fun k => spec_pzGood.f k l c) (pz l c):=by
 unfold spec_pzGood.f
 rw [l1In_f]
 simp only [Option.bind_some]
 cases h1:inB 1 9 (l.length:Int)
 ·refine Ev.step (f:=fun _ => some (pz l c)) (fun k => ?_) (Ev.now _)
  simp [spec_pzGood.j0,pz,h1]
 ·simp only [if_true]
  have s1:=isH_spec l hl
  have hln:=(inB_iff _ _ _).1 h1
  refine Ev.bind (f:=fun k t171 => (if t171 = true then (if (c.length:Int) = (wrap64 ((l.length:Int) + 1)) then ((spec_l1All.f k c (-1) 9).bind fun t172 => (spec_pzGood.j0 k (!t172) l c)) else (spec_pzGood.j0 k true l c)) else (spec_pzGood.j0 k true l c))) s1 ?_
  rw [t_wrap ((l.length:Int) + 1) (by omega) (by omega)]
  cases h2:isH l
  ·refine Ev.step (f:=fun _ => some (pz l c)) (fun k => ?_) (Ev.now _)
   simp [spec_pzGood.j0,pz,h1,h2]
  ·by_cases h3:(c.length:Int) = (l.length:Int) + 1
   ·have hd:decide ((c.length:Int) = (l.length:Int) + 1) = true:=decide_eq_true h3
    simp only [if_true,h3]
    refine Ev.bind (f:=fun k t172 => (spec_pzGood.j0 k (!t172) l c)) (l1All_f (-1) 9 c hc) ?_
    cases h4:c.all (inB (-1) 9)
    ·refine Ev.step (f:=fun _ => some (pz l c)) (fun k => ?_) (Ev.now _)
     simp [spec_pzGood.j0,pz,h1,h2,hd,h4]
    ·obtain ⟨s,q1,q2,_,_,q5⟩:=sort_f l h2
     have e:pz l c = decide (s = l):=by
      unfold pz
      rw [h1,h2,hd,h4,q5]
      rfl
     rw [e]
     refine Ev.step (f:=fun k => (spec_tiSort.f k l).bind fun t173 => (spec_pzGood.l0 k t173 (t173.length:Int) 0 l c)) (fun k => ?_) (Ev.bind (f:=fun k t173 => (spec_pzGood.l0 k t173 (t173.length:Int) 0 l c)) q1 (pzl_all s l c q2 (by omega)))
     simp [spec_pzGood.j0]
   ·have hd:decide ((c.length:Int) = (l.length:Int) + 1) = false:=decide_eq_false h3
    refine Ev.step (f:=fun _ => some (pz l c)) (fun k => ?_) (Ev.now _)
    simp only [if_true]
    rw [if_neg h3]
    simp [spec_pzGood.j0,pz,h1,h2,hd]
theorem pz_impl (l:List S64) (c:List Int) (hl:l.length ≤ 2000000):Ev (fun k => impl_IsPuzzle.f k l c) (pz l c):=by
 unfold impl_IsPuzzle.f impl_areWithin.f
 refine Ev.bind (f:=fun k b1 => if b1 = true then (if inB 1 9 (l.length:Int) = true then (if sortedT l = true then (if (c.length:Int) = (l.length:Int) + 1 then some (!(c.any fun n => !inB (-1) 9 n)) else some false) else some false) else some false) else some false) (isH_impl l hl) ⟨0,fun k _ => ?_⟩
 (try dsimp only)
 rw [any_out]
 unfold pz
 by_cases h3:(c.length:Int) = (l.length:Int) + 1
 ·rw [decide_eq_true h3]
  cases isH l <;> cases inB 1 9 (l.length:Int) <;> cases sortedT l <;> simp [h3]
 ·rw [decide_eq_false h3]
  cases isH l <;> cases inB 1 9 (l.length:Int) <;> cases sortedT l <;> simp [h3]
def sOf (x y:Int):S64:=⟨mn x y,mx x y⟩
theorem sOf_impl (x y:Int):impl_tile.f x y = some ((sOf x y).f0,(sOf x y).f1):=rfl
theorem sOf_spec (x y:Int):spec_tiOf.f x y = some ((sOf x y).f0,(sOf x y).f1):=by
 unfold spec_tiOf.f spec_l1Least.f spec_l1Most.f sOf mn mx
 by_cases h:x < y
 ·have h2:¬ y < x:=by omega
  have h3:¬ x > y:=by omega
  simp [h,h2,h3]
 ·by_cases h2:y < x
  ·have h3:x > y:=h2
   simp [h,h2,h3]
  ·have e:x = y:=by omega
   subst e
   simp
def upf:Nat → Int → List Int
 | 0,_ => []
 | m + 1,n => n :: upf m (n + 1)
def rem (l:List S64) (t:S64):List S64:=l.filter fun x => !decide (x = t)
def fit (c:List Int) (at_:Nat) (n:Int):Bool:=decide (rd c (at_:Int) = -1 ∨ rd c (at_:Int) = n)
def last_ (p:List Int):Int:=rd p ((p.length:Int) - 1)
def srch (c:List Int):Nat → List Int → List S64 → List (List Int)
 | 0,_,_ => []
 | d + 1,p,l => if l = [] then [p] else (upf 10 0).flatMap fun n => if fit c p.length n = true ∧ sOf (last_ p) n ∈ l then srch c d (p ++ [n]) (rem l (sOf (last_ p) n)) else []
def row (l:List S64):Prop:=l.length ≤ 55 ∧ (∀ x ∈ l,good x = true) ∧ l.Pairwise lt
theorem row_nodup {l:List S64} (h:row l):l.Nodup:=h.2.2.imp (fun {a b} hab e => by subst e; exact lt_irrefl a hab)
theorem nd_of:∀ (rest pre:List S64),(∀ x ∈ rest,x ∉ pre) → rest.Nodup → nd pre rest = true:=by
 intro rest
 induction rest with
 | nil => intro pre _ _; rfl
 | cons x xs ih =>
  intro pre h1 h2
  rw [List.nodup_cons] at h2
  unfold nd
  rw [decide_eq_false (h1 x List.mem_cons_self),ih (pre ++ [x]) (fun y hy hm => by
   rcases List.mem_append.1 hm with hm | hm
   ·exact h1 y (List.mem_cons_of_mem _ hy) hm
   ·have e:y = x:=by simpa using hm
    subst e
    exact h2.1 hy) h2.2]
  rfl
theorem row_isH {l:List S64} (h:row l):isH l = true ∧ sortedT l = true:=by
 have hn:=row_nodup h
 refine ⟨?_,(sortedT_iff l h.2.1 hn).2 h.2.2⟩
 unfold isH
 rw [decide_eq_true h.1,List.all_eq_true.2 h.2.1,nd_of l [] (fun _ _ => by simp) hn]
 rfl
theorem row_of {l:List S64} (h:isH l = true) (k:sortedT l = true):row l:=by
 obtain ⟨h1,h2,h3⟩:=isH_true l h
 exact ⟨h1,h2,(sortedT_iff l h2 h3).1 k⟩
theorem row_rem {l:List S64} (h:row l) (t:S64):row (rem l t) :=
 ⟨Nat.le_trans (List.length_filter_le _ _) h.1,fun x hx => h.2.1 x (List.mem_filter.1 hx).1,h.2.2.filter _⟩
theorem rem_len {l:List S64} (h:l.Nodup) (t:S64) (ht:t ∈ l):(rem l t).length + 1 = l.length:=by
 induction l with
 | nil => cases ht
 | cons x xs ih =>
  rw [List.nodup_cons] at h
  unfold rem
  by_cases e:x = t
  ·subst e
   have hf:xs.filter (fun y => !decide (y = x)) = xs:=by
    rw [List.filter_eq_self]
    intro y hy
    have:y ≠ x:=fun e => h.1 (by rw [← e]; exact hy)
    simp [this]
   simp [hf]
  ·have ht':t ∈ xs:=by
    rcases List.mem_cons.1 ht with e2 | e2
    ·exact absurd e2.symm e
    ·exact e2
   have:=ih h.2 ht'
   unfold rem at this
   simp [e]
   omega
theorem index_at (t:S64):∀ (rest pre:List S64),(pre ++ rest).length ≤ 2000000 → rest.Nodup → ∃ r:Int,Ev (fun k => slices_Index_impl_Tile_impl_Tile.l0 k (pre ++ rest) ((pre ++ rest).length:Int) (pre.length:Int) t.f0 t.f1) r ∧
  (t ∉ rest → r = -1) ∧ (t ∈ rest → ∃ i:Nat,r = ((pre.length + i:Nat):Int) ∧ i < rest.length ∧ rest.eraseIdx i = rem rest t):=by
 intro rest
 induction rest with
 | nil =>
  intro pre hl _
  refine ⟨-1,Ev.step (f:=fun _ => some (-1)) (fun k => ?_) (Ev.now _),fun _ => rfl,fun h => by cases h⟩
  simp only [slices_Index_impl_Tile_impl_Tile.l0,List.append_nil]
  rw [if_neg (by omega)]
 | cons x xs ih =>
  intro pre hl hn
  rw [List.nodup_cons] at hn
  have hlen:(pre ++ x :: xs).length = pre.length + xs.length + 1:=by simp; omega
  have hget:rd_T64 (pre ++ x :: xs) (pre.length:Int) = x:=by
   unfold rd_T64
   exact t_mid pre x xs _
  by_cases e:t = x
  ·subst e
   refine ⟨(pre.length:Int),Ev.step (f:=fun _ => some (pre.length:Int)) (fun k => ?_) (Ev.now _),fun h => absurd List.mem_cons_self h,fun _ => ⟨0,rfl,by simp,?_⟩⟩
   ·simp only [slices_Index_impl_Tile_impl_Tile.l0]
    rw [if_pos (by omega),if_pos (by omega),if_pos (by omega),hget,t_beq,if_pos (by simp)]
   ·have hf:xs.filter (fun y => !decide (y = t)) = xs:=by
     rw [List.filter_eq_self]
     intro y hy
     have:y ≠ t:=fun e => hn.1 (by rw [← e]; exact hy)
     simp [this]
    unfold rem
    simp [hf]
  ·obtain ⟨r,h1,h2,h3⟩:=ih (pre ++ [x]) (by simpa using hl) hn.2
   have e1:pre ++ [x] ++ xs = pre ++ x :: xs:=by simp
   rw [e1] at h1
   refine ⟨r,Ev.step (fun k => ?_) h1,fun h => h2 (fun hm => h (List.mem_cons_of_mem _ hm)),fun h => ?_⟩
   ·simp only [slices_Index_impl_Tile_impl_Tile.l0]
    rw [if_pos (by omega),if_pos (by omega),if_pos (by omega),hget,t_beq,if_neg (by simp [e]),t_wrap ((pre.length:Int) + 1) (by omega) (by omega)]
    simp
   ·have hm:t ∈ xs:=by
     rcases List.mem_cons.1 h with e2 | e2
     ·exact absurd e2 e
     ·exact e2
    obtain ⟨i,hr,hi,he⟩:=h3 hm
    refine ⟨i + 1,by rw [hr]; simp; omega,by simp; omega,?_⟩
    rw [List.eraseIdx_cons_succ,he]
    unfold rem
    have:¬ x = t:=fun e2 => e e2.symm
    simp [this]
theorem index_rem (t:S64) (l:List S64) (hl:row l):∃ r:Int,Ev (fun k => slices_Index_impl_Tile_impl_Tile.f k l t.f0 t.f1) r ∧ (t ∉ l → r = -1) ∧ (t ∈ l → 0 ≤ r ∧ r < l.length ∧ l.eraseIdx r.toNat = rem l t):=by
 obtain ⟨r,h1,h2,h3⟩:=index_at t l [] (by have:=hl.1; simp; omega) (row_nodup hl)
 refine ⟨r,h1,h2,fun h => ?_⟩
 obtain ⟨i,hr,hi,he⟩:=h3 h
 subst hr
 refine ⟨by omega,by simp; omega,by simpa using he⟩
def Res (out S:List (List Int)) (r:Bool × List (List Int)):Prop:=if (out ++ S).length ≤ 200 then r = (true,out ++ S) else r.1 = false
theorem Res_nil (out:List (List Int)) (h:out.length ≤ 200):Res out [] (true,out):=by
 unfold Res
 rw [List.append_nil,if_pos h]
theorem Res_step {out S S':List (List Int)} {r r':Bool × List (List Int)} (h1:Res out S r) (hb:r.1 = true) (h2:r.2.length ≤ 200 → Res r.2 S' r'):Res out (S ++ S') r':=by
 unfold Res at h1
 by_cases h:(out ++ S).length ≤ 200
 ·rw [if_pos h] at h1
  subst h1
  have:=h2 h
  unfold Res at this ⊢
  rw [← List.append_assoc]
  exact this
 ·rw [if_neg h,hb] at h1
  cases h1
theorem Res_short {out S:List (List Int)} {r:Bool × List (List Int)} (h1:Res out S r) (hb:r.1 = true):r.2.length ≤ 200:=by
 unfold Res at h1
 by_cases h:(out ++ S).length ≤ 200
 ·rw [if_pos h] at h1
  subst h1
  exact h
 ·rw [if_neg h,hb] at h1
  cases h1
theorem Res_stop {out S S':List (List Int)} {r:Bool × List (List Int)} (h1:Res out S r) (hb:r.1 = false):Res out (S ++ S') (false,r.2):=by
 unfold Res at h1 ⊢
 by_cases h:(out ++ S).length ≤ 200
 ·rw [if_pos h] at h1
  subst h1
  cases hb
 ·rw [if_neg (by simp only [List.length_append] at h ⊢; omega)]
theorem fits_f (hand:List S64) (c:List Int) (at_:Nat) (n:Int) (h:at_ < c.length):impl_Puzzle_fits.f hand c (at_:Int) n = some (fit c at_ n):=by
 unfold impl_Puzzle_fits.f fit
 rw [if_pos (by omega),if_pos (by omega)]
 by_cases h1:rd c (at_:Int) = -1
 ·rw [if_pos h1]
  simp [h1]
 ·rw [if_neg h1]
  by_cases h2:rd c (at_:Int) = n
  ·simp [h2]
  ·simp [h1,h2]
def sols (c:List Int) (l:List S64):List (List Int):=(upf 10 0).flatMap fun n => if fit c 0 n = true then srch c (l.length + 1) [n] l else []
def ResS (out S o:List (List Int)):Prop:=if (out ++ S).length ≤ 200 then o = out ++ S else 200 < o.length
theorem ResS_nil (out:List (List Int)):ResS out [] out:=by
 unfold ResS
 rw [List.append_nil]
 by_cases h:out.length ≤ 200
 ·rw [if_pos h]
 ·rw [if_neg h]
  omega
theorem ResS_full (out S:List (List Int)) (h:out.length > 200):ResS out S out:=by
 unfold ResS
 rw [if_neg (by simp; omega)]
 omega
theorem ResS_step {out S S' o o':List (List Int)} (h1:ResS out S o) (h2:ResS o S' o'):ResS out (S ++ S') o':=by
 unfold ResS at *
 by_cases h:(out ++ S).length ≤ 200
 ·rw [if_pos h] at h1
  subst h1
  rw [← List.append_assoc]
  exact h2
 ·rw [if_neg h] at h1
  rw [if_neg (by simp only [List.length_append] at h ⊢; omega)]
  rw [if_neg (by simp; omega)] at h2
  exact h2
theorem own_f (p:List Int) (h:p.length ≤ 1000000):spec_l1Own.f p = some p:=by
 unfold spec_l1Own.f
 simp only [Option.bind_some,List.length_nil,List.nil_append]
 rw [if_pos (by omega)]
theorem those_ev (t:S64):∀ (rest pre out:List S64),(pre ++ rest).length ≤ 1000 → out.length ≤ pre.length → Ev (fun k => spec_tiThose.l0 k [t] false out (pre ++ rest) ((pre ++ rest).length:Int) (pre.length:Int)) (out ++ rem rest t):=by
 intro rest
 induction rest with
 | nil =>
  intro pre out hl ho
  refine Ev.step (f:=fun _ => some (out ++ rem [] t)) (fun k => ?_) (Ev.now _)
  simp only [spec_tiThose.l0,List.append_nil]
  rw [if_neg (by omega)]
  simp [rem]
 | cons x xs ih =>
  intro pre out hl ho
  have hlen:(pre ++ x :: xs).length = pre.length + xs.length + 1:=by simp; omega
  have hget:rd_T64 (pre ++ x :: xs) (pre.length:Int) = x:=by
   unfold rd_T64
   exact t_mid pre x xs _
  have e1:pre ++ [x] ++ xs = pre ++ x :: xs:=by simp
  obtain ⟨r,h1,h2⟩:=place_f x [t] (by simp)
  refine Ev.step (f:=fun k => (spec_tiPlace.f k [t] x.f0 x.f1).bind fun t195 => (if ((decide (t195 ≥ 0)) == false) = true then (spec_tiThose.l0 k [t] false (out ++ [x]) (pre ++ x :: xs) ((pre ++ x :: xs).length:Int) (((pre ++ [x]).length:Nat):Int)) else (spec_tiThose.l0 k [t] false out (pre ++ x :: xs) ((pre ++ x :: xs).length:Int) (((pre ++ [x]).length:Nat):Int)))) (fun k => ?_) (Ev.bind (f:=fun k (r:Int) => _) h1 ?_)
  ·simp only [spec_tiThose.l0]
   rw [if_pos (by omega),if_pos (by omega),if_pos (by omega),hget,t_wrap ((pre.length:Int) + 1) (by omega) (by omega),if_pos (by omega)]
   simp [t_eta]
  ·(try dsimp only)
   rw [h2]
   by_cases e:x = t
   ·have hi:=ih (pre ++ [x]) out (by simpa using hl) (by simp; omega)
    rw [e1] at hi
    refine Ev.congr (fun k => ?_) (show Ev _ (out ++ rem (x :: xs) t) from by
     have:rem (x :: xs) t = rem xs t:=by simp [rem,e]
     rw [this]
     exact hi)
    simp [e]
   ·have hi:=ih (pre ++ [x]) (out ++ [x]) (by simpa using hl) (by simp; omega)
    rw [e1] at hi
    refine Ev.congr (fun k => ?_) (show Ev _ (out ++ rem (x :: xs) t) from by
     have:out ++ rem (x :: xs) t = out ++ [x] ++ rem xs t:=by simp [rem,e]
     rw [this]
     exact hi)
    simp [e]
theorem those_rem (l:List S64) (hl:row l) (t:S64):Ev (fun k => spec_tiThose.f k l [t] false) (rem l t):=by
 obtain ⟨hh,hs⟩:=row_isH hl
 obtain ⟨s,h1,h2,_,_,h5⟩:=sort_f l hh
 rw [hs] at h5
 have e:s = l:=of_decide_eq_true h5
 subst e
 unfold spec_tiThose.f
 refine Ev.bind (f:=fun k (s:List S64) => _) h1 ?_
 simpa using those_ev t s [] [] (by have:=hl.1; simp; omega) (by simp)
theorem times_ev (n:Int):∀ (rest pre:List S64) (a:Int),(pre ++ rest).length ≤ 1000 → 0 ≤ a → a ≤ 2 * pre.length → ∃ t:Int,Ev (fun k => spec_tiTimes.l0 k n a (pre ++ rest) ((pre ++ rest).length:Int) (pre.length:Int)) t ∧ a ≤ t ∧ (t > a ↔ ∃ x ∈ rest,x.f0 = n ∨ x.f1 = n):=by
 intro rest
 induction rest with
 | nil =>
  intro pre a hl h0 h1
  refine ⟨a,Ev.step (f:=fun _ => some a) (fun k => ?_) (Ev.now _),Int.le_refl _,by simp⟩
  simp only [spec_tiTimes.l0,List.append_nil]
  rw [if_neg (by omega)]
 | cons x xs ih =>
  intro pre a hl h0 h1
  have hlen:(pre ++ x :: xs).length = pre.length + xs.length + 1:=by simp; omega
  have hget:rd_T64 (pre ++ x :: xs) (pre.length:Int) = x:=by
   unfold rd_T64
   exact t_mid pre x xs _
  have e1:pre ++ [x] ++ xs = pre ++ x :: xs:=by simp
  have hw:=t_wrap ((pre.length:Int) + 1) (by omega) (by omega)
  by_cases ha:x.f0 = n
  ·by_cases hb:x.f1 = n
   ·obtain ⟨t,q1,q2,q3⟩:=ih (pre ++ [x]) (a + 1 + 1) (by simpa using hl) (by omega) (by simp; omega)
    rw [e1] at q1
    refine ⟨t,Ev.step (fun k => ?_) q1,by omega,⟨fun _ => ⟨x,List.mem_cons_self,.inl ha⟩,fun _ => by omega⟩⟩
    simp only [spec_tiTimes.l0]
    rw [if_pos (by omega),if_pos (by omega),if_pos (by omega),hget,if_pos ha,if_pos hb,hw,t_wrap (a + 1) (by omega) (by omega),t_wrap (a + 1 + 1) (by omega) (by omega)]
    simp
   ·obtain ⟨t,q1,q2,q3⟩:=ih (pre ++ [x]) (a + 1) (by simpa using hl) (by omega) (by simp; omega)
    rw [e1] at q1
    refine ⟨t,Ev.step (fun k => ?_) q1,by omega,⟨fun _ => ⟨x,List.mem_cons_self,.inl ha⟩,fun _ => by omega⟩⟩
    simp only [spec_tiTimes.l0]
    rw [if_pos (by omega),if_pos (by omega),if_pos (by omega),hget,if_pos ha,if_neg hb,hw,t_wrap (a + 1) (by omega) (by omega)]
    simp
  ·by_cases hb:x.f1 = n
   ·obtain ⟨t,q1,q2,q3⟩:=ih (pre ++ [x]) (a + 1) (by simpa using hl) (by omega) (by simp; omega)
    rw [e1] at q1
    refine ⟨t,Ev.step (fun k => ?_) q1,by omega,⟨fun _ => ⟨x,List.mem_cons_self,.inr hb⟩,fun _ => by omega⟩⟩
    simp only [spec_tiTimes.l0]
    rw [if_pos (by omega),if_pos (by omega),if_pos (by omega),hget,if_neg ha,if_pos hb,hw,t_wrap (a + 1) (by omega) (by omega)]
    simp
   ·obtain ⟨t,q1,q2,q3⟩:=ih (pre ++ [x]) a (by simpa using hl) (by omega) (by simp; omega)
    rw [e1] at q1
    refine ⟨t,Ev.step (fun k => ?_) q1,by omega,?_⟩
    ·simp only [spec_tiTimes.l0]
     rw [if_pos (by omega),if_pos (by omega),if_pos (by omega),hget,if_neg ha,if_neg hb,hw]
     simp
    ·rw [q3]
     constructor
     ·rintro ⟨y,hy,h⟩
      exact ⟨y,List.mem_cons_of_mem _ hy,h⟩
     ·rintro ⟨y,hy,h⟩
      rcases List.mem_cons.1 hy with e | e
      ·subst e
       rcases h with h | h
       ·exact absurd h ha
       ·exact absurd h hb
      ·exact ⟨y,e,h⟩
theorem times_any (l:List S64) (hl:l.length ≤ 1000) (n:Int):∃ t:Int,Ev (fun k => spec_tiTimes.f k l n) t ∧ (t > 0 ↔ ∃ x ∈ l,x.f0 = n ∨ x.f1 = n):=by
 obtain ⟨t,h1,_,h3⟩:=times_ev n l [] 0 (by simpa using hl) (by omega) (by simp)
 exact ⟨t,h1,h3⟩
theorem sOf_has (x y:Int):(sOf x y).f0 = x ∨ (sOf x y).f1 = x:=by
 unfold sOf mn mx
 by_cases h:y < x
 ·right
  have:¬ x < y:=by omega
  simp [this]
 ·left
  simp [h]
theorem srch_none (c:List Int) (d:Nat) (n:Int) (l:List S64) (h0:l ≠ []) (h:¬ ∃ x ∈ l,x.f0 = n ∨ x.f1 = n):srch c d [n] l = []:=by
 cases d with
 | zero => rfl
 | succ d =>
  simp only [srch]
  rw [if_neg h0,List.flatMap_eq_nil_iff]
  intro m _
  rw [if_neg]
  rintro ⟨_,hm⟩
  exact h ⟨_,hm,sOf_has n m⟩
theorem want_fit (c:List Int) (hc9:∀ x ∈ c,-1 ≤ x) (at_:Nat) (n:Int) (h:at_ < c.length):(0 ≤ rd c (at_:Int) ∧ rd c (at_:Int) ≠ n) ↔ ¬ fit c at_ n = true:=by
 have hm:rd c (at_:Int) ∈ c:=by
  unfold rd
  rw [show ((at_:Int)).toNat = at_ from rfl,List.getD_eq_getElem?_getD,List.getElem?_eq_getElem h]
  exact List.getElem_mem h
 have:=hc9 _ hm
 unfold fit
 simp only [decide_eq_true_eq]
 omega
theorem del_rem (t:S64) (l:List S64) (q:Int) (q0:0 ≤ q) (q1:q < l.length) (q2:l.eraseIdx q.toNat = rem l t) (hl:l.length ≤ 55):slices_Delete_impl_Tile.f l q (wrap64 (q + 1)) = some (rem l t):=by
 unfold slices_Delete_impl_Tile.f
 rw [t_wrap (q + 1) (by omega) (by omega),if_pos ⟨q0,q1,rfl⟩,q2]
theorem impl_loop (hand:List S64) (c p:List Int) (l:List S64) (d:Nat) (hl:row l) (hp:0 < p.length) (hpc:p.length < c.length) (hc:c.length ≤ 100)
  (hrec:∀ n,0 ≤ n → n ≤ 9 → sOf (last_ p) n ∈ l → ∀ out:List (List Int),out.length ≤ 200 → ∃ r,Ev (fun k => g75_impl_Puzzle_solutions_1.f k (p ++ [n]) (rem l (sOf (last_ p) n)) out hand c) r ∧ Res out (srch c d (p ++ [n]) (rem l (sOf (last_ p) n))) r) :
  ∀ (m:Nat) (n:Int) (out:List (List Int)),n + m = 10 → 0 ≤ n → out.length ≤ 200 → ∃ r,Ev (fun k => g75_impl_Puzzle_solutions_1.l0 k p l hand c out n) r ∧
   Res out ((upf m n).flatMap fun n => if fit c p.length n = true ∧ sOf (last_ p) n ∈ l then srch c d (p ++ [n]) (rem l (sOf (last_ p) n)) else []) r:=by
 intro m
 induction m with
 | zero =>
  intro n out hn h0 ho
  refine ⟨(true,out),ev_up (K:=0) fun k _ => ?_,Res_nil out ho⟩
  simp only [g75_impl_Puzzle_solutions_1.l0]
  rw [if_neg (by omega)]
 | succ m ih =>
  intro n out hn h0 ho
  have hn9:n < 10:=by omega
  have hfit:=fits_f hand c p.length n hpc
  have hw:=t_wrap ((p.length:Int) - 1) (by omega) (by omega)
  have hw1:=t_wrap (n + 1) (by omega) (by omega)
  have hlast:rd p ((p.length:Int) - 1) = last_ p:=rfl
  have htile:=sOf_impl (last_ p) n
  simp only [upf,List.flatMap_cons]
  by_cases hf:fit c p.length n = true
  ·rw [hf] at hfit
   obtain ⟨q,⟨K1,hq⟩,hq1,hq2⟩:=index_rem (sOf (last_ p) n) l hl
   simp only at hq
   by_cases hm:sOf (last_ p) n ∈ l
   ·obtain ⟨q0,q1,q2⟩:=hq2 hm
    rw [if_pos ⟨hf,hm⟩]
    obtain ⟨r,⟨K2,hr⟩,hres⟩:=hrec n h0 (by omega) hm out ho
    simp only at hr
    have g1:slices_Clone_int_int.f p = some p:=by unfold slices_Clone_int_int.f; rw [if_pos (by omega)]
    have g2:slices_Clone_impl_Tile_impl_Tile.f l = some l:=by unfold slices_Clone_impl_Tile_impl_Tile.f; rw [if_pos (by have:=hl.1; omega)]
    have g3:=del_rem (sOf (last_ p) n) l q q0 q1 q2 hl.1
    have hgo:∀ k,K1 ≤ k → K2 ≤ k → g75_impl_Puzzle_solutions_1.l0 (k + 1) p l hand c out n = if r.1 = true then g75_impl_Puzzle_solutions_1.l0 k p l hand c r.2 (n + 1) else some (false,r.2):=by
     intro k k1 k2
     simp only [g75_impl_Puzzle_solutions_1.l0]
     rw [if_pos hn9,hfit]
     simp only [Option.bind_some,if_true]
     rw [hw,if_pos (by omega),if_pos (by omega),hlast,htile]
     simp only [Option.bind_some]
     rw [hq k k1]
     simp only [Option.bind_some]
     rw [if_pos (show q ≥ 0 from q0),g1]
     simp only [Option.bind_some]
     rw [if_pos (by omega),g2]
     simp only [Option.bind_some]
     rw [g3]
     simp only [Option.bind_some]
     rw [hr k k2,hw1]
     simp only [Option.bind_some]
    cases hb:r.1 with
    | true =>
     have hs:=Res_short hres hb
     obtain ⟨r2,⟨K3,hr2⟩,hres2⟩:=ih (n + 1) r.2 (by omega) (by omega) hs
     refine ⟨r2,ev_up (K:=K1 + K2 + K3) fun k hk => ?_,Res_step hres hb (fun _ => hres2)⟩
     rw [hgo k (by omega) (by omega),if_pos hb]
     exact hr2 k (by omega)
    | false =>
     refine ⟨(false,r.2),ev_up (K:=K1 + K2) fun k hk => ?_,Res_stop hres hb⟩
     rw [hgo k (by omega) (by omega),hb]
     rfl
   ·obtain ⟨r2,⟨K2,hr2⟩,hres2⟩:=ih (n + 1) out (by omega) (by omega) ho
    rw [if_neg (fun h => hm h.2),List.nil_append]
    refine ⟨r2,ev_up (K:=K1 + K2) fun k hk => ?_,hres2⟩
    have hq':=hq1 hm
    simp only [g75_impl_Puzzle_solutions_1.l0]
    rw [if_pos hn9,hfit]
    simp only [Option.bind_some,if_true]
    rw [hw,if_pos (by omega),if_pos (by omega),hlast,htile]
    simp only [Option.bind_some]
    rw [hq k (by omega)]
    simp only [Option.bind_some]
    rw [if_neg (by omega),hw1]
    exact hr2 k (by omega)
  ·obtain ⟨r2,⟨K2,hr2⟩,hres2⟩:=ih (n + 1) out (by omega) (by omega) ho
   rw [if_neg (fun h => hf h.1),List.nil_append]
   refine ⟨r2,ev_up (K:=K2) fun k hk => ?_,hres2⟩
   simp only [g75_impl_Puzzle_solutions_1.l0]
   rw [if_pos hn9,hfit]
   simp only [Option.bind_some]
   rw [if_neg hf,hw1]
   exact hr2 k hk
theorem impl_look (hand:List S64) (c:List Int) (hc:c.length ≤ 100):∀ (d:Nat) (p:List Int) (l:List S64) (out:List (List Int)),row l → 0 < p.length → p.length + l.length = c.length → l.length < d → out.length ≤ 200 →
  ∃ r,Ev (fun k => g75_impl_Puzzle_solutions_1.f k p l out hand c) r ∧ Res out (srch c d p l) r:=by
 intro d
 induction d with
 | zero => intro p l out _ _ _ h _; omega
 | succ d ih =>
  intro p l out hl hp hpc hd ho
  by_cases h0:l = []
  ·subst h0
   refine ⟨(decide (((out ++ [p]).length:Int) ≤ 200),out ++ [p]),ev_up (K:=0) fun k _ => ?_,?_⟩
   ·simp only [g75_impl_Puzzle_solutions_1.f,List.length_nil]
    rw [if_pos (show ((0:Nat):Int) = 0 from rfl),if_pos (by omega)]
   ·unfold Res
    rw [srch,if_pos rfl]
    by_cases h:(out ++ [p]).length ≤ 200
    ·rw [if_pos h,decide_eq_true (show ((out ++ [p]).length:Int) ≤ 200 by omega)]
    ·rw [if_neg h]
     dsimp only
     rw [decide_eq_false_iff_not]
     omega
  ·have hpos:0 < l.length:=List.length_pos_iff.2 h0
   obtain ⟨r,⟨K,h1⟩,h2⟩:=impl_loop hand c p l d hl hp (by omega) hc (fun n hn0 hn9 hm o ho' => by
    have:=rem_len (row_nodup hl) _ hm
    exact ih (p ++ [n]) (rem l (sOf (last_ p) n)) o (row_rem hl _) (by simp) (by simp; omega) (by omega) ho') 10 0 out (by omega) (by omega) ho
   refine ⟨r,ev_up (K:=K) fun k hk => ?_,?_⟩
   ·simp only [g75_impl_Puzzle_solutions_1.f]
    rw [if_neg (by omega)]
    exact h1 k hk
   ·simp only [srch]
    rw [if_neg h0]
    exact h2
theorem impl_all_loop (l:List S64) (c:List Int) (hl:row l) (hc:c.length ≤ 100) (hlc:c.length = l.length + 1):∀ (m:Nat) (n:Int) (out:List (List Int)),n + m = 10 → 0 ≤ n → out.length ≤ 200 →
  ∃ r,Ev (fun k => impl_Puzzle_solutions.l0 k l c out n) r ∧ (if (out ++ (upf m n).flatMap fun n => if fit c 0 n = true then srch c (l.length + 1) [n] l else []).length ≤ 200 then r = (out ++ (upf m n).flatMap (fun n => if fit c 0 n = true then srch c (l.length + 1) [n] l else []),true) else r = ([],false)):=by
 intro m
 induction m with
 | zero =>
  intro n out hn h0 ho
  refine ⟨(out,true),ev_up (K:=0) fun k _ => ?_,?_⟩
  ·simp only [impl_Puzzle_solutions.l0]
   rw [if_neg (by omega)]
  ·simp only [upf,List.flatMap_nil,List.append_nil]
   rw [if_pos ho]
   trivial
 | succ m ih =>
  intro n out hn h0 ho
  have hn9:n < 10:=by omega
  have hw1:=t_wrap (n + 1) (by omega) (by omega)
  have hf0:impl_Puzzle_fits.f l c 0 n = some (fit c 0 n):=fits_f l c 0 n (by omega)
  simp only [upf,List.flatMap_cons]
  by_cases hf:fit c 0 n = true
  ·rw [if_pos hf,← List.append_assoc]
   rw [hf] at hf0
   obtain ⟨r,⟨K1,hr⟩,hres⟩:=impl_look l c hc (l.length + 1) [n] l out hl (by simp) (by simp; omega) (by omega) ho
   simp only at hr
   unfold Res at hres
   by_cases hs:(out ++ srch c (l.length + 1) [n] l).length ≤ 200
   ·rw [if_pos hs] at hres
    subst hres
    obtain ⟨r2,⟨K2,hr2⟩,hres2⟩:=ih (n + 1) (out ++ srch c (l.length + 1) [n] l) (by omega) (by omega) hs
    refine ⟨r2,ev_up (K:=K1 + K2) fun k hk => ?_,hres2⟩
    simp only [impl_Puzzle_solutions.l0]
    rw [if_pos hn9,hf0]
    simp only [Option.bind_some,if_true]
    rw [hr k (by omega),hw1]
    simp only [Option.bind_some,if_true]
    exact hr2 k (by omega)
   ·rw [if_neg hs] at hres
    refine ⟨([],false),ev_up (K:=K1) fun k hk => ?_,?_⟩
    ·simp only [impl_Puzzle_solutions.l0]
     rw [if_pos hn9,hf0]
     simp only [Option.bind_some,if_true]
     rw [hr k hk]
     simp only [Option.bind_some,hres]
     rfl
    ·rw [if_neg (by simp only [List.length_append] at hs ⊢; omega)]
  ·rw [if_neg hf,List.nil_append]
   obtain ⟨r2,⟨K2,hr2⟩,hres2⟩:=ih (n + 1) out (by omega) (by omega) ho
   refine ⟨r2,ev_up (K:=K2) fun k hk => ?_,hres2⟩
   simp only [impl_Puzzle_solutions.l0]
   rw [if_pos hn9,hf0]
   simp only [Option.bind_some]
   rw [if_neg hf,hw1]
   exact hr2 k hk
theorem sols_impl (l:List S64) (c:List Int) (hl:row l) (hc:c.length ≤ 100) (hlc:c.length = l.length + 1):Ev (fun k => impl_Puzzle_solutions.f k l c) (if (sols c l).length ≤ 200 then (sols c l,true) else ([],false)):=by
 obtain ⟨r,h1,h2⟩:=impl_all_loop l c hl hc hlc 10 0 [] (by omega) (by omega) (by simp)
 have:r = if (sols c l).length ≤ 200 then (sols c l,true) else ([],false):=by
  simp only [List.nil_append] at h2
  by_cases h:(sols c l).length ≤ 200
  ·rw [if_pos h]
   rw [if_pos (show ((upf 10 0).flatMap fun n => if fit c 0 n = true then srch c (l.length + 1) [n] l else []).length ≤ 200 from h)] at h2
   exact h2
  ·rw [if_neg h]
   rw [if_neg (show ¬ ((upf 10 0).flatMap fun n => if fit c 0 n = true then srch c (l.length + 1) [n] l else []).length ≤ 200 from h)] at h2
   exact h2
 rw [← this]
 exact h1
theorem spec_loop (hd:List S64) (c p:List Int) (l:List S64) (d:Nat) (hl:row l) (hp:0 < p.length) (hpc:p.length < c.length) (hc:c.length ≤ 100) (hc9:∀ x ∈ c,-1 ≤ x)
  (hrec:∀ n,0 ≤ n → n ≤ 9 → sOf (last_ p) n ∈ l → ∀ out:List (List Int),∃ r,Ev (fun k => g107_spec_pzLook.f k hd c (p ++ [n]) (rem l (sOf (last_ p) n)) out) r ∧ ResS out (srch c d (p ++ [n]) (rem l (sOf (last_ p) n))) r) :
  ∀ (m:Nat) (n:Int) (out:List (List Int)),n + m = 10 → 0 ≤ n → ∃ r,Ev (fun k => g107_spec_pzLook.l0 k p l out hd c n) r ∧
   ResS out ((upf m n).flatMap fun n => if fit c p.length n = true ∧ sOf (last_ p) n ∈ l then srch c d (p ++ [n]) (rem l (sOf (last_ p) n)) else []) r:=by
 intro m
 induction m with
 | zero =>
  intro n out hn h0
  refine ⟨out,ev_up (K:=0) fun k _ => ?_,ResS_nil out⟩
  simp only [g107_spec_pzLook.l0]
  rw [if_neg (by omega)]
 | succ m ih =>
  intro n out hn h0
  have hn9:n ≤ 9:=by omega
  have hwf:=want_fit c hc9 p.length n hpc
  have hw:=t_wrap ((p.length:Int) - 1) (by omega) (by omega)
  have hw1:=t_wrap (n + 1) (by omega) (by omega)
  have hlast:rd p ((p.length:Int) - 1) = last_ p:=rfl
  simp only [upf,List.flatMap_cons]
  by_cases hf:fit c p.length n = true
  ·have hcas:rd c (p.length:Int) ≥ 0 → rd c (p.length:Int) = n:=fun h0 => Classical.byContradiction fun h => (hwf.1 ⟨h0,h⟩) hf
   obtain ⟨q,⟨K1,hq⟩,hq1⟩:=place_f (sOf (last_ p) n) l (by have:=hl.1; omega)
   simp only at hq
   -- what the body is, whether a number is wanted or not
   have hbody:∀ k,K1 ≤ k → g107_spec_pzLook.l0 (k + 1) p l out hd c n = if q ≥ 0 then ((spec_tiThose.f k l [sOf (last_ p) n] false).bind fun b7 => ((g107_spec_pzLook.f k hd c (p ++ [n]) b7 out).bind fun b8 => g107_spec_pzLook.j0 k p l b8 hd c n)) else g107_spec_pzLook.j0 k p l out hd c n:=by
    intro k hk
    simp only [g107_spec_pzLook.l0]
    rw [if_pos hn9,if_pos (by omega),if_pos (by omega)]
    by_cases hg:rd c (p.length:Int) ≥ 0
    ·rw [if_pos hg,if_pos (hcas hg),if_neg (by omega),hw,if_pos (by omega),if_pos (by omega),hlast,sOf_spec]
     simp only [Option.bind_some]
     rw [hq k hk,own_f p (by omega)]
     simp only [Option.bind_some]
     rw [if_pos (show p.length < 17592186044416 by omega)]
    ·rw [if_neg hg,if_neg (by omega),hw,if_pos (by omega),if_pos (by omega),hlast,sOf_spec]
     simp only [Option.bind_some]
     rw [hq k hk,own_f p (by omega)]
     simp only [Option.bind_some]
     rw [if_pos (show p.length < 17592186044416 by omega)]
   by_cases hm:sOf (last_ p) n ∈ l
   ·rw [if_pos ⟨hf,hm⟩]
    rw [decide_eq_true hm] at hq1
    have q0:q ≥ 0:=of_decide_eq_true hq1
    obtain ⟨o1,⟨K2,ho1⟩,hres1⟩:=hrec n h0 (by omega) hm out
    obtain ⟨o2,⟨K3,ho2⟩,hres2⟩:=ih (n + 1) o1 (by omega) (by omega)
    obtain ⟨K4,h4⟩:=those_rem l hl (sOf (last_ p) n)
    simp only at ho1 ho2 h4
    refine ⟨o2,⟨K1 + K2 + K3 + K4 + 2,fun k hk => ?_⟩,ResS_step hres1 hres2⟩
    obtain ⟨m',rfl⟩ : ∃ m',k = m' + 2:=⟨k - 2,by omega⟩
    show g107_spec_pzLook.l0 (m' + 1 + 1) p l out hd c n = _
    rw [hbody (m' + 1) (by omega),if_pos q0,h4 (m' + 1) (by omega)]
    simp only [Option.bind_some]
    rw [ho1 (m' + 1) (by omega)]
    simp only [Option.bind_some,g107_spec_pzLook.j0]
    rw [hw1]
    exact ho2 m' (by omega)
   ·rw [if_neg (fun h => hm h.2),List.nil_append]
    rw [decide_eq_false hm] at hq1
    have q0:¬ q ≥ 0:=of_decide_eq_false hq1
    obtain ⟨o2,⟨K3,ho2⟩,hres2⟩:=ih (n + 1) out (by omega) (by omega)
    simp only at ho2
    refine ⟨o2,⟨K1 + K3 + 2,fun k hk => ?_⟩,hres2⟩
    obtain ⟨m',rfl⟩ : ∃ m',k = m' + 2:=⟨k - 2,by omega⟩
    show g107_spec_pzLook.l0 (m' + 1 + 1) p l out hd c n = _
    rw [hbody (m' + 1) (by omega),if_neg q0]
    simp only [g107_spec_pzLook.j0]
    rw [hw1]
    exact ho2 m' (by omega)
  ·have hw2:0 ≤ rd c (p.length:Int) ∧ rd c (p.length:Int) ≠ n:=hwf.2 hf
   obtain ⟨o2,⟨K3,ho2⟩,hres2⟩:=ih (n + 1) out (by omega) (by omega)
   simp only at ho2
   rw [if_neg (fun h => hf h.1),List.nil_append]
   refine ⟨o2,⟨K3 + 2,fun k hk => ?_⟩,hres2⟩
   obtain ⟨m',rfl⟩ : ∃ m',k = m' + 2:=⟨k - 2,by omega⟩
   show g107_spec_pzLook.l0 (m' + 1 + 1) p l out hd c n = _
   simp only [g107_spec_pzLook.l0]
   rw [if_pos hn9,if_pos (by omega),if_pos (by omega),if_pos (by omega),if_neg hw2.2]
   simp only [g107_spec_pzLook.j0]
   rw [hw1]
   exact ho2 m' (by omega)
theorem spec_look (hd:List S64) (c:List Int) (hc:c.length ≤ 100) (hc9:∀ x ∈ c,-1 ≤ x):∀ (d:Nat) (p:List Int) (l:List S64) (out:List (List Int)),row l → 0 < p.length → p.length + l.length = c.length → l.length < d →
  ∃ r,Ev (fun k => g107_spec_pzLook.f k hd c p l out) r ∧ ResS out (srch c d p l) r:=by
 intro d
 induction d with
 | zero => intro p l out _ _ _ h; omega
 | succ d ih =>
  intro p l out hl hp hpc hd'
  by_cases hfull:out.length > 200
  ·refine ⟨out,ev_up (K:=0) fun k _ => ?_,ResS_full out _ hfull⟩
   simp only [g107_spec_pzLook.f]
   rw [if_pos (by omega)]
  ·by_cases h0:l = []
   ·subst h0
    have hpl:p.length = c.length:=by simpa using hpc
    refine ⟨out ++ [p],ev_up (K:=0) fun k _ => ?_,?_⟩
    ·simp only [g107_spec_pzLook.f]
     rw [if_neg (by omega),if_pos (by omega),own_f p (by omega)]
     simp only [Option.bind_some]
     rw [if_pos (by omega)]
    ·unfold ResS
     rw [srch,if_pos rfl]
     by_cases h:(out ++ [p]).length ≤ 200
     ·rw [if_pos h]
     ·rw [if_neg h]
      omega
   ·have hpos:0 < l.length:=List.length_pos_iff.2 h0
    obtain ⟨r,⟨K,h1⟩,h2⟩:=spec_loop hd c p l d hl hp (by omega) hc hc9 (fun n hn0 hn9 hm o => by
     have:=rem_len (row_nodup hl) _ hm
     exact ih (p ++ [n]) (rem l (sOf (last_ p) n)) o (row_rem hl _) (by simp) (by simp; omega) (by omega)) 10 0 out (by omega) (by omega)
    refine ⟨r,ev_up (K:=K) fun k hk => ?_,?_⟩
    ·simp only [g107_spec_pzLook.f]
     rw [if_neg (by omega),if_neg (by omega)]
     exact h1 k hk
    ·simp only [srch]
     rw [if_neg h0]
     exact h2
theorem spec_all_loop (hd:List S64) (l:List S64) (c:List Int) (hl:row l) (h0:l ≠ []) (hc:c.length ≤ 100) (hlc:c.length = l.length + 1) (hc9:∀ x ∈ c,-1 ≤ x):∀ (m:Nat) (n:Int) (out:List (List Int)),n + m = 10 → 0 ≤ n →
  ∃ r,Ev (fun k => g107_spec_pzLook.l0 k [] l out hd c n) r ∧ ResS out ((upf m n).flatMap fun n => if fit c 0 n = true then srch c (l.length + 1) [n] l else []) r:=by
 intro m
 induction m with
 | zero =>
  intro n out hn h0
  refine ⟨out,ev_up (K:=0) fun k _ => ?_,ResS_nil out⟩
  simp only [g107_spec_pzLook.l0]
  rw [if_neg (by omega)]
 | succ m ih =>
  intro n out hn hn0
  have hn9:n ≤ 9:=by omega
  have hw1:=t_wrap (n + 1) (by omega) (by omega)
  have hwf:=want_fit c hc9 0 n (by omega)
  have e0:((([] : List Int).length:Nat):Int) = ((0:Nat):Int):=rfl
  simp only [upf,List.flatMap_cons]
  by_cases hf:fit c 0 n = true
  ·have hcas:rd c ((0:Nat):Int) ≥ 0 → rd c ((0:Nat):Int) = n:=fun h0 => Classical.byContradiction fun h => (hwf.1 ⟨h0,h⟩) hf
   rw [if_pos hf]
   obtain ⟨t,⟨K1,ht⟩,ht1⟩:=times_any l (by have:=hl.1; omega) n
   simp only at ht
   have hbody:∀ k,K1 ≤ k → g107_spec_pzLook.l0 (k + 1) [] l out hd c n = if t > 0 then ((g107_spec_pzLook.f k hd c [n] l out).bind fun b8 => g107_spec_pzLook.j0 k [] l b8 hd c n) else g107_spec_pzLook.j0 k [] l out hd c n:=by
    intro k hk
    simp only [g107_spec_pzLook.l0]
    simp only [List.length_nil]
    rw [if_pos hn9,if_pos (show (0:Int) ≤ ((0:Nat):Int) by omega),if_pos (show ((0:Nat):Int) < (c.length:Int) by omega)]
    by_cases hg:rd c ((0:Nat):Int) ≥ 0
    ·rw [if_pos hg,if_pos (hcas hg),if_pos (show ((0:Nat):Int) = 0 from rfl),ht k hk]
     rfl
    ·rw [if_neg hg,if_pos (show ((0:Nat):Int) = 0 from rfl),ht k hk]
     rfl
   by_cases hx:∃ x ∈ l,x.f0 = n ∨ x.f1 = n
   ·have t0:=ht1.2 hx
    obtain ⟨o1,⟨K2,ho1⟩,hres1⟩:=spec_look hd c hc hc9 (l.length + 1) [n] l out hl (by simp) (by simp; omega) (by omega)
    obtain ⟨o2,⟨K3,ho2⟩,hres2⟩:=ih (n + 1) o1 (by omega) (by omega)
    simp only at ho1 ho2
    refine ⟨o2,⟨K1 + K2 + K3 + 2,fun k hk => ?_⟩,ResS_step hres1 hres2⟩
    obtain ⟨m',rfl⟩ : ∃ m',k = m' + 2:=⟨k - 2,by omega⟩
    show g107_spec_pzLook.l0 (m' + 1 + 1) [] l out hd c n = _
    rw [hbody (m' + 1) (by omega),if_pos t0,ho1 (m' + 1) (by omega)]
    simp only [Option.bind_some,g107_spec_pzLook.j0]
    rw [hw1]
    exact ho2 m' (by omega)
   ·have t0:¬ t > 0:=fun h => hx (ht1.1 h)
    rw [srch_none c _ n l h0 hx,List.nil_append]
    obtain ⟨o2,⟨K3,ho2⟩,hres2⟩:=ih (n + 1) out (by omega) (by omega)
    simp only at ho2
    refine ⟨o2,⟨K1 + K3 + 2,fun k hk => ?_⟩,hres2⟩
    obtain ⟨m',rfl⟩ : ∃ m',k = m' + 2:=⟨k - 2,by omega⟩
    show g107_spec_pzLook.l0 (m' + 1 + 1) [] l out hd c n = _
    rw [hbody (m' + 1) (by omega),if_neg t0]
    simp only [g107_spec_pzLook.j0]
    rw [hw1]
    exact ho2 m' (by omega)
  ·have hw2:0 ≤ rd c ((0:Nat):Int) ∧ rd c ((0:Nat):Int) ≠ n:=hwf.2 hf
   obtain ⟨o2,⟨K3,ho2⟩,hres2⟩:=ih (n + 1) out (by omega) (by omega)
   simp only at ho2
   rw [if_neg hf,List.nil_append]
   refine ⟨o2,⟨K3 + 2,fun k hk => ?_⟩,hres2⟩
   obtain ⟨m',rfl⟩ : ∃ m',k = m' + 2:=⟨k - 2,by omega⟩
   show g107_spec_pzLook.l0 (m' + 1 + 1) [] l out hd c n = _
   simp only [g107_spec_pzLook.l0]
   simp only [List.length_nil]
   rw [if_pos hn9,if_pos (show (0:Int) ≤ ((0:Nat):Int) by omega),if_pos (show ((0:Nat):Int) < (c.length:Int) by omega),if_pos (show rd c ((0:Nat):Int) ≥ 0 from hw2.1),if_neg hw2.2]
   simp only [g107_spec_pzLook.j0]
   rw [hw1]
   exact ho2 m' (by omega)
theorem sols_spec (l:List S64) (c:List Int) (hl:row l) (h0:l ≠ []) (hc:c.length ≤ 100) (hlc:c.length = l.length + 1) (hc9:∀ x ∈ c,-1 ≤ x):∃ o,Ev (fun k => spec_pzAll.f k l c) (o,decide ((sols c l).length ≤ 200)) ∧ ((sols c l).length ≤ 200 → o = sols c l):=by
 obtain ⟨o,⟨K,h1⟩,h2⟩:=spec_all_loop l l c hl h0 hc hlc hc9 10 0 [] (by omega) (by omega)
 simp only at h1
 unfold ResS at h2
 rw [List.nil_append] at h2
 have h4:(if (sols c l).length ≤ 200 then o = sols c l else 200 < o.length):=h2
 refine ⟨o,?_,fun h => by rw [if_pos h] at h4; exact h4⟩
 have hb:decide ((o.length:Int) ≤ 200) = decide ((sols c l).length ≤ 200):=by
  by_cases h:(sols c l).length ≤ 200
  ·rw [if_pos h] at h4
   subst h4
   rw [decide_eq_true h,decide_eq_true (by omega)]
  ·rw [if_neg h] at h4
   rw [decide_eq_false h,decide_eq_false (by omega)]
 refine ev_up (K:=K) fun k hk => ?_
 simp only [spec_pzAll.f,g107_spec_pzLook.f]
 rw [if_neg (by simp),if_neg (by simp; omega),h1 k hk]
 simp only [Option.bind_some,hb]
theorem asked_both (l:List S64) (c:List Int) (hl:l.length ≤ 2000000) (hc:c.length ≤ 2000000):∃ (b:Bool) (A o:List (List Int)),Ev (fun k => spec_pzAsked.f k l c) (o,b) ∧ Ev (fun k => impl_Solutions.f k l c) (A,b) ∧ (b = true → o = A) ∧ (b = false → A = []) ∧ A.length ≤ 200 ∧ (b = true → pz l c = true ∧ A = sols c l):=by
 have h1:=pz_spec l c hl hc
 have h2:=pz_impl l c hl
 unfold spec_pzAsked.f impl_Solutions.f
 cases hp:pz l c
 ·rw [hp] at h1 h2
  refine ⟨false,[],[],Ev.bind (f:=fun k t => _) h1 ⟨0,fun k _ => ?_⟩,Ev.bind (f:=fun k t => _) h2 ⟨0,fun k _ => ?_⟩,fun h => ?_,fun _ => rfl,?_,fun h => ?_⟩
  ·simp
  ·simp
  ·cases h
  ·simp
  ·cases h
 ·rw [hp] at h1 h2
  obtain ⟨p1,p2,p3,p4,p5,p6⟩:=pz_true l c hp
  have hrow:=row_of p3 p6
  have hne:l ≠ []:=fun e => by rw [e] at p1; simp at p1
  obtain ⟨o,g1,g2⟩:=sols_spec l c hrow hne (by omega) p4 (fun x hx => (p5 x hx).1)
  have g3:=sols_impl l c hrow (by omega) p4
  by_cases hs:(sols c l).length ≤ 200
  ·rw [if_pos hs] at g3
   rw [decide_eq_true hs] at g1
   refine ⟨true,sols c l,o,Ev.bind (f:=fun k t => _) h1 ?_,Ev.bind (f:=fun k t => _) h2 ?_,fun _ => g2 hs,fun h => absurd h (by decide),hs,fun _ => ⟨rfl,rfl⟩⟩
   ·simpa using Ev.bind (f:=fun _ (bt201:List (List Int) × Bool) => some (bt201.1,bt201.2)) g1 ⟨0,fun k _ => rfl⟩
   ·simpa using Ev.bind (f:=fun _ (bt201:List (List Int) × Bool) => some (bt201.1,bt201.2)) g3 ⟨0,fun k _ => rfl⟩
  ·rw [if_neg hs] at g3
   rw [decide_eq_false hs] at g1
   refine ⟨false,[],o,Ev.bind (f:=fun k t => _) h1 ?_,Ev.bind (f:=fun k t => _) h2 ?_,fun h => absurd h (by decide),fun _ => rfl,by simp,fun h => absurd h (by decide)⟩
   ·simpa using Ev.bind (f:=fun _ (bt201:List (List Int) × Bool) => some (bt201.1,bt201.2)) g1 ⟨0,fun k _ => rfl⟩
   ·simpa using Ev.bind (f:=fun _ (bt201:List (List Int) × Bool) => some (bt201.1,bt201.2)) g3 ⟨0,fun k _ => rfl⟩
theorem upf_mem:∀ (m:Nat) (n x:Int),x ∈ upf m n → n ≤ x ∧ x < n + m:=by
 intro m
 induction m with
 | zero => intro n x h; cases h
 | succ m ih =>
  intro n x h
  simp only [upf,List.mem_cons] at h
  rcases h with e | h
  ·omega
  ·have:=ih (n + 1) x h
   omega
theorem srch_mem (c:List Int):∀ (d:Nat) (p:List Int) (l:List S64),row l → (∀ x ∈ p,0 ≤ x ∧ x ≤ 9) → ∀ s ∈ srch c d p l,s.length = p.length + l.length ∧ ∀ x ∈ s,0 ≤ x ∧ x ≤ 9:=by
 intro d
 induction d with
 | zero => intro p l _ _ s hs; cases hs
 | succ d ih =>
  intro p l hl hp s hs
  simp only [srch] at hs
  by_cases h0:l = []
  ·rw [if_pos h0] at hs
   have e:s = p:=by simpa using hs
   subst e
   subst h0
   exact ⟨by simp,hp⟩
  ·rw [if_neg h0] at hs
   obtain ⟨n,hn,hs⟩:=List.mem_flatMap.1 hs
   have hn9:=upf_mem 10 0 n hn
   by_cases hc:fit c p.length n = true ∧ sOf (last_ p) n ∈ l
   ·rw [if_pos hc] at hs
    have hr:=rem_len (row_nodup hl) _ hc.2
    obtain ⟨h1,h2⟩:=ih (p ++ [n]) (rem l (sOf (last_ p) n)) (row_rem hl _) (fun x hx => by
     rcases List.mem_append.1 hx with hx | hx
     ·exact hp x hx
     ·have e:x = n:=by simpa using hx
      omega) s hs
    refine ⟨?_,h2⟩
    rw [h1]
    simp
    omega
   ·rw [if_neg hc] at hs
    cases hs
theorem sols_mem (c:List Int) (l:List S64) (hl:row l):∀ s ∈ sols c l,s.length = l.length + 1 ∧ ∀ x ∈ s,0 ≤ x ∧ x ≤ 9:=by
 intro s hs
 obtain ⟨n,hn,hs⟩:=List.mem_flatMap.1 hs
 have hn9:=upf_mem 10 0 n hn
 by_cases hf:fit c 0 n = true
 ·rw [if_pos hf] at hs
  obtain ⟨h1,h2⟩:=srch_mem c (l.length + 1) [n] l hl (fun x hx => by
   have e:x = n:=by simpa using hx
   omega) s hs
  exact ⟨by rw [h1]; simp; omega,h2⟩
 ·rw [if_neg hf] at hs
  cases hs
theorem rd_set (c:List Int) (i j:Nat) (v:Int):rd (c.set i v) (j:Int) = if i = j ∧ i < c.length then v else rd c (j:Int):=by
 unfold rd
 simp only [Int.toNat_natCast,List.getD_eq_getElem?_getD,List.getElem?_set]
 by_cases h:i = j
 ·subst h
  by_cases h2:i < c.length
  ·simp [h2]
  ·simp [h2]
 ·simp [h]
theorem rd_cons0 (x:Int) (xs:List Int):rd (x :: xs) ((0:Nat):Int) = x:=rfl
theorem rd_consS (x:Int) (xs:List Int) (j:Nat):rd (x :: xs) ((j + 1:Nat):Int) = rd xs (j:Int):=by
 unfold rd
 simp only [Int.toNat_natCast,List.getD_eq_getElem?_getD,List.getElem?_cons_succ]
theorem L_mid (pre:List (List Int)) (x:List Int) (xs:List (List Int)):rd_L4 (pre ++ x :: xs) (pre.length:Int) = x:=by
 unfold rd_L4
 rw [show ((pre.length:Int)).toNat = pre.length from rfl,List.getD_eq_getElem?_getD,List.getElem?_append_right (Nat.le_refl _),Nat.sub_self]
 rfl
def Inv (f o:List Int):Prop:=o.length = f.length ∧ ∀ j:Nat,j < f.length → rd o (j:Int) = rd f (j:Int) ∨ rd o (j:Int) = -1
theorem rd_get (l:List Int) (j:Nat) (h:j < l.length):rd l (j:Int) = l[j]:=by
 unfold rd
 rw [show ((j:Int)).toNat = j from rfl,List.getD_eq_getElem?_getD,List.getElem?_eq_getElem h]
 rfl
theorem rd_set2 (l:List Int) (i j:Nat) (v:Int) (hi:i < l.length):rd (l.set i v) (j:Int) = if i = j then v else rd l (j:Int):=by
 unfold rd
 rw [show ((j:Int)).toNat = j from rfl,List.getD_eq_getElem?_getD,List.getD_eq_getElem?_getD,List.getElem?_set]
 by_cases e:i = j
 ·subst e
  simp [hi]
 ·simp [e]
theorem set_same (l:List Int) (j:Nat) (v:Int) (h:j < l.length) (hv:rd l (j:Int) = v):l.set j v = l:=by
 rw [rd_get l j h] at hv
 subst hv
 exact List.set_getElem_self h
theorem sureV_in (A:List (List Int)) (f ch:List Int) (hA:0 < A.length) (hA2:A.length ≤ 1000) (hf:rd_L4 A 0 = f) (i:Nat) (hi:i < A.length) (hch:ch.length = f.length) (hfl:f.length ≤ 1000):∀ (d j:Nat) (o:List Int),j + d = f.length → Inv f o →
  ∃ o',Inv f o' ∧ (∀ R,Ev (fun k => spec_pzSure.l0 k o' A (A.length:Int) ((i + 1:Nat):Int)) R → Ev (fun k => spec_pzSure.l1 k o A (A.length:Int) (i:Int) ch (ch.length:Int) (j:Int)) R) ∧
   (∀ R,Ev (fun k => impl_SureNumbers.l0 k A o' A (A.length:Int) ((i + 1:Nat):Int)) R → Ev (fun k => impl_SureNumbers.l1 k A o A (A.length:Int) (i:Int) ch (ch.length:Int) (j:Int)) R) ∧
   ∀ q:Nat,rd o' (q:Int) = if j ≤ q ∧ q < f.length ∧ rd ch (q:Int) ≠ rd f (q:Int) then -1 else rd o (q:Int):=by
 intro d
 induction d with
 | zero =>
  intro j o hj ho
  have hw:=t_wrap ((i:Int) + 1) (by omega) (by omega)
  refine ⟨o,ho,fun R h => Ev.step (fun k => ?_) h,fun R h => Ev.step (fun k => ?_) h,fun q => by rw [if_neg (by omega)]⟩
  ·simp only [spec_pzSure.l1]
   rw [if_neg (by omega),hw]
   rfl
  ·simp only [impl_SureNumbers.l1]
   rw [if_neg (by omega),hw]
   rfl
 | succ d ih =>
  intro j o hj ho
  have hw:=t_wrap ((j:Int) + 1) (by omega) (by omega)
  have hol:=ho.1
  have hA0:0 < (A.length:Int):=by omega
  have key:∃ o1,Inv f o1 ∧ o1 = (if rd o (j:Int) = rd ch (j:Int) then o else o.set j (-1)) ∧ o1 = (if rd ch (j:Int) = rd f (j:Int) then o else o.set j (-1)):=by
   have hset:Inv f (o.set j (-1)):=⟨by simp [hol],fun q hq => by
    rw [rd_set2 o j q (-1) (by omega)]
    by_cases e:j = q
    ·rw [if_pos e]
     exact .inr rfl
    ·rw [if_neg e]
     exact ho.2 q hq⟩
   rcases ho.2 j (by omega) with h | h
   ·by_cases e:rd ch (j:Int) = rd f (j:Int)
    ·exact ⟨o,ho,by rw [if_pos (by rw [h,e])],by rw [if_pos e]⟩
    ·exact ⟨o.set j (-1),hset,by rw [if_neg (fun e2 => e (by rw [← e2,h]))],by rw [if_neg e]⟩
   ·have hs:=set_same o j (-1) (by omega) h
    refine ⟨o,ho,?_,?_⟩
    ·rw [hs]
     by_cases e:rd o (j:Int) = rd ch (j:Int)
     ·rw [if_pos e]
     ·rw [if_neg e]
    ·rw [hs]
     by_cases e:rd ch (j:Int) = rd f (j:Int)
     ·rw [if_pos e]
     ·rw [if_neg e]
  obtain ⟨o1,hi1,hs1,hm1⟩:=key
  obtain ⟨o',hi',hS,hI,hV⟩:=ih (j + 1) o1 (by omega) hi1
  refine ⟨o',hi',fun R h => ?_,fun R h => ?_,fun q => ?_⟩
  ·refine Ev.step (fun k => ?_) (hS R h)
   simp only [spec_pzSure.l1]
   rw [if_pos (by omega),if_pos (by omega),if_pos (by omega),if_pos (by omega),hw,hs1,show ((j:Int)).toNat = j from rfl]
   by_cases e:rd o (j:Int) = rd ch (j:Int)
   ·rw [if_pos e,if_pos e]
    rfl
   ·rw [if_neg e,if_neg e]
    rfl
  ·refine Ev.step (fun k => ?_) (hI R h)
   simp only [impl_SureNumbers.l1]
   rw [if_pos (by omega),if_pos (by omega),if_pos (by omega),if_pos hA0,hf,if_pos (by omega),hw,hm1,show ((j:Int)).toNat = j from rfl]
   by_cases e:rd ch (j:Int) = rd f (j:Int)
   ·rw [if_pos e,if_pos e]
    rfl
   ·rw [if_neg e,if_neg e,if_pos (by omega)]
    rfl
  ·rw [hV q,hm1]
   by_cases e:rd ch (j:Int) = rd f (j:Int)
   ·rw [if_pos e]
    by_cases ej:j = q
    ·subst ej
     rw [if_neg (by omega),if_neg (fun h => h.2.2 e)]
    ·by_cases h:j + 1 ≤ q ∧ q < f.length ∧ rd ch (q:Int) ≠ rd f (q:Int)
     ·rw [if_pos h,if_pos ⟨by omega,h.2⟩]
     ·rw [if_neg h,if_neg (fun g => h ⟨by omega,g.2⟩)]
   ·rw [if_neg e,rd_set2 o j q (-1) (by omega)]
    by_cases ej:j = q
    ·subst ej
     rw [if_neg (by omega),if_pos rfl,if_pos ⟨Nat.le_refl _,by omega,e⟩]
    ·rw [if_neg ej]
     by_cases h:j + 1 ≤ q ∧ q < f.length ∧ rd ch (q:Int) ≠ rd f (q:Int)
     ·rw [if_pos h,if_pos ⟨by omega,h.2⟩]
     ·rw [if_neg h,if_neg (fun g => h ⟨by omega,g.2⟩)]
theorem sureV_out (A:List (List Int)) (f:List Int) (hA2:A.length ≤ 1000) (hf:rd_L4 A 0 = f) (hfl:f.length ≤ 1000) (hall:∀ s ∈ A,s.length = f.length):∀ (rest pre:List (List Int)) (o:List Int),A = pre ++ rest → 0 < A.length → Inv f o →
  ∃ R,Inv f R ∧ Ev (fun k => spec_pzSure.l0 k o A (A.length:Int) (pre.length:Int)) R ∧ Ev (fun k => impl_SureNumbers.l0 k A o A (A.length:Int) (pre.length:Int)) (R,true) ∧
   ∀ q:Nat,q < f.length → rd R (q:Int) = if (∀ s ∈ rest,rd s (q:Int) = rd f (q:Int)) then rd o (q:Int) else -1:=by
 intro rest
 induction rest with
 | nil =>
  intro pre o e hA ho
  have hl:A.length = pre.length:=by rw [e]; simp
  refine ⟨o,ho,Ev.step (f:=fun _ => some o) (fun k => ?_) (Ev.now _),Ev.step (f:=fun _ => some (o,true)) (fun k => ?_) (Ev.now _),fun q _ => by rw [if_pos (fun s hs => by cases hs)]⟩
  ·simp only [spec_pzSure.l0]
   rw [if_neg (by omega)]
  ·simp only [impl_SureNumbers.l0]
   rw [if_neg (by omega)]
 | cons x xs ih =>
  intro pre o e hA ho
  have hl:A.length = pre.length + xs.length + 1:=by rw [e]; simp; omega
  have hx:rd_L4 A (pre.length:Int) = x:=by rw [e]; exact L_mid pre x xs
  obtain ⟨o',hi',hS,hI,hV⟩:=sureV_in A f x hA hA2 hf pre.length (by omega) (hall x (by rw [e]; simp)) hfl f.length 0 o (by omega) ho
  obtain ⟨R,hR,h1,h2,h3⟩:=ih (pre ++ [x]) o' (by rw [e]; simp) hA hi'
  rw [show ((pre ++ [x]).length:Int) = ((pre.length + 1:Nat):Int) from by simp] at h1 h2
  have h4:∀ q:Nat,q < f.length → rd R (q:Int) = if (∀ s ∈ x :: xs,rd s (q:Int) = rd f (q:Int)) then rd o (q:Int) else -1:=by
   intro q hq
   rw [h3 q hq,hV q]
   by_cases g:∀ s ∈ xs,rd s (q:Int) = rd f (q:Int)
   ·rw [if_pos g]
    by_cases e:rd x (q:Int) = rd f (q:Int)
    ·rw [if_neg (fun h => h.2.2 e),if_pos (fun s hs => by
      rcases List.mem_cons.1 hs with rfl | hs
      ·exact e
      ·exact g s hs)]
    ·rw [if_pos ⟨Nat.zero_le _,hq,e⟩,if_neg (fun h => e (h x List.mem_cons_self))]
   ·rw [if_neg g,if_neg (fun h => g fun s hs => h s (List.mem_cons_of_mem _ hs))]
  refine ⟨R,hR,Ev.step (fun k => ?_) (hS R h1),Ev.step (fun k => ?_) (hI (R,true) h2),h4⟩
  ·simp only [spec_pzSure.l0]
   rw [if_pos (by omega),if_pos (by omega),if_pos (by omega),hx]
   rfl
  ·simp only [impl_SureNumbers.l0]
   rw [if_pos (by omega),if_pos (by omega),if_pos (by omega),hx]
   rfl
theorem sureV_all (A:List (List Int)) (hA:0 < A.length) (hA2:A.length ≤ 1000) (hfl:(rd_L4 A 0).length ≤ 1000) (hall:∀ s ∈ A,s.length = (rd_L4 A 0).length) :
  ∃ R,Inv (rd_L4 A 0) R ∧ Ev (fun k => spec_pzSure.f k A) R ∧ Ev (fun k => (slices_Clone_int_int.f (rd_L4 A 0)).bind fun t => impl_SureNumbers.l0 k A t A (A.length:Int) 0) (R,true) ∧
   ∀ q:Nat,q < (rd_L4 A 0).length → rd R (q:Int) = if (∀ s ∈ A,rd s (q:Int) = rd (rd_L4 A 0) (q:Int)) then rd (rd_L4 A 0) (q:Int) else -1:=by
 obtain ⟨R,hR,h1,h2,h3⟩:=sureV_out A (rd_L4 A 0) hA2 rfl hfl hall A [] (rd_L4 A 0) rfl hA ⟨rfl,fun _ _ => .inl rfl⟩
 refine ⟨R,hR,Ev.congr (fun k => ?_) h1,Ev.congr (fun k => ?_) h2,h3⟩
 ·unfold spec_pzSure.f
  rw [if_pos (by omega),own_f _ (by omega)]
  rfl
 ·(try dsimp only)
  unfold slices_Clone_int_int.f
  rw [if_pos (by omega)]
  rfl
theorem sure_all (A:List (List Int)) (hA:0 < A.length) (hA2:A.length ≤ 1000) (hfl:(rd_L4 A 0).length ≤ 1000) (hall:∀ s ∈ A,s.length = (rd_L4 A 0).length) :
  ∃ R,Inv (rd_L4 A 0) R ∧ Ev (fun k => spec_pzSure.f k A) R ∧ Ev (fun k => (slices_Clone_int_int.f (rd_L4 A 0)).bind fun t => impl_SureNumbers.l0 k A t A (A.length:Int) 0) (R,true):=by
 obtain ⟨R,h1,h2,h3,_⟩:=sureV_all A hA hA2 hfl hall
 exact ⟨R,h1,h2,h3⟩
theorem first_of (A:List (List Int)) (h:0 < A.length):rd_L4 A 0 ∈ A:=by
 cases A with
 | nil => simp at h
 | cons x xs => exact List.mem_cons_self
theorem sure_both (l:List S64) (c:List Int) (hl:l.length ≤ 2000000) (hc:c.length ≤ 2000000):∃ r:List Int × Bool,Ev (fun k => (spec_pzAsked.f k l c).bind fun bt223 => (if bt223.2 = true then (if (bt223.1.length:Int) = 0 then (some (([] : List Int),false)) else ((spec_pzSure.f k bt223.1).bind fun t227 => (some (t227,true)))) else (some (([] : List Int),false)))) r ∧ Ev (fun k => impl_SureNumbers.f k l c) r ∧
  r.1.length ≤ 1000 ∧ (r.2 = false → r.1 = []) ∧ (r.2 = true → pz l c = true ∧ r.1.length = c.length ∧ ∀ x ∈ r.1,-1 ≤ x):=by
 obtain ⟨b,A,o,h1,h2,h3,h4,h5,h6⟩:=asked_both l c hl hc
 by_cases hA:A.length = 0
 ·refine ⟨([],false),Ev.bind (f:=fun k (bt223:List (List Int) × Bool) => _) h1 ⟨0,fun k _ => ?_⟩,?_,by simp,fun _ => rfl,fun h => by cases h⟩
  ·cases b with
   | true => simp [h3 rfl,hA]
   | false => simp
  ·unfold impl_SureNumbers.f
   refine Ev.bind (f:=fun k (bt223:List (List Int) × Bool) => _) h2 ⟨0,fun k _ => ?_⟩
   simp [hA]
 ·have hb:b = true:=by
   cases b with
   | true => rfl
   | false => exact absurd (by rw [h4 rfl]; rfl) hA
  subst hb
  obtain ⟨hp,hs⟩:=h6 rfl
  obtain ⟨p1,p2,p3,p4,p5,p6⟩:=pz_true l c hp
  have hmem:=sols_mem c l (row_of p3 p6)
  rw [← hs] at hmem
  have hfm:=hmem _ (first_of A (by omega))
  obtain ⟨R,hR,g1,g2⟩:=sure_all A (by omega) (by omega) (by omega) (fun s hs => by rw [(hmem s hs).1,hfm.1])
  have e:=h3 rfl
  subst e
  refine ⟨(R,true),Ev.bind (f:=fun k (bt223:List (List Int) × Bool) => _) h1 ?_,?_,by rw [hR.1]; omega,(fun h => by cases h),fun _ => ⟨hp,by rw [hR.1]; omega,fun x hx => ?_⟩⟩
  ·refine Ev.congr (f:=fun k => (spec_pzSure.f k o).bind fun t227 => (some (t227,true))) (fun k => ?_) (Ev.bind (f:=fun k (t:List Int) => some (t,true)) g1 ⟨0,fun k _ => rfl⟩)
   (try dsimp only)
   rw [if_pos rfl,if_neg (by omega)]
  ·unfold impl_SureNumbers.f
   refine Ev.bind (f:=fun k (bt223:List (List Int) × Bool) => _) h2 (Ev.congr (fun k => ?_) g2)
   (try dsimp only)
   rw [if_neg (by omega),if_pos (by omega)]
  ·have hx2:x ∈ R:=hx
   obtain ⟨j,hj,rfl⟩:=List.getElem_of_mem hx2
   show -1 ≤ R[j]
   rw [← rd_get R j hj]
   rcases hR.2 j (by have:=hR.1; omega) with h | h
   ·rw [h]
    have hj2:j < (rd_L4 o 0).length:=by have:=hR.1; omega
    rw [rd_get _ j hj2]
    have:=hfm.2 _ (List.getElem_mem hj2)
    omega
   ·rw [h]
    decide
theorem hint_loop (l:List S64) (c:List Int) (hc9:∀ x ∈ c,-1 ≤ x):∀ (rest pre:List Int),(pre ++ rest).length = c.length → c.length ≤ 1000 → (∀ x ∈ rest,-1 ≤ x) →
  ∃ r:Int × Int × Bool,Ev (fun k => spec_HintOf.l0 k (pre ++ rest) ((pre ++ rest).length:Int) (pre.length:Int) l c) r ∧ Ev (fun k => impl_HintOf.l0 k (pre ++ rest) ((pre ++ rest).length:Int) (pre.length:Int) l c) r:=by
 intro rest
 induction rest with
 | nil =>
  intro pre hl hc _
  refine ⟨(0,0,false),Ev.step (f:=fun _ => some (0,0,false)) (fun k => ?_) (Ev.now _),Ev.step (f:=fun _ => some (0,0,false)) (fun k => ?_) (Ev.now _)⟩
  ·simp only [spec_HintOf.l0,List.append_nil]
   rw [if_neg (by omega)]
  ·simp only [impl_HintOf.l0,List.append_nil]
   rw [if_neg (by omega)]
 | cons x xs ih =>
  intro pre hl hc hx
  have hlen:(pre ++ x :: xs).length = pre.length + xs.length + 1:=by simp; omega
  have e1:pre ++ [x] ++ xs = pre ++ x :: xs:=by simp
  obtain ⟨r,h1,h2⟩:=ih (pre ++ [x]) (by rw [e1]; exact hl) hc (fun y hy => hx y (List.mem_cons_of_mem _ hy))
  rw [e1] at h1 h2
  have hx1:=hx x List.mem_cons_self
  have hcm : -1 ≤ rd c (pre.length:Int):=by
   rw [rd_get c pre.length (by omega)]
   exact hc9 _ (List.getElem_mem _)
  have hw:=t_wrap ((pre.length:Int) + 1) (by omega) (by omega)
  have hp1:(((pre ++ [x]).length:Nat):Int) = (pre.length:Int) + 1:=by simp
  rw [hp1] at h1 h2
  by_cases ha:x = -1
  ·refine ⟨r,Ev.step (fun k => ?_) h1,Ev.step (fun k => ?_) h2⟩
   ·simp only [spec_HintOf.l0]
    rw [if_pos (by omega),if_pos (by omega),if_pos (by omega),if_pos (by omega),i_mid,hw]
    by_cases hb:rd c (pre.length:Int) < 0
    ·rw [if_pos hb,if_neg (by omega)]
    ·rw [if_neg hb]
   ·simp only [impl_HintOf.l0]
    rw [if_pos (by omega),if_pos (by omega),if_pos (by omega),i_mid,if_pos ha,hw]
  ·by_cases hb:rd c (pre.length:Int) = -1
   ·refine ⟨((pre.length:Int),x,true),Ev.step (f:=fun _ => some ((pre.length:Int),x,true)) (fun k => ?_) (Ev.now _),Ev.step (f:=fun _ => some ((pre.length:Int),x,true)) (fun k => ?_) (Ev.now _)⟩
    ·simp only [spec_HintOf.l0]
     rw [if_pos (by omega),if_pos (by omega),if_pos (by omega),if_pos (by omega),i_mid,if_pos (by omega),if_pos (by omega)]
    ·simp only [impl_HintOf.l0]
     rw [if_pos (by omega),if_pos (by omega),if_pos (by omega),i_mid,if_neg ha,if_pos (by omega),if_pos hb]
   ·refine ⟨r,Ev.step (fun k => ?_) h1,Ev.step (fun k => ?_) h2⟩
    ·simp only [spec_HintOf.l0]
     rw [if_pos (by omega),if_pos (by omega),if_pos (by omega),if_pos (by omega),if_neg (by omega),hw]
    ·simp only [impl_HintOf.l0]
     rw [if_pos (by omega),if_pos (by omega),if_pos (by omega),i_mid,if_neg ha,if_pos (by omega),if_neg hb,hw]
theorem hint_both (l:List S64) (c:List Int) (hl:l.length ≤ 2000000) (hc:c.length ≤ 2000000):∃ r:Int × Int × Bool,Ev (fun k => spec_HintOf.f k l c) r ∧ Ev (fun k => impl_HintOf.f k l c) r:=by
 obtain ⟨r,h1,h2,h3,h4,h5⟩:=sure_both l c hl hc
 obtain ⟨R,b⟩:=r
 cases b with
 | false =>
  have e:R = []:=h4 rfl
  subst e
  refine ⟨(0,0,false),?_,?_⟩
  ·obtain ⟨b,A,o,g1,g2,g3,g4,g5,g6⟩:=asked_both l c hl hc
   unfold spec_HintOf.f
   refine Ev.bind (f:=fun k (bt:List (List Int) × Bool) => _) g1 ?_
   cases b with
   | false => exact Ev.step (f:=fun _ => some (0,0,false)) (fun k => by simp [spec_HintOf.j0]) (Ev.now _)
   | true =>
    by_cases hA:A.length = 0
    ·refine Ev.step (f:=fun _ => some (0,0,false)) (fun k => ?_) (Ev.now _)
     simp [spec_HintOf.j0,g3 rfl,hA]
    ·exfalso
     have e:=g3 rfl
     subst e
     obtain ⟨K1,hk1⟩:=h2
     obtain ⟨K2,hk2⟩:=g2
     have q:=hk1 (max K1 K2) (Nat.le_max_left _ _)
     have q2:=hk2 (max K1 K2) (Nat.le_max_right _ _)
     obtain ⟨hp,hs⟩:=g6 rfl
     obtain ⟨p1,p2,p3,p4,p5,p6⟩:=pz_true l c hp
     have hmem:=sols_mem c l (row_of p3 p6)
     rw [← hs] at hmem
     have hfm:=hmem _ (first_of o (by omega))
     obtain ⟨R,hR,s1,s2⟩:=sure_all o (by omega) (by omega) (by omega) (fun s hs => by rw [(hmem s hs).1,hfm.1])
     obtain ⟨K3,hk3⟩:=s2
     have m3:=hk3 (max (max K1 K2) K3) (Nat.le_max_right _ _)
     have m2:=hk2 (max (max K1 K2) K3) (Nat.le_trans (Nat.le_max_right _ _) (Nat.le_max_left _ _))
     have m1:=hk1 (max (max K1 K2) K3) (Nat.le_trans (Nat.le_max_left _ _) (Nat.le_max_left _ _))
     unfold impl_SureNumbers.f at m1
     (try dsimp only at m1)
     rw [show impl_Solutions.f (max (max K1 K2) K3) l c = some (o,true) from m2] at m1
     simp only [Option.bind_some] at m1
     rw [if_neg (by omega),if_pos (by omega)] at m1
     rw [show ((slices_Clone_int_int.f (rd_L4 o 0)).bind fun t => impl_SureNumbers.l0 (max (max K1 K2) K3) o t o (o.length:Int) 0) = some (R,true) from m3] at m1
     cases m1
  ·unfold impl_HintOf.f
   refine Ev.bind (f:=fun k (bt:List Int × Bool) => _) h2 (Ev.step (f:=fun _ => some (0,0,false)) (fun k => ?_) (Ev.now _))
   simp [impl_HintOf.l0]
 | true =>
  obtain ⟨hp,hRl,hR9⟩:=h5 rfl
  obtain ⟨p1,p2,p3,p4,p5,p6⟩:=pz_true l c hp
  obtain ⟨r,q1,q2⟩:=hint_loop l c (fun x hx => (p5 x hx).1) R [] (by simpa using hRl) (by omega) hR9
  refine ⟨r,?_,?_⟩
  ·obtain ⟨b,A,o,g1,g2,g3,g4,g5,g6⟩:=asked_both l c hl hc
   unfold spec_HintOf.f
   refine Ev.bind (f:=fun k (bt:List (List Int) × Bool) => _) g1 ?_
   obtain ⟨K1,hk1⟩:=h1
   obtain ⟨K2,hk2⟩:=g1
   have hall:∀ k,K1 ≤ k → K2 ≤ k → b = true ∧ ¬ o.length = 0 ∧ spec_pzSure.f k o = some R:=by
    intro k a1 a2
    have m1:=hk1 k a1
    (try dsimp only at m1)
    rw [show (spec_pzAsked.f k l c) = some (o,b) from hk2 k a2] at m1
    simp only [Option.bind_some] at m1
    cases b with
    | false => simp at m1
    | true =>
     simp only [if_true] at m1
     by_cases hz:(o.length:Int) = 0
     ·rw [if_pos hz] at m1
      simp at m1
     ·rw [if_neg hz] at m1
      obtain ⟨t,ht,m1⟩:=Option.bind_eq_some_iff.1 m1
      simp only [Option.some.injEq,Prod.mk.injEq] at m1
      exact ⟨rfl,by omega,by rw [ht,m1.1]⟩
   have h0:=hall (max K1 K2) (Nat.le_max_left _ _) (Nat.le_max_right _ _)
   have hev:Ev (fun k => spec_pzSure.f k o) R:=⟨max K1 K2,fun k hk => (hall k (Nat.le_trans (Nat.le_max_left _ _) hk) (Nat.le_trans (Nat.le_max_right _ _) hk)).2.2⟩
   rw [h0.1]
   refine Ev.step (f:=fun k => (spec_pzSure.f k o).bind fun t218 => (spec_HintOf.l0 k t218 (t218.length:Int) 0 l c)) (fun k => ?_) (Ev.bind (f:=fun k (t:List Int) => _) hev (by simpa using q1))
   have hz:((o.length:Int) == 0) = false:=beq_eq_false_iff_ne.2 (by have:=h0.2.1; omega)
   simp [spec_HintOf.j0,hz]
  ·unfold impl_HintOf.f
   refine Ev.bind (f:=fun k (bt:List Int × Bool) => _) h2 (by simpa using q2)
theorem count_both (l:List S64) (c:List Int) (hl:l.length ≤ 2000000) (hc:c.length ≤ 2000000):∃ r:Int × Bool,Ev (fun k => spec_CountSolutions.f k l c) r ∧ Ev (fun k => impl_CountSolutions.f k l c) r:=by
 obtain ⟨b,A,o,h1,h2,h3,h4,_,_⟩:=asked_both l c hl hc
 refine ⟨((A.length:Int),b),?_,?_⟩
 ·unfold spec_CountSolutions.f
  refine Ev.bind (f:=fun k (bt206:List (List Int) × Bool) => _) h1 ⟨0,fun k _ => ?_⟩
  cases b with
  | true => simp [h3 rfl]
  | false => simp [h4 rfl]
 ·unfold impl_CountSolutions.f
  exact Ev.bind (f:=fun k (bt238:List (List Int) × Bool) => _) h2 ⟨0,fun k _ => rfl⟩
theorem first_both (l:List S64) (c:List Int) (hl:l.length ≤ 2000000) (hc:c.length ≤ 2000000):∃ r:List Int × Bool,Ev (fun k => spec_FirstSolution.f k l c) r ∧ Ev (fun k => impl_FirstSolution.f k l c) r ∧ r.1.length ≤ 1000:=by
 obtain ⟨b,A,o,h1,h2,h3,h4,h5,h6⟩:=asked_both l c hl hc
 unfold spec_FirstSolution.f impl_FirstSolution.f
 by_cases hA:A.length = 0
 ·refine ⟨([],false),Ev.bind (f:=fun k (bt:List (List Int) × Bool) => _) h1 ⟨0,fun k _ => ?_⟩,Ev.bind (f:=fun k (bt:List (List Int) × Bool) => _) h2 ⟨0,fun k _ => ?_⟩,by simp⟩
  ·cases b with
   | true => simp [h3 rfl,hA]
   | false => simp
  ·simp [hA]
 ·have hb:b = true:=by
   cases b with
   | true => rfl
   | false => exact absurd (by rw [h4 rfl]; rfl) hA
  subst hb
  obtain ⟨hp,hs⟩:=h6 rfl
  obtain ⟨p1,p2,p3,p4,p5,p6⟩:=pz_true l c hp
  have hmem:=sols_mem c l (row_of p3 p6)
  rw [← hs] at hmem
  have hfm:=hmem _ (first_of A (by omega))
  have e:=h3 rfl
  subst e
  refine ⟨(rd_L4 o 0,true),Ev.bind (f:=fun k (bt:List (List Int) × Bool) => _) h1 ⟨0,fun k _ => ?_⟩,Ev.bind (f:=fun k (bt:List (List Int) × Bool) => _) h2 ⟨0,fun k _ => ?_⟩,by have:=hfm.1; show (rd_L4 o 0).length ≤ 1000; omega⟩
  ·(try dsimp only)
   rw [if_pos rfl,if_neg (by omega),if_pos (by omega)]
  ·(try dsimp only)
   rw [if_neg (by omega),if_pos (by omega)]
theorem gaps_spec:∀ (rest pre:List Int) (a:Int),(pre ++ rest).length ≤ 2000000 → (∀ x ∈ rest,-1 ≤ x) → 0 ≤ a → a ≤ pre.length → Ev (fun k => spec_CountGaps.l0 k a (pre ++ rest) ((pre ++ rest).length:Int) (pre.length:Int)) (a + ((rest.countP fun x => x == -1:Nat):Int),true):=by
 intro rest
 induction rest with
 | nil =>
  intro pre a hl hr h0 h1
  refine Ev.step (f:=fun _ => some (a + (([] : List Int).countP fun x => x == -1:Nat),true)) (fun k => ?_) (Ev.now _)
  simp only [spec_CountGaps.l0,List.append_nil]
  rw [if_neg (by omega)]
  simp
 | cons x xs ih =>
  intro pre a hl hr h0 h1
  have hlen:(pre ++ x :: xs).length = pre.length + xs.length + 1:=by simp; omega
  have e1:pre ++ [x] ++ xs = pre ++ x :: xs:=by simp
  have hx:=hr x List.mem_cons_self
  by_cases e:x = -1
  ·have hi:=ih (pre ++ [x]) (a + 1) (by simpa using hl) (fun y hy => hr y (List.mem_cons_of_mem _ hy)) (by omega) (by simp; omega)
   rw [e1] at hi
   refine Ev.step (fun k => ?_) (show Ev _ (a + (((x :: xs).countP fun x => x == -1:Nat):Int),true) from by
    have:((x :: xs).countP fun x => x == -1) = (xs.countP fun x => x == -1) + 1:=by simp [e]
    rw [this,show a + (((xs.countP fun x => x == -1) + 1:Nat):Int) = a + 1 + ((xs.countP fun x => x == -1:Nat):Int) from by omega]
    exact hi)
   simp only [spec_CountGaps.l0]
   rw [if_pos (by omega),if_pos (by omega),if_pos (by omega),i_mid,if_pos (by omega),t_wrap ((pre.length:Int) + 1) (by omega) (by omega),t_wrap (a + 1) (by omega) (by omega)]
   simp
  ·have hi:=ih (pre ++ [x]) a (by simpa using hl) (fun y hy => hr y (List.mem_cons_of_mem _ hy)) (by omega) (by simp; omega)
   rw [e1] at hi
   refine Ev.step (fun k => ?_) (show Ev _ (a + (((x :: xs).countP fun x => x == -1:Nat):Int),true) from by
    have:((x :: xs).countP fun x => x == -1) = (xs.countP fun x => x == -1):=by simp [e]
    rw [this]
    exact hi)
   simp only [spec_CountGaps.l0]
   rw [if_pos (by omega),if_pos (by omega),if_pos (by omega),i_mid,if_neg (by omega),t_wrap ((pre.length:Int) + 1) (by omega) (by omega)]
   simp
theorem gaps_impl:∀ (rest pre:List Int) (a:Int),(pre ++ rest).length ≤ 2000000 → 0 ≤ a → a ≤ pre.length → Ev (fun k => impl_CountGaps.l0 k a (pre ++ rest) ((pre ++ rest).length:Int) (pre.length:Int)) (a + ((rest.countP fun x => x == -1:Nat):Int),true):=by
 intro rest
 induction rest with
 | nil =>
  intro pre a hl h0 h1
  refine Ev.step (f:=fun _ => some (a + (([] : List Int).countP fun x => x == -1:Nat),true)) (fun k => ?_) (Ev.now _)
  simp only [impl_CountGaps.l0,List.append_nil]
  rw [if_neg (by omega)]
  simp
 | cons x xs ih =>
  intro pre a hl h0 h1
  have hlen:(pre ++ x :: xs).length = pre.length + xs.length + 1:=by simp; omega
  have e1:pre ++ [x] ++ xs = pre ++ x :: xs:=by simp
  by_cases e:x = -1
  ·have hi:=ih (pre ++ [x]) (a + 1) (by simpa using hl) (by omega) (by simp; omega)
   rw [e1] at hi
   refine Ev.step (fun k => ?_) (show Ev _ (a + (((x :: xs).countP fun x => x == -1:Nat):Int),true) from by
    have:((x :: xs).countP fun x => x == -1) = (xs.countP fun x => x == -1) + 1:=by simp [e]
    rw [this,show a + (((xs.countP fun x => x == -1) + 1:Nat):Int) = a + 1 + ((xs.countP fun x => x == -1:Nat):Int) from by omega]
    exact hi)
   have hb:impl_bit.f (x == -1) = some 1:=by simp [impl_bit.f,e]
   simp only [impl_CountGaps.l0]
   rw [if_pos (by omega),if_pos (by omega),if_pos (by omega),i_mid,hb]
   simp only [Option.bind_some]
   rw [t_wrap ((pre.length:Int) + 1) (by omega) (by omega),t_wrap (a + 1) (by omega) (by omega)]
   simp
  ·have hi:=ih (pre ++ [x]) a (by simpa using hl) (by omega) (by simp; omega)
   rw [e1] at hi
   refine Ev.step (fun k => ?_) (show Ev _ (a + (((x :: xs).countP fun x => x == -1:Nat):Int),true) from by
    have:((x :: xs).countP fun x => x == -1) = (xs.countP fun x => x == -1):=by simp [e]
    rw [this]
    exact hi)
   have hb:impl_bit.f (x == -1) = some 0:=by simp [impl_bit.f,e]
   simp only [impl_CountGaps.l0]
   rw [if_pos (by omega),if_pos (by omega),if_pos (by omega),i_mid,hb]
   simp only [Option.bind_some]
   rw [t_wrap ((pre.length:Int) + 1) (by omega) (by omega),t_wrap (a + 0) (by omega) (by omega),Int.add_zero]
   simp
theorem gaps_both (l:List S64) (c:List Int) (hl:l.length ≤ 2000000) (hc:c.length ≤ 2000000):∃ r:Int × Bool,Ev (fun k => spec_CountGaps.f k l c) r ∧ Ev (fun k => impl_CountGaps.f k l c) r:=by
 have h1:=pz_spec l c hl hc
 have h2:=pz_impl l c hl
 unfold spec_CountGaps.f impl_CountGaps.f
 cases hp:pz l c
 ·rw [hp] at h1 h2
  exact ⟨(0,false),Ev.bind (f:=fun k t180 => (if t180 = true then (spec_CountGaps.l0 k 0 c (c.length:Int) 0) else (some (0,false)))) h1 ⟨0,fun k _ => by simp⟩,Ev.bind (f:=fun k t200 => (if t200 = true then (impl_CountGaps.l0 k 0 c (c.length:Int) 0) else (some (0,false)))) h2 ⟨0,fun k _ => by simp⟩⟩
 ·rw [hp] at h1 h2
  obtain ⟨_,_,_,_,h5,_⟩:=pz_true l c hp
  have g1:=gaps_spec c [] 0 (by simpa using hc) (fun x hx => (h5 x hx).1) (by omega) (by simp)
  have g2:=gaps_impl c [] 0 (by simpa using hc) (by omega) (by simp)
  refine ⟨_,Ev.bind (f:=fun k t180 => (if t180 = true then (spec_CountGaps.l0 k 0 c (c.length:Int) 0) else (some (0,false)))) h1 (by simpa using g1),Ev.bind (f:=fun k t200 => (if t200 = true then (impl_CountGaps.l0 k 0 c (c.length:Int) 0) else (some (0,false)))) h2 (by simpa using g2)⟩
def tilesL:List Int → List S64
 | [] => []
 | x :: xs => (match xs with | [] => [] | y :: _ => [tileOf x y]) ++ tilesL xs
theorem tilesL_two (x y:Int) (r:List Int):tilesL (x :: y :: r) = tileOf x y :: tilesL (y :: r):=rfl
theorem tilesL_len:∀ c:List Int,(tilesL c).length = c.length - 1
 | [] => rfl
 | [_] => rfl
 | x :: y :: r => by
  rw [tilesL_two,List.length_cons,tilesL_len (y :: r)]
  simp
theorem haTiles_ev:∀ (rest pre:List Int) (o:List S64),(pre ++ rest).length ≤ 2000000 → o.length ≤ pre.length → 0 < pre.length →
  Ev (fun k => spec_haTiles.l0 k (pre ++ rest) o (pre.length:Int)) (o ++ tilesL (pre.getLast! :: rest)) ∧ Ev (fun k => impl_tilesOf.l0 k (pre ++ rest) o (pre.length:Int)) (o ++ tilesL (pre.getLast! :: rest)):=by
 intro rest
 induction rest with
 | nil =>
  intro pre o h1 h2 h3
  constructor
  ·refine Ev.step (f:=fun _ => some (o ++ tilesL [pre.getLast!])) (fun k => ?_) (Ev.now _)
   simp only [spec_haTiles.l0,List.append_nil]
   rw [if_neg (by omega)]
   simp [tilesL]
  ·refine Ev.step (f:=fun _ => some (o ++ tilesL [pre.getLast!])) (fun k => ?_) (Ev.now _)
   simp only [impl_tilesOf.l0,List.append_nil]
   rw [if_neg (by omega)]
   simp [tilesL]
 | cons x xs ih =>
  intro pre o h1 h2 h3
  have hlen:(pre ++ x :: xs).length = pre.length + xs.length + 1:=by simp; omega
  have e1:pre ++ [x] ++ xs = pre ++ x :: xs:=by simp
  have hl:(pre ++ [x]).getLast! = x:=by simp [List.getLast!_eq_getLast?_getD]
  have hp:rd (pre ++ x :: xs) ((pre.length:Int) - 1) = pre.getLast!:=by
   unfold rd
   rw [show ((pre.length:Int) - 1).toNat = pre.length - 1 from by omega,List.getD_eq_getElem?_getD,List.getElem?_append_left (by omega),List.getLast!_eq_getLast?_getD,List.getLast?_eq_getElem?]
   rfl
  obtain ⟨i1,i2⟩:=ih (pre ++ [x]) (o ++ [tileOf pre.getLast! x]) (by simpa using h1) (by simp; omega) (by simp)
  rw [e1,hl] at i1 i2
  have ht:o ++ tilesL (pre.getLast! :: x :: xs) = o ++ [tileOf pre.getLast! x] ++ tilesL (x :: xs):=by
   rw [tilesL_two]
   simp
  rw [ht]
  constructor
  ·refine Ev.step (fun k => ?_) i1
   simp only [spec_haTiles.l0]
   rw [if_pos (by omega),t_wrap ((pre.length:Int) - 1) (by omega) (by omega),if_pos (by omega),if_pos (by omega),if_pos (by omega),hp,i_mid,tiOf_f]
   simp only [Option.bind_some]
   rw [if_pos (by omega),t_wrap ((pre.length:Int) + 1) (by omega) (by omega)]
   simp
  ·refine Ev.step (fun k => ?_) i2
   simp only [impl_tilesOf.l0,impl_tile.f,Option.bind_some]
   rw [if_pos (by omega),t_wrap ((pre.length:Int) - 1) (by omega) (by omega),if_pos (by omega),if_pos (by omega),if_pos (by omega),hp,i_mid,if_pos (by omega),t_wrap ((pre.length:Int) + 1) (by omega) (by omega)]
   simp [tileOf]
theorem haTiles_f (c:List Int) (h:c.length ≤ 2000000):Ev (fun k => spec_haTiles.f k c) (tilesL c) ∧ Ev (fun k => impl_tilesOf.f k c) (tilesL c):=by
 unfold spec_haTiles.f impl_tilesOf.f
 cases c with
 | nil =>
  constructor
  ·refine Ev.step (f:=fun _ => some []) (fun k => ?_) (Ev.now _)
   simp [spec_haTiles.l0]
  ·refine Ev.step (f:=fun _ => some []) (fun k => ?_) (Ev.now _)
   simp [impl_tilesOf.l0]
 | cons x xs =>
  obtain ⟨i1,i2⟩:=haTiles_ev xs [x] [] (by simpa using h) (by simp) (by simp)
  exact ⟨i1,i2⟩
theorem tilesL_good (c:List Int) (h:c.all (inB 0 9) = true):∀ x ∈ tilesL c,good x = true:=by
 induction c with
 | nil => intro x hx; cases hx
 | cons a r ih =>
  rw [List.all_cons,Bool.and_eq_true] at h
  cases r with
  | nil => intro x hx; cases hx
  | cons b r =>
   intro x hx
   rw [tilesL_two] at hx
   rcases List.mem_cons.1 hx with rfl | hx
   ·have h2:=h.2
    rw [List.all_cons,Bool.and_eq_true] at h2
    have ha:=h.1
    have hb:=h2.1
    unfold inB at ha hb
    simp only [Bool.and_eq_true,decide_eq_true_eq] at ha hb
    rw [good_iff]
    unfold tileOf mn mx
    simp only
    split <;> split <;> omega
   ·exact ih h.2 x hx
def ch (c:List Int):Bool:=decide (1 ≤ c.length) && (c.all (inB 0 9) && nd [] (tilesL c))
theorem ch_true (c:List Int) (h:ch c = true):1 ≤ c.length ∧ c.length ≤ 56 ∧ (∀ x ∈ c,0 ≤ x ∧ x ≤ 9) ∧ isH (tilesL c) = true:=by
 unfold ch at h
 simp only [Bool.and_eq_true,decide_eq_true_eq] at h
 obtain ⟨h1,h2,h3⟩:=h
 have hg:=tilesL_good c h2
 obtain ⟨A,_,hA,hP,hm⟩:=whole
 have hle:=len_le (tilesL c) A (nd_nodup _ _ h3).2 (fun x hx => (hm x).2 (hg x hx))
 rw [tilesL_len,hA] at hle
 refine ⟨h1,by omega,fun x hx => ?_,?_⟩
 ·have:=List.all_eq_true.1 h2 x hx
  unfold inB at this
  simpa using this
 ·unfold isH
  rw [decide_eq_true (by rw [tilesL_len]; omega),h3,List.all_eq_true.2 hg]
  rfl
theorem ch_spec (c:List Int) (h:c.length ≤ 2000000):Ev (fun k => spec_haGood.f k c) (ch c):=by
 unfold spec_haGood.f
 rw [l1In_f]
 simp only [Option.bind_some]
 cases h1:inB 1 56 (c.length:Int)
 ·refine ⟨0,fun k _ => ?_⟩
  have:ch c = false:=by
   cases hc:ch c
   ·rfl
   ·obtain ⟨a,b,_⟩:=ch_true c hc
    have:inB 1 56 (c.length:Int) = true:=(inB_iff _ _ _).2 (by omega)
    rw [this] at h1
    cases h1
  simp [this]
 ·simp only [if_true]
  have hb:=(inB_iff _ _ _).1 h1
  refine Ev.bind (f:=fun k t => _) (l1All_f 0 9 c h) ?_
  cases h2:c.all (inB 0 9)
  ·refine ⟨0,fun k _ => ?_⟩
   simp [ch,h2]
  ·simp only [if_true]
   refine Ev.bind (f:=fun k t => _) (haTiles_f c h).1 ?_
   refine Ev.bind (f:=fun k t => _) (isH_spec (tilesL c) (by rw [tilesL_len]; omega)) ⟨0,fun k _ => ?_⟩
   have:isH (tilesL c) = ch c:=by
    unfold isH ch
    rw [h2,List.all_eq_true.2 (tilesL_good c h2),decide_eq_true (show (tilesL c).length ≤ 55 from by rw [tilesL_len]; omega),decide_eq_true (show 1 ≤ c.length from by omega)]
   rw [this]
theorem ch_impl (c:List Int) (h:c.length ≤ 2000000):Ev (fun k => impl_IsChain.f k c) (ch c):=by
 unfold impl_IsChain.f impl_areWithin.f
 by_cases h1:(c.length:Int) > 0
 ·simp only [if_pos h1,Option.bind_some]
  rw [any_out]
  cases h2:c.all (inB 0 9)
  ·refine ⟨0,fun k _ => ?_⟩
   simp [ch,h2]
  ·simp only [if_true]
   refine Ev.bind (f:=fun k t => _) (haTiles_f c h).2 ?_
   have hi:=areDiff_ev (tilesL c) [] (by simp; rw [tilesL_len]; omega)
   refine Ev.bind (f:=fun k t => _) (show Ev (fun k => impl_areDifferent_impl_Tile.f k (tilesL c)) (nd [] (tilesL c)) from hi) ⟨0,fun k _ => ?_⟩
   have:nd [] (tilesL c) = ch c:=by
    unfold ch
    rw [h2,decide_eq_true (show 1 ≤ c.length from by omega)]
    rfl
   rw [this]
 ·simp only [if_neg h1]
  refine ⟨0,fun k _ => ?_⟩
  have:c.length = 0:=by omega
  simp [ch,this]
theorem wf_u8 (l:List Int) (h:∀ x_ ∈ l,(Lit.int .u8 x_).wf = true):∀ x ∈ l,0 ≤ x ∧ x ≤ 255:=by
 intro x hx
 have h1:(decide (IntKind.u8.min ≤ x) && decide (x ≤ IntKind.u8.max)) = true:=h x hx
 have h2:IntKind.u8.min = 0:=by decide
 have h3:IntKind.u8.max = 255:=by decide
 rw [h2,h3] at h1
 simpa using h1
theorem sorted_set (l:List S64) (h:isH l = true):∃ s:List S64,impl_sorted.f l = some s ∧ s.length = l.length ∧ s.Pairwise lt ∧ (∀ x,x ∈ s ↔ x ∈ l):=by
 obtain ⟨s,_,h2,h3⟩:=sorted_both l h
 obtain ⟨i1,i2,i3⟩:=isH_true l h
 have e:s = msort l:=by
  unfold impl_sorted.f slices_Clone_impl_Tile_impl_Tile.f at h2
  rw [if_pos (by omega)] at h2
  simp only [Option.bind_some] at h2
  rw [if_pos (List.all_eq_true.2 (fun x hx => by rw [smallT_iff]; have:=(good_iff x).1 (i2 x hx); omega))] at h2
  exact (Option.some.inj h2).symm
 subst e
 exact ⟨_,h2,h3,msort_lt l i3,fun x => (List.mergeSort_perm l _).mem_iff⟩
theorem seq_ev (s l:List S64) (hs:s.length ≤ l.length) (hl:l.length ≤ 1000):∀ (d i:Nat),i + d = s.length → ∃ b:Bool,Ev (fun k => slices_Equal_impl_Tile_impl_Tile.l0 k s l (s.length:Int) (i:Int)) b ∧ (b = true ↔ ∀ j,i ≤ j → j < s.length → s.getD j z64 = l.getD j z64):=by
 intro d
 induction d with
 | zero =>
  intro i hi
  refine ⟨true,Ev.step (f:=fun _ => some true) (fun k => ?_) (Ev.now _),by simp; intro j h1 h2; omega⟩
  simp only [slices_Equal_impl_Tile_impl_Tile.l0]
  rw [if_neg (by omega)]
 | succ d ih =>
  intro i hi
  obtain ⟨b,h1,h2⟩:=ih (i + 1) (by omega)
  have hb:(!(((rd_T64 s (i:Int)).f0) == ((rd_T64 l (i:Int)).f0)) || (!(((rd_T64 s (i:Int)).f1) == ((rd_T64 l (i:Int)).f1)))) = !decide (s.getD i z64 = l.getD i z64):=by
   rw [← t_beq]
   unfold rd_T64
   rw [show ((i:Int)).toNat = i from rfl,Bool.not_and]
  by_cases e:s.getD i z64 = l.getD i z64
  ·refine ⟨b,Ev.step (fun k => ?_) h1,?_⟩
   ·simp only [slices_Equal_impl_Tile_impl_Tile.l0]
    rw [if_pos (by omega),if_pos (by omega),if_pos (by omega),if_pos (by omega),hb,if_neg (by simp only [e]; simp),t_wrap ((i:Int) + 1) (by omega) (by omega)]
    rfl
   ·rw [h2]
    constructor
    ·intro h j hj1 hj2
     by_cases ej:j = i
     ·subst ej
      exact e
     ·exact h j (by omega) hj2
    ·intro h j hj1 hj2
     exact h j (by omega) hj2
  ·refine ⟨false,Ev.step (f:=fun _ => some false) (fun k => ?_) (Ev.now _),?_⟩
   ·simp only [slices_Equal_impl_Tile_impl_Tile.l0]
    rw [if_pos (by omega),if_pos (by omega),if_pos (by omega),if_pos (by omega),hb,if_pos (by simp only [decide_eq_false e]; rfl)]
   ·constructor
    ·intro h
     cases h
    ·intro h
     exact absurd (h i (Nat.le_refl _) (by omega)) e
theorem seq_all (s l:List S64) (hs:s.length = l.length) (hl:l.length ≤ 1000):Ev (fun k => slices_Equal_impl_Tile_impl_Tile.l0 k s l (s.length:Int) 0) (decide (s = l)):=by
 obtain ⟨b,h1,h2⟩:=seq_ev s l (by omega) hl s.length 0 (by omega)
 have:b = decide (s = l):=by
  rw [Bool.eq_iff_iff,h2,decide_eq_true_eq]
  constructor
  ·intro h
   apply List.ext_getElem hs
   intro j j1 j2
   have:=h j (by omega) j1
   rw [List.getD_eq_getElem?_getD,List.getD_eq_getElem?_getD,List.getElem?_eq_getElem j2,List.getElem?_eq_getElem j1] at this
   exact this
  ·intro e j _ _
   rw [e]
 rw [← this]
 exact h1
theorem nodup_nd:∀ (rest pre:List S64),(∀ x ∈ rest,x ∉ pre) → rest.Nodup → nd pre rest = true:=by
 intro rest
 induction rest with
 | nil => intro pre _ _; rfl
 | cons x xs ih =>
  intro pre h1 h2
  rw [List.nodup_cons] at h2
  unfold nd
  rw [decide_eq_false (h1 x List.mem_cons_self),ih (pre ++ [x]) (fun y hy hp => ?_) h2.2]
  ·rfl
  ·rcases List.mem_append.1 hp with hp | hp
   ·exact h1 y (List.mem_cons_of_mem _ hy) hp
   ·have:y = x:=by simpa using hp
    subst this
    exact h2.1 hy
theorem ch_iff (c:List Int):ch c = true ↔ 1 ≤ c.length ∧ (∀ x ∈ c,0 ≤ x ∧ x ≤ 9) ∧ (tilesL c).Nodup:=by
 constructor
 ·intro h
  have h1:=ch_true c h
  exact ⟨h1.1,h1.2.2.1,(isH_true _ h1.2.2.2).2.2⟩
 ·rintro ⟨h1,h2,h3⟩
  unfold ch
  rw [decide_eq_true h1,nodup_nd _ [] (fun _ _ h => by cases h) h3,List.all_eq_true.2 (fun x hx => (inB_iff _ _ _).2 (h2 x hx))]
  rfl
theorem tilesL_app (x:Int) (b:List Int):∀ a:List Int,tilesL (a ++ x :: b) = tilesL (a ++ [x]) ++ tilesL (x :: b)
 | [] => rfl
 | [y] => rfl
 | y :: z :: a => by
  have ih:=tilesL_app x b (z :: a)
  simp only [List.cons_append] at ih ⊢
  rw [tilesL_two,ih,tilesL_two]
  rfl
theorem tileOf_comm (x y:Int):tileOf x y = tileOf y x:=by
 apply t_ext <;> (unfold tileOf mn mx; simp only; split <;> split <;> omega)
theorem tilesL_rev:∀ c:List Int,tilesL c.reverse = (tilesL c).reverse
 | [] => rfl
 | [_] => rfl
 | x :: y :: r => by
  have ih:=tilesL_rev (y :: r)
  rw [tilesL_two,List.reverse_cons,List.reverse_cons,List.append_assoc]
  show tilesL (r.reverse ++ y :: [x]) = _
  rw [tilesL_app,← List.reverse_cons,ih,List.reverse_cons,tileOf_comm x y]
  rfl
theorem wn (n:Nat) (h:n ≤ 100000000):wrap64 ((n:Int) - 1) = (n:Int) - 1:=t_wrap _ (by omega) (by omega)
theorem rev_set (A M B:List Int) (x y:Int):((A ++ x :: M ++ y :: B).set A.length y).set (A.length + M.length + 1) x = A ++ y :: M ++ x :: B:=by
 have e1:(A ++ x :: M ++ y :: B).set A.length y = A ++ y :: M ++ y :: B:=by
  simp [List.set_append]
 rw [e1]
 have e2:A.length + M.length + 1 = (A ++ y :: M).length:=by simp; omega
 rw [e2]
 simp [List.set_append]
theorem rev_ev:∀ (n:Nat) (A M B:List Int),M.length = n → (A ++ M ++ B).length ≤ 2000000 → Ev (fun k => slices_Reverse_int_int.l0 k (A ++ M ++ B) (A.length:Int) ((A.length:Int) + (M.length:Int) - 1)) (A ++ M.reverse ++ B):=by
 intro n
 induction n using Nat.strongRecOn with
 | ind n ih =>
  intro A M B hn hl
  by_cases h2:2 ≤ M.length
  ·obtain ⟨x,M',rfl⟩ : ∃ x M',M = x :: M':=by
    cases M with
    | nil => simp at h2
    | cons x M' => exact ⟨x,M',rfl⟩
   obtain ⟨N,y,rfl⟩ : ∃ N y,M' = N ++ [y]:=by
    have hne:M' ≠ []:=by
     rintro rfl
     simp at h2
    exact ⟨M'.dropLast,M'.getLast hne,(List.dropLast_concat_getLast hne).symm⟩
   have hlen:(x :: (N ++ [y])).length = N.length + 2:=by simp
   have hl2:A.length + N.length + 2 + B.length ≤ 2000000:=by simp at hl; omega
   have e0:A ++ x :: (N ++ [y]) ++ B = A ++ x :: N ++ y :: B:=by simp
   have e3:A ++ y :: N ++ x :: B = (A ++ [y]) ++ N ++ ([x] ++ B):=by simp
   have e4:A ++ (x :: (N ++ [y])).reverse ++ B = (A ++ [y]) ++ N.reverse ++ ([x] ++ B):=by simp
   have gx:rd (A ++ x :: N ++ y :: B) (A.length:Int) = x:=by
    show (A ++ x :: N ++ y :: B).getD A.length 0 = x
    simp [List.getD_eq_getElem?_getD]
   have gy:rd (A ++ x :: N ++ y :: B) (((A.length + N.length + 1:Nat)):Int) = y:=by
    show (A ++ x :: N ++ y :: B).getD (A.length + N.length + 1) 0 = y
    have e:A.length + N.length + 1 = (A ++ x :: N).length:=by simp; omega
    rw [e]
    simp [List.getD_eq_getElem?_getD]
   have ll:(A ++ x :: N ++ y :: B).length = A.length + N.length + 2 + B.length:=by simp; omega
   rw [e4]
   have step:=ih N.length (by omega) (A ++ [y]) N ([x] ++ B) rfl (by simp; omega)
   refine Ev.step (fun k => ?_) step
   simp only [slices_Reverse_int_int.l0]
   rw [hlen,show ((A.length:Int) + ((N.length + 2:Nat):Int) - 1) = ((A.length + N.length + 1:Nat):Int) by omega,e0,if_pos (by omega),if_pos (by omega),if_pos (by omega),if_pos (by omega),if_pos (by omega),gx,gy,
    Int.toNat_natCast,Int.toNat_natCast,rev_set,e3,t_wrap ((A.length:Int) + 1) (by omega) (by omega),t_wrap (((A.length + N.length + 1:Nat):Int) - 1) (by omega) (by omega)]
   have l1:(A ++ [y]).length = A.length + 1:=by simp
   rw [l1,show (((A.length + N.length + 1:Nat):Int) - 1) = ((A.length + 1:Nat):Int) + (N.length:Int) - 1 by omega]
   rfl
  ·have hr:M.reverse = M:=by
    match M,h2 with
    | [],_ => rfl
    | [_],_ => rfl
    | _ :: _ :: _,h2 => simp at h2
   rw [hr]
   refine ⟨1,fun k hk => ?_⟩
   obtain ⟨j,rfl⟩ : ∃ j,k = j + 1:=⟨k - 1,by omega⟩
   simp only [slices_Reverse_int_int.l0]
   rw [if_neg (by omega)]
theorem turned_f (c:List Int) (h:c.length ≤ 2000000):Ev (fun k => impl_turned.f k c) c.reverse:=by
 unfold impl_turned.f slices_Clone_int_int.f
 rw [if_pos (by omega)]
 simp only [Option.bind_some]
 have h1:=rev_ev c.length [] c [] rfl (by simpa using h)
 refine Ev.bind (f:=fun k t => some t) (?_:Ev (fun k => slices_Reverse_int_int.f k c) c.reverse) ⟨0,fun _ _ => rfl⟩
 unfold slices_Reverse_int_int.f
 rw [wn _ (by omega)]
 have e:[] ++ c ++ [] = c:=by simp
 have e2:[] ++ c.reverse ++ [] = c.reverse:=by simp
 rw [e,e2] at h1
 simpa using h1
theorem d_bits (E:Int) (h0:0 ≤ E) (h1:E ≤ 18446744073709551615):0 ≤ Go.bits .and .u64 E 255 ∧ Go.bits .and .u64 E 255 ≤ 255:=by
 have h:=bits_and_u64_nat E.toNat 255 (by omega) (by omega)
 rw [Int.toNat_of_nonneg h0] at h
 have h2:(E.toNat &&& 255) ≤ 255:=Nat.and_le_right
 have h3:Go.bits .and .u64 E 255 = ((E.toNat &&& 255:Nat):Int):=h
 omega
theorem d_w (n:Int) (h : -1000000000 ≤ n) (h':n ≤ 1000000000):wrap64 n = n:=by
 unfold wrap64
 omega
theorem d_rd (l:List Int) (hl:∀ x ∈ l,0 ≤ x ∧ x ≤ 255) (p:Int):0 ≤ rd l p ∧ rd l p ≤ 255:=by
 unfold rd
 rw [List.getD_eq_getElem?_getD]
 by_cases h:p.toNat < l.length
 ·rw [List.getElem?_eq_getElem h]
  exact hl _ (List.getElem_mem _)
 ·rw [List.getElem?_eq_none (by omega)]
  simp
theorem d_next (l:List Int) (hl:∀ x ∈ l,0 ≤ x ∧ x ≤ 255) (p s:Int) (hp:0 ≤ p ∧ p ≤ 1000000):∃ v s',spec_l1Cur_next.f l p s = some (v,p + 1,s') ∧ 0 ≤ v ∧ v ≤ 255:=by
 have h:=d_rd l hl p
 have hb:∀ n:Int,0 ≤ wrap64 (Go.bits .and .u64 (IntKind.u64.wrap n / 1099511627776) 255) ∧ wrap64 (Go.bits .and .u64 (IntKind.u64.wrap n / 1099511627776) 255) ≤ 255:=by
  intro n
  have h:=d_bits (IntKind.u64.wrap n / 1099511627776) (by rw [IntKind.wrap_u64]; omega) (by rw [IntKind.wrap_u64]; omega)
  rw [d_w _ (by omega) (by omega)]
  exact h
 unfold spec_l1Cur_next.f
 rw [d_w (p + 1) (by omega) (by omega)]
 by_cases h1:p < (l.length:Int)
 ·rw [if_pos h1,if_pos hp.1]
  by_cases h2:p + 1 ≤ (l.length:Int)
  ·rw [if_pos h2]
   exact ⟨_,_,rfl,by rw [d_w _ (by omega) (by omega)]; exact h⟩
  ·rw [if_neg h2]
   exact ⟨_,_,rfl,hb _⟩
 ·rw [if_neg h1]
  by_cases h2:p + 1 ≤ (l.length:Int)
  ·rw [if_pos h2]
   exact ⟨_,_,rfl,by omega,by omega⟩
  ·rw [if_neg h2]
   exact ⟨_,_,rfl,hb _⟩
theorem d_pick (l:List Int) (hl:∀ x ∈ l,0 ≤ x ∧ x ≤ 255) (p s:Int) (hp:0 ≤ p ∧ p ≤ 100000) (a:Int) (ha:1 ≤ a):∃ v p' s',spec_l1Cur_pick.f l p s a = some (v,p',s') ∧ 0 ≤ v ∧ v < a ∧ 0 ≤ p' ∧ p' ≤ p + 2:=by
 unfold spec_l1Cur_pick.f
 by_cases h1:a ≤ 1
 ·rw [if_pos h1]
  exact ⟨0,p,s,rfl,by omega,by omega,by omega,by omega⟩
 ·rw [if_neg h1]
  obtain ⟨v,s1,e1,v0,v1⟩:=d_next l hl p s (by omega)
  rw [e1]
  simp only [Option.bind_some]
  by_cases h2:a > 200
  ·rw [if_pos h2]
   obtain ⟨u,s2,e2,u0,u1⟩:=d_next l hl (p + 1) s1 (by omega)
   rw [e2]
   simp only [Option.bind_some]
   rw [if_neg (by omega),d_w (v * 256) (by omega) (by omega),d_w _ (by omega) (by omega)]
   exact ⟨_,_,_,rfl,Int.tmod_nonneg _ (by omega),Int.tmod_lt_of_pos _ (by omega),by omega,by omega⟩
  ·rw [if_neg h2,if_neg (by omega)]
   exact ⟨_,_,_,rfl,Int.tmod_nonneg _ (by omega),Int.tmod_lt_of_pos _ (by omega),by omega,by omega⟩
theorem d_among (l:List Int) (hl:∀ x ∈ l,0 ≤ x ∧ x ≤ 255) (p s:Int) (hp:0 ≤ p ∧ p ≤ 100000) (xs:List Int) (hx:1 ≤ xs.length):∃ v p' s',spec_l1Cur_among.f l p s xs = some (v,p',s') ∧ 0 ≤ p' ∧ p' ≤ p + 2:=by
 unfold spec_l1Cur_among.f
 obtain ⟨v,q,s1,e1,v0,v1,q0,q1⟩:=d_pick l hl p s hp (xs.length:Int) (by omega)
 rw [e1]
 simp only [Option.bind_some]
 rw [if_pos v0,if_pos v1]
 exact ⟨_,_,_,rfl,q0,q1⟩
theorem d_one (l:List Int) (hl:∀ x ∈ l,0 ≤ x ∧ x ≤ 255) (p s:Int) (hp:0 ≤ p ∧ p ≤ 100000) (a:Int) (ha:1 ≤ a):∃ v p' s',spec_l1Cur_one.f l p s a = some (v,p',s') ∧ 0 ≤ p' ∧ p' ≤ p + 2:=by
 unfold spec_l1Cur_one.f
 obtain ⟨v,q,s1,e1,v0,v1,q0,q1⟩:=d_pick l hl p s hp a ha
 rw [e1]
 exact ⟨_,_,_,rfl,q0,q1⟩
theorem ch_one (v:Int) (h:0 ≤ v ∧ v ≤ 9):ch [v] = true:=by
 unfold ch inB
 simp [tilesL,nd,h.1,h.2]
theorem d_sureLoop (l:List Int) (hl:∀ x ∈ l,0 ≤ x ∧ x ≤ 255) (m:Int) (hm:0 ≤ m ∧ m ≤ 9):∀ (n:Nat) (c:List Int) (p s:Int),c.length + n ≤ 100 → ch c = true → 0 ≤ p → p + 2 * n ≤ 100000 →
  ∃ c' p' s',Ev (fun k => spec_l1Cur_sureChain.l0 k m c (n:Int) l p s) (c',p',s') ∧ ch c' = true ∧ c'.length ≤ c.length + n ∧ 0 ≤ p' ∧ p' ≤ p + 2 * n:=by
 intro n
 induction n with
 | zero =>
  intro c p s h1 h2 h3 h4
  refine ⟨c,p,s,Ev.step (f:=fun _ => some (c,p,s)) (fun k => ?_) (Ev.now _),h2,by omega,h3,by omega⟩
  simp only [spec_l1Cur_sureChain.l0]
  rw [if_neg (by omega)]
 | succ n ih =>
  intro c p s h1 h2 h3 h4
  obtain ⟨v,q,s1,e1,v0,v1,q0,q1⟩:=d_pick l hl p s (by omega) (m + 1) (by omega)
  have hg:=ch_spec (c ++ [v]) (by simp; omega)
  have hw:wrap64 (m + 1) = m + 1:=t_wrap _ (by omega) (by omega)
  have hn:((n + 1:Nat):Int) - 1 = (n:Int):=by omega
  have hw2:wrap64 (((n + 1:Nat):Int) - 1) = (n:Int):=by rw [hn]; exact t_wrap _ (by omega) (by omega)
  have st:∀ R,Ev (fun k => (spec_haGood.f k (c ++ [v])).bind fun t163 => (if t163 = true then (spec_l1Cur_sureChain.l0 k m (c ++ [v]) (n:Int) l q s1) else (spec_l1Cur_sureChain.l0 k m c (n:Int) l q s1))) R → Ev (fun k => spec_l1Cur_sureChain.l0 k m c ((n + 1:Nat):Int) l p s) R:=fun R h => by
   refine Ev.step (fun k => ?_) h
   simp only [spec_l1Cur_sureChain.l0]
   rw [if_pos (by omega),own_f c (by omega),hw,e1,hw2]
   simp only [Option.bind_some]
   rw [if_pos (by omega)]
  cases hb:ch (c ++ [v])
  ·rw [hb] at hg
   obtain ⟨c',p',s',g1,g2,g3,g4,g5⟩:=ih c q s1 (by omega) h2 q0 (by omega)
   exact ⟨c',p',s',st _ (Ev.bind (f:=fun k t => _) hg (by simpa using g1)),g2,by omega,g4,by omega⟩
  ·rw [hb] at hg
   obtain ⟨c',p',s',g1,g2,g3,g4,g5⟩:=ih (c ++ [v]) q s1 (by simp; omega) hb q0 (by omega)
   exact ⟨c',p',s',st _ (Ev.bind (f:=fun k t => _) hg (by simpa using g1)),g2,by simp at g3; omega,g4,by omega⟩
theorem d_sureChain (l:List Int) (hl:∀ x ∈ l,0 ≤ x ∧ x ≤ 255) (a m:Int) (ha:0 ≤ a ∧ a ≤ 20) (hm:0 ≤ m ∧ m ≤ 9) (p s:Int) (hp:0 ≤ p ∧ p ≤ 10000) :
  ∃ c' p' s',Ev (fun k => spec_l1Cur_sureChain.f k l p s a m) (c',p',s') ∧ ch c' = true ∧ c'.length ≤ 21 ∧ 0 ≤ p' ∧ p' ≤ p + 44:=by
 obtain ⟨v,q,s1,e1,v0,v1,q0,q1⟩:=d_pick l hl p s (by omega) (m + 1) (by omega)
 obtain ⟨u,q',s2,e2,u0,u1,r0,r1⟩:=d_pick l hl q s1 (by omega) (a + 1) (by omega)
 obtain ⟨c',p',s',g1,g2,g3,g4,g5⟩:=d_sureLoop l hl m hm u.toNat [v] q' s2 (by simp; omega) (ch_one v (by omega)) r0 (by omega)
 refine ⟨c',p',s',?_,g2,by simp at g3; omega,g4,by omega⟩
 unfold spec_l1Cur_sureChain.f
 rw [t_wrap (m + 1) (by omega) (by omega),t_wrap (a + 1) (by omega) (by omega),e1]
 simp only [Option.bind_some]
 rw [e2]
 simp only [Option.bind_some]
 rw [Int.toNat_of_nonneg u0] at g1
 exact g1
theorem d_sureHandLoop (l:List Int) (hl:∀ x ∈ l,0 ≤ x ∧ x ≤ 255) (m:Int) (hm:0 ≤ m ∧ m ≤ 9):∀ (n:Nat) (c:List S64) (p s:Int),c.length + n ≤ 100 → 0 ≤ p → p + 4 * n ≤ 100000 →
  ∃ c' p' s',Ev (fun k => spec_l1Cur_sureHand.l0 k m c (n:Int) l p s) (c',p',s') ∧ c'.length ≤ c.length + n ∧ 0 ≤ p' ∧ p' ≤ p + 4 * n:=by
 intro n
 induction n with
 | zero =>
  intro c p s h1 h3 h4
  refine ⟨c,p,s,Ev.step (f:=fun _ => some (c,p,s)) (fun k => ?_) (Ev.now _),by omega,h3,by omega⟩
  simp only [spec_l1Cur_sureHand.l0]
  rw [if_neg (by omega)]
 | succ n ih =>
  intro c p s h1 h3 h4
  obtain ⟨v,q,s1,e1,v0,v1,q0,q1⟩:=d_pick l hl p s (by omega) (m + 1) (by omega)
  obtain ⟨u,q',s2,e2,u0,u1,r0,r1⟩:=d_pick l hl q s1 (by omega) (m + 1) (by omega)
  obtain ⟨r,hr,_⟩:=place_f (tileOf v u) c (by omega)
  have hw:wrap64 (m + 1) = m + 1:=t_wrap _ (by omega) (by omega)
  have hn:((n + 1:Nat):Int) - 1 = (n:Int):=by omega
  have hw2:wrap64 (((n + 1:Nat):Int) - 1) = (n:Int):=by rw [hn]; exact t_wrap _ (by omega) (by omega)
  have st:∀ R,Ev (fun k => (spec_tiPlace.f k c (tileOf v u).f0 (tileOf v u).f1).bind fun t351 => (if t351 < 0 then (spec_l1Cur_sureHand.l0 k m (c ++ [tileOf v u]) (n:Int) l q' s2) else (spec_l1Cur_sureHand.l0 k m c (n:Int) l q' s2))) R → Ev (fun k => spec_l1Cur_sureHand.l0 k m c ((n + 1:Nat):Int) l p s) R:=fun R h => by
   refine Ev.step (fun k => ?_) h
   simp only [spec_l1Cur_sureHand.l0]
   rw [if_pos (by omega),hw,e1,hw2]
   simp only [Option.bind_some]
   rw [e2]
   simp only [Option.bind_some,tiOf_f]
   rw [if_pos (show c.length < 8796093022208 from by omega)]
  by_cases hb:r < 0
  ·obtain ⟨c',p',s',g1,g3,g4,g5⟩:=ih (c ++ [tileOf v u]) q' s2 (by simp; omega) r0 (by omega)
   exact ⟨c',p',s',st _ (Ev.bind (f:=fun k t => _) hr (by simpa [hb] using g1)),by simp at g3; omega,g4,by omega⟩
  ·obtain ⟨c',p',s',g1,g3,g4,g5⟩:=ih c q' s2 (by omega) r0 (by omega)
   exact ⟨c',p',s',st _ (Ev.bind (f:=fun k t => _) hr (by simpa [hb] using g1)),by omega,g4,by omega⟩
theorem d_sureHand (l:List Int) (hl:∀ x ∈ l,0 ≤ x ∧ x ≤ 255) (a m:Int) (ha:0 ≤ a ∧ a ≤ 20) (hm:0 ≤ m ∧ m ≤ 9) (p s:Int) (hp:0 ≤ p ∧ p ≤ 10000) :
  ∃ c' p' s',Ev (fun k => spec_l1Cur_sureHand.f k l p s a m) (c',p',s') ∧ c'.length ≤ 20 ∧ 0 ≤ p' ∧ p' ≤ p + 90:=by
 obtain ⟨u,q',s2,e2,u0,u1,r0,r1⟩:=d_pick l hl p s (by omega) (a + 1) (by omega)
 obtain ⟨c',p',s',g1,g3,g4,g5⟩:=d_sureHandLoop l hl m hm u.toNat [] q' s2 (by simp; omega) r0 (by omega)
 refine ⟨c',p',s',?_,by simp at g3; omega,g4,by omega⟩
 unfold spec_l1Cur_sureHand.f
 rw [t_wrap (a + 1) (by omega) (by omega),e2]
 simp only [Option.bind_some]
 rw [Int.toNat_of_nonneg u0] at g1
 exact g1
theorem d_tile (l:List Int) (hl:∀ x ∈ l,0 ≤ x ∧ x ≤ 255) (p s:Int) (hp:0 ≤ p ∧ p ≤ 10000):∃ x y p' s',spec_l1Cur_tile.f l p s = some (x,y,p',s') ∧ 0 ≤ p' ∧ p' ≤ p + 6:=by
 unfold spec_l1Cur_tile.f
 obtain ⟨b,q,s1,e1,q0,q1⟩:=d_one l hl p s (by omega) 10 (by omega)
 rw [e1]
 simp only [Option.bind_some]
 cases b
 ·obtain ⟨v,q2,s2,e2,_,_,a2,b2⟩:=d_pick l hl q s1 (by omega) 10 (by omega)
  obtain ⟨u,q3,s3,e3,_,_,a3,b3⟩:=d_pick l hl q2 s2 (by omega) 10 (by omega)
  simp only [Bool.false_eq_true,if_false,e2,Option.bind_some,e3,tiOf_f]
  exact ⟨_,_,_,_,rfl,a3,by omega⟩
 ·obtain ⟨v,q2,s2,e2,a2,b2⟩:=d_among l hl q s1 (by omega) [(-1),3,9,10] (by simp)
  obtain ⟨u,q3,s3,e3,a3,b3⟩:=d_among l hl q2 s2 (by omega) [2,9,10,4611686018427387904] (by simp)
  simp only [if_true,e2,Option.bind_some,e3]
  exact ⟨_,_,_,_,rfl,a3,by omega⟩
theorem d_sets:∀ n:Fin 10,((spec_tiSet.f 100 ((n.val:Nat):Int)).map fun A => decide (A.length ≤ 60)) = some true:=by decide +kernel
theorem d_set (v:Int) (h0:0 ≤ v) (h1:v < 10):∃ A:List S64,Ev (fun k => spec_tiSet.f k v) A ∧ A.length ≤ 60:=by
 have h:=d_sets ⟨v.toNat,by omega⟩
 simp only [Int.toNat_of_nonneg h0] at h
 obtain ⟨A,hA,hd⟩:=Option.map_eq_some_iff.1 h
 exact ⟨A,Ev.of (fun k => spec_tiSet.mono _ k) hA,of_decide_eq_true hd⟩
theorem d_hand (l:List Int) (hl:∀ x ∈ l,0 ≤ x ∧ x ≤ 255) (a m:Int) (ha:0 ≤ a ∧ a ≤ 20) (hm:0 ≤ m ∧ m ≤ 9) (p s:Int) (hp:0 ≤ p ∧ p ≤ 9000) :
  ∃ c' p' s',Ev (fun k => spec_l1Cur_hand.f k l p s a m) (c',p',s') ∧ c'.length ≤ 100 ∧ 0 ≤ p' ∧ p' ≤ p + 100:=by
 obtain ⟨c,q,s1,g1,g3,g4,g5⟩:=d_sureHand l hl a m ha hm p s (by omega)
 obtain ⟨v,q',s2,e1,v0,v1,q0,q1⟩:=d_pick l hl q s1 (by omega) 18 (by omega)
 unfold spec_l1Cur_hand.f
 by_cases h0:v = 0
 ·obtain ⟨x,y,q2,s3,e2,r0,r1⟩:=d_tile l hl q' s2 (by omega)
  refine ⟨c ++ [⟨x,y⟩],q2,s3,Ev.bind (f:=fun k (b:List S64 × Int × Int) => _) g1 ⟨0,fun k _ => ?_⟩,by simp; omega,r0,by omega⟩
  simp only [e1,Option.bind_some]
  rw [if_pos h0,e2]
  simp only [Option.bind_some]
  rw [if_pos (by omega)]
 ·by_cases h1:v = 1
  ·by_cases hc:(c.length:Int) > 0
   ·refine ⟨c ++ [⟨(rd_T64 c 0).f0,(rd_T64 c 0).f1⟩],q',s2,Ev.bind (f:=fun k (b:List S64 × Int × Int) => _) g1 ⟨0,fun k _ => ?_⟩,by simp; omega,q0,by omega⟩
    simp only [e1,Option.bind_some]
    rw [if_neg h0,if_pos h1,if_pos hc,if_pos (by omega),if_pos (by omega)]
   ·refine ⟨c,q',s2,Ev.bind (f:=fun k (b:List S64 × Int × Int) => _) g1 ⟨0,fun k _ => ?_⟩,by omega,q0,by omega⟩
    simp only [e1,Option.bind_some]
    rw [if_neg h0,if_pos h1,if_neg hc]
  ·by_cases h2:v = 2
   ·obtain ⟨u,q3,s3,e3,u0,u1,a3,b3⟩:=d_pick l hl q' s2 (by omega) 10 (by omega)
    obtain ⟨A,hA,hA2⟩:=d_set u u0 u1
    refine ⟨A,q3,s3,Ev.bind (f:=fun k (b:List S64 × Int × Int) => _) g1 ?_,by omega,a3,by omega⟩
    simp only [e1,Option.bind_some,if_neg h0,if_neg h1,if_pos h2,e3]
    exact Ev.bind (f:=fun k (t:List S64) => _) hA ⟨0,fun k _ => rfl⟩
   ·by_cases h3:v = 3
    ·obtain ⟨A,hA,hA2⟩:=d_set 9 (by omega) (by omega)
     refine ⟨A ++ [⟨0,0⟩],q',s2,Ev.bind (f:=fun k (b:List S64 × Int × Int) => _) g1 ?_,by simp; omega,q0,by omega⟩
     simp only [e1,Option.bind_some,if_neg h0,if_neg h1,if_neg h2,if_pos h3]
     exact Ev.bind (f:=fun k (t:List S64) => _) hA ⟨0,fun k _ => by rw [if_pos (by omega)]⟩
    ·refine ⟨c,q',s2,Ev.bind (f:=fun k (b:List S64 × Int × Int) => _) g1 ⟨0,fun k _ => ?_⟩,by omega,q0,by omega⟩
     simp only [e1,Option.bind_some]
     rw [if_neg h0,if_neg h1,if_neg h2,if_neg h3]
theorem d_surePuzzleLoop (l:List Int) (hl:∀ x ∈ l,0 ≤ x ∧ x ≤ 255) (h:List S64):∀ (rest pre o:List Int) (p s:Int),(pre ++ rest).length ≤ 100 → o.length ≤ pre.length → 0 ≤ p → p + 2 * rest.length ≤ 50000 →
  ∃ c' p' s',Ev (fun k => spec_l1Cur_surePuzzle.l0 k (pre ++ rest) ((pre ++ rest).length:Int) (pre.length:Int) l p s h o) (h,c',p',s') ∧ c'.length = o.length + rest.length ∧ 0 ≤ p' ∧ p' ≤ p + 2 * rest.length:=by
 intro rest
 induction rest with
 | nil =>
  intro pre o p s h1 h2 h3 h4
  refine ⟨o,p,s,Ev.step (f:=fun _ => some (h,o,p,s)) (fun k => ?_) (Ev.now _),by simp,h3,by simp⟩
  simp only [spec_l1Cur_surePuzzle.l0,List.append_nil]
  rw [if_neg (by omega)]
 | cons x xs ih =>
  intro pre o p s h1 h2 h3 h4
  have hlen:(pre ++ x :: xs).length = pre.length + xs.length + 1:=by simp; omega
  have e1:pre ++ [x] ++ xs = pre ++ x :: xs:=by simp
  have hx:(x :: xs).length = xs.length + 1:=rfl
  obtain ⟨b,q,s1,eb,q0,q1⟩:=d_one l hl p s (by omega) 2 (by omega)
  have hw:wrap64 ((pre.length:Int) + 1) = ((pre ++ [x]).length:Int):=by rw [t_wrap _ (by omega) (by omega)]; simp
  cases b
  ·obtain ⟨c',p',s',g1,g2,g3,g4⟩:=ih (pre ++ [x]) (o ++ [x]) q s1 (by rw [e1]; omega) (by simp; omega) q0 (by omega)
   rw [e1] at g1
   refine ⟨c',p',s',Ev.step (fun k => ?_) g1,by simp at g2; omega,g3,by omega⟩
   simp only [spec_l1Cur_surePuzzle.l0]
   rw [if_pos (by omega),if_pos (by omega),if_pos (by omega),eb]
   simp only [Option.bind_some,Bool.false_eq_true,if_false]
   rw [if_pos (by omega),i_mid,hw]
  ·obtain ⟨c',p',s',g1,g2,g3,g4⟩:=ih (pre ++ [x]) (o ++ [-1]) q s1 (by rw [e1]; omega) (by simp; omega) q0 (by omega)
   rw [e1] at g1
   refine ⟨c',p',s',Ev.step (fun k => ?_) g1,by simp at g2; omega,g3,by omega⟩
   simp only [spec_l1Cur_surePuzzle.l0]
   rw [if_pos (by omega),if_pos (by omega),if_pos (by omega),eb]
   simp only [Option.bind_some,if_true]
   rw [if_pos (by omega),hw]
theorem d_surePuzzle (l:List Int) (hl:∀ x ∈ l,0 ≤ x ∧ x ≤ 255) (a m:Int) (ha:0 ≤ a ∧ a ≤ 20) (hm:0 ≤ m ∧ m ≤ 9) (p s:Int) (hp:0 ≤ p ∧ p ≤ 9000) :
  ∃ h c' p' s',Ev (fun k => spec_l1Cur_surePuzzle.f k l p s a m) (h,c',p',s') ∧ h.length ≤ 21 ∧ 2 ≤ c'.length ∧ c'.length ≤ 21 ∧ 0 ≤ p' ∧ p' ≤ p + 100:=by
 obtain ⟨c,q,s1,g1,g2,g3,g4,g5⟩:=d_sureChain l hl a m ha hm p s (by omega)
 have go:∀ c:List Int,ch c = true → 2 ≤ c.length → c.length ≤ 21 → ∃ h c' p' s',Ev (fun k => spec_l1Cur_surePuzzle.j0 k c l q s1) (h,c',p',s') ∧ h.length ≤ 21 ∧ 2 ≤ c'.length ∧ c'.length ≤ 21 ∧ 0 ≤ p' ∧ p' ≤ p + 100:=by
  intro c k1 k2 k3
  obtain ⟨_,_,_,hH⟩:=ch_true c k1
  obtain ⟨h,t1,_,t3⟩:=sorted_both (tilesL c) hH
  obtain ⟨c',p',s',w1,w2,w3,w4⟩:=d_surePuzzleLoop l hl h c [] [] q s1 (by simp; omega) (by simp) g4 (by omega)
  simp only [List.nil_append,List.length_nil] at w1
  refine ⟨h,c',p',s',?_,by rw [t3,tilesL_len]; omega,by simp at w2; omega,by simp at w2; omega,w3,by omega⟩
  refine Ev.step (f:=fun k => (spec_haTiles.f k c).bind fun t322 => ((spec_tiSort.f k t322).bind fun t325 => (spec_l1Cur_surePuzzle.l0 k c (c.length:Int) 0 l q s1 t325 ([] : List Int)))) (fun k => by simp only [spec_l1Cur_surePuzzle.j0]) ?_
  exact Ev.bind (f:=fun k t => _) (haTiles_f c (by omega)).1 (Ev.bind (f:=fun k t => _) t1 w1)
 unfold spec_l1Cur_surePuzzle.f
 by_cases h2:(c.length:Int) < 2
 ·obtain ⟨h,c',p',s',w1,w⟩:=go [0,1] (by decide) (by simp) (by simp)
  exact ⟨h,c',p',s',Ev.bind (f:=fun k (b:List Int × Int × Int) => _) g1 (by simpa only [if_pos h2] using w1),w⟩
 ·obtain ⟨h,c',p',s',w1,w⟩:=go c g2 (by omega) g3
  exact ⟨h,c',p',s',Ev.bind (f:=fun k (b:List Int × Int × Int) => _) g1 (by simpa only [if_neg h2] using w1),w⟩
theorem d_puzzle (l:List Int) (hl:∀ x ∈ l,0 ≤ x ∧ x ≤ 255):∃ h c' p' s',Ev (fun k => spec_l1Cur_puzzle.f k l 0 0) (h,c',p',s') ∧ h.length ≤ 100 ∧ c'.length ≤ 100 ∧ 0 ≤ p' ∧ p' ≤ 1000:=by
 obtain ⟨h,c,q,s1,g1,g2,g3,g4,g5,g6⟩:=d_surePuzzle l hl 7 4 (by omega) (by omega) 0 0 (by omega)
 obtain ⟨v,q',s2,e1,v0,v1,q0,q1⟩:=d_pick l hl q s1 (by omega) 14 (by omega)
 unfold spec_l1Cur_puzzle.f
 by_cases h0:v = 0
 ·obtain ⟨u,q2,s3,e2,u0,u1,a2,b2⟩:=d_pick l hl q' s2 (by omega) (c.length:Int) (by omega)
  obtain ⟨z,q3,s4,e3,a3,b3⟩:=d_among l hl q2 s3 (by omega) [(-2),10,0,9] (by simp)
  refine ⟨h,c.set u.toNat z,q3,s4,Ev.bind (f:=fun k (b:List S64 × List Int × Int × Int) => _) g1 ⟨0,fun k _ => ?_⟩,by omega,by simp; omega,a3,by omega⟩
  simp only [e1,Option.bind_some]
  rw [if_pos h0,e2]
  simp only [Option.bind_some]
  rw [e3]
  simp only [Option.bind_some]
  rw [if_pos u0,if_pos u1]
 ·by_cases h1:v = 1
  ·refine ⟨h,c.drop (1:Int).toNat,q',s2,Ev.bind (f:=fun k (b:List S64 × List Int × Int × Int) => _) g1 ⟨0,fun k _ => ?_⟩,by omega,by simp; omega,q0,by omega⟩
   simp only [e1,Option.bind_some]
   rw [if_neg h0,if_pos h1,if_pos (by omega)]
  ·by_cases h2:v = 2
   ·by_cases hc:(h.length:Int) > 1
    ·refine ⟨((h.set (0:Int).toNat (⟨(rd_T64 h 1).f0,(rd_T64 h 1).f1⟩ : S64)).set (1:Int).toNat (⟨(rd_T64 h 0).f0,(rd_T64 h 0).f1⟩ : S64)),c,q',s2,Ev.bind (f:=fun k (b:List S64 × List Int × Int × Int) => _) g1 ⟨0,fun k _ => ?_⟩,?_,by omega,q0,by omega⟩
     ·simp only [e1,Option.bind_some]
      rw [if_neg h0,if_neg h1,if_pos h2,if_pos hc,if_pos (by omega),if_pos (by omega)]
     ·simp; omega
    ·refine ⟨h,c,q',s2,Ev.bind (f:=fun k (b:List S64 × List Int × Int × Int) => _) g1 ⟨0,fun k _ => ?_⟩,by omega,by omega,q0,by omega⟩
     simp only [e1,Option.bind_some]
     rw [if_neg h0,if_neg h1,if_pos h2,if_neg hc]
   ·by_cases h3:v = 3
    ·obtain ⟨A,q3,s3,hA,hA2,a3,b3⟩:=d_hand l hl 10 5 (by omega) (by omega) q' s2 (by omega)
     refine ⟨A,c,q3,s3,Ev.bind (f:=fun k (b:List S64 × List Int × Int × Int) => _) g1 ?_,hA2,by omega,a3,by omega⟩
     simp only [e1,Option.bind_some,if_neg h0,if_neg h1,if_neg h2,if_pos h3]
     exact Ev.bind (f:=fun k (t:List S64 × Int × Int) => _) hA ⟨0,fun k _ => rfl⟩
    ·refine ⟨h,c,q',s2,Ev.bind (f:=fun k (b:List S64 × List Int × Int × Int) => _) g1 ⟨0,fun k _ => ?_⟩,by omega,by omega,q0,by omega⟩
     simp only [e1,Option.bind_some]
     rw [if_neg h0,if_neg h1,if_neg h2,if_neg h3]
def ft:List Int → List Int → Bool
 | x :: xs,y :: ys => (decide (x = -1) || decide (x = y)) && ft xs ys
 | _,_ => true
theorem fits_ev (l:List S64):∀ (rest qrest pre qpre:List Int),pre.length = qpre.length → rest.length = qrest.length → (pre ++ rest).length ≤ 100000 → (∀ x ∈ qrest,-1 ≤ x) →
  Ev (fun k => spec_pzFits.l0 k (pre ++ rest) ((pre ++ rest).length:Int) (pre.length:Int) l (qpre ++ qrest)) (ft qrest rest) ∧ Ev (fun k => impl_IsSolution.l0 k (pre ++ rest) ((pre ++ rest).length:Int) (pre.length:Int) l (qpre ++ qrest)) (ft qrest rest,true):=by
 intro rest
 induction rest with
 | nil =>
  intro qrest pre qpre h1 h2 h3 h4
  obtain rfl:qrest = []:=List.length_eq_zero_iff.1 h2.symm
  constructor
  ·refine Ev.step (f:=fun _ => some true) (fun k => ?_) (Ev.now _)
   simp only [spec_pzFits.l0,List.append_nil]
   rw [if_neg (by omega)]
  ·refine Ev.step (f:=fun _ => some (true,true)) (fun k => ?_) (Ev.now _)
   simp only [impl_IsSolution.l0,List.append_nil]
   rw [if_neg (by omega)]
 | cons x xs ih =>
  intro qrest pre qpre h1 h2 h3 h4
  cases qrest with
  | nil => cases h2
  | cons q qs =>
   have hlen:(pre ++ x :: xs).length = pre.length + xs.length + 1:=by simp; omega
   have hql:(qpre ++ q :: qs).length = qpre.length + qs.length + 1:=by simp; omega
   have h2':xs.length = qs.length:=by simpa using h2
   have e1:pre ++ [x] ++ xs = pre ++ x :: xs:=by simp
   have e2:qpre ++ [q] ++ qs = qpre ++ q :: qs:=by simp
   have hq:=h4 q List.mem_cons_self
   have hgq:rd (qpre ++ q :: qs) (pre.length:Int) = q:=by rw [h1]; exact i_mid _ _ _
   obtain ⟨i1,i2⟩:=ih qs (pre ++ [x]) (qpre ++ [q]) (by simp [h1]) h2' (by simpa using h3) (fun z hz => h4 z (List.mem_cons_of_mem _ hz))
   rw [e1,e2] at i1 i2
   have hfit:impl_Puzzle_fits.f l (qpre ++ q :: qs) (pre.length:Int) x = some (decide (q = -1) || decide (q = x)):=by
    unfold impl_Puzzle_fits.f
    rw [if_pos (by omega),if_pos (by omega),hgq]
    by_cases hg:q = -1
    ·rw [if_pos hg]
     simp [hg]
    ·rw [if_neg hg]
     by_cases hx:q = x <;> simp [hg,hx]
   have hcons:ft (q :: qs) (x :: xs) = ((decide (q = -1) || decide (q = x)) && ft qs xs):=rfl
   rw [hcons]
   constructor
   ·by_cases hg:q = -1
    ·rw [decide_eq_true hg,Bool.true_or,Bool.true_and]
     refine Ev.step (fun k => ?_) i1
     simp only [spec_pzFits.l0]
     rw [if_pos (by omega),if_pos (by omega),if_pos (by omega),if_pos (by omega),hgq,if_neg (by omega),t_wrap ((pre.length:Int) + 1) (by omega) (by omega)]
     simp
    ·by_cases hx:q = x
     ·rw [decide_eq_true hx,Bool.or_true,Bool.true_and]
      refine Ev.step (fun k => ?_) i1
      simp only [spec_pzFits.l0]
      rw [if_pos (by omega),if_pos (by omega),if_pos (by omega),if_pos (by omega),hgq,i_mid,if_pos (by omega),if_pos hx,t_wrap ((pre.length:Int) + 1) (by omega) (by omega)]
      simp
     ·rw [decide_eq_false hg,decide_eq_false hx,Bool.or_self,Bool.false_and]
      refine Ev.step (f:=fun _ => some false) (fun k => ?_) (Ev.now _)
      simp only [spec_pzFits.l0]
      rw [if_pos (by omega),if_pos (by omega),if_pos (by omega),if_pos (by omega),hgq,i_mid,if_pos (by omega),if_neg hx]
   ·cases hb:(decide (q = -1) || decide (q = x))
    ·refine Ev.step (f:=fun _ => some (false,true)) (fun k => ?_) (Ev.now _)
     simp only [impl_IsSolution.l0]
     rw [if_pos (by omega),if_pos (by omega),if_pos (by omega),i_mid,hfit,hb]
     rfl
    ·rw [Bool.true_and]
     refine Ev.step (fun k => ?_) i2
     simp only [impl_IsSolution.l0]
     rw [if_pos (by omega),if_pos (by omega),if_pos (by omega),i_mid,hfit,hb,t_wrap ((pre.length:Int) + 1) (by omega) (by omega)]
     simp
theorem in_ev (l:List S64) (q:List Int) (hl:l.length ≤ 2000000):∀ (rest pre:List S64),(pre ++ rest).length ≤ 1000 → Ev (fun k => spec_IsSolution.l0 k (pre ++ rest) ((pre ++ rest).length:Int) (pre.length:Int) l q) (rest.all (fun t => decide (t ∈ l)),true):=by
 intro rest
 induction rest with
 | nil =>
  intro pre h1
  refine Ev.step (f:=fun _ => some (true,true)) (fun k => ?_) (Ev.now _)
  simp only [spec_IsSolution.l0,List.append_nil]
  rw [if_neg (by omega)]
 | cons x xs ih =>
  intro pre h1
  have hlen:(pre ++ x :: xs).length = pre.length + xs.length + 1:=by simp; omega
  have hget:rd_T64 (pre ++ x :: xs) (pre.length:Int) = x:=by
   unfold rd_T64
   exact t_mid pre x xs _
  have e1:pre ++ [x] ++ xs = pre ++ x :: xs:=by simp
  have hi:=ih (pre ++ [x]) (by simpa using h1)
  rw [e1] at hi
  obtain ⟨r,p1,p2⟩:=place_f x l hl
  refine Ev.step (f:=fun k => (spec_tiPlace.f k l x.f0 x.f1).bind fun t => (if t < 0 then (some (false,true)) else (spec_IsSolution.l0 k (pre ++ x :: xs) ((pre ++ x :: xs).length:Int) (((pre ++ [x]).length:Nat):Int) l q))) (fun k => ?_) ?_
  ·simp only [spec_IsSolution.l0]
   rw [if_pos (by omega),if_pos (by omega),if_pos (by omega),hget,t_wrap ((pre.length:Int) + 1) (by omega) (by omega)]
   simp
  ·refine Ev.bind (f:=fun k t => _) p1 ?_
   rw [List.all_cons]
   by_cases hm:x ∈ l
   ·have hr:¬ r < 0:=by
     rw [decide_eq_true hm] at p2
     have:=of_decide_eq_true p2
     omega
    simp only [if_neg hr,decide_eq_true hm,Bool.true_and]
    exact hi
   ·have hr:r < 0:=by
     rw [decide_eq_false hm] at p2
     have:=of_decide_eq_false p2
     omega
    simp only [if_pos hr,decide_eq_false hm,Bool.false_and]
    exact ⟨0,fun k _ => rfl⟩
theorem sol_both (l:List S64) (q c:List Int) (hl:l.length ≤ 2000000) (hq:q.length ≤ 2000000) (hc:c.length ≤ 2000000):∃ r:Bool × Bool,Ev (fun k => spec_IsSolution.f k l q c) r ∧ Ev (fun k => impl_IsSolution.f k l q c) r:=by
 have h1:=pz_spec l q hl hq
 have h2:=pz_impl l q hl
 have c1:=ch_spec c hc
 have c2:=ch_impl c hc
 have no1:Ev (fun k => spec_IsSolution.j0 k c true l q) (false,false):=Ev.step (f:=fun _ => some _) (fun k => by simp [spec_IsSolution.j0]) (Ev.now _)
 have no2:Ev (fun k => impl_IsSolution.j0 k c true l q) (false,false):=Ev.step (f:=fun _ => some _) (fun k => by simp [impl_IsSolution.j0]) (Ev.now _)
 unfold spec_IsSolution.f impl_IsSolution.f
 cases hp:pz l q
 ·rw [hp] at h1 h2
  exact ⟨(false,false),Ev.bind (f:=fun k t => _) h1 (by simpa using no1),Ev.bind (f:=fun k t => _) h2 (by simpa using no2)⟩
 ·rw [hp] at h1 h2
  cases hk:ch c
  ·rw [hk] at c1 c2
   refine ⟨(false,false),Ev.bind (f:=fun k t => _) h1 ?_,Ev.bind (f:=fun k t => _) h2 ?_⟩
   ·simp only [if_true]
    exact Ev.bind (f:=fun k t => _) c1 (by simpa using no1)
   ·simp only [if_true]
    exact Ev.bind (f:=fun k t => _) c2 (by simpa using no2)
  ·rw [hk] at c1 c2
   obtain ⟨p1,p2,p3,p4,p5,p6⟩:=pz_true l q hp
   obtain ⟨k1,k2,k3,k4⟩:=ch_true c hk
   by_cases hlen:(c.length:Int) = (q.length:Int)
   ·obtain ⟨f1,f2⟩:=fits_ev l c q [] [] rfl (by omega) (by simp; omega) (fun x hx => (p5 x hx).1)
    simp only [List.nil_append,List.length_nil] at f1 f2
    have ti:=in_ev l q hl (tilesL c) [] (by simp; rw [tilesL_len]; omega)
    simp only [List.nil_append,List.length_nil] at ti
    obtain ⟨s,s1,s2,s3,s4⟩:=sorted_set (tilesL c) k4
    have se:=seq_all s l (by rw [s2,tilesL_len]; omega) (by omega)
    obtain ⟨g1,g2,g3⟩:=isH_true l p3
    have hall:(tilesL c).all (fun t => decide (t ∈ l)) = decide (s = l):=by
     rw [Bool.eq_iff_iff,List.all_eq_true,decide_eq_true_eq]
     constructor
     ·intro h
      have hsub:s ⊆ l:=fun x hx => by have:=h x ((s4 x).1 hx); simpa using this
      have hnd:s.Nodup:=s3.imp (fun {a b} hab e => by subst e; exact lt_irrefl a hab)
      have hsl:s.length = l.length:=by rw [s2,tilesL_len]; omega
      refine uniq s l s3 ((sortedT_iff l g2 g3).1 p6) (fun x => ⟨fun hx => hsub hx,fun hx => ?_⟩)
      by_cases hxs:x ∈ s
      ·exact hxs
      ·have hle:=len_le (x :: s) l (List.nodup_cons.2 ⟨hxs,hnd⟩) (fun y hy => by
        rcases List.mem_cons.1 hy with rfl | hy
        ·exact hx
        ·exact hsub hy)
       rw [List.length_cons] at hle
       omega
     ·intro h x hx
      rw [← h,decide_eq_true_eq]
      exact (s4 x).2 hx
    have r1:Ev (fun k => spec_IsSolution.j0 k c false l q) (ft q c && decide (s = l),true):=by
     refine Ev.step (fun k => by simp only [spec_IsSolution.j0,Bool.false_eq_true,if_false,if_pos hlen]; rfl) ?_
     refine Ev.bind (f:=fun k t => _) (show Ev (fun k => spec_pzFits.f k l q c) (ft q c) from f1) ?_
     cases hf:ft q c
     ·refine Ev.step (f:=fun _ => some (false,true)) (fun k => ?_) (Ev.now _)
      simp [spec_IsSolution.j1]
     ·refine Ev.step (fun k => by simp only [spec_IsSolution.j1,Bool.not_true,Bool.false_eq_true,if_false]; rfl) ?_
      refine Ev.bind (f:=fun k t => _) (haTiles_f c hc).1 ?_
      rw [Bool.true_and,← hall]
      exact ti
    have r2:Ev (fun k => impl_IsSolution.j0 k c false l q) (ft q c && decide (s = l),true):=by
     refine Ev.step (fun k => by simp only [impl_IsSolution.j0,Bool.false_eq_true,if_false,if_pos hlen]; rfl) ?_
     refine Ev.bind (f:=fun k t => _) (haTiles_f c hc).2 ?_
     simp only [s1,Option.bind_some]
     refine Ev.bind (f:=fun k t => _) (show Ev (fun k => slices_Equal_impl_Tile_impl_Tile.f k s l) (decide (s = l)) from ?_) ?_
     ·unfold slices_Equal_impl_Tile_impl_Tile.f
      simp only [if_pos (show (s.length:Int) = (l.length:Int) from by rw [s2,tilesL_len]; omega)]
      exact se
     ·cases hd:decide (s = l)
      ·refine Ev.step (f:=fun _ => some (false,true)) (fun k => ?_) ⟨0,fun k _ => by simp⟩
       simp [impl_IsSolution.j1]
      ·refine Ev.step (fun k => by simp only [impl_IsSolution.j1,Bool.not_true,Bool.false_eq_true,if_false]; rfl) ?_
       rw [Bool.and_true]
       exact f2
    refine ⟨(ft q c && decide (s = l),true),Ev.bind (f:=fun k t => _) h1 ?_,Ev.bind (f:=fun k t => _) h2 ?_⟩
    ·simp only [if_true]
     exact Ev.bind (f:=fun k t => _) c1 (by simpa using r1)
    ·simp only [if_true]
     exact Ev.bind (f:=fun k t => _) c2 (by simpa using r2)
   ·have r1:Ev (fun k => spec_IsSolution.j0 k c false l q) (false,true):=by
     refine Ev.step (fun k => by simp only [spec_IsSolution.j0,Bool.false_eq_true,if_false,if_neg hlen]; rfl) ?_
     exact Ev.step (f:=fun _ => some (false,true)) (fun k => by simp [spec_IsSolution.j1]) (Ev.now _)
    have r2:Ev (fun k => impl_IsSolution.j0 k c false l q) (false,true):=by
     refine Ev.step (fun k => by simp only [impl_IsSolution.j0,Bool.false_eq_true,if_false,if_neg hlen]; rfl) ?_
     exact Ev.step (f:=fun _ => some (false,true)) (fun k => by simp [impl_IsSolution.j1]) (Ev.now _)
    refine ⟨(false,true),Ev.bind (f:=fun k t => _) h1 ?_,Ev.bind (f:=fun k t => _) h2 ?_⟩
    ·simp only [if_true]
     exact Ev.bind (f:=fun k t => _) c1 (by simpa using r1)
    ·simp only [if_true]
     exact Ev.bind (f:=fun k t => _) c2 (by simpa using r2)
theorem ba_ext (a b:ByteArray) (h:a.data.toList = b.data.toList):a = b:=by
 cases a
 cases b
 simp only [ByteArray.mk.injEq]
 exact Array.toList_inj.1 h
theorem ba_app (a b:ByteArray):(a ++ b).data.toList = a.data.toList ++ b.data.toList:=by
 rw [ByteArray.data_append,Array.toList_append]
theorem ba_size (a:ByteArray):a.size = a.data.toList.length:=rfl
theorem s_num (n:Int):(strOfNums [(wrap64 (48 + n)) % 256]).size = 1:=by
 rw [strOfNums_size]
 rfl
theorem s_44:(⟨#[44]⟩ : ByteArray).size = 1:=rfl
theorem s_46:(⟨#[46]⟩ : ByteArray).size = 1:=rfl
theorem s_58:(⟨#[58]⟩ : ByteArray).size = 1:=rfl
theorem s_0:(⟨#[]⟩ : ByteArray).size = 0:=rfl
def dgn (n:Int):UInt8:=UInt8.ofNat ((wrap64 (48 + n)) % 256).toNat
def tl (x:S64):List UInt8:=[dgn x.f0,dgn x.f1]
theorem num_f (n:Int) (h:n < 10):Ev (fun k => spec_l1Num.f k n) (strOfNums [(wrap64 (48 + n)) % 256]):=by
 refine Ev.step (f:=fun _ => some (strOfNums [(wrap64 (48 + n)) % 256])) (fun k => ?_) (Ev.now _)
 simp only [spec_l1Num.f]
 rw [if_pos h]
theorem num_list (n:Int):(strOfNums [(wrap64 (48 + n)) % 256]).data.toList = [dgn n]:=rfl
theorem joinTail_len (l:List S64):(Lib.joinTail [44] (l.map tl)).length = 3 * l.length:=by
 induction l with
 | nil => rfl
 | cons x xs ih =>
  have:Lib.joinTail [44] ((x :: xs).map tl) = [44] ++ tl x ++ Lib.joinTail [44] (xs.map tl):=by simp [Lib.joinTail]
  rw [this]
  simp only [List.length_append,List.length_cons,ih,tl,List.length_nil]
  omega
theorem joinTail_cons (x:S64) (xs:List S64):Lib.joinTail [44] ((x :: xs).map tl) = 44 :: dgn x.f0 :: dgn x.f1 :: Lib.joinTail [44] (xs.map tl):=by
 simp [Lib.joinTail,tl]
theorem tt_ev:∀ (rest pre:List S64) (o:ByteArray),(∀ x ∈ rest,x.f0 < 10 ∧ x.f1 < 10) → 0 < pre.length → (pre ++ rest).length ≤ 1000 → o.size + 3 * rest.length ≤ 10000 →
  ∃ y:ByteArray,Ev (fun k => spec_tiText.l0 k o (pre ++ rest) ((pre ++ rest).length:Int) (pre.length:Int)) y ∧ y.data.toList = o.data.toList ++ Lib.joinTail [44] (rest.map tl):=by
 intro rest
 induction rest with
 | nil =>
  intro pre o _ h0 h1 h2
  refine ⟨o,Ev.step (f:=fun _ => some o) (fun k => ?_) (Ev.now _),by simp [Lib.joinTail]⟩
  simp only [spec_tiText.l0,List.append_nil]
  rw [if_neg (by omega)]
 | cons x xs ih =>
  intro pre o hd h0 h1 h2
  have hlen:(pre ++ x :: xs).length = pre.length + xs.length + 1:=by simp; omega
  have hl2:(x :: xs).length = xs.length + 1:=rfl
  have hget:rd_T64 (pre ++ x :: xs) (pre.length:Int) = x:=by
   unfold rd_T64
   exact t_mid pre x xs _
  have e1:pre ++ [x] ++ xs = pre ++ x :: xs:=by simp
  obtain ⟨hx0,hx1⟩:=hd x List.mem_cons_self
  have hol:((o ++ (⟨#[44]⟩ : ByteArray)) ++ (strOfNums [(wrap64 (48 + x.f0)) % 256] ++ strOfNums [(wrap64 (48 + x.f1)) % 256])).data.toList = o.data.toList ++ [44] ++ ([dgn x.f0] ++ [dgn x.f1]):=by
   rw [ba_app,ba_app,ba_app,num_list,num_list]
  obtain ⟨y,y1,y2⟩:=ih (pre ++ [x]) ((o ++ (⟨#[44]⟩ : ByteArray)) ++ (strOfNums [(wrap64 (48 + x.f0)) % 256] ++ strOfNums [(wrap64 (48 + x.f1)) % 256])) (fun z hz => hd z (List.mem_cons_of_mem _ hz)) (by simp) (by simpa using h1) (by simp only [ByteArray.size_append,s_num,s_44,s_46,s_58,s_0]; omega)
  rw [e1] at y1
  refine ⟨y,Ev.step (f:=fun k => (spec_l1Num.f k x.f0).bind fun a => (spec_l1Num.f k x.f1).bind fun b => (if a.size + b.size ≤ 9223372036854775807 then (if (o ++ (⟨#[44]⟩ : ByteArray)).size + (a ++ b).size ≤ 9223372036854775807 then (spec_tiText.l0 k ((o ++ (⟨#[44]⟩ : ByteArray)) ++ (a ++ b)) (pre ++ x :: xs) ((pre ++ x :: xs).length:Int) (((pre ++ [x]).length:Nat):Int)) else none) else none)) (fun k => ?_) ?_,?_⟩
  ·simp only [spec_tiText.l0]
   rw [if_pos (by omega),if_pos (by omega),if_pos (by omega),if_pos (by omega),if_pos (by omega),hget,t_wrap ((pre.length:Int) + 1) (by omega) (by omega)]
   simp
  ·refine Ev.bind (f:=fun k a => _) (num_f _ hx0) ?_
   refine Ev.bind (f:=fun k b => _) (num_f _ hx1) ?_
   simp only [if_pos (show (strOfNums [(wrap64 (48 + x.f0)) % 256]).size + (strOfNums [(wrap64 (48 + x.f1)) % 256]).size ≤ 9223372036854775807 from by simp only [ByteArray.size_append,s_num,s_44,s_46,s_58,s_0]; omega),
    if_pos (show (o ++ (⟨#[44]⟩ : ByteArray)).size + (strOfNums [(wrap64 (48 + x.f0)) % 256] ++ strOfNums [(wrap64 (48 + x.f1)) % 256]).size ≤ 9223372036854775807 from by simp only [ByteArray.size_append,s_num,s_44,s_46,s_58,s_0]; omega)]
   exact y1
  ·rw [y2,hol,joinTail_cons]
   simp
theorem tt_f (l:List S64) (hl:l.length ≤ 55) (hd:∀ x ∈ l,x.f0 < 10 ∧ x.f1 < 10):∃ y:ByteArray,Ev (fun k => spec_tiText.f k l) y ∧ y.data.toList = (if l = [] then [45] else Lib.join (l.map tl) [44]):=by
 unfold spec_tiText.f
 cases l with
 | nil => exact ⟨⟨#[45]⟩,⟨0,fun k _ => rfl⟩,rfl⟩
 | cons x xs =>
  have hl2:(x :: xs).length = xs.length + 1:=rfl
  obtain ⟨hx0,hx1⟩:=hd x List.mem_cons_self
  have hol:((⟨#[]⟩ : ByteArray) ++ (strOfNums [(wrap64 (48 + x.f0)) % 256] ++ strOfNums [(wrap64 (48 + x.f1)) % 256])).data.toList = [dgn x.f0] ++ [dgn x.f1]:=by
   rw [ba_app,ba_app,num_list,num_list]
   rfl
  obtain ⟨y,y1,y2⟩:=tt_ev xs [x] ((⟨#[]⟩ : ByteArray) ++ (strOfNums [(wrap64 (48 + x.f0)) % 256] ++ strOfNums [(wrap64 (48 + x.f1)) % 256])) (fun z hz => hd z (List.mem_cons_of_mem _ hz)) (by simp) (by simp; omega) (by simp only [ByteArray.size_append,s_num,s_44,s_46,s_58,s_0]; omega)
  refine ⟨y,?_,?_⟩
  ·simp only [if_neg (show ¬ ((x :: xs).length:Int) = 0 from by omega)]
   refine Ev.step (f:=fun k => (spec_l1Num.f k x.f0).bind fun a => (spec_l1Num.f k x.f1).bind fun b => (if a.size + b.size ≤ 9223372036854775807 then (if (⟨#[]⟩ : ByteArray).size + (a ++ b).size ≤ 9223372036854775807 then (spec_tiText.l0 k ((⟨#[]⟩ : ByteArray) ++ (a ++ b)) (x :: xs) ((x :: xs).length:Int) 1) else none) else none)) (fun k => ?_) ?_
   ·have hget:rd_T64 (x :: xs) 0 = x:=rfl
    simp only [spec_tiText.l0]
    rw [if_pos (by omega),if_pos (by omega),if_pos (by omega),if_neg (by omega),hget,t_wrap (0 + 1) (by omega) (by omega)]
    rfl
   ·refine Ev.bind (f:=fun k a => _) (num_f _ hx0) ?_
    refine Ev.bind (f:=fun k b => _) (num_f _ hx1) ?_
    simp only [if_pos (show (strOfNums [(wrap64 (48 + x.f0)) % 256]).size + (strOfNums [(wrap64 (48 + x.f1)) % 256]).size ≤ 9223372036854775807 from by simp only [ByteArray.size_append,s_num,s_44,s_46,s_58,s_0]; omega),
     if_pos (show (⟨#[]⟩ : ByteArray).size + (strOfNums [(wrap64 (48 + x.f0)) % 256] ++ strOfNums [(wrap64 (48 + x.f1)) % 256]).size ≤ 9223372036854775807 from by simp only [ByteArray.size_append,s_num,s_44,s_46,s_58,s_0]; omega)]
    exact y1
  ·rw [y2,hol,if_neg (by simp),List.map_cons,Lib.join_cons]
   rfl
theorem ht_ev:∀ (rest pre:List S64) (P:List ByteArray),P.map (·.data.toList) = pre.map tl → (pre ++ rest).length ≤ 55 → 0 < (pre ++ rest).length →
  Ev (fun k => impl_handText.l0 k P (pre ++ rest) ((pre ++ rest).length:Int) (pre.length:Int)) ⟨(Lib.join ((pre ++ rest).map tl) [44]).toArray⟩:=by
 intro rest
 induction rest with
 | nil =>
  intro pre P hP h1 h2
  have hPl:P.length = pre.length:=by
   have:=congrArg List.length hP
   simpa using this
  simp only [List.append_nil] at h1 h2 ⊢
  refine Ev.step (f:=fun _ => some ⟨(Lib.join (pre.map tl) [44]).toArray⟩) (fun k => ?_) (Ev.now _)
  simp only [impl_handText.l0]
  rw [if_neg (by omega)]
  unfold strings_Join.f
  have hj:Lib.join (P.map (·.data.toList)) (⟨#[44]⟩ : ByteArray).data.toList = Lib.join (pre.map tl) [44]:=by rw [hP]
  have hlen:(Lib.join (pre.map tl) [44]).length ≤ 1000:=by
   cases pre with
   | nil => simp at h2
   | cons x xs =>
    rw [List.map_cons,Lib.join_cons,List.length_append,joinTail_len]
    simp [tl] at h1 ⊢
    omega
  rw [hj,if_pos ⟨by omega,by omega⟩]
  rfl
 | cons x xs ih =>
  intro pre P hP h1 h2
  have hlen:(pre ++ x :: xs).length = pre.length + xs.length + 1:=by simp; omega
  have hPl:P.length = pre.length:=by
   have:=congrArg List.length hP
   simpa using this
  have hget:rd_T64 (pre ++ x :: xs) (pre.length:Int) = x:=by
   unfold rd_T64
   exact t_mid pre x xs _
  have e1:pre ++ [x] ++ xs = pre ++ x :: xs:=by simp
  have hi:=ih (pre ++ [x]) (P ++ [strOfNums [(wrap64 (48 + x.f0)) % 256,(wrap64 (48 + x.f1)) % 256]]) (by rw [List.map_append,List.map_append,hP]; rfl) (by simpa using h1) (by simp; omega)
  rw [e1] at hi
  refine Ev.step (fun k => ?_) hi
  simp only [impl_handText.l0,impl_Tile_digits.f,Option.bind_some]
  rw [if_pos (by omega),if_pos (by omega),if_pos (by omega),if_pos (by omega),hget,t_wrap ((pre.length:Int) + 1) (by omega) (by omega)]
  simp
theorem ht_f (l:List S64) (hl:l.length ≤ 55):∃ y:ByteArray,Ev (fun k => impl_handText.f k l) y ∧ y.data.toList = (if l = [] then [45] else Lib.join (l.map tl) [44]):=by
 unfold impl_handText.f
 cases l with
 | nil => exact ⟨⟨#[45]⟩,⟨0,fun k _ => rfl⟩,rfl⟩
 | cons x xs =>
  have hl2:(x :: xs).length = xs.length + 1:=rfl
  refine ⟨⟨(Lib.join ((x :: xs).map tl) [44]).toArray⟩,?_,by simp⟩
  simp only [if_neg (show ¬ ((x :: xs).length:Int) = 0 from by omega)]
  exact ht_ev (x :: xs) [] [] rfl (by simpa using hl) (by simp)
def cd (n:Int):UInt8:=if n < 0 then 46 else dgn n
theorem ct_spec:∀ (rest pre:List Int) (o:ByteArray),(∀ x ∈ rest,x < 10) → (pre ++ rest).length ≤ 1000 → o.size + rest.length ≤ 10000 →
  ∃ y:ByteArray,Ev (fun k => spec_pzText.l0 k o (pre ++ rest) ((pre ++ rest).length:Int) (pre.length:Int)) y ∧ y.data.toList = o.data.toList ++ rest.map cd:=by
 intro rest
 induction rest with
 | nil =>
  intro pre o _ h1 h2
  refine ⟨o,Ev.step (f:=fun _ => some o) (fun k => ?_) (Ev.now _),by simp⟩
  simp only [spec_pzText.l0,List.append_nil]
  rw [if_neg (by omega)]
 | cons x xs ih =>
  intro pre o hd h1 h2
  have hlen:(pre ++ x :: xs).length = pre.length + xs.length + 1:=by simp; omega
  have hl2:(x :: xs).length = xs.length + 1:=rfl
  have e1:pre ++ [x] ++ xs = pre ++ x :: xs:=by simp
  by_cases hx:x < 0
  ·have hol:(o ++ (⟨#[46]⟩ : ByteArray)).data.toList = o.data.toList ++ [46]:=ba_app _ _
   obtain ⟨y,y1,y2⟩:=ih (pre ++ [x]) (o ++ (⟨#[46]⟩ : ByteArray)) (fun z hz => hd z (List.mem_cons_of_mem _ hz)) (by simpa using h1) (by simp only [ByteArray.size_append,s_num,s_44,s_46,s_58,s_0]; omega)
   rw [e1] at y1
   refine ⟨y,Ev.step (fun k => ?_) y1,by rw [y2,hol]; simp [cd,hx]⟩
   simp only [spec_pzText.l0]
   rw [if_pos (by omega),if_pos (by omega),if_pos (by omega),i_mid,if_pos hx,if_pos (by omega),t_wrap ((pre.length:Int) + 1) (by omega) (by omega)]
   simp
  ·have hol:(o ++ strOfNums [(wrap64 (48 + x)) % 256]).data.toList = o.data.toList ++ [dgn x]:=by rw [ba_app,num_list]
   obtain ⟨y,y1,y2⟩:=ih (pre ++ [x]) (o ++ strOfNums [(wrap64 (48 + x)) % 256]) (fun z hz => hd z (List.mem_cons_of_mem _ hz)) (by simpa using h1) (by simp only [ByteArray.size_append,s_num,s_44,s_46,s_58,s_0]; omega)
   rw [e1] at y1
   refine ⟨y,Ev.step (f:=fun k => (spec_l1Num.f k x).bind fun t => (if o.size + t.size ≤ 9223372036854775807 then (spec_pzText.l0 k (o ++ t) (pre ++ x :: xs) ((pre ++ x :: xs).length:Int) (((pre ++ [x]).length:Nat):Int)) else none)) (fun k => ?_) ?_,by rw [y2,hol]; simp [cd,hx]⟩
   ·simp only [spec_pzText.l0]
    rw [if_pos (by omega),if_pos (by omega),if_pos (by omega),i_mid,if_neg hx,t_wrap ((pre.length:Int) + 1) (by omega) (by omega)]
    simp
   ·refine Ev.bind (f:=fun k b => _) (num_f _ (hd x List.mem_cons_self)) ?_
    simp only [if_pos (show o.size + (strOfNums [(wrap64 (48 + x)) % 256]).size ≤ 9223372036854775807 from by simp only [ByteArray.size_append,s_num,s_44,s_46,s_58,s_0]; omega)]
    exact y1
theorem ct_impl:∀ (rest pre:List Int) (P:List Int),P.map (fun n => UInt8.ofNat n.toNat) = pre.map cd → (pre ++ rest).length ≤ 1000 →
  ∃ y:ByteArray,Ev (fun k => impl_chainText.l0 k P (pre ++ rest) ((pre ++ rest).length:Int) (pre.length:Int)) y ∧ y.data.toList = (pre ++ rest).map cd:=by
 intro rest
 induction rest with
 | nil =>
  intro pre P hP h1
  refine ⟨strOfNums P,Ev.step (f:=fun _ => some (strOfNums P)) (fun k => ?_) (Ev.now _),?_⟩
  ·simp only [impl_chainText.l0,List.append_nil]
   rw [if_neg (by omega)]
  ·rw [List.append_nil,← hP]
   rfl
 | cons x xs ih =>
  intro pre P hP h1
  have hlen:(pre ++ x :: xs).length = pre.length + xs.length + 1:=by simp; omega
  have hPl:P.length = pre.length:=by
   have:=congrArg List.length hP
   simpa using this
  have e1:pre ++ [x] ++ xs = pre ++ x :: xs:=by simp
  by_cases hx:x < 0
  ·obtain ⟨y,y1,y2⟩:=ih (pre ++ [x]) (P ++ [46]) (by rw [List.map_append,List.map_append,hP]; simp [cd,hx]) (by simpa using h1)
   rw [e1] at y1 y2
   refine ⟨y,Ev.step (fun k => ?_) y1,y2⟩
   simp only [impl_chainText.l0]
   rw [if_pos (by omega),if_pos (by omega),if_pos (by omega),i_mid,if_pos hx,if_pos (by omega),t_wrap ((pre.length:Int) + 1) (by omega) (by omega)]
   simp
  ·obtain ⟨y,y1,y2⟩:=ih (pre ++ [x]) (P ++ [(wrap64 (48 + x)) % 256]) (by rw [List.map_append,List.map_append,hP]; simp [cd,hx,dgn]) (by simpa using h1)
   rw [e1] at y1 y2
   refine ⟨y,Ev.step (fun k => ?_) y1,y2⟩
   simp only [impl_chainText.l0]
   rw [if_pos (by omega),if_pos (by omega),if_pos (by omega),i_mid,if_neg hx,if_pos (by omega),t_wrap ((pre.length:Int) + 1) (by omega) (by omega)]
   simp
theorem dropWhile_nil {α:Type} (p:α → Bool):∀ l:List α,l.dropWhile p = [] ↔ ∀ x ∈ l,p x = true
 | [] => by simp
 | x :: xs => by
  rw [List.dropWhile_cons]
  cases h:p x
  ·simp [h]
  ·simp [h,dropWhile_nil p xs]
theorem trim_nil (l cs:List UInt8):Lib.trimS l cs = [] ↔ ∀ x ∈ l,cs.contains x = true:=by
 unfold Lib.trimS Lib.trimLeftS Lib.trimRightS
 rw [dropWhile_nil]
 constructor
 ·intro h
  by_cases hm:l.reverse.dropWhile (cs.contains ·) = []
  ·intro x hx
   exact (dropWhile_nil _ _).1 hm x (List.mem_reverse.2 hx)
  ·exfalso
   have h1:=List.head_dropWhile_not (fun x => cs.contains x) hm
   have h2:=h ((l.reverse.dropWhile (cs.contains ·)).head hm) (List.mem_reverse.2 (List.head_mem hm))
   rw [h2] at h1
   cases h1
 ·intro h x hx
  have hx2:=List.mem_reverse.1 hx
  exact h x (List.mem_reverse.1 (List.dropWhile_sublist _ |>.subset hx2))
def cut1 (c:UInt8):List UInt8 → List UInt8 × List UInt8 × Bool
 | [] => ([],[],false)
 | b :: l => if b = c then ([],l,true) else (b :: (cut1 c l).1,(cut1 c l).2.1,(cut1 c l).2.2)
theorem index_one (c:UInt8):∀ l:List UInt8,(Lib.index l [c] = -1 ∧ cut1 c l = (l,[],false)) ∨ (0 ≤ Lib.index l [c] ∧ cut1 c l = (l.take (Lib.index l [c]).toNat,l.drop ((Lib.index l [c]).toNat + 1),true))
 | [] => .inl ⟨rfl,rfl⟩
 | b :: l => by
  by_cases h:b = c
  ·refine .inr ?_
   have e:Lib.index (b :: l) [c] = 0:=by simp [Lib.index,h]
   rw [e]
   simp [cut1,h]
  ·have hp:([c] : List UInt8).isPrefixOf (b :: l) = false:=by
    simp [List.isPrefixOf,Ne.symm h]
   rcases index_one c l with ⟨h1,h2⟩ | ⟨h1,h2⟩
   ·refine .inl ⟨by simp only [Lib.index,hp,h1]; rfl,?_⟩
    simp [cut1,h,h2]
   ·refine .inr ?_
    have e:Lib.index (b :: l) [c] = Lib.index l [c] + 1:=by
     have hn:(Lib.index l [c] == -1) = false:=beq_eq_false_iff_ne.2 (by omega)
     simp only [Lib.index,hp,hn]
     rfl
    rw [e]
    refine ⟨by omega,?_⟩
    have e2:(Lib.index l [c] + 1).toNat = (Lib.index l [c]).toNat + 1:=by omega
    rw [e2]
    simp only [cut1,h,if_false,h2,List.take_succ_cons,List.drop_succ_cons]
theorem cut_one (c:UInt8) (l:List UInt8):Lib.cut l [c] = cut1 c l:=by
 unfold Lib.cut
 rcases index_one c l with ⟨h1,h2⟩ | ⟨h1,h2⟩
 ·rw [h1,h2]
  rfl
 ·rw [if_pos h1,h2]
  rfl
def sp1 (c:UInt8):List UInt8 → List (List UInt8)
 | [] => [[]]
 | b :: l => if b = c then [] :: sp1 c l else (match sp1 c l with | [] => [[b]] | x :: xs => (b :: x) :: xs)
theorem sp1_cut (c:UInt8):∀ l:List UInt8,sp1 c l = if (cut1 c l).2.2 = true then (cut1 c l).1 :: sp1 c (cut1 c l).2.1 else [(cut1 c l).1]
 | [] => rfl
 | b :: l => by
  by_cases h:b = c
  ·simp [sp1,cut1,h]
  ·have ih:=sp1_cut c l
   simp only [sp1,cut1,h,if_false]
   rw [ih]
   cases h2:(cut1 c l).2.2 <;> simp
theorem split_sp (c:UInt8) (sep:ByteArray) (hsep:sep.data.toList = [c]):∀ (k:Nat) (s:ByteArray),Lib.countB s sep = k → (Lib.splitB sep 0 k s).map (·.data.toList) = sp1 c s.data.toList:=by
 have h1:1 ≤ sep.size:=by
  have:=Lib.size_eq sep
  rw [hsep] at this
  simp at this
  omega
 have hsz:sep.size = 1:=by
  have:=Lib.size_eq sep
  rw [hsep] at this
  simpa using this
 intro k
 induction k with
 | zero =>
  intro s hk
  rw [Lib.splitB_zero,sp1_cut]
  rcases index_one c s.data.toList with ⟨_,h3⟩ | ⟨h2,h3⟩
  ·rw [h3]
   rfl
  ·exfalso
   have hi:Lib.indexB s sep = ((Lib.indexB s sep).toNat:Nat):=by
    show Lib.index s.data.toList sep.data.toList = ((Lib.index s.data.toList sep.data.toList).toNat:Nat)
    rw [hsep]
    omega
   have:=Lib.countB_hit s sep _ h1 hi
   omega
 | succ k ih =>
  intro s hk
  rw [sp1_cut]
  rcases index_one c s.data.toList with ⟨h2,h3⟩ | ⟨h2,h3⟩
  ·exfalso
   have hm:Lib.indexB s sep = -1:=by
    show Lib.index s.data.toList sep.data.toList = -1
    rw [hsep]
    exact h2
   have:=Lib.countB_miss s sep hm
   omega
  ·have hi:Lib.indexB s sep = ((Lib.index s.data.toList [c]).toNat:Nat):=by
    show Lib.index s.data.toList sep.data.toList = _
    rw [hsep]
    omega
   have hc:=Lib.countB_hit s sep _ h1 hi
   rw [Lib.splitB_hit sep 0 k s _ hi,List.map_cons,ih _ (by omega),h3]
   simp only [if_true,hsz]
   congr 1
   ·rw [Lib.extract_from_zero]
    rfl
   ·rw [Lib.extract_to_end]
theorem bt_is (s:ByteArray) (i:Nat) (c:UInt8) (r:List UInt8) (h:s.data.toList.drop i = c :: r):bt s (i:Int) = (c.toNat:Int):=by
 have h2:s.data.toList[i]? = some c:=by
  have:=congrArg (fun l => l[0]?) h
  simpa [List.getElem?_drop] using this
 have hl:i < s.size:=by
  rw [Lib.size_eq]
  exact (List.getElem?_eq_some_iff.1 h2).1
 have h3:s[i]'hl = c:=by
  have h4:=(List.getElem?_eq_some_iff.1 h2).2
  rw [← h4]
  rfl
 unfold bt
 simp only [Int.toNat_natCast]
 rw [dif_pos hl,h3]
def pcs (c:UInt8) (s:List UInt8) (j i:Nat):List (List UInt8):=match sp1 c (s.drop i) with
 | [] => []
 | x :: xs => ((s.drop j).take (i - j) ++ x) :: xs
theorem sp1_ne (c:UInt8):∀ l,sp1 c l ≠ []
 | [] => by simp [sp1]
 | b :: l => by
  unfold sp1
  split
  ·simp
  ·split <;> simp
theorem l1Split_ev (s:ByteArray) (hs:s.size ≤ 1000000):∀ (d i j:Nat) (o:List ByteArray),i + d = s.size → j ≤ i → o.length ≤ i →
  ∃ R:List ByteArray,Ev (fun k => spec_l1Split.l0 k s 44 o (j:Int) (i:Int)) R ∧ R.map (·.data.toList) = o.map (·.data.toList) ++ pcs 44 s.data.toList j i:=by
 intro d
 induction d with
 | zero =>
  intro i j o h1 h2 h3
  have hi:i = s.size:=by omega
  subst hi
  refine ⟨o ++ [s.extract j s.size],Ev.step (f:=fun _ => some (o ++ [s.extract j s.size])) (fun k => ?_) (Ev.now _),?_⟩
  ·simp only [spec_l1Split.l0]
   rw [if_neg (by omega),if_pos (by omega),if_pos (by omega),if_pos (by omega)]
   rfl
  ·have hd:s.data.toList.drop s.size = []:=List.drop_eq_nil_of_le (by rw [← Lib.size_eq]; exact Nat.le_refl _)
   simp only [List.map_append,List.map_cons,List.map_nil,pcs,hd,sp1,List.append_nil]
   rw [Lib.extract_to_end]
   congr 2
   exact (List.take_of_length_le (by rw [List.length_drop,← Lib.size_eq]; exact Nat.le_refl _)).symm
 | succ d ih =>
  intro i j o h1 h2 h3
  have hlt:i < s.data.toList.length:=by rw [← Lib.size_eq]; omega
  have hdrop:=List.drop_eq_getElem_cons hlt
  have hb:=bt_is s i _ _ hdrop
  have htk:(s.data.toList.drop j).take (i + 1 - j) = (s.data.toList.drop j).take (i - j) ++ [s.data.toList[i]]:=by
   have e:i + 1 - j = (i - j) + 1:=by omega
   rw [e,List.take_add_one,List.getElem?_drop]
   have e2:j + (i - j) = i:=by omega
   rw [e2,List.getElem?_eq_getElem hlt]
   rfl
  by_cases hc:s.data.toList[i] = 44
  ·obtain ⟨R,r1,r2⟩:=ih (i + 1) (i + 1) (o ++ [s.extract j i]) (by omega) (Nat.le_refl _) (by simp; omega)
   refine ⟨R,Ev.step (fun k => ?_) r1,?_⟩
   ·simp only [spec_l1Split.l0]
    rw [if_pos (by omega),if_pos (by omega),hb,hc,if_pos (by rfl),if_pos (by omega),if_pos (by omega),if_pos (by omega),if_pos (by omega),t_wrap ((i:Int) + 1) (by omega) (by omega)]
    rfl
   ·rw [r2]
    simp only [pcs,hdrop,hc,sp1,if_true,List.map_append,List.map_cons,List.map_nil,List.append_nil,List.append_assoc]
    congr 1
    obtain ⟨x,xs,hx⟩:=List.exists_cons_of_ne_nil (sp1_ne 44 (s.data.toList.drop (i + 1)))
    rw [hx]
    simp only [Nat.sub_self,List.take_zero,List.nil_append,List.singleton_append]
    congr 1
    rw [Lib.extract_data]
  ·obtain ⟨R,r1,r2⟩:=ih (i + 1) j o (by omega) (by omega) (by omega)
   refine ⟨R,Ev.step (fun k => ?_) r1,?_⟩
   ·simp only [spec_l1Split.l0]
    rw [if_pos (by omega),if_pos (by omega),hb,if_neg (by
     intro e
     apply hc
     have:s.data.toList[i].toNat = 44:=by omega
     exact UInt8.toNat_inj.1 this),t_wrap ((i:Int) + 1) (by omega) (by omega)]
    rfl
   ·rw [r2]
    congr 1
    simp only [pcs,hdrop,hc,sp1,if_false]
    obtain ⟨x,xs,hx⟩:=List.exists_cons_of_ne_nil (sp1_ne 44 (s.data.toList.drop (i + 1)))
    rw [hx,htk]
    simp
theorem sp1_sum (c:UInt8):∀ l:List UInt8,((sp1 c l).map (fun x => x.length + 1)).sum = l.length + 1
 | [] => rfl
 | b :: l => by
  have ih:=sp1_sum c l
  by_cases h:b = c
  ·simp only [sp1,h,if_true,List.map_cons,List.sum_cons,ih,List.length_nil,List.length_cons]
   omega
  ·obtain ⟨x,xs,hx⟩:=List.exists_cons_of_ne_nil (sp1_ne c l)
   rw [hx] at ih
   simp only [List.map_cons,List.sum_cons] at ih
   simp only [sp1,h,if_false,hx,List.map_cons,List.sum_cons,List.length_cons]
   omega
theorem sum_two:∀ L:List (List UInt8),(∀ x ∈ L,x.length = 2) → (L.map (fun x => x.length + 1)).sum = 3 * L.length
 | [],_ => rfl
 | x :: xs,h => by
  have ih:=sum_two xs (fun y hy => h y (List.mem_cons_of_mem _ hy))
  have hx:=h x List.mem_cons_self
  simp only [List.map_cons,List.sum_cons,List.length_cons,ih,hx]
  omega
theorem rdOf_mid (pre:List ByteArray) (x:ByteArray) (xs:List ByteArray):rdOf ByteArray.empty (pre ++ x :: xs) (pre.length:Int) = x:=by
 unfold rdOf
 simp
theorem hand_bad:∀ (rest pre:List ByteArray) (o:List S64),pre.length + rest.length ≤ 2000000 → o.length ≤ pre.length → (∃ x ∈ o,good x = false) →
  Ev (fun k => impl_ParseHand.l0 k o (pre ++ rest) ((pre.length + rest.length:Nat):Int) (pre.length:Int)) (([] : List S64),false):=by
 intro rest
 induction rest with
 | nil =>
  intro pre o h1 h2 ⟨x,hx,hg⟩
  have hn:isH o = false:=by
   have:o.all good = false:=by
    rw [List.all_eq_false]
    exact ⟨x,hx,by simp [hg]⟩
   simp [isH,this]
  have hi:=isH_impl o (by omega)
  rw [hn] at hi
  refine Ev.step (f:=fun k => (impl_IsHand.f k o).bind fun t219 => (if t219 = true then (some (o,true)) else (some (([] : List S64),false)))) (fun k => ?_) (Ev.bind (f:=fun _ (t:Bool) => (if t = true then (some (o,true)) else (some (([] : List S64),false)))) hi ⟨0,fun k _ => rfl⟩)
  simp only [impl_ParseHand.l0,List.length_nil,List.append_nil]
  rw [if_neg (by omega)]
 | cons b bs ih =>
  intro pre o h1 h2 hb
  have hl2:(b :: bs).length = bs.length + 1:=rfl
  have hlen:(pre ++ b :: bs).length = pre.length + bs.length + 1:=by simp; omega
  by_cases hz:(b.size:Int) = 2
  ·have hi:=ih (pre ++ [b]) (o ++ [(⟨wrap64 ((wrap64 (bt b 0)) - 48),wrap64 ((wrap64 (bt b 1)) - 48)⟩ : S64)]) (by simp; omega) (by simp; omega) (by
    obtain ⟨x,hx,hg⟩:=hb
    exact ⟨x,List.mem_append_left _ hx,hg⟩)
   have e2:(pre ++ [b]).length + bs.length = pre.length + (b :: bs).length:=by simp; omega
   rw [e2] at hi
   refine Ev.step (fun k => ?_) hi
   simp only [impl_ParseHand.l0]
   rw [rdOf_mid,if_pos (by omega),if_pos (by omega),if_pos (by omega),if_pos hz,if_pos (by omega),if_pos (by omega),if_pos (by omega),t_wrap ((pre.length:Int) + 1) (by omega) (by omega)]
   simp
  ·refine Ev.step (f:=fun _ => some (([] : List S64),false)) (fun k => ?_) (Ev.now _)
   simp only [impl_ParseHand.l0]
   rw [rdOf_mid,if_pos (by omega),if_pos (by omega),if_pos (by omega),if_neg hz]
theorem hand_both:∀ (rest pre:List ByteArray) (o:List S64),pre.length + rest.length ≤ 2000000 → o.length ≤ pre.length →
  ∃ r:List S64 × Bool,Ev (fun k => spec_tiParse.l0 k o (pre ++ rest) ((pre.length + rest.length:Nat):Int) (pre.length:Int)) r ∧
   Ev (fun k => impl_ParseHand.l0 k o (pre ++ rest) ((pre.length + rest.length:Nat):Int) (pre.length:Int)) r ∧ (r.2 = false → r.1 = []) ∧ (r.2 = true → isH r.1 = true ∧ ∃ l,r.1 = o ++ l ∧ l.length = rest.length ∧ ∀ i,∀ h:i < rest.length,∃ t:S64,l[i]? = some t ∧ (rest[i]).size = 2 ∧ bt rest[i] 0 = t.f0 + 48 ∧ bt rest[i] 1 = t.f1 + 48):=by
 intro rest
 induction rest with
 | nil =>
  intro pre o h1 h2
  have hs:=isH_spec o (by omega)
  have hi:=isH_impl o (by omega)
  refine ⟨if isH o = true then (o,true) else ([],false),?_,?_,?_,?_⟩
  ·refine Ev.step (f:=fun k => (spec_tiHand.f k o).bind fun t127 => (if t127 = true then (some (o,true)) else (some (([] : List S64),false)))) (fun k => ?_) (Ev.bind (f:=fun _ (t:Bool) => (if t = true then (some (o,true)) else (some (([] : List S64),false)))) hs ⟨0,fun k _ => ?_⟩)
   ·simp only [spec_tiParse.l0,List.length_nil,List.append_nil]
    rw [if_neg (by omega)]
   ·cases isH o <;> rfl
  ·refine Ev.step (f:=fun k => (impl_IsHand.f k o).bind fun t127 => (if t127 = true then (some (o,true)) else (some (([] : List S64),false)))) (fun k => ?_) (Ev.bind (f:=fun _ (t:Bool) => (if t = true then (some (o,true)) else (some (([] : List S64),false)))) hi ⟨0,fun k _ => ?_⟩)
   ·simp only [impl_ParseHand.l0,List.length_nil,List.append_nil]
    rw [if_neg (by omega)]
   ·cases isH o <;> rfl
  ·cases h:isH o <;> simp
  ·cases h:isH o
   ·simp
   ·simp [h]
 | cons b bs ih =>
  intro pre o h1 h2
  have hl2:(b :: bs).length = bs.length + 1:=rfl
  have hlen:(pre ++ b :: bs).length = pre.length + bs.length + 1:=by simp; omega
  have r0:=bt_range b 0
  have r1:=bt_range b 1
  by_cases hz:(b.size:Int) = 2
  ·have e2:(pre ++ [b]).length + bs.length = pre.length + (b :: bs).length:=by simp; omega
   have w0:wrap64 ((wrap64 (bt b 0)) - 48) = bt b 0 - 48:=by rw [t_wrap (bt b 0) (by omega) (by omega),t_wrap _ (by omega) (by omega)]
   have w1:wrap64 ((wrap64 (bt b 1)) - 48) = bt b 1 - 48:=by rw [t_wrap (bt b 1) (by omega) (by omega),t_wrap _ (by omega) (by omega)]
   have himp:∀ R,Ev (fun k => impl_ParseHand.l0 k (o ++ [(⟨bt b 0 - 48,bt b 1 - 48⟩ : S64)]) (pre ++ b :: bs) ((pre.length + (b :: bs).length:Nat):Int) ((pre.length + 1:Nat):Int)) R → Ev (fun k => impl_ParseHand.l0 k o (pre ++ b :: bs) ((pre.length + (b :: bs).length:Nat):Int) (pre.length:Int)) R:=by
    intro R hR
    refine Ev.step (fun k => ?_) hR
    simp only [impl_ParseHand.l0]
    rw [rdOf_mid,if_pos (by omega),if_pos (by omega),if_pos (by omega),if_pos hz,if_pos (by omega),if_pos (by omega),if_pos (by omega),t_wrap ((pre.length:Int) + 1) (by omega) (by omega),w0,w1]
    rfl
   have e3:pre ++ [b] ++ bs = pre ++ b :: bs:=by simp
   by_cases hd:(48 ≤ bt b 0 ∧ bt b 0 ≤ 57) ∧ (48 ≤ bt b 1 ∧ bt b 1 ≤ 57)
   ·obtain ⟨r,i1,i2,i3,i4⟩:=ih (pre ++ [b]) (o ++ [(⟨bt b 0 - 48,bt b 1 - 48⟩ : S64)]) (by simp; omega) (by simp; omega)
    rw [e2,e3] at i1 i2
    have e4:(((pre ++ [b]).length:Nat):Int) = ((pre.length + 1:Nat):Int):=by simp
    rw [e4] at i1 i2
    refine ⟨r,Ev.step (fun k => ?_) i1,himp r i2,i3,fun h => ?_⟩
    ·simp only [spec_tiParse.l0]
     rw [rdOf_mid,if_pos (by omega),if_pos (by omega),if_pos (by omega),if_pos hz,if_pos (by omega),if_neg (by omega),if_neg (by omega),if_pos (by omega),if_neg (by omega),if_neg (by omega),if_pos (by omega),t_wrap ((pre.length:Int) + 1) (by omega) (by omega),show (bt b 0 - 48) % 256 = bt b 0 - 48 from by omega,show (bt b 1 - 48) % 256 = bt b 1 - 48 from by omega]
     rfl
    ·obtain ⟨j1,l,j2,j3,j4⟩:=i4 h
     refine ⟨j1,(⟨bt b 0 - 48,bt b 1 - 48⟩ : S64) :: l,by rw [j2]; simp,by simp [j3],fun i hi => ?_⟩
     cases i with
     | zero => exact ⟨_,rfl,by simp; omega,by simp,by simp⟩
     | succ i =>
      obtain ⟨t,t1,t2,t3,t4⟩:=j4 i (by simpa using hi)
      exact ⟨t,by simpa using t1,by simpa using t2,by simpa using t3,by simpa using t4⟩
   ·refine ⟨([],false),?_,himp _ ?_,fun _ => rfl,fun h => by cases h⟩
    ·refine Ev.step (f:=fun _ => some (([] : List S64),false)) (fun k => ?_) (Ev.now _)
     simp only [spec_tiParse.l0]
     rw [rdOf_mid,if_pos (by omega),if_pos (by omega),if_pos (by omega),if_pos hz,if_pos (by omega)]
     by_cases c1:bt b 0 < 48
     ·rw [if_pos c1]
     ·rw [if_neg c1]
      by_cases c2:bt b 0 > 57
      ·rw [if_pos c2]
      ·rw [if_neg c2,if_pos (by omega)]
       by_cases c3:bt b 1 < 48
       ·rw [if_pos c3]
       ·rw [if_neg c3,if_pos (by omega)]
    ·have hbad:=hand_bad bs (pre ++ [b]) (o ++ [(⟨bt b 0 - 48,bt b 1 - 48⟩ : S64)]) (by simp; omega) (by simp; omega) ⟨⟨bt b 0 - 48,bt b 1 - 48⟩,by simp,by
      rw [Bool.eq_false_iff]
      intro hg
      have:=(good_iff _).1 hg
      simp only at this
      omega⟩
     rw [e2,e3] at hbad
     have e4:(((pre ++ [b]).length:Nat):Int) = ((pre.length + 1:Nat):Int):=by simp
     rw [e4] at hbad
     exact hbad
  ·refine ⟨([],false),?_,?_,fun _ => rfl,fun h => by cases h⟩
   ·refine Ev.step (f:=fun _ => some (([] : List S64),false)) (fun k => ?_) (Ev.now _)
    simp only [spec_tiParse.l0]
    rw [rdOf_mid,if_pos (by omega),if_pos (by omega),if_pos (by omega),if_neg hz]
   ·refine Ev.step (f:=fun _ => some (([] : List S64),false)) (fun k => ?_) (Ev.now _)
    simp only [impl_ParseHand.l0]
    rw [rdOf_mid,if_pos (by omega),if_pos (by omega),if_pos (by omega),if_neg hz]
theorem data_inj (a b:ByteArray) (h:a.data.toList = b.data.toList):a = b:=by
 cases a; cases b
 simpa using h
theorem datas_inj:∀ (A B:List ByteArray),A.map (fun x => x.data.toList) = B.map (fun x => x.data.toList) → A = B
 | [],[],_ => rfl
 | [],_ :: _,h => by simp at h
 | _ :: _,[],h => by simp at h
 | a :: A,b :: B,h => by
  simp only [List.map_cons,List.cons.injEq] at h
  rw [data_inj a b h.1,datas_inj A B h.2]
def dgt (t:S64):List UInt8:=[UInt8.ofNat (t.f0 + 48).toNat,UInt8.ofNat (t.f1 + 48).toNat]
theorem two_bytes (b:ByteArray) (t:S64) (hs:b.size = 2) (h0:bt b 0 = t.f0 + 48) (h1:bt b 1 = t.f1 + 48):b.data.toList = dgt t:=by
 have hl:b.data.toList.length = 2:=by rw [← Lib.size_eq]; exact hs
 match hb:b.data.toList,hl with
 | [x,y],_ =>
  have e0:=bt_is b 0 x [y] (by rw [hb]; rfl)
  have e1:=bt_is b 1 y [] (by rw [hb]; rfl)
  unfold dgt
  have f0:(t.f0 + 48).toNat = x.toNat:=by
   have:bt b ((0:Nat):Int) = t.f0 + 48:=h0
   omega
  have f1:(t.f1 + 48).toNat = y.toNat:=by
   have:bt b ((1:Nat):Int) = t.f1 + 48:=h1
   omega
  rw [f0,f1]
  simp
theorem head_both (a:ByteArray) (ha:a.size ≤ 1048576):∃ r:List S64 × Bool,Ev (fun k => spec_tiParse.f k a) r ∧ Ev (fun k => impl_ParseHand.f k a) r ∧ (r.2 = false → r.1 = []) ∧
  (r.2 = true → isH r.1 = true ∧ ((a.toList = [45] ∧ r.1 = []) ∨ sp1 44 a.data.toList = r.1.map dgt)):=by
 by_cases h45:a.toList = ([45] : List UInt8)
 ·refine ⟨([],true),⟨0,fun k _ => ?_⟩,⟨0,fun k _ => ?_⟩,(fun h => by cases h),fun _ => ⟨rfl,.inl ⟨h45,rfl⟩⟩⟩
  ·simp [spec_tiParse.f,h45]
  ·simp [impl_ParseHand.f,h45]
 ·obtain ⟨P,hP⟩ : ∃ P,P = Lib.splitB (⟨#[44]⟩ : ByteArray) 0 (Lib.countB a ⟨#[44]⟩) a:=⟨_,rfl⟩
  have hsplit:strings_Split.f a (⟨#[44]⟩ : ByteArray) = some P:=by
   unfold strings_Split.f
   rw [if_pos ⟨by omega,by decide⟩,hP]
  have hdata:P.map (fun x => x.data.toList) = sp1 44 a.data.toList:=by
   rw [hP]
   exact split_sp 44 ⟨#[44]⟩ rfl _ a rfl
  have hsum:=sp1_sum 44 a.data.toList
  have hPl:P.length ≤ a.size + 1:=by
   have hc:∀ L:List (List UInt8),L.length ≤ (L.map (fun x => x.length + 1)).sum:=by
    intro L
    induction L with
    | nil => simp
    | cons x xs ih => simp only [List.length_cons,List.map_cons,List.sum_cons]; omega
   have h1:=hc (sp1 44 a.data.toList)
   rw [hsum,← hdata,List.length_map,← Lib.size_eq] at h1
   exact h1
  obtain ⟨r,i1,i2,i3,i4⟩:=hand_both P [] [] (by simp; omega) (by simp)
  simp only [List.nil_append,List.length_nil,Nat.zero_add] at i1 i2
  have shape:r.2 = true → isH r.1 = true ∧ sp1 44 a.data.toList = r.1.map dgt:=by
   intro h
   obtain ⟨j1,l,j2,j3,j4⟩:=i4 h
   refine ⟨j1,?_⟩
   rw [List.nil_append] at j2
   rw [← hdata,j2]
   refine List.ext_getElem (by simp [j3]) (fun i h1 h2 => ?_)
   have hi:i < P.length:=by simpa using h1
   obtain ⟨t,t1,t2,t3,t4⟩:=j4 i hi
   have hil:i < l.length:=by rw [j3]; exact hi
   have ht:l[i] = t:=by
    rw [List.getElem?_eq_getElem hil] at t1
    exact Option.some.inj t1
   simp only [List.getElem_map,ht]
   exact two_bytes _ t t2 t3 t4
  have himp:Ev (fun k => impl_ParseHand.f k a) r:=by
   refine Ev.congr (fun k => ?_) i2
   simp only [impl_ParseHand.f,Option.bind_some,h45,if_false,hsplit]
   rfl
  by_cases hbig:(a.size:Int) > 165
  ·have hf:r.2 = false:=by
    cases hr:r.2 with
    | false => rfl
    | true =>
     exfalso
     obtain ⟨s1,s2⟩:=shape hr
     have h55:=(isH_true _ s1).1
     have h2:=sum_two (r.1.map dgt) (fun x hx => by
      obtain ⟨t,_,rfl⟩:=List.mem_map.1 hx
      rfl)
     rw [← s2,hsum,s2,List.length_map,← Lib.size_eq] at h2
     omega
   have e:r = ([],false):=Prod.ext (i3 hf) hf
   refine ⟨r,⟨0,fun k _ => ?_⟩,himp,i3,fun h => by rw [hf] at h; cases h⟩
   rw [e]
   simp [spec_tiParse.f,h45,hbig]
  ·obtain ⟨R,q1,q2⟩:=l1Split_ev a (by omega) a.size 0 0 [] (by omega) (Nat.le_refl _) (by simp)
   have hR:R = P:=by
    refine datas_inj _ _ ?_
    rw [hdata]
    have e:pcs 44 a.data.toList 0 0 = sp1 44 a.data.toList:=by
     obtain ⟨x,xs,hx⟩:=List.exists_cons_of_ne_nil (sp1_ne 44 a.data.toList)
     simp [pcs,hx]
    rw [← e]
    simpa using q2
   subst hR
   refine ⟨r,?_,himp,i3,fun h => ⟨(shape h).1,.inr (shape h).2⟩⟩
   refine Ev.congr (f:=fun k => (spec_l1Split.f k a 44).bind fun t120 => (spec_tiParse.l0 k ([] : List S64) t120 (t120.length:Int) 0)) (fun k => ?_) (Ev.bind (f:=fun k (t:List ByteArray) => _) (show Ev (fun k => spec_l1Split.f k a 44) R from q1) (by simpa using i1))
   simp only [spec_tiParse.f,h45,if_false,hbig]
theorem cut1_none (c:UInt8):∀ l:List UInt8,c ∉ l → cut1 c l = (l,[],false)
 | [],_ => rfl
 | b :: l,h => by
  have hb:b ≠ c:=fun e => h (by rw [e]; exact List.mem_cons_self)
  have ih:=cut1_none c l (fun m => h (List.mem_cons_of_mem _ m))
  simp [cut1,hb,ih]
theorem cut1_some (c:UInt8) (b:List UInt8):∀ a:List UInt8,c ∉ a → cut1 c (a ++ c :: b) = (a,b,true)
 | [],_ => by simp [cut1]
 | x :: a,h => by
  have hb:x ≠ c:=fun e => h (by rw [e]; exact List.mem_cons_self)
  have ih:=cut1_some c b a (fun m => h (List.mem_cons_of_mem _ m))
  simp [cut1,hb,ih]
theorem cut1_cases (c:UInt8):∀ l:List UInt8,c ∉ l ∨ ∃ a b,c ∉ a ∧ l = a ++ c :: b
 | [] => .inl (by simp)
 | x :: l => by
  by_cases h:x = c
  ·exact .inr ⟨[],l,by simp,by simp [h]⟩
  ·rcases cut1_cases c l with h1 | ⟨a,b,h1,h2⟩
   ·exact .inl (by simp [Ne.symm h,h1])
   ·exact .inr ⟨x :: a,b,by simp [Ne.symm h,h1],by simp [h2]⟩
def jt (c:UInt8):List (List UInt8) → List UInt8
 | [] => []
 | x :: xs => c :: (x ++ jt c xs)
theorem sp1_join (c:UInt8):∀ l:List UInt8,∃ x xs,sp1 c l = x :: xs ∧ l = x ++ jt c xs
 | [] => ⟨[],[],rfl,rfl⟩
 | b :: l => by
  obtain ⟨x,xs,h1,h2⟩:=sp1_join c l
  by_cases h:b = c
  ·refine ⟨[],x :: xs,?_,?_⟩
   ·simp only [sp1,h,if_true,h1]
   ·rw [h,h2]
    rfl
  ·refine ⟨b :: x,xs,?_,?_⟩
   ·simp only [sp1,h,if_false,h1]
   ·rw [List.cons_append,← h2]
theorem tl_loop (a:ByteArray):∀ (d i:Nat) (r:List UInt8),i + d = a.size → ByteArray.toList.loop a i r = r.reverse ++ a.data.toList.drop i:=by
 intro d
 induction d with
 | zero =>
  intro i r h
  rw [ByteArray.toList.loop,if_neg (by omega)]
  rw [List.drop_eq_nil_of_le (by show a.data.toList.length ≤ i; rw [Array.length_toList]; show a.size ≤ i; omega)]
  simp
 | succ d ih =>
  intro i r h
  rw [ByteArray.toList.loop,if_pos (by omega),ih (i + 1) _ (by omega)]
  have hl:i < a.data.toList.length:=by rw [Array.length_toList]; show i < a.size; omega
  rw [List.drop_eq_getElem_cons hl]
  have:a.get! i = a.data.toList[i]:=by
   show a.data[i]! = _
   have h2:i < a.data.size:=by show i < a.size; omega
   rw [getElem!_pos a.data i h2]
   rfl
  rw [this]
  simp
theorem tl_data (a:ByteArray):a.toList = a.data.toList:=by
 have:=tl_loop a a.size 0 [] (by omega)
 simpa [ByteArray.toList] using this
def cr (b:UInt8):Int:=if (b.toNat:Int) = 46 then -1 else ((b.toNat:Int) - 48) % 256
def okc (b:UInt8):Bool:=decide (b.toNat = 46) || (decide (48 ≤ b.toNat) && decide (b.toNat ≤ 57))
theorem ofN (b:UInt8):UInt8.ofNat b.toNat = b:=by simp
theorem okc_set (b:UInt8):([48,49,50,51,52,53,54,55,56,57,46] : List UInt8).contains b = okc b:=by
 have h:∀ n:Fin 256,([48,49,50,51,52,53,54,55,56,57,46] : List UInt8).contains (UInt8.ofNat n.val) = okc (UInt8.ofNat n.val):=by decide +kernel
 have:=h ⟨b.toNat,UInt8.toNat_lt b⟩
 simpa only [ofN] using this
theorem cd_cr (b:UInt8) (h:okc b = true):cd (cr b) = b:=by
 have h2:∀ n:Fin 256,okc (UInt8.ofNat n.val) = true → cd (cr (UInt8.ofNat n.val)) = UInt8.ofNat n.val:=by decide +kernel
 have:=h2 ⟨b.toNat,UInt8.toNat_lt b⟩ (by simpa only [ofN] using h)
 simpa only [ofN] using this
abbrev No:List S64 × List Int × Bool:=([],[],false)
theorem ploop_impl (l:List S64) (hl:l.length ≤ 2000000):∀ (rest:List UInt8) (pre:List Int) (C:List Int),pre.length + rest.length ≤ 2000000 → C.length ≤ pre.length →
  Ev (fun k => impl_ParsePuzzle.l0 k (pre ++ rest.map fun b => (b.toNat:Int)) ((pre.length + rest.length:Nat):Int) (pre.length:Int) l C) (if pz l (C ++ rest.map cr) = true then (l,C ++ rest.map cr,true) else No):=by
 intro rest
 induction rest with
 | nil =>
  intro pre C h1 h2
  refine Ev.step (f:=fun k => (impl_IsPuzzle.f k l C).bind fun t242 => (if t242 = true then (some (l,C,true)) else (some (([] : List S64),([] : List Int),false)))) (fun k => ?_) (Ev.bind (f:=fun _ t242 => (if t242 = true then (some (l,C,true)) else (some (([] : List S64),([] : List Int),false)))) (pz_impl l C hl) ⟨0,fun k _ => ?_⟩)
  ·simp only [impl_ParsePuzzle.l0,List.length_nil,List.map_nil,List.append_nil]
   rw [if_neg (by omega)]
  ·simp only [List.map_nil,List.append_nil]
   cases pz l C <;> rfl
 | cons x xs ih =>
  intro pre C h1 h2
  have hl2:(x :: xs).length = xs.length + 1:=rfl
  have hr:rd (pre ++ (x :: xs).map fun b => (b.toNat:Int)) (pre.length:Int) = (x.toNat:Int):=by
   rw [List.map_cons]
   exact i_mid pre _ _
  have hi:=ih (pre ++ [(x.toNat:Int)]) (C ++ [cr x]) (by simp; omega) (by simp; omega)
  have e1:pre ++ [(x.toNat:Int)] ++ xs.map (fun b => (b.toNat:Int)) = pre ++ (x :: xs).map fun b => (b.toNat:Int):=by simp
  have e2:(pre ++ [(x.toNat:Int)]).length + xs.length = pre.length + (x :: xs).length:=by simp; omega
  have e3:C ++ [cr x] ++ xs.map cr = C ++ (x :: xs).map cr:=by simp
  have e4:(((pre ++ [(x.toNat:Int)]).length:Nat):Int) = (pre.length:Int) + 1:=by simp
  rw [e1,e2,e3,e4] at hi
  refine Ev.step (fun k => ?_) hi
  have hln:(pre ++ (x :: xs).map fun b => (b.toNat:Int)).length = pre.length + (x :: xs).length:=by simp
  simp only [impl_ParsePuzzle.l0]
  have hC:C.length < 17592186044416:=by omega
  rw [if_pos (by omega),if_pos (by omega),hln,if_pos (by omega),hr,t_wrap ((pre.length:Int) + 1) (by omega) (by omega)]
  unfold cr
  by_cases c0:(x.toNat:Int) = 46
  ·rw [if_pos c0,if_pos c0,if_pos hC]
  ·rw [if_neg c0,if_neg c0,if_pos hC]
def fin (k:Nat) (s:ByteArray) (l:List S64) (c:List Int):Option (List S64 × List Int × Bool):=(spec_pzGood.f k l c).bind fun t184 => (if t184 = true then ((spec_pzText.f k l c).bind fun t185 => (if t185.toList = s.toList then (some (l,c,true)) else (some (([] : List S64),([] : List Int),false)))) else (some (([] : List S64),([] : List Int),false)))
theorem ploop_spec (s:ByteArray) (hs:s.size ≤ 2000000) (l:List S64) (r:List S64 × List Int × Bool):∀ (rest:List UInt8) (i:Nat) (C:List Int),s.data.toList.drop i = rest → i + rest.length = s.size → C.length ≤ i →
  (rest.all okc = true → Ev (fun k => fin k s l (C ++ rest.map cr)) r) → (rest.all okc = false → r = No) → Ev (fun k => spec_pzParse.l1 k s (i:Int) l C) r:=by
 intro rest
 induction rest with
 | nil =>
  intro i C h1 h2 h3 h4 h5
  have:=h4 rfl
  rw [List.map_nil,List.append_nil] at this
  refine Ev.step (f:=fun k => fin k s l C) (fun k => ?_) this
  simp only [spec_pzParse.l1]
  rw [if_neg (by simp at h2; omega)]
  rfl
 | cons x xs ih =>
  intro i C h1 h2 h3 h4 h5
  have hl2:(x :: xs).length = xs.length + 1:=rfl
  have hb:=bt_is s i x xs h1
  have hd:s.data.toList.drop (i + 1) = xs:=by
   have:=congrArg (List.drop 1) h1
   simpa [List.drop_drop] using this
  cases hx:okc x
  ·have hr:=h5 (by simp [hx])
   have hx':¬ (x.toNat = 46) ∧ ¬ (48 ≤ x.toNat ∧ x.toNat ≤ 57):=by
    unfold okc at hx
    simp only [Bool.or_eq_false_iff,Bool.and_eq_false_imp,decide_eq_false_iff_not,decide_eq_true_eq] at hx
    exact ⟨hx.1,fun h => hx.2 h.1 h.2⟩
   rw [hr]
   refine Ev.step (f:=fun _ => some No) (fun k => ?_) (Ev.now _)
   simp only [spec_pzParse.l1]
   rw [if_pos (by omega),if_pos (by omega),hb,if_neg (by omega)]
   by_cases c1:(x.toNat:Int) ≥ 48
   ·rw [if_pos c1,if_neg (by omega)]
   ·rw [if_neg c1]
  ·have hi:=ih (i + 1) (C ++ [cr x]) hd (by omega) (by simp; omega) (fun h => by
    have:=h4 (by simp [hx] at h ⊢; exact h)
    simpa using this) (fun h => h5 (by simp only [List.all_cons,hx,h]; rfl))
   refine Ev.step (fun k => ?_) hi
   have hx':x.toNat = 46 ∨ (48 ≤ x.toNat ∧ x.toNat ≤ 57):=by
    unfold okc at hx
    simpa using hx
   simp only [spec_pzParse.l1]
   rw [if_pos (by omega),if_pos (by omega),hb,t_wrap ((i:Int) + 1) (by omega) (by omega)]
   by_cases c0:(x.toNat:Int) = 46
   ·rw [if_pos c0,if_pos (by omega)]
    unfold cr
    rw [if_pos c0]
    rfl
   ·rw [if_neg c0,if_pos (by omega),if_pos (by omega),if_pos (by omega)]
    unfold cr
    rw [if_neg c0]
    rfl
theorem psearch_end (s:ByteArray) (i:Int):Ev (fun k => spec_pzParse.j1 k s (-1) i false) No:=by
 refine Ev.step (f:=fun k => spec_pzParse.j2 k s (-1) true) (fun k => ?_) (Ev.step (f:=fun _ => some No) (fun k => ?_) (Ev.now _))
 ·simp only [spec_pzParse.j1]
  rw [if_neg (by simp),if_pos (by omega)]
 ·simp only [spec_pzParse.j2]
  rw [if_pos trivial]
theorem psearch_none (s:ByteArray) (hs:s.size ≤ 2000000) (h58:∀ j c,j ≤ 36 → s.data.toList[j]? = some c → c ≠ 58):∀ (d i:Nat),i + d = s.size → Ev (fun k => spec_pzParse.l0 k s (-1) (i:Int)) No:=by
 intro d
 induction d with
 | zero =>
  intro i h
  refine Ev.step (f:=fun k => spec_pzParse.j1 k s (-1) (i:Int) false) (fun k => ?_) (psearch_end s _)
  simp only [spec_pzParse.l0]
  rw [if_neg (by omega)]
 | succ d ih =>
  intro i h
  by_cases h36:i ≤ 36
  ·have hl:i < s.data.toList.length:=by rw [← Lib.size_eq]; omega
   have hb:=bt_is s i _ _ (List.drop_eq_getElem_cons hl)
   have hne:=h58 i _ h36 (List.getElem?_eq_getElem hl)
   have hi:=ih (i + 1) (by omega)
   refine Ev.step (f:=fun k => spec_pzParse.j1 k s (-1) (i:Int) true) (fun k => ?_) (Ev.step (fun k => ?_) hi)
   ·simp only [spec_pzParse.l0]
    rw [if_pos (by omega),if_pos (by omega)]
    rfl
   ·simp only [spec_pzParse.j1]
    rw [if_pos trivial,if_pos (by omega),if_pos (by omega),hb,if_neg (by
     intro e
     apply hne
     have e2:s.data.toList[i].toNat = 58:=by omega
     exact UInt8.toNat_inj.1 e2),t_wrap ((i:Int) + 1) (by omega) (by omega)]
    rfl
  ·refine Ev.step (f:=fun k => spec_pzParse.j1 k s (-1) (i:Int) false) (fun k => ?_) (psearch_end s _)
   simp only [spec_pzParse.l0]
   rw [if_pos (by omega),if_neg (by omega)]
theorem psearch_some (s:ByteArray) (hs:s.size ≤ 2000000) (n:Nat) (hn:n ≤ 36) (hl:n < s.size) (h58:s.data.toList[n]? = some 58) (hne:∀ j c,j < n → s.data.toList[j]? = some c → c ≠ 58) (R:List S64 × List Int × Bool)
  (hR:Ev (fun k => spec_pzParse.j2 k s (n:Int) (decide ((s.size:Int) - n - 1 > 10))) R):∀ (d i:Nat),i + d = n → Ev (fun k => spec_pzParse.l0 k s (-1) (i:Int)) R:=by
 intro d
 induction d with
 | zero =>
  intro i h
  have e:i = n:=by omega
  subst e
  have hl2:i < s.data.toList.length:=by rw [← Lib.size_eq]; omega
  have hb:=bt_is s i _ _ (List.drop_eq_getElem_cons hl2)
  rw [List.getElem?_eq_getElem hl2] at h58
  have hb2:bt s (i:Int) = 58:=by
   rw [hb,Option.some.inj h58]
   rfl
  refine Ev.step (f:=fun k => spec_pzParse.j1 k s (-1) (i:Int) true) (fun k => ?_) (Ev.step (f:=fun k => spec_pzParse.l0 k s (i:Int) ((i:Int) + 1)) (fun k => ?_) (Ev.step (f:=fun k => spec_pzParse.j1 k s (i:Int) ((i:Int) + 1) false) (fun k => ?_) (Ev.step (fun k => ?_) hR)))
  ·simp only [spec_pzParse.l0]
   rw [if_pos (by omega),if_pos (by omega)]
   rfl
  ·simp only [spec_pzParse.j1]
   rw [if_pos trivial,if_pos (by omega),if_pos (by omega),if_pos hb2,t_wrap ((i:Int) + 1) (by omega) (by omega)]
  ·simp only [spec_pzParse.l0]
   rw [show decide ((i:Int) < 0) = false from decide_eq_false (by omega)]
   split
   ·split <;> rfl
   ·rfl
  ·simp only [spec_pzParse.j1]
   rw [if_neg (by simp),if_neg (by omega),t_wrap ((s.size:Int) - i) (by omega) (by omega),t_wrap ((s.size:Int) - i - 1) (by omega) (by omega)]
 | succ d ih =>
  intro i h
  have hl2:i < s.data.toList.length:=by rw [← Lib.size_eq]; omega
  have hb:=bt_is s i _ _ (List.drop_eq_getElem_cons hl2)
  have hne2:=hne i _ (by omega) (List.getElem?_eq_getElem hl2)
  have hi:=ih (i + 1) (by omega)
  refine Ev.step (f:=fun k => spec_pzParse.j1 k s (-1) (i:Int) true) (fun k => ?_) (Ev.step (fun k => ?_) hi)
  ·simp only [spec_pzParse.l0]
   rw [if_pos (by omega),if_pos (by omega)]
   rfl
  ·simp only [spec_pzParse.j1]
   rw [if_pos trivial,if_pos (by omega),if_pos (by omega),hb,if_neg (by
    intro e
    apply hne2
    have e2:s.data.toList[i].toNat = 58:=by omega
    exact UInt8.toNat_inj.1 e2),t_wrap ((i:Int) + 1) (by omega) (by omega)]
   rfl
theorem jt_tail:∀ L:List (List UInt8),Lib.joinTail [44] L = jt 44 L
 | [] => rfl
 | x :: xs => by
  have:(xs.map fun y => [44] ++ y).flatten = jt 44 xs:=jt_tail xs
  show ((x :: xs).map fun y => [44] ++ y).flatten = 44 :: (x ++ jt 44 xs)
  rw [List.map_cons,List.flatten_cons,this]
  rfl
def txtD (l:List S64):List UInt8:=if l = [] then [45] else Lib.join (l.map tl) [44]
def txtB (l:List S64):ByteArray:=⟨(txtD l).toArray⟩
theorem txt_data (l:List S64):(txtB l).data.toList = txtD l:=by simp [txtB]
theorem dgn_fin:∀ n:Fin 10,(dgn ((n.val:Nat):Int)).toNat = 48 + n.val:=by decide +kernel
theorem dgn_val (n:Int) (h0:0 ≤ n) (h9:n ≤ 9):((dgn n).toNat:Int) = 48 + n:=by
 have:=dgn_fin ⟨n.toNat,by omega⟩
 simp only [Int.toNat_of_nonneg h0] at this
 omega
theorem dgn_ne (n:Int) (h0:0 ≤ n) (h9:n ≤ 9):dgn n ≠ 44:=by
 intro e
 have:=dgn_val n h0 h9
 rw [e] at this
 have h44:(44:UInt8).toNat = 44:=rfl
 omega
theorem dg_tl (x:S64) (h:good x = true):dgt x = tl x:=by
 have g:=(good_iff x).1 h
 unfold dgt tl
 have e:∀ n:Int,0 ≤ n → n ≤ 9 → UInt8.ofNat (n + 48).toNat = dgn n:=fun n h0 h9 => by
  apply UInt8.toNat_inj.1
  have:=dgn_val n h0 h9
  simp
  omega
 rw [e _ (by omega) (by omega),e _ (by omega) (by omega)]
theorem sp1_none (c:UInt8):∀ l:List UInt8,c ∉ l → sp1 c l = [l]
 | [],_ => rfl
 | b :: l,h => by
  have hb:¬ b = c:=fun e => h (by rw [e]; exact List.mem_cons_self)
  rw [sp1,if_neg hb,sp1_none c l (fun hm => h (List.mem_cons_of_mem _ hm))]
theorem sp1_some (c:UInt8) (r:List UInt8):∀ l:List UInt8,c ∉ l → sp1 c (l ++ c :: r) = l :: sp1 c r
 | [],_ => by simp [sp1]
 | b :: l,h => by
  have hb:¬ b = c:=fun e => h (by rw [e]; exact List.mem_cons_self)
  rw [List.cons_append,sp1,if_neg hb,sp1_some c r l (fun hm => h (List.mem_cons_of_mem _ hm))]
theorem sp1_jt (c:UInt8):∀ (xs:List (List UInt8)) (x:List UInt8),(∀ y ∈ x :: xs,c ∉ y) → sp1 c (x ++ jt c xs) = x :: xs
 | [],x,h => by
  rw [jt,List.append_nil]
  exact sp1_none c x (h x List.mem_cons_self)
 | y :: ys,x,h => by
  rw [jt,sp1_some c _ x (h x List.mem_cons_self),sp1_jt c ys y (fun z hz => h z (List.mem_cons_of_mem _ hz))]
theorem sp1_txt (l:List S64) (hg:∀ x ∈ l,good x = true) (hn:l ≠ []):sp1 44 (txtD l) = l.map tl:=by
 cases l with
 | nil => exact absurd rfl hn
 | cons x xs =>
  unfold txtD
  rw [if_neg hn,List.map_cons,Lib.join_cons,jt_tail]
  refine sp1_jt 44 _ _ (fun y hy => ?_)
  rw [← List.map_cons] at hy
  obtain ⟨t,ht,rfl⟩:=List.mem_map.1 hy
  have g:=(good_iff t).1 (hg t ht)
  intro hm
  simp only [tl,List.mem_cons,List.not_mem_nil,or_false] at hm
  rcases hm with hm | hm
  ·exact dgn_ne _ (by omega) (by omega) hm.symm
  ·exact dgn_ne _ (by omega) (by omega) hm.symm
theorem txt_len (l:List S64):(txtD l).length = if l = [] then 1 else 3 * l.length - 1:=by
 cases l with
 | nil => rfl
 | cons x xs =>
  unfold txtD
  rw [if_neg (by simp),if_neg (by simp),List.map_cons,Lib.join_cons,List.length_append,joinTail_len]
  simp [tl]
  omega
theorem txt_size (l:List S64):(txtB l).size = (txtD l).length:=by rw [ba_size,txt_data]
theorem parse_ev (l:List S64) (hl:isH l = true) (P:List ByteArray) (hP:P.map (fun x => x.data.toList) = l.map tl):∀ (rest pre:List S64),l = pre ++ rest → Ev (fun k => impl_ParseHand.l0 k pre P (P.length:Int) (pre.length:Int)) (l,true):=by
 obtain ⟨a1,a2,a3⟩:=isH_true l hl
 have hPl:P.length = l.length:=by
  have:=congrArg List.length hP
  simpa using this
 intro rest
 induction rest with
 | nil =>
  intro pre e
  rw [List.append_nil] at e
  subst e
  obtain ⟨K1,h1⟩:=isH_impl l (by omega)
  simp only at h1
  refine ev_up (K:=K1) fun k hk => ?_
  simp only [impl_ParseHand.l0]
  rw [if_neg (by omega),h1 k (by omega),hl]
  rfl
 | cons x xs ih =>
  intro pre e
  have hlen:l.length = pre.length + xs.length + 1:=by rw [e]; simp; omega
  have g:=(good_iff x).1 (a2 x (by rw [e]; simp))
  rw [e,List.map_append,List.map_cons] at hP
  obtain ⟨A,B,rfl,hA,hB⟩:=List.map_eq_append_iff.1 hP
  obtain ⟨b,B',rfl,hb,hB'⟩:=List.map_eq_cons_iff.1 hB
  have hAl:A.length = pre.length:=by
   have:=congrArg List.length hA
   simpa using this
  have hget:rdOf ByteArray.empty (A ++ b :: B') (pre.length:Int) = b:=by rw [← hAl]; exact rdOf_mid A b B'
  have hbs:(b.size:Int) = 2:=by
   rw [ba_size,hb]
   rfl
  have b0:bt b 0 = 48 + x.f0:=by
   have:=bt_is b 0 (dgn x.f0) [dgn x.f1] (by rw [hb]; rfl)
   rw [dgn_val x.f0 (by omega) (by omega)] at this
   exact this
  have b1:bt b 1 = 48 + x.f1:=by
   have:=bt_is b 1 (dgn x.f1) [] (by rw [hb]; rfl)
   rw [dgn_val x.f1 (by omega) (by omega)] at this
   exact this
  have w0:wrap64 ((wrap64 (bt b 0)) - 48) = x.f0:=by rw [b0,t_wrap (48 + x.f0) (by omega) (by omega),t_wrap _ (by omega) (by omega)]; omega
  have w1:wrap64 ((wrap64 (bt b 1)) - 48) = x.f1:=by rw [b1,t_wrap (48 + x.f1) (by omega) (by omega),t_wrap _ (by omega) (by omega)]; omega
  have hw:wrap64 ((pre.length:Int) + 1) = ((pre ++ [x]).length:Int):=by rw [t_wrap _ (by omega) (by omega)]; simp
  refine Ev.step (fun k => ?_) (ih (pre ++ [x]) (by rw [e]; simp))
  simp only [impl_ParseHand.l0]
  rw [hget,w0,w1,if_pos (by omega),if_pos (by omega),if_pos (by omega),if_pos hbs,if_pos (by omega),if_pos (by omega),if_pos (by omega),hw]
theorem parse_txt (l:List S64) (hl:isH l = true):Ev (fun k => impl_ParseHand.f k (txtB l)) (l,true):=by
 obtain ⟨a1,a2,a3⟩:=isH_true l hl
 by_cases hn:l = []
 ·subst hn
  refine ⟨0,fun k _ => ?_⟩
  have:(txtB []).toList = ([45] : List UInt8):=by rw [tl_data,txt_data]; rfl
  simp [impl_ParseHand.f,this]
 ·have hne:¬ (txtB l).toList = ([45] : List UInt8):=by
   rw [tl_data,txt_data]
   intro e
   have:=congrArg List.length e
   rw [txt_len,if_neg hn] at this
   have hp:0 < l.length:=List.length_pos_iff.2 hn
   simp at this
   omega
  obtain ⟨P,hP⟩ : ∃ P,P = Lib.splitB (⟨#[44]⟩ : ByteArray) 0 (Lib.countB (txtB l) ⟨#[44]⟩) (txtB l):=⟨_,rfl⟩
  have hsz:(txtB l).size ≤ 1000:=by
   rw [txt_size,txt_len]
   split <;> omega
  have hsplit:strings_Split.f (txtB l) (⟨#[44]⟩ : ByteArray) = some P:=by
   unfold strings_Split.f
   rw [if_pos ⟨by omega,by decide⟩,hP]
  have hdata:P.map (fun x => x.data.toList) = l.map tl:=by
   rw [← sp1_txt l a2 hn,← txt_data,hP]
   exact split_sp 44 ⟨#[44]⟩ rfl _ (txtB l) rfl
  have h:=parse_ev l hl P hdata l [] rfl
  refine Ev.congr (fun k => ?_) h
  simp only [impl_ParseHand.f,Option.bind_some,hne,if_false,hsplit]
  rfl
theorem txt_back (s:ByteArray) (r:List S64) (hr:isH r = true) (h:(s.toList = [45] ∧ r = []) ∨ sp1 44 s.data.toList = r.map dgt):txtB r = s:=by
 obtain ⟨a1,a2,a3⟩:=isH_true r hr
 refine ba_ext _ _ ?_
 rw [txt_data]
 rcases h with ⟨h1,rfl⟩ | h
 ·rw [← tl_data,h1]
  rfl
 ·obtain ⟨x,xs,h1,h2⟩:=sp1_join 44 s.data.toList
  rw [h1] at h
  cases r with
  | nil => cases h
  | cons y ys =>
   rw [List.map_cons] at h
   injection h with e1 e2
   have e3:ys.map dgt = ys.map tl:=List.map_congr_left (fun z hz => dg_tl z (a2 z (List.mem_cons_of_mem _ hz)))
   rw [h2,e1,e2,e3,dg_tl y (a2 y List.mem_cons_self)]
   unfold txtD
   rw [if_neg (by simp),List.map_cons,Lib.join_cons,jt_tail]
theorem arr_list (l:List UInt8):(⟨l.toArray⟩ : ByteArray).data.toList = l:=by simp
theorem arr_size (l:List UInt8):(⟨l.toArray⟩ : ByteArray).size = l.length:=by
 rw [Lib.size_eq]
theorem pzText_f (l:List S64) (c:List Int) (hp:pz l c = true):∃ y:ByteArray,Ev (fun k => spec_pzText.f k l c) y ∧ Ev (fun k => impl_PuzzleText.f k l c) (y,true) ∧ y.data.toList = txtD l ++ 58 :: c.map cd:=by
 obtain ⟨p1,p2,p3,p4,p5,_⟩:=pz_true l c hp
 have h2:=pz_impl l c (by omega)
 rw [hp] at h2
 obtain ⟨_,q2,_⟩:=isH_true l p3
 have hd:∀ x ∈ l,x.f0 < 10 ∧ x.f1 < 10:=by
  intro x hx
  have:=(good_iff x).1 (q2 x hx)
  omega
 obtain ⟨a,a1,a2⟩:=tt_f l (by omega) hd
 obtain ⟨b,b1,b2⟩:=ht_f l (by omega)
 have hab:b = a:=ba_ext _ _ (by rw [a2,b2])
 subst hab
 have hbl:b.size ≤ 1000:=by
  rw [ba_size,a2]
  split
  ·simp
  ·rename_i hne
   cases l with
   | nil => exact absurd rfl hne
   | cons x xs =>
    rw [List.map_cons,Lib.join_cons,List.length_append,joinTail_len]
    simp [tl] at p2 ⊢
    omega
 have hol:(b ++ (⟨#[58]⟩ : ByteArray)).data.toList = b.data.toList ++ [58]:=ba_app _ _
 obtain ⟨u,u1,u2⟩:=ct_spec c [] (b ++ (⟨#[58]⟩ : ByteArray)) (fun x hx => by have:=p5 x hx; omega) (by simp; omega) (by simp only [ByteArray.size_append,s_num,s_44,s_46,s_58,s_0]; omega)
 obtain ⟨v,v1,v2⟩:=ct_impl c [] [] rfl (by simp; omega)
 have hv:(b ++ (⟨#[58]⟩ : ByteArray)) ++ v = u:=ba_ext _ _ (by rw [ba_app,u2,v2]; rfl)
 have hvl:v.size ≤ 1000:=by
  rw [ba_size,v2,List.length_map]
  simp
  omega
 refine ⟨u,?_,?_,?_⟩
 ·unfold spec_pzText.f
  refine Ev.bind (f:=fun k (t193:ByteArray) => _) a1 ?_
  simp only [if_pos (show b.size + 1 ≤ 9223372036854775807 from by omega)]
  exact u1
 ·unfold impl_PuzzleText.f
  refine Ev.bind (f:=fun k t => _) h2 ?_
  simp only [if_true]
  refine Ev.bind (f:=fun k (t:ByteArray) => _) b1 ?_
  simp only [if_pos (show b.size + 1 ≤ 9223372036854775807 from by omega)]
  refine Ev.bind (f:=fun k (t:ByteArray) => _) (show Ev (fun k => impl_chainText.f k c) v from v1) ?_
  simp only [if_pos (show (b ++ (⟨#[58]⟩ : ByteArray)).size + v.size ≤ 9223372036854775807 from by simp only [ByteArray.size_append,s_num,s_44,s_46,s_58,s_0]; omega)]
  exact ⟨0,fun k _ => by rw [← hv]⟩
 ·rw [u2,hol,a2]
  simp [txtD]
theorem txtD_of (a:List UInt8) (l:List S64) (hl:isH l = true) (hsp:sp1 44 a = l.map dgt):txtD l = a:=by
 have:=txt_back (⟨a.toArray⟩ : ByteArray) l hl (.inr (by rw [arr_list]; exact hsp))
 rw [← txt_data,this,arr_list]
theorem cds_crs (b:List UInt8) (hb:b.all okc = true):(b.map cr).map cd = b:=by
 rw [List.map_map]
 have e:∀ x ∈ b,(cd ∘ cr) x = id x:=fun x hx => cd_cr x (List.all_eq_true.1 hb x hx)
 rw [List.map_congr_left e,List.map_id]
theorem text_f (a b:List UInt8) (l:List S64) (hsp:sp1 44 a = l.map dgt) (hb:b.all okc = true) (hp:pz l (b.map cr) = true):∃ y:ByteArray,Ev (fun k => spec_pzText.f k l (b.map cr)) y ∧ y.data.toList = a ++ 58 :: b:=by
 obtain ⟨y,y1,_,y3⟩:=pzText_f l (b.map cr) hp
 exact ⟨y,y1,by rw [y3,cds_crs b hb,txtD_of a l (pz_true l _ hp).2.2.1 hsp]⟩
theorem trim_b (b:List UInt8) (hb:b.length ≤ 9223372036854775807):∃ t,strings_Trim.f (⟨b.toArray⟩ : ByteArray) (⟨#[48,49,50,51,52,53,54,55,56,57,46]⟩ : ByteArray) = some t ∧ (t.toList != ([] : List UInt8)) = !b.all okc:=by
 unfold strings_Trim.f
 rw [if_pos (by
  refine ⟨⟨by decide,by decide,by rw [arr_size]; omega⟩,by decide +kernel⟩)]
 refine ⟨_,rfl,?_⟩
 by_cases h0:(⟨b.toArray⟩ : ByteArray).size = 0
 ·rw [if_pos h0,tl_data,arr_list]
  rw [arr_size] at h0
  have:b = []:=List.eq_nil_of_length_eq_zero h0
  subst this
  rfl
 ·rw [if_neg h0,tl_data,arr_list,arr_list]
  have ht:=trim_nil b (⟨#[48,49,50,51,52,53,54,55,56,57,46]⟩ : ByteArray).data.toList
  rw [Bool.eq_iff_iff]
  simp only [bne_iff_ne,ne_eq,ht,Bool.not_eq_true',← Bool.not_eq_true,List.all_eq_true]
  have e:∀ x:UInt8,(⟨#[48,49,50,51,52,53,54,55,56,57,46]⟩ : ByteArray).data.toList.contains x = okc x:=okc_set
  simp only [e]
theorem parse_i (s:ByteArray) (hs:s.size ≤ 1048576) (a b:List UInt8) (ha:58 ∉ a) (hab:s.data.toList = a ++ 58 :: b) (r:List S64 × Bool) (i2:Ev (fun k => impl_ParseHand.f k (⟨a.toArray⟩ : ByteArray)) r) (hr1:r.2 = true → r.1.length ≤ 55) :
  Ev (fun k => impl_ParsePuzzle.f k s) (if r.2 = true then (if b.all okc = true then (if pz r.1 (b.map cr) = true then (r.1,b.map cr,true) else No) else No) else No):=by
 have hS:s.data.toList.length = s.size:=(Lib.size_eq s).symm
 have hcut:strings_Cut.f s (⟨#[58]⟩ : ByteArray) = some (⟨(cut1 58 s.data.toList).1.toArray⟩,⟨(cut1 58 s.data.toList).2.1.toArray⟩,(cut1 58 s.data.toList).2.2):=by
  unfold strings_Cut.f
  rw [if_pos (by omega),show (⟨#[58]⟩ : ByteArray).data.toList = [58] from rfl,cut_one]
 rw [hab,cut1_some 58 b a ha] at hcut
 have hlen:a.length + b.length + 1 = s.size:=by
  rw [← hS,hab]
  simp
  omega
 unfold impl_ParsePuzzle.f
 rw [hcut]
 simp only [Option.bind_some,if_true]
 refine Ev.bind (f:=fun k (t:List S64 × Bool) => _) i2 ?_
 cases h2:r.2
 ·refine Ev.step (f:=fun _ => some No) (fun k => ?_) (Ev.now _)
  simp [impl_ParsePuzzle.j0]
 ·obtain ⟨t,t1,t2⟩:=trim_b b (by omega)
  rw [t1]
  simp only [Option.bind_some,if_true,t2]
  cases hb:b.all okc
  ·refine Ev.step (f:=fun _ => some No) (fun k => ?_) (Ev.now _)
   simp [impl_ParsePuzzle.j0]
  ·have hl:=ploop_impl r.1 (by have:=hr1 h2; omega) b [] [] (by simp; omega) (by simp)
   simp only [List.nil_append,List.length_nil,Nat.zero_add] at hl
   refine Ev.step (fun k => ?_) (by simpa using hl)
   simp only [impl_ParsePuzzle.j0]
   have hc:conv_bytes.f (⟨b.toArray⟩ : ByteArray) = some (b.map fun b => (b.toNat:Int)):=by
    unfold conv_bytes.f bytesOf
    rw [if_pos (by rw [arr_size]; omega),arr_list]
   rw [if_neg (by simp),hc]
   simp
theorem parse_both (s:ByteArray) (hs:s.size ≤ 1048576):∃ r:List S64 × List Int × Bool,Ev (fun k => spec_ParsePuzzle.f k s) r ∧ Ev (fun k => impl_ParsePuzzle.f k s) r ∧ r.1.length ≤ 1000 ∧ r.2.1.length ≤ 1000 ∧ (r.2.2 = true → pz r.1 r.2.1 = true ∧ txtD r.1 ++ 58 :: r.2.1.map cd = s.data.toList):=by
 have hS:s.data.toList.length = s.size:=(Lib.size_eq s).symm
 have hspec:∀ R,Ev (fun k => spec_pzParse.l0 k s (-1) 0) R → Ev (fun k => spec_ParsePuzzle.f k s) R:=by
  intro R h
  unfold spec_ParsePuzzle.f spec_pzParse.f
  exact Ev.bind (f:=fun _ (b:List S64 × List Int × Bool) => (some (b.1,b.2.1,b.2.2))) h ⟨0,fun k _ => rfl⟩
 have hcut:strings_Cut.f s (⟨#[58]⟩ : ByteArray) = some (⟨(cut1 58 s.data.toList).1.toArray⟩,⟨(cut1 58 s.data.toList).2.1.toArray⟩,(cut1 58 s.data.toList).2.2):=by
  unfold strings_Cut.f
  rw [if_pos (by omega),show (⟨#[58]⟩ : ByteArray).data.toList = [58] from rfl,cut_one]
 rcases cut1_cases 58 s.data.toList with hno | ⟨a,b,ha,hab⟩
 ·refine ⟨No,?_,?_,by simp,by simp,fun h => by cases h⟩
  ·refine hspec _ (psearch_none s (by omega) (fun j c _ hc e => hno ?_) s.size 0 (by omega))
   subst e
   exact List.mem_of_getElem? hc
  ·rw [cut1_none 58 _ hno] at hcut
   obtain ⟨r,_,i2,_,_⟩:=head_both (⟨s.data.toList.toArray⟩ : ByteArray) (by rw [arr_size]; omega)
   unfold impl_ParsePuzzle.f
   rw [hcut]
   simp only [Option.bind_some]
   refine Ev.bind (f:=fun k (t:List S64 × Bool) => _) i2 ?_
   refine Ev.step (f:=fun _ => some No) (fun k => ?_) (Ev.now _)
   simp [impl_ParsePuzzle.j0]
 ·rw [hab,cut1_some 58 b a ha] at hcut
  have hlen:a.length + b.length + 1 = s.size:=by
   rw [← hS,hab]
   simp
   omega
  obtain ⟨r,i1,i2,i3,i4⟩:=head_both (⟨a.toArray⟩ : ByteArray) (by rw [arr_size]; omega)
  rw [tl_data,arr_list] at i4
  have hr1:r.2 = true → r.1.length ≤ 55:=fun h => (isH_true _ (i4 h).1).1
  have hshape:r.2 = true → pz r.1 (b.map cr) = true → sp1 44 a = r.1.map dgt ∧ a.length ≤ 36 ∧ b.length ≤ 10:=by
   intro h hp
   obtain ⟨p1,p2,_,p4,_,_⟩:=pz_true _ _ hp
   rcases (i4 h).2 with ⟨_,e⟩ | e
   ·rw [e] at p1
    simp at p1
   ·refine ⟨e,?_,?_⟩
    ·have h2:=sum_two (r.1.map dgt) (fun x hx => by
      obtain ⟨t,_,rfl⟩:=List.mem_map.1 hx
      rfl)
     rw [← e,sp1_sum,e,List.length_map] at h2
     omega
    ·rw [List.length_map] at p4
     omega
  obtain ⟨I,hI⟩ : ∃ I,I = (if r.2 = true then (if b.all okc = true then (if pz r.1 (b.map cr) = true then (r.1,b.map cr,true) else No) else No) else No):=⟨_,rfl⟩
  have himp:Ev (fun k => impl_ParsePuzzle.f k s) I:=by
   rw [hI]
   exact parse_i s hs a b ha hab r i2 hr1
  have hIlen:I.1.length ≤ 1000 ∧ I.2.1.length ≤ 1000:=by
   rw [hI]
   split
   ·split
    ·split
     ·rename_i h2 _ hp
      have:=hr1 h2
      have:=(hshape h2 hp).2.2
      refine ⟨by dsimp only; omega,by dsimp only; rw [List.length_map]; omega⟩
     ·simp
    ·simp
   ·simp
  have hIok:I.2.2 = true → pz I.1 I.2.1 = true ∧ txtD I.1 ++ 58 :: I.2.1.map cd = s.data.toList:=by
   rw [hI]
   intro hh
   split at hh
   ·rename_i h2
    rw [if_pos h2]
    split at hh
    ·rename_i hb
     rw [if_pos hb]
     split at hh
     ·rename_i hp
      rw [if_pos hp]
      refine ⟨hp,?_⟩
      rw [hab]
      show txtD r.1 ++ 58 :: (b.map cr).map cd = _
      rw [cds_crs b hb,txtD_of a r.1 (i4 h2).1 (hshape h2 hp).1]
     ·cases hh
    ·cases hh
   ·cases hh
  refine ⟨I,hspec _ ?_,himp,hIlen.1,hIlen.2,hIok⟩
  by_cases h36:a.length ≤ 36
  ·have hat:s.data.toList[a.length]? = some 58:=by rw [hab]; simp
   refine psearch_some s (by omega) a.length h36 (by omega) hat (fun j c hj hc e => ha ?_) I ?_ a.length 0 (by omega)
   ·subst e
    rw [hab,List.getElem?_append_left hj] at hc
    exact List.mem_of_getElem? hc
   ·by_cases h10:b.length ≤ 10
    ·rw [show decide ((s.size:Int) - (a.length:Int) - 1 > 10) = false from decide_eq_false (by omega)]
     have hex:s.extract 0 ((a.length:Int)).toNat = (⟨a.toArray⟩ : ByteArray):=by
      refine data_inj _ _ ?_
      rw [Lib.extract_from_zero,arr_list,hab]
      simp
     refine Ev.step (f:=fun k => (spec_tiParse.f k (⟨a.toArray⟩ : ByteArray)).bind fun bt173 => (if bt173.2 = true then (spec_pzParse.l1 k s ((a.length:Int) + 1) bt173.1 ([] : List Int)) else (some (([] : List S64),([] : List Int),false)))) (fun k => ?_) (Ev.bind (f:=fun k (t:List S64 × Bool) => _) i1 ?_)
     ·simp only [spec_pzParse.j2]
      rw [if_neg (by simp),if_pos (by omega),if_pos (by omega),hex,t_wrap ((a.length:Int) + 1) (by omega) (by omega)]
     ·cases h2:r.2
      ·rw [hI,h2]
       exact ⟨0,fun k _ => rfl⟩
      ·simp only [if_true]
       have hdrop:s.data.toList.drop (a.length + 1) = b:=by
        rw [hab]
        simp
       refine ploop_spec s (by omega) r.1 I b (a.length + 1) [] hdrop (by omega) (by simp) (fun hb => ?_) (fun hb => by rw [hI,h2,hb]; rfl)
       rw [List.nil_append]
       unfold fin
       refine Ev.bind (f:=fun k t => _) (pz_spec r.1 (b.map cr) (by have:=hr1 h2; omega) (by rw [List.length_map]; omega)) ?_
       cases hp:pz r.1 (b.map cr)
       ·rw [hI,h2,hb,hp]
        exact ⟨0,fun k _ => rfl⟩
       ·simp only [if_true]
        obtain ⟨y,y1,y2⟩:=text_f a b r.1 (hshape h2 hp).1 hb hp
        refine Ev.bind (f:=fun k (t:ByteArray) => _) y1 ⟨0,fun k _ => ?_⟩
        (try dsimp only)
        rw [tl_data,tl_data,y2,hab,if_pos rfl,hI,h2,hb,hp]
        rfl
    ·rw [show decide ((s.size:Int) - (a.length:Int) - 1 > 10) = true from decide_eq_true (by omega)]
     have hn:I = No:=by
      rw [hI]
      split
      ·split
       ·split
        ·rename_i h2 _ hp
         exact absurd (hshape h2 hp).2.2 h10
        ·rfl
       ·rfl
      ·rfl
     rw [hn]
     refine Ev.step (f:=fun _ => some No) (fun k => ?_) (Ev.now _)
     simp only [spec_pzParse.j2]
     rw [if_pos trivial]
  ·have hn:I = No:=by
    rw [hI]
    split
    ·split
     ·split
      ·rename_i h2 _ hp
       exact absurd (hshape h2 hp).2.1 h36
      ·rfl
     ·rfl
    ·rfl
   rw [hn]
   refine psearch_none s (by omega) (fun j c hj hc e => ha ?_) s.size 0 (by omega)
   subst e
   rw [hab,List.getElem?_append_left (by omega)] at hc
   exact List.mem_of_getElem? hc
theorem ext_size (t:ByteArray) (i j:Nat) (h:j ≤ t.size):(t.extract i j).size = j - i:=by
 rw [ByteArray.size_extract]
 omega
theorem spx1 (t c:ByteArray) (n:Nat) (hn:n < t.size) (hc:c.size = 1) (ht:t.size ≤ 1000):(t.extract 0 n).size + c.size ≤ 9223372036854775807 ∧ (t.extract 0 n ++ c).size + (t.extract n t.size).size ≤ 9223372036854775807 ∧ ((t.extract 0 n ++ c) ++ t.extract n t.size).size ≤ t.size + 1:=by
 simp only [ByteArray.size_append,ext_size t 0 n (by omega),ext_size t n t.size (Nat.le_refl _),hc]
 omega
theorem spx2 (t c:ByteArray) (n:Nat) (hn:n < t.size) (hc:c.size = 1) (ht:t.size ≤ 1000):(t.extract 0 n).size + c.size ≤ 9223372036854775807 ∧ (t.extract 0 n ++ c).size + (t.extract (n + 1) t.size).size ≤ 9223372036854775807 ∧ ((t.extract 0 n ++ c) ++ t.extract (n + 1) t.size).size ≤ t.size + 1:=by
 simp only [ByteArray.size_append,ext_size t 0 n (by omega),ext_size t (n + 1) t.size (Nat.le_refl _),hc]
 omega
theorem spx3 (t:ByteArray) (n:Nat) (hn:n < t.size) (ht:t.size ≤ 1000):(t.extract 0 n).size + (t.extract (n + 1) t.size).size ≤ 9223372036854775807 ∧ (t.extract 0 n ++ t.extract (n + 1) t.size).size ≤ t.size + 1:=by
 simp only [ByteArray.size_append,ext_size t 0 n (by omega),ext_size t (n + 1) t.size (Nat.le_refl _)]
 omega
theorem d_spoil_l (l:List Int) (hl:∀ x ∈ l,0 ≤ x ∧ x ≤ 255) (w:ByteArray) (hw:1 ≤ w.size ∧ w.size ≤ 100):∀ (m:Nat) (t:ByteArray) (p s:Int),m ≤ 20 → t.size + m ≤ 1000 → 0 ≤ p ∧ p + 6 * m ≤ 10000 →
  ∃ r p' s',Ev (fun k => spec_l1Cur_spoilt.l0 k t w (m:Int) l p s) (r,p',s') ∧ r.size ≤ 1000:=by
 intro m
 induction m with
 | zero =>
  intro t p s _ h1 h2
  refine ⟨t,p,s,⟨2,fun k hk => ?_⟩,by omega⟩
  obtain ⟨j,rfl⟩ : ∃ j,k = j + 2:=⟨k - 2,by omega⟩
  simp only [spec_l1Cur_spoilt.l0]
  rw [if_neg (by omega)]
  simp only [spec_l1Cur_spoilt.j1,Bool.false_eq_true,if_false]
 | succ m ih =>
  intro t p s hm h1 h2
  by_cases h0:0 < t.size
  ·obtain ⟨i,q1,s1,e1,i0,i1,q10,q11⟩:=d_pick l hl p s (by omega) (t.size:Int) (by omega)
   obtain ⟨v,q2,s2,e2,v0,v1,q20,q21⟩:=d_pick l hl q1 s1 (by omega) (w.size:Int) (by omega)
   obtain ⟨u,q3,s3,e3,u0,u1,q30,q31⟩:=d_pick l hl q2 s2 (by omega) 3 (by omega)
   obtain ⟨n,rfl⟩ : ∃ n:Nat,i = (n:Int):=⟨i.toNat,by omega⟩
   have hn:n < t.size:=by omega
   have hnl:(n:Int) ≤ (t.size:Int):=by omega
   have ht:t.size ≤ 1000:=by omega
   have hm':m ≤ 20:=by omega
   have hq:0 ≤ q3 ∧ q3 + 6 * m ≤ 10000:=by omega
   have hsz:∀ z:ByteArray,z.size ≤ t.size + 1 → z.size + m ≤ 1000:=by
    intro z h
    omega
   have hn1:(0:Int) ≤ ((n + 1:Nat):Int):=by omega
   have hn2:((n + 1:Nat):Int) ≤ (t.size:Int):=by omega
   have hmp:((m + 1:Nat):Int) > 0:=by omega
   have htp:(t.size:Int) > 0:=by omega
   have go:∀ r p' s' z,Ev (fun k => spec_l1Cur_spoilt.l0 k z w (m:Int) l q3 s3) (r,p',s') → r.size ≤ 1000 →
     (∀ k,spec_l1Cur_spoilt.j1 (k + 1) t w ((m + 1:Nat):Int) true l p s = spec_l1Cur_spoilt.l0 k z w (m:Int) l q3 s3) →
     ∃ r p' s',Ev (fun k => spec_l1Cur_spoilt.l0 k t w ((m + 1:Nat):Int) l p s) (r,p',s') ∧ r.size ≤ 1000:=by
    intro r p' s' z ⟨K,hK⟩ hr hz
    refine ⟨r,p',s',⟨K + 2,fun k hk => ?_⟩,hr⟩
    obtain ⟨j,rfl⟩ : ∃ j,k = j + 2:=⟨k - 2,by omega⟩
    simp only [spec_l1Cur_spoilt.l0]
    rw [if_pos hmp,decide_eq_true htp,hz j]
    exact hK j (by omega)
   have wi:wrap64 ((n:Int) + 1) = ((n + 1:Nat):Int):=by rw [d_w _ (by omega) (by omega)]; rfl
   have wm:wrap64 (((m + 1:Nat):Int) - 1) = (m:Int):=by rw [d_w _ (by omega) (by omega)]; omega
   have x4:(strOfNums [bt w v]).size = 1:=(strOfNums_size _).trans rfl
   obtain ⟨c,hc⟩ : ∃ c,c = strOfNums [bt w v]:=⟨_,rfl⟩
   rw [← hc] at x4
   by_cases hu0:u = 0
   ·obtain ⟨y1,y2,y3⟩:=spx1 t c n hn x4 ht
    obtain ⟨r,p',s',a1,a2⟩:=ih ((t.extract 0 n ++ c) ++ t.extract n t.size) q3 s3 hm' (hsz _ y3) hq
    refine go r p' s' _ a1 a2 (fun k => ?_)
    simp only [spec_l1Cur_spoilt.j1,if_true]
    rw [e1]
    simp only [Option.bind_some]
    rw [e2]
    simp only [Option.bind_some]
    rw [if_pos v0,if_pos v1,e3]
    simp only [Option.bind_some,Int.toNat_natCast]
    rw [← hc,if_pos hu0,if_pos i0,if_pos hnl,if_pos y1,if_pos y2,wm]
   ·by_cases hu1:u = 1
    ·obtain ⟨y1,y2,y3⟩:=spx2 t c n hn x4 ht
     obtain ⟨r,p',s',a1,a2⟩:=ih ((t.extract 0 n ++ c) ++ t.extract (n + 1) t.size) q3 s3 hm' (hsz _ y3) hq
     refine go r p' s' _ a1 a2 (fun k => ?_)
     simp only [spec_l1Cur_spoilt.j1,if_true]
     rw [e1]
     simp only [Option.bind_some]
     rw [e2]
     simp only [Option.bind_some]
     rw [if_pos v0,if_pos v1,e3,wi]
     simp only [Option.bind_some,Int.toNat_natCast]
     rw [← hc,if_neg hu0,if_pos hu1,if_pos i0,if_pos hnl,if_pos y1,if_pos hn1,if_pos hn2,if_pos y2,wm]
    ·obtain ⟨y1,y3⟩:=spx3 t n hn ht
     obtain ⟨r,p',s',a1,a2⟩:=ih (t.extract 0 n ++ t.extract (n + 1) t.size) q3 s3 hm' (hsz _ y3) hq
     refine go r p' s' _ a1 a2 (fun k => ?_)
     simp only [spec_l1Cur_spoilt.j1,if_true]
     rw [e1]
     simp only [Option.bind_some]
     rw [e2]
     simp only [Option.bind_some]
     rw [if_pos v0,if_pos v1,e3,wi]
     simp only [Option.bind_some,Int.toNat_natCast]
     rw [if_neg hu0,if_neg hu1,if_pos i0,if_pos hnl,if_pos hn1,if_pos hn2,if_pos y1,wm]
  ·refine ⟨t,p,s,⟨2,fun k hk => ?_⟩,by omega⟩
   obtain ⟨j,rfl⟩ : ∃ j,k = j + 2:=⟨k - 2,by omega⟩
   simp only [spec_l1Cur_spoilt.l0]
   rw [if_pos (by omega),decide_eq_false (by omega)]
   simp only [spec_l1Cur_spoilt.j1,Bool.false_eq_true,if_false]
theorem upf_mem2:∀ (m:Nat) (n x:Int),n ≤ x → x < n + m → x ∈ upf m n
 | 0,n,x,h,k => by omega
 | m + 1,n,x,h,k => by
  simp only [upf,List.mem_cons]
  by_cases e:x = n
  ·exact .inl e
  ·exact .inr (upf_mem2 m (n + 1) x (by omega) (by omega))
theorem last_app (p:List Int) (n:Int):last_ (p ++ [n]) = n:=by
 unfold last_
 rw [show ((p ++ [n]).length:Int) - 1 = (p.length:Int) from by simp]
 exact i_mid p n []
theorem rem_nodup {l:List S64} (h:l.Nodup) (t:S64):(rem l t).Nodup:=List.Pairwise.filter _ h
theorem not_rem (l:List S64) (t:S64):t ∉ rem l t:=fun h => by
 unfold rem at h
 simp at h
theorem perm_rem {l:List S64} (h:l.Nodup) {t:S64} (ht:t ∈ l):(t :: rem l t).Perm l:=by
 refine (List.perm_ext_iff_of_nodup (List.nodup_cons.2 ⟨not_rem l t,rem_nodup h t⟩) h).2 fun x => ?_
 unfold rem
 simp only [List.mem_cons,List.mem_filter,Bool.not_eq_true',decide_eq_false_iff_not]
 constructor
 ·rintro (rfl | h)
  ·exact ht
  ·exact h.1
 ·intro hx
  by_cases e:x = t
  ·exact .inl e
  ·exact .inr ⟨hx,e⟩
theorem srch_iff (c:List Int):∀ (d:Nat) (p:List Int) (l:List S64),l.Nodup → l.length < d → ∀ r,r ∈ srch c d p l ↔ ∃ q,r = p ++ q ∧ (∀ x ∈ q,0 ≤ x ∧ x ≤ 9) ∧ (∀ i:Nat,i < q.length → fit c (p.length + i) (rd q (i:Int)) = true) ∧ (tilesL (last_ p :: q)).Perm l
 | 0,_,l,_,h,_ => by omega
 | d + 1,p,l,hn,hl,r => by
  unfold srch
  by_cases e:l = []
  ·rw [if_pos e]
   subst e
   simp only [List.mem_singleton]
   constructor
   ·rintro rfl
    exact ⟨[],by simp,by simp,by simp,List.Perm.nil⟩
   ·rintro ⟨q,rfl,_,_,h⟩
    have:=h.length_eq
    rw [tilesL_len] at this
    simp at this
    simp [this]
  ·rw [if_neg e]
   simp only [List.mem_flatMap]
   constructor
   ·rintro ⟨n,hnn,hr⟩
    have hr9:=upf_mem 10 0 n hnn
    by_cases g:fit c p.length n = true ∧ sOf (last_ p) n ∈ l
    ·rw [if_pos g] at hr
     obtain ⟨q,rfl,q1,q2,q3⟩:=(srch_iff c d (p ++ [n]) (rem l (sOf (last_ p) n)) (rem_nodup hn _) (by have:=rem_len hn _ g.2; omega) r).1 hr
     refine ⟨n :: q,by simp,fun x hx => ?_,fun i hi => ?_,?_⟩
     ·rcases List.mem_cons.1 hx with rfl | hx
      ·omega
      ·exact q1 x hx
     ·cases i with
      | zero => rw [rd_cons0]; exact g.1
      | succ i =>
       rw [rd_consS]
       have:=q2 i (by simpa using hi)
       rw [show (p ++ [n]).length + i = p.length + (i + 1) from by simp; omega] at this
       exact this
     ·rw [tilesL_two]
      rw [last_app] at q3
      exact (q3.cons _).trans (perm_rem hn g.2)
    ·rw [if_neg g] at hr
     cases hr
   ·rintro ⟨q,rfl,q1,q2,q3⟩
    cases q with
    | nil =>
     have:=q3.length_eq
     rw [tilesL_len] at this
     exact absurd (List.length_eq_zero_iff.1 this.symm) e
    | cons n q =>
     rw [tilesL_two] at q3
     have hn9:=q1 n List.mem_cons_self
     have ht:sOf (last_ p) n ∈ l:=q3.mem_iff.1 (show sOf (last_ p) n ∈ tileOf (last_ p) n :: _ from List.mem_cons_self)
     have hf:fit c p.length n = true:=by have:=q2 0 (by simp); rwa [rd_cons0] at this
     refine ⟨n,upf_mem2 10 0 n hn9.1 (by omega),?_⟩
     rw [if_pos ⟨hf,ht⟩]
     refine (srch_iff c d (p ++ [n]) (rem l (sOf (last_ p) n)) (rem_nodup hn _) (by have:=rem_len hn _ ht; omega) _).2 ⟨q,by simp,fun x hx => q1 x (List.mem_cons_of_mem _ hx),fun i hi => ?_,?_⟩
     ·have:=q2 (i + 1) (by simpa using hi)
      rw [rd_consS] at this
      rw [show (p ++ [n]).length + i = p.length + (i + 1) from by simp; omega]
      exact this
     ·rw [last_app]
      exact List.Perm.cons_inv (q3.trans (perm_rem hn ht).symm)
theorem sols_iff (c:List Int) (l:List S64) (hn:l.Nodup) (r:List Int):r ∈ sols c l ↔ r ≠ [] ∧ (∀ x ∈ r,0 ≤ x ∧ x ≤ 9) ∧ (∀ i:Nat,i < r.length → fit c i (rd r (i:Int)) = true) ∧ (tilesL r).Perm l:=by
 unfold sols
 simp only [List.mem_flatMap]
 constructor
 ·rintro ⟨n,hnn,hr⟩
  have hr9:=upf_mem 10 0 n hnn
  by_cases g:fit c 0 n = true
  ·rw [if_pos g] at hr
   obtain ⟨q,rfl,q1,q2,q3⟩:=(srch_iff c (l.length + 1) [n] l hn (by omega) r).1 hr
   refine ⟨by simp,fun x hx => ?_,fun i hi => ?_,q3⟩
   ·rcases List.mem_cons.1 (show x ∈ n :: q from hx) with rfl | hx
    ·omega
    ·exact q1 x hx
   ·cases i with
    | zero => exact g
    | succ i =>
     have:=q2 i (by simpa using hi)
     rw [show [n].length + i = i + 1 from by simp; omega] at this
     rw [show [n] ++ q = n :: q from rfl,rd_consS]
     exact this
  ·rw [if_neg g] at hr
   cases hr
 ·rintro ⟨h0,h1,h2,h3⟩
  cases r with
  | nil => exact absurd rfl h0
  | cons n q =>
   have hn9:=h1 n List.mem_cons_self
   refine ⟨n,upf_mem2 10 0 n hn9.1 (by omega),?_⟩
   rw [if_pos (show fit c 0 n = true from by have:=h2 0 (by simp); rwa [rd_cons0] at this)]
   refine (srch_iff c (l.length + 1) [n] l hn (by omega) _).2 ⟨q,rfl,fun x hx => h1 x (List.mem_cons_of_mem _ hx),fun i hi => ?_,h3⟩
   have:=h2 (i + 1) (by simpa using hi)
   rw [rd_consS] at this
   rw [show [n].length + i = i + 1 from by simp; omega]
   exact this
theorem srch_pre (c:List Int):∀ (d:Nat) (p:List Int) (l:List S64) (r),r ∈ srch c d p l → ∃ q,r = p ++ q
 | 0,_,_,_,h => by cases h
 | d + 1,p,l,r,h => by
  unfold srch at h
  split at h
  ·exact ⟨[],by simpa using h⟩
  ·obtain ⟨n,_,hr⟩:=List.mem_flatMap.1 h
   split at hr
   ·obtain ⟨q,rfl⟩:=srch_pre c d _ _ r hr
    exact ⟨n :: q,by simp⟩
   ·cases hr
theorem upf_nodup:(upf 10 0).Pairwise (· ≠ ·):=by decide
theorem srch_nodup (c:List Int):∀ (d:Nat) (p:List Int) (l:List S64),(srch c d p l).Nodup
 | 0,_,_ => List.nodup_nil
 | d + 1,p,l => by
  unfold srch
  split
  ·simp
  ·refine List.pairwise_flatMap.2 ⟨fun n _ => ?_,upf_nodup.imp fun {a b} hab x hx y hy => ?_⟩
   ·split
    ·exact srch_nodup c d _ _
    ·exact List.nodup_nil
   ·split at hx
    ·split at hy
     ·obtain ⟨q,rfl⟩:=srch_pre c d _ _ _ hx
      obtain ⟨q',rfl⟩:=srch_pre c d _ _ _ hy
      intro e
      simp at e
      exact hab e.1
     ·cases hy
    ·cases hx
theorem sols_nodup (c:List Int) (l:List S64):(sols c l).Nodup:=by
 unfold sols
 refine List.pairwise_flatMap.2 ⟨fun n _ => ?_,upf_nodup.imp fun {a b} hab x hx y hy => ?_⟩
 ·split
  ·exact srch_nodup c _ _ _
  ·exact List.nodup_nil
 ·split at hx
  ·split at hy
   ·obtain ⟨q,rfl⟩:=srch_pre c _ _ _ _ hx
    obtain ⟨q',rfl⟩:=srch_pre c _ _ _ _ hy
    intro e
    simp at e
    exact hab e.1
   ·cases hy
  ·cases hx
theorem len_sub {α:Type}:∀ (a b:List α),a.Nodup → (∀ x,x ∈ a → x ∈ b) → a.length ≤ b.length
 | [],_,_,_ => Nat.zero_le _
 | x :: a,b,h,k => by
  rw [List.nodup_cons] at h
  obtain ⟨s,t,rfl⟩:=List.append_of_mem (k x List.mem_cons_self)
  have:=len_sub a (s ++ t) h.2 (fun y hy => by
   have:=k y (List.mem_cons_of_mem _ hy)
   simp only [List.mem_append,List.mem_cons] at this ⊢
   rcases this with g | rfl | g
   ·exact .inl g
   ·exact absurd hy h.1
   ·exact .inr g)
  simp at this ⊢
  omega
theorem within_f (a b d:Int):impl_within.f a b d = some (inB b d a):=by
 unfold impl_within.f inB
 by_cases h:b ≤ a <;> simp [h]
def solP (l:List S64) (c:List Int):List (List Int) × Bool:=if pz l c = true ∧ (sols c l).length ≤ 200 then (sols c l,true) else ([],false)
theorem sol_f (l:List S64) (c:List Int) (hl:l.length ≤ 2000000) (hc:c.length ≤ 2000000):Ev (fun k => impl_Solutions.f k l c) (solP l c):=by
 have h2:=pz_impl l c hl
 unfold impl_Solutions.f solP
 cases hp:pz l c
 ·rw [hp] at h2
  rw [if_neg (by simp)]
  exact Ev.bind (f:=fun k t => _) h2 ⟨0,fun k _ => by simp⟩
 ·rw [hp] at h2
  obtain ⟨p1,p2,p3,p4,p5,p6⟩:=pz_true l c hp
  have g3:=sols_impl l c (row_of p3 p6) (by omega) p4
  by_cases hs:(sols c l).length ≤ 200
  ·rw [if_pos hs] at g3
   rw [if_pos ⟨rfl,hs⟩]
   refine Ev.bind (f:=fun k t => _) h2 ?_
   simpa using Ev.bind (f:=fun _ (bt201:List (List Int) × Bool) => some (bt201.1,bt201.2)) g3 ⟨0,fun k _ => rfl⟩
  ·rw [if_neg hs] at g3
   rw [if_neg (fun h => hs h.2)]
   refine Ev.bind (f:=fun k t => _) h2 ?_
   simpa using Ev.bind (f:=fun _ (bt201:List (List Int) × Bool) => some (bt201.1,bt201.2)) g3 ⟨0,fun k _ => rfl⟩
theorem count_f (l:List S64) (c:List Int) (hl:l.length ≤ 2000000) (hc:c.length ≤ 2000000):Ev (fun k => impl_CountSolutions.f k l c) (((solP l c).1.length:Int),(solP l c).2):=by
 unfold impl_CountSolutions.f
 exact Ev.bind (f:=fun k (bt238:List (List Int) × Bool) => _) (sol_f l c hl hc) ⟨0,fun k _ => rfl⟩
theorem gaps_f (l:List S64) (c:List Int) (hl:l.length ≤ 2000000) (hc:c.length ≤ 2000000) (hp:pz l c = true):Ev (fun k => impl_CountGaps.f k l c) (((c.countP fun x => x == -1:Nat):Int),true):=by
 have h2:=pz_impl l c hl
 unfold impl_CountGaps.f
 rw [hp] at h2
 have g2:=gaps_impl c [] 0 (by simpa using hc) (by omega) (by simp)
 exact Ev.bind (f:=fun k t200 => (if t200 = true then (impl_CountGaps.l0 k 0 c (c.length:Int) 0) else (some (0,false)))) h2 (by simpa using g2)
theorem same_ev:∀ (rest pre:List Int),(pre ++ rest).length ≤ 100000000 → Ev (fun k => laws_iSame.l0 k (pre ++ rest) (pre ++ rest) ((pre ++ rest).length:Int) (pre.length:Int)) true:=by
 intro rest
 induction rest with
 | nil =>
  intro pre h
  refine Ev.step (f:=fun _ => some true) (fun k => ?_) (Ev.now _)
  simp only [laws_iSame.l0,List.append_nil]
  rw [if_neg (by omega)]
 | cons x xs ih =>
  intro pre h
  have hlen:(pre ++ x :: xs).length = pre.length + xs.length + 1:=by simp; omega
  have e1:pre ++ [x] ++ xs = pre ++ x :: xs:=by simp
  have hi:=ih (pre ++ [x]) (by simpa using h)
  rw [e1] at hi
  refine Ev.step (fun k => ?_) hi
  simp only [laws_iSame.l0]
  rw [if_pos (by omega),if_pos (by omega),if_pos (by omega),if_pos (by omega),t_wrap ((pre.length:Int) + 1) (by omega) (by omega)]
  simp
theorem same_f (c:List Int) (h:c.length ≤ 100000000):Ev (fun k => laws_iSame.f k c c) true:=by
 unfold laws_iSame.f
 simp only [if_true]
 exact same_ev c [] h
theorem tiles_ev:∀ (rest pre:List S64),(pre ++ rest).length ≤ 100000000 → Ev (fun k => laws_iTiles.l0 k (pre ++ rest) (pre ++ rest) ((pre ++ rest).length:Int) (pre.length:Int)) true:=by
 intro rest
 induction rest with
 | nil =>
  intro pre h
  refine Ev.step (f:=fun _ => some true) (fun k => ?_) (Ev.now _)
  simp only [laws_iTiles.l0,List.append_nil]
  rw [if_neg (by omega)]
 | cons x xs ih =>
  intro pre h
  have hlen:(pre ++ x :: xs).length = pre.length + xs.length + 1:=by simp; omega
  have e1:pre ++ [x] ++ xs = pre ++ x :: xs:=by simp
  have hi:=ih (pre ++ [x]) (by simpa using h)
  rw [e1] at hi
  refine Ev.step (fun k => ?_) hi
  simp only [laws_iTiles.l0]
  rw [if_pos (by omega),if_pos (by omega),if_pos (by omega),if_pos (by omega),if_neg (by simp),t_wrap ((pre.length:Int) + 1) (by omega) (by omega)]
  simp
theorem tiles_f (l:List S64) (h:l.length ≤ 100000000):Ev (fun k => laws_iTiles.f k l l) true:=by
 unfold laws_iTiles.f
 simp only [if_true]
 exact tiles_ev l [] h
theorem puz_f (l:List S64) (c:List Int) (hl:l.length ≤ 2000000) (hc:c.length ≤ 2000000):Ev (fun k => laws_iPuzzle.f k l c l c) true:=by
 unfold laws_iPuzzle.f
 refine Ev.bind (f:=fun k t => _) (tiles_f l (by omega)) ?_
 simp only [if_true]
 exact Ev.bind (f:=fun k t => _) (same_f c (by omega)) ⟨0,fun k _ => rfl⟩
theorem row_mid (pre:List (List Int)) (x:List Int) (xs:List (List Int)):rd_L4 (pre ++ x :: xs) (pre.length:Int) = x:=by
 unfold rd_L4
 simp [List.getD_eq_getElem?_getD]
theorem rows_ev:∀ (rest pre:List (List Int)),(pre ++ rest).length ≤ 100000000 → (∀ r ∈ rest,r.length ≤ 1000) → Ev (fun k => laws_iRows.l0 k (pre ++ rest) (pre ++ rest) ((pre ++ rest).length:Int) (pre.length:Int)) true:=by
 intro rest
 induction rest with
 | nil =>
  intro pre h _
  refine Ev.step (f:=fun _ => some true) (fun k => ?_) (Ev.now _)
  simp only [laws_iRows.l0,List.append_nil]
  rw [if_neg (by omega)]
 | cons x xs ih =>
  intro pre h hr
  have hlen:(pre ++ x :: xs).length = pre.length + xs.length + 1:=by simp; omega
  have e1:pre ++ [x] ++ xs = pre ++ x :: xs:=by simp
  have hi:=ih (pre ++ [x]) (by simpa using h) (fun r hr2 => hr r (List.mem_cons_of_mem _ hr2))
  rw [e1] at hi
  have st:∀ R,Ev (fun k => (laws_iSame.f k x x).bind fun t579 => (if t579 = true then (laws_iRows.l0 k (pre ++ x :: xs) (pre ++ x :: xs) ((pre ++ x :: xs).length:Int) ((pre ++ [x]).length:Int)) else (some false))) R → Ev (fun k => laws_iRows.l0 k (pre ++ x :: xs) (pre ++ x :: xs) ((pre ++ x :: xs).length:Int) (pre.length:Int)) R:=fun R h => by
   refine Ev.step (fun k => ?_) h
   simp only [laws_iRows.l0]
   rw [if_pos (by omega),if_pos (by omega),if_pos (by omega),if_pos (by omega),row_mid,t_wrap ((pre.length:Int) + 1) (by omega) (by omega)]
   simp
  exact st _ (Ev.bind (f:=fun k t => _) (same_f x (by have:=hr x List.mem_cons_self; omega)) (by simpa using hi))
theorem rows_f (l:List (List Int)) (h:l.length ≤ 100000) (hr:∀ r ∈ l,r.length ≤ 1000):Ev (fun k => laws_iRows.f k l l) true:=by
 unfold laws_iRows.f
 simp only [if_true]
 exact rows_ev l [] (by simpa using (by omega:l.length ≤ 100000000)) hr
theorem row_pz (s:List S64) (c:List Int) (hs:row s) (h1:1 ≤ s.length) (h9:s.length ≤ 9) (hc:c.length = s.length + 1) (hx:∀ x ∈ c,-1 ≤ x ∧ x ≤ 9):pz s c = true:=by
 obtain ⟨a,b⟩:=row_isH hs
 unfold pz
 simp only [Bool.and_eq_true,inB_iff,a,b,and_true,true_and,decide_eq_true_eq]
 exact ⟨⟨by omega,by omega⟩,by omega,List.all_eq_true.2 fun x h => (inB_iff _ _ _).2 (hx x h)⟩
theorem ev_uniq {α:Type} {g:Nat → Option α} {a b:α} (h:Ev g a) (k:Ev g b):a = b:=by
 obtain ⟨K1,h⟩:=h
 obtain ⟨K2,k⟩:=k
 exact Option.some.inj ((h (K1 + K2) (by omega)).symm.trans (k (K1 + K2) (by omega)))
theorem sure_val (l:List S64) (c:List Int) (hl:l.length ≤ 2000000) (hc:c.length ≤ 2000000):∃ (R:List Int) (b:Bool),Ev (fun k => spec_SureNumbers.f k l c) (R,b) ∧ Ev (fun k => impl_SureNumbers.f k l c) (R,b) ∧ b = decide (0 < (solP l c).1.length) ∧ (b = false → R = []) ∧
  (b = true → R.length = c.length ∧ (∀ x ∈ R,-1 ≤ x) ∧ ∀ q:Nat,q < c.length → rd R (q:Int) = if (∀ s ∈ (solP l c).1,rd s (q:Int) = rd (rd_L4 (solP l c).1 0) (q:Int)) then rd (rd_L4 (solP l c).1 0) (q:Int) else -1):=by
 obtain ⟨⟨R,b⟩,h1,h2,h3,h4,h5⟩:=sure_both l c hl hc
 have hs:=sol_f l c hl hc
 refine ⟨R,b,h1,h2,?_,h4,fun hb => ⟨(h5 hb).2.1,(h5 hb).2.2,?_⟩⟩
 ·by_cases h0:0 < (solP l c).1.length
  ·rw [decide_eq_true h0]
   unfold solP at h0
   split at h0
   ·rename_i g
    have e:solP l c = (sols c l,true):=if_pos g
    obtain ⟨p1,p2,p3,p4,p5,p6⟩:=pz_true l c g.1
    have hmem:=sols_mem c l (row_of p3 p6)
    have hfm:=hmem _ (first_of (sols c l) h0)
    have gl:=g.2
    have h0':0 < (sols c l).length:=h0
    obtain ⟨R',hR',g1,g2,g3⟩:=sureV_all (sols c l) h0 (by omega) (by omega) (fun s hs => by rw [(hmem s hs).1,hfm.1])
    have:Ev (fun k => impl_SureNumbers.f k l c) (R',true):=by
     unfold impl_SureNumbers.f
     rw [e] at hs
     refine Ev.bind (f:=fun k (bt223:List (List Int) × Bool) => _) hs (Ev.congr (fun k => ?_) g2)
     (try dsimp only)
     rw [if_neg (by omega),if_pos (by omega)]
    exact congrArg Prod.snd (ev_uniq h2 this)
   ·simp at h0
  ·rw [decide_eq_false h0]
   have:Ev (fun k => impl_SureNumbers.f k l c) ([],false):=by
    unfold impl_SureNumbers.f
    refine Ev.bind (f:=fun k (bt223:List (List Int) × Bool) => _) hs ⟨0,fun k _ => ?_⟩
    have:(solP l c).1.length = 0:=by omega
    simp [this]
   exact congrArg Prod.snd (ev_uniq h2 this)
 ·have hb':b = true:=hb
  subst hb'
  by_cases h0:0 < (solP l c).1.length
  ·unfold solP at h0
   split at h0
   ·rename_i g
    have e:solP l c = (sols c l,true):=if_pos g
    obtain ⟨p1,p2,p3,p4,p5,p6⟩:=pz_true l c g.1
    have hmem:=sols_mem c l (row_of p3 p6)
    have hfm:=hmem _ (first_of (sols c l) h0)
    have gl:=g.2
    have h0':0 < (sols c l).length:=h0
    obtain ⟨R',hR',g1,g2,g3⟩:=sureV_all (sols c l) h0 (by omega) (by omega) (fun s hs => by rw [(hmem s hs).1,hfm.1])
    have:Ev (fun k => impl_SureNumbers.f k l c) (R',true):=by
     unfold impl_SureNumbers.f
     rw [e] at hs
     refine Ev.bind (f:=fun k (bt223:List (List Int) × Bool) => _) hs (Ev.congr (fun k => ?_) g2)
     (try dsimp only)
     rw [if_neg (by omega),if_pos (by omega)]
    have:R = R':=congrArg Prod.fst (ev_uniq h2 this)
    subst this
    rw [e]
    intro q hq
    exact g3 q (by omega)
   ·simp at h0
  ·have:Ev (fun k => impl_SureNumbers.f k l c) ([],false):=by
    unfold impl_SureNumbers.f
    refine Ev.bind (f:=fun k (bt223:List (List Int) × Bool) => _) hs ⟨0,fun k _ => ?_⟩
    have:(solP l c).1.length = 0:=by omega
    simp [this]
   have:=congrArg Prod.snd (ev_uniq h2 this)
   cases this
def firstP (l:List S64) (c:List Int):List Int × Bool:=if (solP l c).1.length = 0 then ([],false) else (rd_L4 (solP l c).1 0,true)
theorem first_i (l:List S64) (c:List Int) (hl:l.length ≤ 2000000) (hc:c.length ≤ 2000000):Ev (fun k => impl_FirstSolution.f k l c) (firstP l c):=by
 obtain ⟨K,h⟩:=sol_f l c hl hc
 simp only at h
 refine ⟨K,fun k hk => ?_⟩
 simp only [impl_FirstSolution.f,h k hk,Option.bind_some,firstP]
 by_cases h0:(solP l c).1.length = 0
 ·rw [if_pos (by omega),if_pos h0]
 ·rw [if_neg (by omega),if_neg h0,if_pos (by omega)]
theorem first_s (l:List S64) (c:List Int) (hl:l.length ≤ 2000000) (hc:c.length ≤ 2000000):Ev (fun k => spec_FirstSolution.f k l c) (firstP l c):=by
 obtain ⟨r,h1,h2,_⟩:=first_both l c hl hc
 rw [ev_uniq (first_i l c hl hc) h2]
 exact h1
theorem sol_s (l:List S64) (c:List Int) (hl:l.length ≤ 2000000) (hc:c.length ≤ 2000000):Ev (fun k => spec_Solutions.f k l c) (solP l c):=by
 obtain ⟨b,A,o,⟨K,h1⟩,h2,h3,h4,h5,h6⟩:=asked_both l c hl hc
 have e:=ev_uniq (sol_f l c hl hc) h2
 simp only at h1
 rw [e]
 refine ⟨K,fun k hk => ?_⟩
 simp only [spec_Solutions.f,h1 k hk,Option.bind_some]
 cases b
 ·simp [h4 rfl]
 ·simp [h3 rfl]
theorem count_s (l:List S64) (c:List Int) (hl:l.length ≤ 2000000) (hc:c.length ≤ 2000000):Ev (fun k => spec_CountSolutions.f k l c) (((solP l c).1.length:Int),(solP l c).2):=by
 obtain ⟨r,h1,h2⟩:=count_both l c hl hc
 rw [ev_uniq (count_f l c hl hc) h2]
 exact h1
theorem hint_val (l:List S64) (c R:List Int):∀ (d i:Nat),i + d = R.length → R.length = c.length → R.length ≤ 1000 → ∃ r:Int × Int × Bool,Ev (fun k => impl_HintOf.l0 k R (R.length:Int) (i:Int) l c) r ∧ (r.2.2 = true → ∃ j:Nat,r.1 = (j:Int) ∧ j < c.length ∧ rd c (j:Int) = -1 ∧ r.2.1 = rd R (j:Int) ∧ rd R (j:Int) ≠ -1):=by
 intro d
 induction d with
 | zero =>
  intro i hi hc h1
  refine ⟨(0,0,false),ev_up (K:=0) fun k _ => ?_,fun h => by cases h⟩
  simp only [impl_HintOf.l0]
  rw [if_neg (by omega)]
 | succ d ih =>
  intro i hi hc h1
  obtain ⟨r,⟨K,h2⟩,h3⟩:=ih (i + 1) (by omega) hc h1
  simp only at h2
  have hw:wrap64 ((i:Int) + 1) = ((i + 1:Nat):Int):=by rw [t_wrap _ (by omega) (by omega)]; rfl
  by_cases ha:rd R (i:Int) = -1
  ·refine ⟨r,ev_up (K:=K) fun k hk => ?_,h3⟩
   simp only [impl_HintOf.l0]
   rw [if_pos (by omega),if_pos (by omega),if_pos (by omega),if_pos ha,hw]
   exact h2 k hk
  ·by_cases hb:rd c (i:Int) = -1
   ·refine ⟨((i:Int),rd R (i:Int),true),ev_up (K:=0) fun k hk => ?_,fun _ => ⟨i,rfl,by omega,hb,rfl,ha⟩⟩
    simp only [impl_HintOf.l0]
    rw [if_pos (by omega),if_pos (by omega),if_pos (by omega),if_neg ha,if_pos (by omega),if_pos hb]
   ·refine ⟨r,ev_up (K:=K) fun k hk => ?_,h3⟩
    simp only [impl_HintOf.l0]
    rw [if_pos (by omega),if_pos (by omega),if_pos (by omega),if_neg ha,if_pos (by omega),if_neg hb,hw]
    exact h2 k hk
theorem hint_i (l:List S64) (c:List Int) (hl:l.length ≤ 2000000) (hc:c.length ≤ 2000000) (R:List Int) (b:Bool) (hR:Ev (fun k => impl_SureNumbers.f k l c) (R,b)) (h0:b = false → R = []) (h1:b = true → R.length = c.length ∧ pz l c = true) :
  ∃ r:Int × Int × Bool,Ev (fun k => spec_HintOf.f k l c) r ∧ Ev (fun k => impl_HintOf.f k l c) r ∧ (b = false → r.2.2 = false) ∧ (r.2.2 = true → ∃ j:Nat,r.1 = (j:Int) ∧ j < c.length ∧ rd c (j:Int) = -1 ∧ r.2.1 = rd R (j:Int) ∧ rd R (j:Int) ≠ -1):=by
 obtain ⟨r,r1,r2⟩:=hint_both l c hl hc
 obtain ⟨K,hR⟩:=hR
 simp only at hR
 cases b
 ·obtain rfl:=h0 rfl
  have:Ev (fun k => impl_HintOf.f k l c) (0,0,false):=by
   refine ev_up (K:=K) fun k hk => ?_
   simp [impl_HintOf.f,hR (k + 1) (by omega),impl_HintOf.l0]
  have e:=ev_uniq r2 this
  subst e
  exact ⟨_,r1,r2,fun _ => rfl,fun h => by cases h⟩
 ·obtain ⟨g1,g2⟩:=h1 rfl
  obtain ⟨p1,p2,p3,p4,p5,p6⟩:=pz_true l c g2
  obtain ⟨r',⟨K2,q1⟩,q2⟩:=hint_val l c R R.length 0 (by omega) g1 (by omega)
  simp only at q1
  have:Ev (fun k => impl_HintOf.f k l c) r':=by
   refine ⟨K + K2,fun k hk => ?_⟩
   simp only [impl_HintOf.f,hR k (by omega),Option.bind_some]
   exact q1 k (by omega)
  have e:=ev_uniq r2 this
  subst e
  exact ⟨_,r1,r2,fun h => (by cases h),q2⟩
theorem gaps_val (l:List S64) (c:List Int) (hl:l.length ≤ 2000000) (hc:c.length ≤ 2000000):∃ r:Int × Bool,Ev (fun k => spec_CountGaps.f k l c) r ∧ Ev (fun k => impl_CountGaps.f k l c) r ∧ r.2 = pz l c:=by
 obtain ⟨r,h1,h2⟩:=gaps_both l c hl hc
 refine ⟨r,h1,h2,?_⟩
 cases hp:pz l c
 ·have h3:=pz_impl l c hl
  rw [hp] at h3
  obtain ⟨K,h3⟩:=h3
  simp only at h3
  have:Ev (fun k => impl_CountGaps.f k l c) (0,false):=⟨K,fun k hk => by simp [impl_CountGaps.f,h3 k hk]⟩
  exact congrArg Prod.snd (ev_uniq h2 this)
 ·exact congrArg Prod.snd (ev_uniq h2 (gaps_f l c hl hc hp))
theorem text_both (l:List S64) (c:List Int) (hl:l.length ≤ 2000000) (hc:c.length ≤ 2000000):∃ r:ByteArray × Bool,Ev (fun k => spec_PuzzleText.f k l c) r ∧ Ev (fun k => impl_PuzzleText.f k l c) r:=by
 obtain ⟨K1,h1⟩:=pz_spec l c hl hc
 obtain ⟨K2,h2⟩:=pz_impl l c hl
 simp only at h1 h2
 cases hp:pz l c
 ·exact ⟨(⟨#[]⟩,false),⟨K1,fun k hk => by simp [spec_PuzzleText.f,h1 k hk,hp]⟩,⟨K2,fun k hk => by simp [impl_PuzzleText.f,h2 k hk,hp]⟩⟩
 ·obtain ⟨y,⟨K3,y1⟩,y2,_⟩:=pzText_f l c hp
  simp only at y1
  exact ⟨(y,true),⟨K1 + K3,fun k hk => by simp [spec_PuzzleText.f,h1 k (by omega),hp,y1 k (by omega)]⟩,y2⟩
theorem text_val (l:List S64) (c:List Int) (hl:l.length ≤ 2000000) (hc:c.length ≤ 2000000):∃ r:ByteArray × Bool,Ev (fun k => spec_PuzzleText.f k l c) r ∧ Ev (fun k => impl_PuzzleText.f k l c) r ∧ r.2 = pz l c ∧ (pz l c = true → r.1.data.toList = txtD l ++ 58 :: c.map cd):=by
 obtain ⟨r,h1,h2⟩:=text_both l c hl hc
 refine ⟨r,h1,h2,?_,fun hp => ?_⟩
 ·cases hp:pz l c
  ·have h3:=pz_impl l c hl
   rw [hp] at h3
   obtain ⟨K,h3⟩:=h3
   simp only at h3
   have:Ev (fun k => impl_PuzzleText.f k l c) ((⟨#[]⟩ : ByteArray),false):=⟨K,fun k hk => by simp [impl_PuzzleText.f,h3 k hk]⟩
   exact congrArg Prod.snd (ev_uniq h2 this)
  ·obtain ⟨y,_,y2,_⟩:=pzText_f l c hp
   exact congrArg Prod.snd (ev_uniq h2 y2)
 ·obtain ⟨y,_,y2,y3⟩:=pzText_f l c hp
  rw [← y3]
  exact congrArg (fun q => q.1.data.toList) (ev_uniq h2 y2)
theorem rd_rev (c:List Int) (i:Nat) (h:i < c.length):rd c.reverse (i:Int) = rd c ((c.length - 1 - i:Nat):Int):=by
 rw [rd_get _ i (by rw [List.length_reverse]; exact h),rd_get c (c.length - 1 - i) (by omega),List.getElem_reverse]
theorem pz_rev (l:List S64) (c:List Int) (h:pz l c = true):pz l c.reverse = true:=by
 obtain ⟨p1,p2,p3,p4,p5,p6⟩:=pz_true l c h
 exact row_pz l _ (row_of p3 p6) p1 p2 (by rw [List.length_reverse]; exact p4) fun x hx => p5 x (List.mem_reverse.1 hx)
theorem turn_p (l:List S64) (c:List Int) (hp:pz l c = true):Ev (fun k => impl_TurnPuzzle.f k l c) (l,c.reverse,true):=by
 obtain ⟨p1,p2,p3,p4,p5,p6⟩:=pz_true l c hp
 obtain ⟨K1,h1⟩:=pz_impl l c (by omega)
 obtain ⟨K2,h2⟩:=turned_f c (by omega)
 rw [hp] at h1
 simp only at h1 h2
 refine ⟨K1 + K2,fun k hk => ?_⟩
 have g2:slices_Clone_impl_Tile_impl_Tile.f l = some l:=by unfold slices_Clone_impl_Tile_impl_Tile.f; rw [if_pos (by omega)]
 simp only [impl_TurnPuzzle.f,h1 k (by omega),Option.bind_some,if_true,g2,h2 k (by omega)]
theorem rev_in (c:List Int) (l:List S64) (hl:row l) (hlc:c.length = l.length + 1) (r:List Int) (h:r ∈ sols c l):r.reverse ∈ sols c.reverse l:=by
 have hn:=row_nodup hl
 have hlen:=(sols_mem c l hl r h).1
 rw [sols_iff c l hn] at h
 rw [sols_iff c.reverse l hn]
 obtain ⟨h1,h2,h3,h4⟩:=h
 refine ⟨by simpa using h1,fun x hx => h2 x (List.mem_reverse.1 hx),fun i hi => ?_,?_⟩
 ·rw [List.length_reverse] at hi
  rw [rd_rev r i hi]
  have:=h3 (r.length - 1 - i) (by omega)
  unfold fit at this ⊢
  rw [rd_rev c i (by omega),show c.length - 1 - i = r.length - 1 - i by omega]
  exact this
 ·rw [tilesL_rev]
  exact (List.reverse_perm _).trans h4
theorem rev_le (c:List Int) (l:List S64) (hl:row l) (hlc:c.length = l.length + 1):(sols c l).length ≤ (sols c.reverse l).length:=by
 have:=len_sub ((sols c l).map List.reverse) (sols c.reverse l) ?_ fun x hx => ?_
 ·rwa [List.length_map] at this
 ·rw [List.nodup_iff_pairwise_ne]
  rw [List.pairwise_map]
  exact (List.nodup_iff_pairwise_ne.1 (sols_nodup c l)).imp fun {a b} h e => h (by have:=congrArg List.reverse e; simpa using this)
 ·obtain ⟨r,hr,rfl⟩:=List.mem_map.1 hx
  exact rev_in c l hl hlc r hr
theorem rev_len (c:List Int) (l:List S64) (hl:row l) (hlc:c.length = l.length + 1):(sols c.reverse l).length = (sols c l).length:=by
 have h1:=rev_le c l hl hlc
 have h2:=rev_le c.reverse l hl (by rw [List.length_reverse]; exact hlc)
 rw [List.reverse_reverse] at h2
 omega
theorem fill_p (l:List S64) (c:List Int) (hp:pz l c = true) (n:Nat) (hn:n < c.length) (hc:rd c (n:Int) = -1) (v:Int) (h0:0 ≤ v) (h9:v ≤ 9):Ev (fun k => impl_FillGap.f k l c (n:Int) v) (l,c.set n v,true):=by
 obtain ⟨p1,p2,p3,p4,p5,p6⟩:=pz_true l c hp
 obtain ⟨K1,h1⟩:=pz_impl l c (by omega)
 rw [hp] at h1
 simp only at h1
 have hw:=t_wrap ((c.length:Int) - 1) (by omega) (by omega)
 have g1:slices_Clone_impl_Tile_impl_Tile.f l = some l:=by unfold slices_Clone_impl_Tile_impl_Tile.f; rw [if_pos (by omega)]
 have g2:slices_Clone_int_int.f c = some c:=by unfold slices_Clone_int_int.f; rw [if_pos (by omega)]
 have e1:inB 0 ((c.length:Int) - 1) (n:Int) = true:=(inB_iff _ _ _).2 ⟨by omega,by omega⟩
 have e2:inB 0 9 v = true:=(inB_iff _ _ _).2 ⟨h0,h9⟩
 refine ⟨K1,fun k hk => ?_⟩
 simp only [impl_FillGap.f,impl_isPlace.f,h1 k hk,Option.bind_some,if_true,hw,within_f,e1,impl_isNumber.f,e2,hc,impl_Puzzle_with.f,g1,g2]
 rw [if_pos (by omega),if_pos (by omega),if_pos (by omega),if_pos (by omega)]
 rfl
theorem pz_fill (l:List S64) (c:List Int) (h:pz l c = true) (n:Nat) (v:Int) (h0:0 ≤ v) (h9:v ≤ 9):pz l (c.set n v) = true:=by
 obtain ⟨p1,p2,p3,p4,p5,p6⟩:=pz_true l c h
 refine row_pz l _ (row_of p3 p6) p1 p2 (by rw [List.length_set]; exact p4) fun x hx => ?_
 rcases List.mem_or_eq_of_mem_set hx with hx | rfl
 ·exact p5 x hx
 ·exact ⟨by omega,h9⟩
theorem fill_iff (c:List Int) (l:List S64) (hl:row l) (hlc:c.length = l.length + 1) (n:Nat) (hn:n < c.length) (hc:rd c (n:Int) = -1) (v:Int) (hv:v ≠ -1) (hall:∀ r ∈ sols c l,rd r (n:Int) = v) (r:List Int):r ∈ sols (c.set n v) l ↔ r ∈ sols c l:=by
 have hnd:=row_nodup hl
 constructor
 ·intro h
  rw [sols_iff _ l hnd] at h ⊢
  refine ⟨h.1,h.2.1,fun i hi => ?_,h.2.2.2⟩
  have:=h.2.2.1 i hi
  unfold fit at this ⊢
  rw [rd_set] at this
  by_cases e:n = i ∧ n < c.length
  ·obtain ⟨rfl,_⟩:=e
   rw [hc]
   simp
  ·rw [if_neg e] at this
   exact this
 ·intro h
  have hv2:=hall r h
  rw [sols_iff _ l hnd] at h ⊢
  refine ⟨h.1,h.2.1,fun i hi => ?_,h.2.2.2⟩
  have:=h.2.2.1 i hi
  unfold fit at this ⊢
  rw [rd_set]
  by_cases e:n = i ∧ n < c.length
  ·obtain ⟨rfl,_⟩:=e
   rw [if_pos ⟨rfl,hn⟩,hv2]
   simp
  ·rw [if_neg e]
   exact this
theorem fill_len (c:List Int) (l:List S64) (hl:row l) (hlc:c.length = l.length + 1) (n:Nat) (hn:n < c.length) (hc:rd c (n:Int) = -1) (v:Int) (hv:v ≠ -1) (hall:∀ r ∈ sols c l,rd r (n:Int) = v):(sols (c.set n v) l).length = (sols c l).length:=by
 have h:=fill_iff c l hl hlc n hn hc v hv hall
 have h1:=len_sub _ (sols c l) (sols_nodup (c.set n v) l) fun x hx => (h x).1 hx
 have h2:=len_sub _ (sols (c.set n v) l) (sols_nodup c l) fun x hx => (h x).2 hx
 omega
def lexL:List Int → List Int → Bool
 | x :: xs,y :: ys => if x = y then lexL xs ys else decide (x < y)
 | [],_ :: _ => true
 | _,[] => false
theorem lexL_app:∀ (p a b:List Int),lexL (p ++ a) (p ++ b) = lexL a b
 | [],_,_ => rfl
 | x :: p,a,b => by
  simp only [List.cons_append,lexL,if_true]
  exact lexL_app p a b
theorem upf_lt:∀ (m:Nat) (n:Int),(upf m n).Pairwise (· < ·)
 | 0,_ => .nil
 | m + 1,n => by
  refine List.pairwise_cons.2 ⟨fun x hx => ?_,upf_lt m (n + 1)⟩
  have:=upf_mem m (n + 1) x hx
  omega
theorem srch_lex (c:List Int):∀ (d:Nat) (p:List Int) (l:List S64),(srch c d p l).Pairwise fun a b => lexL a b = true
 | 0,_,_ => by simp [srch]
 | d + 1,p,l => by
  simp only [srch]
  split
  ·simp
  ·rw [List.pairwise_flatMap]
   refine ⟨fun n _ => ?_,(upf_lt 10 0).imp fun {a b} hab x hx y hy => ?_⟩
   ·split
    ·exact srch_lex c d _ _
    ·exact .nil
   ·split at hx
    ·split at hy
     ·obtain ⟨q,rfl⟩:=srch_pre c d _ _ x hx
      obtain ⟨q',rfl⟩:=srch_pre c d _ _ y hy
      rw [List.append_assoc,List.append_assoc,lexL_app]
      simp only [List.cons_append,lexL]
      rw [if_neg (by omega)]
      exact decide_eq_true hab
     ·cases hy
    ·cases hx
theorem sols_lex (c:List Int) (l:List S64):(sols c l).Pairwise fun a b => lexL a b = true:=by
 unfold sols
 rw [List.pairwise_flatMap]
 refine ⟨fun n _ => ?_,(upf_lt 10 0).imp fun {a b} hab x hx y hy => ?_⟩
 ·split
  ·exact srch_lex c _ _ _
  ·exact .nil
 ·split at hx
  ·split at hy
   ·obtain ⟨q,rfl⟩:=srch_pre c _ _ _ x hx
    obtain ⟨q',rfl⟩:=srch_pre c _ _ _ y hy
    simp only [List.cons_append,lexL]
    rw [if_neg (by omega)]
    exact decide_eq_true hab
   ·cases hy
  ·cases hx
theorem less_ev (a b:List Int) (hab:a.length = b.length) (hl:a.length ≤ 1000000):∀ (d i:Nat),i + d = a.length → Ev (fun k => laws_iLess.l0 k a b (i:Int)) (lexL (a.drop i) (b.drop i)):=by
 intro d
 induction d with
 | zero =>
  intro i hi
  rw [List.drop_of_length_le (by omega),List.drop_of_length_le (by omega)]
  refine ⟨2,fun k hk => ?_⟩
  obtain ⟨m,rfl⟩ : ∃ m,k = m + 2:=⟨k - 2,by omega⟩
  show laws_iLess.l0 (m + 1 + 1) a b (i:Int) = _
  simp only [laws_iLess.l0,laws_iLess.j1]
  rw [if_neg (by omega)]
  simp only [Bool.false_eq_true,if_false]
  rw [decide_eq_false (by omega)]
  rfl
 | succ d ih =>
  intro i hi
  obtain ⟨K,h⟩:=ih (i + 1) (by omega)
  simp only at h
  have hw:wrap64 ((i:Int) + 1) = ((i + 1:Nat):Int):=by rw [t_wrap _ (by omega) (by omega)]; rfl
  rw [List.drop_eq_getElem_cons (show i < a.length by omega),List.drop_eq_getElem_cons (show i < b.length by omega)]
  simp only [lexL]
  refine ⟨K + 2,fun k hk => ?_⟩
  obtain ⟨m,rfl⟩ : ∃ m,k = m + 2:=⟨k - 2,by omega⟩
  show laws_iLess.l0 (m + 1 + 1) a b (i:Int) = _
  simp only [laws_iLess.l0,laws_iLess.j1]
  rw [if_pos (by omega),decide_eq_true (show (i:Int) < (b.length:Int) by omega)]
  simp only [if_true]
  rw [if_pos (by omega),if_pos (by omega),if_pos (by omega),rd_get a i (by omega),rd_get b i (by omega),hw]
  by_cases e:a[i] = b[i]
  ·rw [if_pos e,if_pos e]
   exact h m (by omega)
  ·rw [if_neg e,if_neg e]
theorem less_f (a b:List Int) (hab:a.length = b.length) (hl:a.length ≤ 1000000):Ev (fun k => laws_iLess.f k a b) (lexL a b):=less_ev a b hab hl a.length 0 (by omega)
theorem ft_true:∀ (q c:List Int),q.length = c.length → (∀ i:Nat,i < c.length → rd q (i:Int) = -1 ∨ rd q (i:Int) = rd c (i:Int)) → ft q c = true
 | [],c,_,_ => by simp [ft]
 | x :: xs,[],_,_ => rfl
 | x :: xs,y :: ys,hl,h => by
  simp only [ft,Bool.and_eq_true,Bool.or_eq_true,decide_eq_true_eq]
  refine ⟨h 0 (by simp),ft_true xs ys (by simpa using hl) fun i hi => ?_⟩
  have:=h (i + 1) (by simp; omega)
  rw [rd_consS,rd_consS] at this
  exact this
theorem eqT_self (s:List S64) (h:s.length ≤ 1000):Ev (fun k => slices_Equal_impl_Tile_impl_Tile.f k s s) true:=by
 have:=seq_all s s rfl h
 rw [decide_eq_true rfl] at this
 unfold slices_Equal_impl_Tile_impl_Tile.f
 simpa using this
theorem is_sol (l:List S64) (q c:List Int) (hp:pz l q = true) (hc:c ∈ sols q l):Ev (fun k => impl_IsSolution.f k l q c) (true,true):=by
 obtain ⟨p1,p2,p3,p4,p5,p6⟩:=pz_true l q hp
 have hrow:=row_of p3 p6
 have hnd:=row_nodup hrow
 have hlen:=(sols_mem q l hrow c hc).1
 rw [sols_iff q l hnd] at hc
 obtain ⟨c1,c2,c3,c4⟩:=hc
 have hch:ch c = true:=(ch_iff c).2 ⟨by omega,c2,c4.nodup_iff.2 hnd⟩
 obtain ⟨_,_,_,k4⟩:=ch_true c hch
 obtain ⟨s,s1,s2,s3,s4⟩:=sorted_set (tilesL c) k4
 have e:s = l:=uniq s l s3 hrow.2.2 fun x => (s4 x).trans c4.mem_iff
 subst e
 obtain ⟨K1,h1⟩:=pz_impl s q (by omega)
 obtain ⟨K2,h2⟩:=ch_impl c (by omega)
 obtain ⟨K3,h3⟩:=(haTiles_f c (by omega)).2
 obtain ⟨K4,h4⟩:=eqT_self s (by omega)
 obtain ⟨K5,h5⟩:=(fits_ev s c q [] [] rfl (by omega) (by simp; omega) (fun x hx => (p5 x hx).1)).2
 rw [ft_true q c (by omega) (fun i hi => by
  have:=c3 i hi
  unfold fit at this
  simpa using this)] at h5
 simp only [List.nil_append,List.length_nil] at h1 h2 h3 h4 h5
 rw [hp] at h1
 rw [hch] at h2
 refine ⟨K1 + K2 + K3 + K4 + K5 + 2,fun k hk => ?_⟩
 obtain ⟨m,rfl⟩ : ∃ m,k = m + 2:=⟨k - 2,by omega⟩
 have hl2:(c.length:Int) = (q.length:Int):=by omega
 simp only [impl_IsSolution.f,h1 (m + 2) (by omega),h2 (m + 2) (by omega),Option.bind_some,if_true,Bool.not_true,impl_IsSolution.j0,Bool.false_eq_true,if_false,if_pos hl2,h3 (m + 1) (by omega),s1,h4 (m + 1) (by omega),impl_IsSolution.j1]
 exact h5 m (by omega)
theorem cd_val (n:Int) (h0 : -1 ≤ n) (h9:n ≤ 9):okc (cd n) = true ∧ cr (cd n) = n:=by
 have h2:∀ n:Fin 11,okc (cd ((n.val:Nat) - 1:Int)) = true ∧ cr (cd ((n.val:Nat) - 1:Int)) = ((n.val:Nat) - 1:Int):=by decide +kernel
 have:=h2 ⟨(n + 1).toNat,by omega⟩
 simp only [show (((n + 1).toNat:Nat):Int) - 1 = n by omega] at this
 exact this
theorem dgn_ne58 (n:Int) (h0:0 ≤ n) (h9:n ≤ 9):dgn n ≠ 58:=by
 intro e
 have:=dgn_val n h0 h9
 rw [e] at this
 have h44:(58:UInt8).toNat = 58:=rfl
 omega
theorem txt_58 (l:List S64) (hg:∀ x ∈ l,good x = true):58 ∉ txtD l:=by
 cases l with
 | nil => simp [txtD]
 | cons x xs =>
  unfold txtD
  rw [if_neg (by simp),List.map_cons,Lib.join_cons,jt_tail]
  have key:∀ y ∈ x :: xs,(58:UInt8) ∉ tl y:=fun y hy hm => by
   have g:=(good_iff y).1 (hg y hy)
   simp only [tl,List.mem_cons,List.not_mem_nil,or_false] at hm
   rcases hm with hm | hm
   ·exact dgn_ne58 _ (by omega) (by omega) hm.symm
   ·exact dgn_ne58 _ (by omega) (by omega) hm.symm
  have jts:∀ ys:List S64,(∀ y ∈ ys,(58:UInt8) ∉ tl y) → (58:UInt8) ∉ jt 44 (ys.map tl):=by
   intro ys
   induction ys with
   | nil => intro _ h; cases h
   | cons z zs ih =>
    intro h hm
    rw [List.map_cons,jt] at hm
    rcases List.mem_cons.1 hm with hm | hm
    ·exact absurd hm (by decide)
    ·rcases List.mem_append.1 hm with hm | hm
     ·exact h z List.mem_cons_self hm
     ·exact ih (fun y hy => h y (List.mem_cons_of_mem _ hy)) hm
  intro hm
  rcases List.mem_append.1 hm with hm | hm
  ·exact key x List.mem_cons_self hm
  ·exact jts xs (fun y hy => key y (List.mem_cons_of_mem _ hy)) hm
theorem parse_text (l:List S64) (c:List Int) (hp:pz l c = true) (s:ByteArray) (hs:s.data.toList = txtD l ++ 58 :: c.map cd):Ev (fun k => impl_ParsePuzzle.f k s) (l,c,true):=by
 obtain ⟨p1,p2,p3,p4,p5,p6⟩:=pz_true l c hp
 obtain ⟨q1,q2,q3⟩:=isH_true l p3
 have hne:l ≠ []:=fun e => by rw [e] at p1; simp at p1
 have hsz:s.size ≤ 1048576:=by
  rw [ba_size,hs,List.length_append,txt_len,if_neg hne,List.length_cons,List.length_map]
  omega
 have hok:(c.map cd).all okc = true:=by
  rw [List.all_map,List.all_eq_true]
  intro x hx
  have:=p5 x hx
  exact (cd_val x (by omega) (by omega)).1
 have hcr:(c.map cd).map cr = c:=by
  rw [List.map_map]
  have:∀ x ∈ c,(cr ∘ cd) x = id x:=fun x hx => by
   have:=p5 x hx
   exact (cd_val x (by omega) (by omega)).2
  rw [List.map_congr_left this,List.map_id]
 have h:=parse_i s hsz (txtD l) (c.map cd) (txt_58 l q2) hs (l,true) (by
  have:=parse_txt l p3
  unfold txtB at this
  exact this) (fun _ => q1)
 rw [hok,hcr,hp] at h
 exact h
theorem d_surePz (l:List Int) (hl:∀ x ∈ l,0 ≤ x ∧ x ≤ 255):∃ h c p s,Ev (fun k => spec_l1Cur_surePuzzle.f k l 0 0 6 5) (h,c,p,s) ∧ h.length ≤ 21 ∧ c.length ≤ 21 ∧ (∀ x ∈ h,x.f0 < 10 ∧ x.f1 < 10) ∧ (∀ x ∈ c,x < 10) ∧ 0 ≤ p ∧ p ≤ 1000:=by
 have loop:∀ (h:List S64) (rest pre o:List Int) (p s:Int),(pre ++ rest).length ≤ 100 → o.length ≤ pre.length → (∀ x ∈ o,x < 10) → (∀ x ∈ rest,x < 10) → 0 ≤ p → p + 2 * rest.length ≤ 50000 →
   ∃ c' p' s',Ev (fun k => spec_l1Cur_surePuzzle.l0 k (pre ++ rest) ((pre ++ rest).length:Int) (pre.length:Int) l p s h o) (h,c',p',s') ∧ c'.length = o.length + rest.length ∧ (∀ x ∈ c',x < 10) ∧ 0 ≤ p' ∧ p' ≤ p + 2 * rest.length:=by
  intro h rest
  induction rest with
  | nil =>
   intro pre o p s h1 h2 h5 h6 h3 h4
   refine ⟨o,p,s,ev_up (K:=0) fun k _ => ?_,by simp,h5,h3,by simp⟩
   simp only [spec_l1Cur_surePuzzle.l0,List.append_nil]
   rw [if_neg (by omega)]
  | cons x xs ih =>
   intro pre o p s h1 h2 h5 h6 h3 h4
   have hlen:(pre ++ x :: xs).length = pre.length + xs.length + 1:=by simp; omega
   have e1:pre ++ [x] ++ xs = pre ++ x :: xs:=by simp
   have hx:(x :: xs).length = xs.length + 1:=rfl
   obtain ⟨b,q,s1,eb,q0,q1⟩:=d_one l hl p s (by omega) 2 (by omega)
   have hw:wrap64 ((pre.length:Int) + 1) = ((pre ++ [x]).length:Int):=by rw [t_wrap _ (by omega) (by omega)]; simp
   have hr:=fun y hy => h6 y (List.mem_cons_of_mem x hy)
   cases b
   ·obtain ⟨c',p',s',⟨K,g1⟩,g2,g5,g3,g4⟩:=ih (pre ++ [x]) (o ++ [x]) q s1 (by rw [e1]; omega) (by simp; omega) (fun y hy => by
     rcases List.mem_append.1 hy with hy | hy
     ·exact h5 y hy
     ·rw [List.mem_singleton.1 hy]
      exact h6 x List.mem_cons_self) hr q0 (by omega)
    rw [e1] at g1
    refine ⟨c',p',s',ev_up (K:=K) fun k hk => ?_,by simp at g2; omega,g5,g3,by omega⟩
    simp only [spec_l1Cur_surePuzzle.l0]
    rw [if_pos (by omega),if_pos (by omega),if_pos (by omega),eb]
    simp only [Option.bind_some,Bool.false_eq_true,if_false]
    rw [if_pos (by omega),i_mid,hw]
    exact g1 k hk
   ·obtain ⟨c',p',s',⟨K,g1⟩,g2,g5,g3,g4⟩:=ih (pre ++ [x]) (o ++ [-1]) q s1 (by rw [e1]; omega) (by simp; omega) (fun y hy => by
     rcases List.mem_append.1 hy with hy | hy
     ·exact h5 y hy
     ·rw [List.mem_singleton.1 hy]
      decide) hr q0 (by omega)
    rw [e1] at g1
    refine ⟨c',p',s',ev_up (K:=K) fun k hk => ?_,by simp at g2; omega,g5,g3,by omega⟩
    simp only [spec_l1Cur_surePuzzle.l0]
    rw [if_pos (by omega),if_pos (by omega),if_pos (by omega),eb]
    simp only [Option.bind_some,if_true]
    rw [if_pos (by omega),hw]
    exact g1 k hk
 obtain ⟨c,q,s1,⟨K1,g1⟩,g2,g3,g4,g5⟩:=d_sureChain l hl 6 5 (by omega) (by omega) 0 0 (by omega)
 have go:∀ c:List Int,ch c = true → c.length ≤ 21 → ∃ h c' p' s',Ev (fun k => spec_l1Cur_surePuzzle.j0 k c l q s1) (h,c',p',s') ∧ h.length ≤ 21 ∧ c'.length ≤ 21 ∧ (∀ x ∈ h,x.f0 < 10 ∧ x.f1 < 10) ∧ (∀ x ∈ c',x < 10) ∧ 0 ≤ p' ∧ p' ≤ 1000:=by
  intro c k1 k3
  obtain ⟨k4,_,k5,hH⟩:=ch_true c k1
  obtain ⟨h,⟨K2,t1⟩,t2,t3,t4⟩:=sort_f (tilesL c) hH
  obtain ⟨c',p',s',⟨K3,w1⟩,w2,w5,w3,w4⟩:=loop h c [] [] q s1 (by simp; omega) (by simp) (by simp) (fun x hx => by have:=k5 x hx; omega) g4 (by omega)
  obtain ⟨K4,h4⟩:=(haTiles_f c (by omega)).1
  simp only [List.nil_append,List.length_nil] at w1 w2 t1 h4
  refine ⟨h,c',p',s',ev_up (K:=K2 + K3 + K4) fun k hk => ?_,by rw [t2,tilesL_len]; omega,by omega,fun x hx => ?_,w5,w3,by omega⟩
  ·simp only [spec_l1Cur_surePuzzle.j0,h4 k (by omega),Option.bind_some,t1 k (by omega)]
   exact w1 k (by omega)
  ·have:=(good_iff x).1 ((isH_true _ hH).2.1 x ((t4.1 x).1 hx))
   omega
 simp only at g1
 by_cases h2:(c.length:Int) < 2
 ·obtain ⟨h,c',p',s',⟨K2,w1⟩,w⟩:=go [0,1] (by decide) (by simp)
  simp only at w1
  exact ⟨h,c',p',s',⟨K1 + K2,fun k hk => by simp only [spec_l1Cur_surePuzzle.f,g1 k (by omega),Option.bind_some,if_pos h2,w1 k (by omega)]⟩,w⟩
 ·obtain ⟨h,c',p',s',⟨K2,w1⟩,w⟩:=go c g2 g3
  simp only at w1
  exact ⟨h,c',p',s',⟨K1 + K2,fun k hk => by simp only [spec_l1Cur_surePuzzle.f,g1 k (by omega),Option.bind_some,if_neg h2,w1 k (by omega)]⟩,w⟩
theorem d_parsePz (l:List Int) (hl:∀ x ∈ l,0 ≤ x ∧ x ≤ 255):∃ s,Ev (fun k => spec_DrawParsePuzzle.f k l) s ∧ s.size ≤ 1000:=by
 obtain ⟨h,c,p,s0,⟨K1,g1⟩,g2,g3,g4,g5,g6,g7⟩:=d_surePz l hl
 obtain ⟨a,⟨K2,a1⟩,a2⟩:=tt_f h (by omega) g4
 have has:a.size ≤ 100:=by
  have:a = txtB h:=ba_ext _ _ (by rw [a2,txt_data]; rfl)
  rw [this,txt_size,txt_len]
  split <;> omega
 obtain ⟨u,⟨K3,u1⟩,u2⟩:=ct_spec c [] (a ++ (⟨#[58]⟩ : ByteArray)) g5 (by simp; omega) (by simp only [ByteArray.size_append,s_num,s_44,s_46,s_58,s_0]; omega)
 simp only [List.nil_append,List.length_nil] at u1 a1 g1
 have hus:u.size ≤ 200:=by
  rw [ba_size,u2,List.length_append,← ba_size,List.length_map,ByteArray.size_append,s_58]
  omega
 have i1:∀ k,K2 ≤ k → K3 ≤ k → spec_pzText.f k h c = some u:=fun k k2 k3 => by
  unfold spec_pzText.f
  rw [a1 k k2]
  simp only [Option.bind_some]
  rw [if_pos (by omega)]
  exact u1 k k3
 obtain ⟨b,p1,s1,e3,p10,p11⟩:=d_one l hl p s0 (by omega) 3 (by omega)
 cases b
 ·exact ⟨u,⟨K1 + K2 + K3,fun k hk => by simp [spec_DrawParsePuzzle.f,g1 k (by omega),i1 k (by omega) (by omega),e3]⟩,by omega⟩
 ·obtain ⟨v,q3,s3,e4,v0,v1,r2,r3⟩:=d_pick l hl p1 s1 (by omega) 2 (by omega)
  have hws:((⟨#[48,49,50,51,52,53,44,58,46,45]⟩ : ByteArray)).size = 10:=rfl
  obtain ⟨r,p5,s5,⟨K4,h3⟩,h4⟩:=d_spoil_l l hl (⟨#[48,49,50,51,52,53,44,58,46,45]⟩ : ByteArray) (by rw [hws]; omega) (1 + v).toNat u q3 s3 (by omega) (by omega) (by omega)
  have i3:∀ k,K4 ≤ k → spec_l1Cur_spoilt.f k l p1 s1 u (⟨#[48,49,50,51,52,53,44,58,46,45]⟩ : ByteArray) = some (r,p5,s5):=fun k hk => by
   unfold spec_l1Cur_spoilt.f
   rw [e4]
   have:=h3 k hk
   rw [Int.toNat_of_nonneg (by omega)] at this
   simp only [Option.bind_some]
   rw [t_wrap (1 + v) (by omega) (by omega)]
   exact this
  exact ⟨r,⟨K1 + K2 + K3 + K4,fun k hk => by simp [spec_DrawParsePuzzle.f,g1 k (by omega),i1 k (by omega) (by omega),e3,i3 k (by omega)]⟩,h4⟩
theorem d_isSol (l:List Int) (hl:∀ x ∈ l,0 ≤ x ∧ x ≤ 255):∃ h c r,Ev (fun k => g30_spec_DrawIsSolution.f k l) (h,c,r) ∧ h.length ≤ 100 ∧ c.length ≤ 100 ∧ r.length ≤ 100:=by
 obtain ⟨h,c,q,s,⟨K1,g1⟩,g2,g3,g4,g5⟩:=d_puzzle l hl
 obtain ⟨K2,h2⟩:=pz_spec h c (by omega) (by omega)
 simp only at g1 h2
 cases hp:pz h c
 ·obtain ⟨r,p',s',⟨K3,w1⟩,w2,w3,_⟩:=d_sureChain l hl 7 4 (by omega) (by omega) q s (by omega)
  simp only at w1
  exact ⟨h,c,r,⟨K1 + K2 + K3,fun k hk => by simp [g30_spec_DrawIsSolution.f,g1 k (by omega),h2 k (by omega),hp,w1 k (by omega)]⟩,by omega,by omega,by omega⟩
 ·obtain ⟨p1,p2,p3,p4,p5,p6⟩:=pz_true h c hp
  have hne:h ≠ []:=fun e => by rw [e] at p1; simp at p1
  obtain ⟨b,q1,s1,e1,q10,q11⟩:=d_one l hl q s (by omega) 3 (by omega)
  obtain ⟨r,p',s',⟨K3,w1⟩,w2,w3,_⟩:=d_sureChain l hl 7 4 (by omega) (by omega) q1 s1 (by omega)
  simp only at w1
  cases b
  ·obtain ⟨o,⟨K4,o1⟩,o2⟩:=sols_spec h c (row_of p3 p6) hne (by omega) p4 (fun x hx => (p5 x hx).1)
   simp only at o1
   by_cases hs:(sols c h).length ≤ 200
   ·by_cases h0:(o.length:Int) > 0
    ·obtain ⟨v,q2,s2,e2,v0,v1,_⟩:=d_pick l hl q1 s1 (by omega) (o.length:Int) (by omega)
     have eo:=o2 hs
     have hm:rd_L4 o v ∈ o:=by
      unfold rd_L4
      rw [List.getD_eq_getElem?_getD,List.getElem?_eq_getElem (by omega)]
      exact List.getElem_mem _
     have hlen:=(sols_mem c h (row_of p3 p6) (rd_L4 o v) (by rw [← eo]; exact hm)).1
     refine ⟨h,c,rd_L4 o v,⟨K1 + K2 + K3 + K4,fun k hk => ?_⟩,by omega,by omega,by omega⟩
     simp only [g30_spec_DrawIsSolution.f,g1 k (by omega),h2 k (by omega),hp,o1 k (by omega),e1,e2,Option.bind_some,if_true,Bool.false_eq_true,if_false,decide_eq_true hs,if_pos h0,if_pos v0,if_pos v1]
    ·exact ⟨h,c,r,⟨K1 + K2 + K3 + K4,fun k hk => by simp only [g30_spec_DrawIsSolution.f,g1 k (by omega),h2 k (by omega),hp,o1 k (by omega),e1,Option.bind_some,if_true,Bool.false_eq_true,if_false,decide_eq_true hs,if_neg h0,w1 k (by omega)]⟩,by omega,by omega,by omega⟩
   ·exact ⟨h,c,r,⟨K1 + K2 + K3 + K4,fun k hk => by simp only [g30_spec_DrawIsSolution.f,g1 k (by omega),h2 k (by omega),hp,o1 k (by omega),e1,Option.bind_some,if_true,Bool.false_eq_true,if_false,decide_eq_false hs,w1 k (by omega)]⟩,by omega,by omega,by omega⟩
  ·exact ⟨h,c,r,⟨K1 + K2 + K3,fun k hk => by simp [g30_spec_DrawIsSolution.f,g1 k (by omega),h2 k (by omega),hp,e1,w1 k (by omega)]⟩,by omega,by omega,by omega⟩
theorem d_sols (l:List Int) (hl:∀ x ∈ l,0 ≤ x ∧ x ≤ 255):∃ h c,Ev (fun k => spec_DrawSolutions.f k l) (h,c) ∧ h.length ≤ 100 ∧ c.length ≤ 100:=by
 obtain ⟨h,c,q,s,⟨K1,g1⟩,g2,g3,g4,g5⟩:=d_puzzle l hl
 simp only at g1
 exact ⟨h,c,⟨K1,fun k hk => by simp [spec_DrawSolutions.f,spec_DrawIsPuzzle.f,g1 k hk]⟩,g2,g3⟩
theorem j6_ev (l:List Int) (hl:∀ x ∈ l,0 ≤ x ∧ x ≤ 255):Ev (fun k => laws_FnPuzzlesFilled.j6 k l) true:=by
 obtain ⟨h,c,r,⟨K1,h1⟩,g1,g2,g3⟩:=d_isSol l hl
 obtain ⟨q,⟨K2,h2⟩,⟨K3,h3⟩⟩:=sol_both h c r (by omega) (by omega) (by omega)
 obtain ⟨s,⟨K4,h4⟩,s1⟩:=d_parsePz l hl
 obtain ⟨⟨pl,pc,ok⟩,⟨K5,h5⟩,⟨K6,h6⟩,r1,r2,r3⟩:=parse_both s (by omega)
 obtain ⟨K7,h7⟩:=puz_f pl pc (by simp only at r1; omega) (by simp only at r2; omega)
 simp only at h1 h2 h3 h4 h5 h6 h7
 cases ok
 ·refine ev_up (K:=K1 + K2 + K3 + K4 + K5 + K6 + K7) fun k hk => ?_
  simp [laws_FnPuzzlesFilled.j6,h1 k (by omega),h2 k (by omega),h3 k (by omega),h4 k (by omega),h5 k (by omega),h6 k (by omega),h7 k (by omega)]
 ·obtain ⟨hp,ht⟩:=r3 rfl
  obtain ⟨y,_,⟨K8,h8⟩,y3⟩:=pzText_f pl pc hp
  have:y = s:=ba_ext _ _ (y3.trans ht)
  subst this
  simp only at h8
  refine ev_up (K:=K1 + K2 + K3 + K4 + K5 + K6 + K7 + K8) fun k hk => ?_
  simp [laws_FnPuzzlesFilled.j6,h1 k (by omega),h2 k (by omega),h3 k (by omega),h4 k (by omega),h5 k (by omega),h6 k (by omega),h7 k (by omega),h8 k (by omega)]
theorem j5_ev (l:List Int) (hl:∀ x ∈ l,0 ≤ x ∧ x ≤ 255) (h:List S64) (c:List Int) (t:ByteArray) (ok:Bool) (hok:ok = true → pz h c = true ∧ t.data.toList = txtD h ++ 58 :: c.map cd):Ev (fun k => laws_FnPuzzlesFilled.j5 k l h c t ok) true:=by
 obtain ⟨K1,h1⟩:=j6_ev l hl
 simp only at h1
 cases ok
 ·refine ev_up (K:=K1) fun k hk => ?_
  simp [laws_FnPuzzlesFilled.j5,h1 k hk]
 ·obtain ⟨hp,ht⟩:=hok rfl
  obtain ⟨p1,p2,p3,p4,p5,p6⟩:=pz_true h c hp
  obtain ⟨K2,h2⟩:=parse_text h c hp t ht
  obtain ⟨K3,h3⟩:=puz_f h c (by omega) (by omega)
  simp only at h2 h3
  refine ev_up (K:=K1 + K2 + K3) fun k hk => ?_
  simp [laws_FnPuzzlesFilled.j5,h1 k (by omega),h2 k (by omega),h3 k (by omega)]
theorem j4_ev (l:List Int) (hl:∀ x ∈ l,0 ≤ x ∧ x ≤ 255) (h:List S64) (c R:List Int) (cnt at_ n:Int) (seven:Bool) (t:ByteArray) (ok:Bool) (hok:ok = true → pz h c = true ∧ t.data.toList = txtD h ++ 58 :: c.map cd)
  (h7:seven = true → pz h c = true ∧ (sols c h).length ≤ 200 ∧ cnt = ((sols c h).length:Int) ∧ R.length = c.length ∧ ∃ j:Nat,at_ = (j:Int) ∧ j < c.length ∧ rd c (j:Int) = -1 ∧ n = rd R (j:Int) ∧ 0 ≤ n ∧ n ≤ 9 ∧ ∀ r ∈ sols c h,rd r (j:Int) = n) :
  Ev (fun k => laws_FnPuzzlesFilled.j4 k l h c cnt R at_ n seven t ok) true:=by
 obtain ⟨K1,h1⟩:=j5_ev l hl h c t ok hok
 simp only at h1
 cases seven
 ·refine ev_up (K:=K1) fun k hk => ?_
  simp [laws_FnPuzzlesFilled.j4,h1 k hk]
 ·obtain ⟨hp,hs,rfl,hR,j,rfl,j1,j2,rfl,n0,n9,hall⟩:=h7 rfl
  obtain ⟨p1,p2,p3,p4,p5,p6⟩:=pz_true h c hp
  obtain ⟨K2,h2⟩:=fill_p h c hp j j1 j2 _ n0 n9
  have hp2:=pz_fill h c hp j _ n0 n9
  have hlen:=fill_len c h (row_of p3 p6) p4 j j1 j2 _ (by omega) hall
  obtain ⟨K3,h3⟩:=count_f h (c.set j (rd R (j:Int))) (by omega) (by rw [List.length_set]; omega)
  have e:solP h (c.set j (rd R (j:Int))) = (sols (c.set j (rd R (j:Int))) h,true):=if_pos ⟨hp2,by omega⟩
  rw [e] at h3
  simp only at h2 h3
  refine ev_up (K:=K1 + K2 + K3) fun k hk => ?_
  simp only [laws_FnPuzzlesFilled.j4,h2 k (by omega),h3 k (by omega),Option.bind_some,if_true]
  rw [if_pos (by omega),if_pos (by omega),if_neg (by omega),if_pos (by omega),if_pos (by omega)]
  exact h1 k (by omega)
theorem turn_ev (l:List Int) (h:List S64) (c R:List Int) (at_ n:Int) (seven:Bool) (t:ByteArray) (ok:Bool) (hp:pz h c = true) (hs:(sols c h).length ≤ 200) (hj:Ev (fun k => laws_FnPuzzlesFilled.j4 k l h c ((sols c h).length:Int) R at_ n seven t ok) true) :
  Ev (fun k => (impl_TurnPuzzle.f k h c).bind fun b26 => ((impl_CountSolutions.f k b26.1 b26.2.1).bind fun b27 => (if b26.2.2 = true then (if b27.2 = true then (if b27.1 = ((sols c h).length:Int) then (laws_FnPuzzlesFilled.j4 k l h c ((sols c h).length:Int) R at_ n seven t ok) else (none)) else (none)) else (none)))) true:=by
 obtain ⟨p1,p2,p3,p4,p5,p6⟩:=pz_true h c hp
 obtain ⟨K1,h1⟩:=turn_p h c hp
 obtain ⟨K2,h2⟩:=count_f h c.reverse (by omega) (by rw [List.length_reverse]; omega)
 obtain ⟨K3,h3⟩:=hj
 have hr:=rev_len c h (row_of p3 p6) p4
 have e:solP h c.reverse = (sols c.reverse h,true):=if_pos ⟨pz_rev h c hp,by omega⟩
 rw [e] at h2
 simp only at h1 h2 h3
 refine ⟨K1 + K2 + K3,fun k hk => ?_⟩
 simp only [h1 k (by omega),h2 k (by omega),Option.bind_some,if_true,hr]
 exact h3 k (by omega)
theorem l3_ev (l:List Int) (h:List S64) (c R:List Int) (cnt at_ n:Int) (seven:Bool) (t:ByteArray) (ok:Bool) (A:List (List Int)) (i:Nat) (hA0:0 < A.length) (hA:A.length ≤ 200) (hlen:∀ s ∈ A,i < s.length) (hi:i < R.length)
  (hR:rd R (i:Int) = if (∀ s ∈ A,rd s (i:Int) = rd (rd_L4 A 0) (i:Int)) then rd (rd_L4 A 0) (i:Int) else -1) (h0:0 ≤ rd (rd_L4 A 0) (i:Int)) (z w:Int)
  (hn:Ev (fun k => laws_FnPuzzlesFilled.l2 k l h c A cnt R true at_ n seven t ok z (wrap64 (w + 1))) true) :
  ∀ (rest pre:List (List Int)) (acc:Bool),A = pre ++ rest → (acc = true ↔ ∃ s ∈ pre,rd s (i:Int) ≠ rd (rd_L4 A 0) (i:Int)) → Ev (fun k => laws_FnPuzzlesFilled.l3 k l h c A cnt R at_ n seven t ok (i:Int) acc z w A (A.length:Int) (pre.length:Int)) true:=by
 intro rest
 obtain ⟨K0,hn⟩:=hn
 simp only at hn
 induction rest with
 | nil =>
  intro pre acc e ha
  rw [List.append_nil] at e
  subst e
  have hacc:acc = decide (rd R (i:Int) < 0):=by
   rw [Bool.eq_iff_iff,ha,decide_eq_true_eq,hR]
   constructor
   ·rintro ⟨s,hs,hne⟩
    rw [if_neg (fun hh => hne (hh s hs))]
    decide
   ·intro hh
    refine Classical.byContradiction fun hno => ?_
    rw [if_pos (fun s hs => Classical.byContradiction fun hne => hno ⟨s,hs,hne⟩)] at hh
    omega
  refine ev_up (K:=K0) fun k hk => ?_
  simp only [laws_FnPuzzlesFilled.l3]
  rw [if_neg (by omega),if_pos (by omega),if_pos (by omega),if_pos hacc]
  exact hn k hk
 | cons x xs ih =>
  intro pre acc e ha
  have hl:A.length = pre.length + xs.length + 1:=by rw [e]; simp; omega
  have hx:rd_L4 A (pre.length:Int) = x:=by rw [e]; exact L_mid pre x xs
  have hw:wrap64 ((pre.length:Int) + 1) = ((pre ++ [x]).length:Int):=by rw [t_wrap _ (by omega) (by omega)]; simp
  have hxm:x ∈ A:=by rw [e]; simp
  have hxl:=hlen x hxm
  have hfl:=hlen _ (first_of A hA0)
  cases acc
  ·obtain ⟨K,g⟩:=ih (pre ++ [x]) (!((rd x (i:Int)) == (rd (rd_L4 A 0) (i:Int)))) (by rw [e]; simp) (by
    have hno:¬ ∃ s ∈ pre,rd s (i:Int) ≠ rd (rd_L4 A 0) (i:Int):=fun hh => (by have:=ha.2 hh; cases this)
    simp only [Bool.not_eq_true',beq_eq_false_iff_ne,ne_eq]
    constructor
    ·intro hh
     exact ⟨x,by simp,hh⟩
    ·rintro ⟨s,hs,hh⟩
     rcases List.mem_append.1 hs with hs | hs
     ·exact absurd ⟨s,hs,hh⟩ hno
     ·rw [List.mem_singleton.1 hs] at hh
      exact hh)
   simp only at g
   refine ev_up (K:=K) fun k hk => ?_
   simp only [laws_FnPuzzlesFilled.l3,Bool.false_eq_true,if_false]
   rw [if_pos (by omega),if_pos (by omega),if_pos (by omega),hx,if_pos (by omega),if_pos (by omega),if_pos (by omega),if_pos (by omega),hw]
   exact g k hk
  ·obtain ⟨K,g⟩:=ih (pre ++ [x]) true (by rw [e]; simp) (by
    refine ⟨fun _ => ?_,fun _ => rfl⟩
    obtain ⟨s,hs,hh⟩:=ha.1 rfl
    exact ⟨s,List.mem_append_left _ hs,hh⟩)
   simp only at g
   refine ev_up (K:=K) fun k hk => ?_
   simp only [laws_FnPuzzlesFilled.l3,if_true]
   rw [if_pos (by omega),if_pos (by omega),if_pos (by omega),hw]
   exact g k hk
theorem l2_ev (l:List Int) (h:List S64) (c R:List Int) (b:Bool) (at_ n:Int) (seven:Bool) (t:ByteArray) (ok:Bool) (hp:pz h c = true) (hs:(sols c h).length ≤ 200) (hj:Ev (fun k => laws_FnPuzzlesFilled.j4 k l h c ((sols c h).length:Int) R at_ n seven t ok) true)
  (hb:b = true → 0 < (sols c h).length ∧ R.length = c.length ∧ ∀ q:Nat,q < c.length → rd R (q:Int) = if (∀ s ∈ sols c h,rd s (q:Int) = rd (rd_L4 (sols c h) 0) (q:Int)) then rd (rd_L4 (sols c h) 0) (q:Int) else -1) :
  ∀ (d i:Nat),i + d = c.length → Ev (fun k => laws_FnPuzzlesFilled.l2 k l h c (sols c h) ((sols c h).length:Int) R b at_ n seven t ok (c.length:Int) (i:Int)) true:=by
 obtain ⟨K0,ht⟩:=turn_ev l h c R at_ n seven t ok hp hs hj
 obtain ⟨p1,p2,p3,p4,p5,p6⟩:=pz_true h c hp
 simp only at ht
 intro d
 induction d with
 | zero =>
  intro i hi
  refine ev_up (K:=K0) fun k hk => ?_
  simp only [laws_FnPuzzlesFilled.l2]
  rw [if_neg (by omega)]
  exact ht k hk
 | succ d ih =>
  intro i hi
  cases b
  ·refine ev_up (K:=K0) fun k hk => ?_
   simp only [laws_FnPuzzlesFilled.l2]
   rw [if_pos (by omega)]
   simp only [Bool.false_eq_true,if_false]
   exact ht k hk
  ·obtain ⟨b1,b2,b3⟩:=hb rfl
   have hmem:=sols_mem c h (row_of p3 p6)
   have hfm:=hmem _ (first_of (sols c h) b1)
   have hwi:wrap64 ((i:Int) + 1) = ((i + 1:Nat):Int):=by rw [t_wrap _ (by omega) (by omega)]; rfl
   have hnext:=ih (i + 1) (by omega)
   obtain ⟨K1,h1⟩:=l3_ev l h c R ((sols c h).length:Int) at_ n seven t ok (sols c h) i b1 hs (fun s hs => by rw [(hmem s hs).1]; omega) (by omega) (b3 i (by omega)) (by
    rw [rd_get _ i (by omega)]
    exact (hfm.2 _ (List.getElem_mem _)).1) (c.length:Int) (i:Int) (by rw [hwi]; exact hnext) (sols c h) [] false rfl (by simp)
   simp only [List.length_nil] at h1
   refine ev_up (K:=K1) fun k hk => ?_
   simp only [laws_FnPuzzlesFilled.l2,if_true]
   rw [if_pos (by omega)]
   exact h1 k hk
theorem l1_ev (l:List Int) (h:List S64) (c R:List Int) (b:Bool) (cnt at_ n:Int) (seven:Bool) (t:ByteArray) (ok:Bool) (A:List (List Int)) (r:List Int) (idx:Nat) (hidx:idx ≤ 1000) (hr:r.length = c.length) (hRl:R.length = c.length) (hc:c.length ≤ 1000)
  (hf:∀ i:Nat,i < c.length → 0 ≤ rd c (i:Int) → rd c (i:Int) = rd r (i:Int)) (hS:∀ i:Nat,i < c.length → 0 ≤ rd R (i:Int) → rd R (i:Int) = rd r (i:Int))
  (hn:Ev (fun k => laws_FnPuzzlesFilled.l0 k l h c A cnt R b at_ n seven t ok A (A.length:Int) ((idx + 1:Nat):Int)) true) :
  ∀ (d i:Nat),i + d = r.length → Ev (fun k => laws_FnPuzzlesFilled.l1 k l h c A cnt R b at_ n seven t ok A (A.length:Int) (idx:Int) r (r.length:Int) (i:Int)) true:=by
 obtain ⟨K0,hn⟩:=hn
 have hwx:wrap64 ((idx:Int) + 1) = ((idx + 1:Nat):Int):=by rw [t_wrap _ (by omega) (by omega)]; rfl
 simp only at hn
 intro d
 induction d with
 | zero =>
  intro i hi
  refine ev_up (K:=K0) fun k hk => ?_
  simp only [laws_FnPuzzlesFilled.l1]
  rw [if_neg (by omega),hwx]
  exact hn k hk
 | succ d ih =>
  intro i hi
  obtain ⟨K,g⟩:=ih (i + 1) (by omega)
  have hw:wrap64 ((i:Int) + 1) = ((i + 1:Nat):Int):=by rw [t_wrap _ (by omega) (by omega)]; rfl
  simp only at g
  refine ⟨K + 3,fun k hk => ?_⟩
  obtain ⟨m,rfl⟩ : ∃ m,k = m + 3:=⟨k - 3,by omega⟩
  show laws_FnPuzzlesFilled.l1 (m + 2 + 1) _ _ _ _ _ _ _ _ _ _ _ _ _ _ _ _ _ _ = _
  have hj2:laws_FnPuzzlesFilled.j2 (m + 1 + 1) l h c A cnt R b at_ n seven t ok A (A.length:Int) (idx:Int) r (r.length:Int) (i:Int) false = some true:=by
   simp only [laws_FnPuzzlesFilled.j2,Bool.false_eq_true,if_false,laws_FnPuzzlesFilled.j3,hw]
   exact g m (by omega)
  have hsure:(if rd R (i:Int) ≥ 0 then laws_FnPuzzlesFilled.j2 (m + 1 + 1) l h c A cnt R b at_ n seven t ok A (A.length:Int) (idx:Int) r (r.length:Int) (i:Int) (!((rd R (i:Int)) == (rd r (i:Int)))) else laws_FnPuzzlesFilled.j2 (m + 1 + 1) l h c A cnt R b at_ n seven t ok A (A.length:Int) (idx:Int) r (r.length:Int) (i:Int) false) = some true:=by
   by_cases hg:rd R (i:Int) ≥ 0
   ·rw [if_pos hg,hS i (by omega) hg,beq_self_eq_true]
    exact hj2
   ·rw [if_neg hg]
    exact hj2
  simp only [laws_FnPuzzlesFilled.l1]
  rw [if_pos (by omega),if_pos (by omega),if_pos (by omega),if_pos (by omega)]
  by_cases hg:rd c (i:Int) ≥ 0
  ·rw [if_pos hg,if_pos (hf i (by omega) hg),if_pos (by omega)]
   exact hsure
  ·rw [if_neg hg,if_pos (by omega)]
   exact hsure
theorem l0_ev (l:List Int) (h:List S64) (c R:List Int) (b:Bool) (at_ n:Int) (seven:Bool) (t:ByteArray) (ok:Bool) (hp:pz h c = true) (hs:(sols c h).length ≤ 200) (hj:Ev (fun k => laws_FnPuzzlesFilled.j4 k l h c ((sols c h).length:Int) R at_ n seven t ok) true)
  (hb2:0 < (sols c h).length → b = true)
  (hb:b = true → 0 < (sols c h).length ∧ R.length = c.length ∧ ∀ q:Nat,q < c.length → rd R (q:Int) = if (∀ s ∈ sols c h,rd s (q:Int) = rd (rd_L4 (sols c h) 0) (q:Int)) then rd (rd_L4 (sols c h) 0) (q:Int) else -1) :
  ∀ (rest pre:List (List Int)),sols c h = pre ++ rest → Ev (fun k => laws_FnPuzzlesFilled.l0 k l h c (sols c h) ((sols c h).length:Int) R b at_ n seven t ok (sols c h) ((sols c h).length:Int) (pre.length:Int)) true:=by
 obtain ⟨p1,p2,p3,p4,p5,p6⟩:=pz_true h c hp
 obtain ⟨K0,h0⟩:=l2_ev l h c R b at_ n seven t ok hp hs hj hb c.length 0 (by omega)
 have hmem:=sols_mem c h (row_of p3 p6)
 have hlex:=sols_lex c h
 simp only at h0
 intro rest
 induction rest with
 | nil =>
  intro pre e
  have hl:(sols c h).length = pre.length:=by rw [e]; simp
  refine ev_up (K:=K0) fun k hk => ?_
  simp only [laws_FnPuzzlesFilled.l0]
  rw [if_neg (by omega)]
  exact h0 k hk
 | cons x xs ih =>
  intro pre e
  have hl:(sols c h).length = pre.length + xs.length + 1:=by rw [e]; simp; omega
  have hx:rd_L4 (sols c h) (pre.length:Int) = x:=by rw [e]; exact L_mid pre x xs
  have hxm:x ∈ sols c h:=by rw [e]; simp
  obtain ⟨b1,b2,b3⟩:=hb (hb2 (by omega))
  have hxl:=(hmem x hxm).1
  have hn:=ih (pre ++ [x]) (by rw [e]; simp)
  rw [show ((pre ++ [x]).length:Int) = ((pre.length + 1:Nat):Int) from by simp] at hn
  have hxs:=(sols_iff c h (row_nodup (row_of p3 p6)) x).1 hxm
  obtain ⟨K1,h1⟩:=l1_ev l h c R b ((sols c h).length:Int) at_ n seven t ok (sols c h) x pre.length (by omega) (by omega) b2 (by omega) (fun i hi hg => by
    have:=hxs.2.2.1 i (by omega)
    unfold fit at this
    simp only [decide_eq_true_eq] at this
    omega) (fun i hi hg => by
    rw [b3 i hi] at hg ⊢
    split at hg
    ·rename_i hh
     rw [if_pos hh,hh x hxm]
    ·omega) hn x.length 0 (by omega)
  obtain ⟨K2,h2⟩:=is_sol h c x hp hxm
  simp only at h1 h2
  rcases List.eq_nil_or_concat pre with rfl | ⟨pre',y,rfl⟩
  ·simp only [List.length_nil] at hx h1 ⊢
   refine ev_up (K:=K1 + K2) fun k hk => ?_
   simp only [laws_FnPuzzlesFilled.l0]
   rw [if_pos (by omega),if_pos (by omega),if_pos (by omega),hx,h2 k (by omega)]
   simp only [Option.bind_some,if_true]
   rw [if_neg (by omega)]
   exact h1 k (by omega)
  ·have hym:y ∈ sols c h:=by rw [e]; simp
   have hyl:=(hmem y hym).1
   have hyx:lexL y x = true:=by
    rw [e] at hlex
    simp only [List.concat_eq_append,List.append_assoc,List.singleton_append] at hlex
    have:=(List.pairwise_append.1 hlex).2.1
    exact (List.pairwise_cons.1 this).1 x List.mem_cons_self
   obtain ⟨K3,h3⟩:=less_f y x (by omega) (by omega)
   rw [hyx] at h3
   have hcl:(pre'.concat y).length = pre'.length + 1:=by simp
   have hwy:wrap64 (((pre'.concat y).length:Int) - 1) = (pre'.length:Int):=by rw [t_wrap _ (by omega) (by omega)]; omega
   have hy:rd_L4 (sols c h) (pre'.length:Int) = y:=by
    rw [e]
    simp only [List.concat_eq_append,List.append_assoc,List.singleton_append]
    exact L_mid pre' y (x :: xs)
   simp only at h3
   refine ev_up (K:=K1 + K2 + K3) fun k hk => ?_
   simp only [laws_FnPuzzlesFilled.l0]
   rw [if_pos (by omega),if_pos (by omega),if_pos (by omega),hx,h2 k (by omega)]
   simp only [Option.bind_some,if_true]
   rw [if_pos (by omega),hwy,if_pos (by omega),if_pos (by omega),hy,h3 k (by omega)]
   simp only [Option.bind_some,if_true]
   exact h1 k (by omega)
theorem FnPuzzlesFilled (l0:List Int) (l1:List Int) (_h0:(l0.length ≤ 9223372036854775807 ∧ ∀ x_ ∈ l0,(Lit.int .u8 x_).wf = true)) (_h1:(l1.length ≤ 9223372036854775807 ∧ ∀ x_ ∈ l1,(Lit.int .u8 x_).wf = true)):∃ k,laws_FnPuzzlesFilled.f k l0 l1 = some true:=by
 have u0:=wf_u8 l0 _h0.2
 have u1:=wf_u8 l1 _h1.2
 refine Ev.rounds (g:=fun k => laws_FnPuzzlesFilled.f k l0 l1) ?_
 cases hbig:laws_big.f l0 l1 with
 | none =>
  exfalso
  unfold laws_big.f at hbig
  split at hbig <;> cases hbig
 | some u =>
  cases u
  ·obtain ⟨h,c,⟨K0,e0⟩,a1,a2⟩:=d_sols l0 u0
   obtain ⟨K1,e1⟩:=sol_f h c (by omega) (by omega)
   obtain ⟨K2,e2⟩:=sol_s h c (by omega) (by omega)
   obtain ⟨K3,e3⟩:=count_f h c (by omega) (by omega)
   obtain ⟨K4,e4⟩:=count_s h c (by omega) (by omega)
   obtain ⟨K5,e5⟩:=first_i h c (by omega) (by omega)
   obtain ⟨K6,e6⟩:=first_s h c (by omega) (by omega)
   obtain ⟨R,b,⟨K7,e7⟩,hSi,b1,b2,b3⟩:=sure_val h c (by omega) (by omega)
   have hpzb:b = true → pz h c = true ∧ (sols c h).length ≤ 200 ∧ solP h c = (sols c h,true):=by
    intro hb
    rw [b1] at hb
    have hb:=of_decide_eq_true hb
    by_cases g:pz h c = true ∧ (sols c h).length ≤ 200
    ·exact ⟨g.1,g.2,if_pos g⟩
    ·unfold solP at hb
     rw [if_neg g] at hb
     simp at hb
   obtain ⟨hr,⟨K8,e8⟩,⟨K9,e9⟩,h90,h91⟩:=hint_i h c (by omega) (by omega) R b hSi b2 (fun hb => ⟨(b3 hb).1,(hpzb hb).1⟩)
   obtain ⟨K10,e10⟩:=hSi
   obtain ⟨g,⟨K11,e11⟩,⟨K12,e12⟩,hg⟩:=gaps_val h c (by omega) (by omega)
   obtain ⟨t,⟨K13,e13⟩,⟨K14,e14⟩,ht,ht2⟩:=text_val h c (by omega) (by omega)
   obtain ⟨K15,e15⟩:=pz_impl h c (by omega)
   obtain ⟨K16,e16⟩:=pz_spec h c (by omega) (by omega)
   have hj4:=j4_ev l1 u1 h c R (((solP h c).1.length:Nat):Int) hr.1 hr.2.1 hr.2.2 t.1 t.2 (fun hh => by
     rw [ht] at hh
     exact ⟨hh,ht2 hh⟩) (fun h7 => by
     have hb:b = true:=by
      cases b
      ·rw [h90 rfl] at h7
       cases h7
      ·rfl
     obtain ⟨q1,q2,q3⟩:=hpzb hb
     obtain ⟨r1,r2,r3⟩:=b3 hb
     obtain ⟨j,j1,j2,j3,j4,j5⟩:=h91 h7
     obtain ⟨p1,p2,p3,p4,p5,p6⟩:=pz_true h c q1
     have hmem:=sols_mem c h (row_of p3 p6)
     rw [q3] at r3 b1 ⊢
     have h0:0 < (sols c h).length:=by
      rw [hb] at b1
      exact of_decide_eq_true b1.symm
     have hfm:=hmem _ (first_of (sols c h) h0)
     have hRj:=r3 j j2
     simp only at hRj
     refine ⟨q1,q2,rfl,r1,j,j1,j2,j3,j4,?_⟩
     by_cases hh:∀ s ∈ sols c h,rd s (j:Int) = rd (rd_L4 (sols c h) 0) (j:Int)
     ·rw [if_pos hh] at hRj
      have h9:=hfm.2 (rd (rd_L4 (sols c h) 0) (j:Int)) (by
       rw [rd_get _ j (by omega)]
       exact List.getElem_mem _)
      rw [j4,hRj]
      exact ⟨h9.1,h9.2,hh⟩
     ·rw [if_neg hh] at hRj
      exact absurd hRj j5)
   have hF:(firstP h c).2 = b:=by
    rw [b1]
    unfold firstP
    by_cases h0:(solP h c).1.length = 0
    ·rw [if_pos h0,decide_eq_false (by omega)]
    ·rw [if_neg h0,decide_eq_true (by omega)]
   have hj1:Ev (fun k => laws_FnPuzzlesFilled.j1 k l1 h c (solP h c).1 (solP h c).2 (((solP h c).1.length:Nat):Int) (firstP h c).1 b R b hr.1 hr.2.1 hr.2.2 t.1 t.2) true:=by
    by_cases gg:pz h c = true ∧ (sols c h).length ≤ 200
    ·have q3:solP h c = (sols c h,true):=if_pos gg
     obtain ⟨p1,p2,p3,p4,p5,p6⟩:=pz_true h c gg.1
     have hmem:=sols_mem c h (row_of p3 p6)
     rw [q3] at hj4 b1 b3
     obtain ⟨K,hl0⟩:=l0_ev l1 h c R b hr.1 hr.2.1 hr.2.2 t.1 t.2 gg.1 gg.2 hj4 (fun h0 => by rw [b1]; exact decide_eq_true h0) (fun hb => ⟨by rw [hb] at b1; exact of_decide_eq_true b1.symm,(b3 hb).1,(b3 hb).2.2⟩) (sols c h) [] rfl
     simp only [List.length_nil] at hl0
     rw [q3]
     cases hb:b
     ·rw [hb] at hl0
      refine ev_up (K:=K) fun k hk => ?_
      simp only [laws_FnPuzzlesFilled.j1,if_true,Bool.false_eq_true,if_false]
      exact hl0 k hk
     ·rw [hb] at hl0
      have h0:0 < (sols c h).length:=by
       rw [hb] at b1
       exact of_decide_eq_true b1.symm
      have hfm:=hmem _ (first_of (sols c h) h0)
      have hF1:(firstP h c).1 = rd_L4 (sols c h) 0:=by
       unfold firstP
       rw [q3,if_neg (by simp only; omega)]
      obtain ⟨K',hsm⟩:=same_f (rd_L4 (sols c h) 0) (by omega)
      simp only at hsm
      rw [hF1]
      refine ev_up (K:=K + K') fun k hk => ?_
      simp only [laws_FnPuzzlesFilled.j1,if_true]
      rw [if_pos (by omega),hsm k (by omega)]
      simp only [Option.bind_some,if_true]
      exact hl0 k (by omega)
    ·have q3:solP h c = ([],false):=if_neg gg
     rw [q3] at hj4 ⊢
     obtain ⟨K,hj4⟩:=hj4
     refine ev_up (K:=K) fun k hk => ?_
     simp only [laws_FnPuzzlesFilled.j1,Bool.false_eq_true,if_false]
     exact hj4 k hk
   obtain ⟨K17,e17⟩:=hj1
   have hAl:(solP h c).1.length ≤ 200 ∧ ∀ r ∈ (solP h c).1,r.length ≤ 1000:=by
    by_cases gg:pz h c = true ∧ (sols c h).length ≤ 200
    ·have q3:solP h c = (sols c h,true):=if_pos gg
     obtain ⟨p1,p2,p3,p4,p5,p6⟩:=pz_true h c gg.1
     rw [q3]
     exact ⟨gg.2,fun r hr => by rw [(sols_mem c h (row_of p3 p6) r hr).1]; omega⟩
    ·have q3:solP h c = ([],false):=if_neg gg
     rw [q3]
     simp
   obtain ⟨K18,e18⟩:=rows_f (solP h c).1 (by omega) hAl.2
   obtain ⟨K19,e19⟩:=same_f (firstP h c).1 (by
    unfold firstP
    split
    ·simp
    ·have:=hAl.2 _ (first_of (solP h c).1 (by omega))
     simp only
     omega)
   obtain ⟨K20,e20⟩:=same_f R (by
    cases hb:b
    ·rw [b2 hb]
     simp
    ·have:=(b3 hb).1
     omega)
   have hok:(solP h c).2 = false → b = false:=by
    intro hh
    rw [b1]
    by_cases gg:pz h c = true ∧ (sols c h).length ≤ 200
    ·have q3:solP h c = (sols c h,true):=if_pos gg
     rw [q3] at hh
     cases hh
    ·have q3:solP h c = ([],false):=if_neg gg
     rw [q3]
     rfl
   have hokp:(solP h c).2 = true → pz h c = true:=by
    intro hh
    by_cases gg:pz h c = true ∧ (sols c h).length ≤ 200
    ·exact gg.1
    ·have q3:solP h c = ([],false):=if_neg gg
     rw [q3] at hh
     cases hh
   have hF1:firstP h c = ((firstP h c).1,b):=by rw [← hF]
   rw [hF1] at e5 e6
   have hbd:b = decide ((((solP h c).1.length:Nat):Int) > 0):=by
    rw [b1,decide_eq_decide]
    omega
   simp only at e0 e1 e2 e3 e4 e5 e6 e7 e8 e9 e10 e11 e12 e13 e14 e15 e16 e17 e18 e19 e20
   generalize hSP:solP h c = SP at *
   obtain ⟨A,ok⟩:=SP
   obtain ⟨ha,hn,h7⟩:=hr
   obtain ⟨g1,g2⟩:=g
   obtain ⟨t1,t2⟩:=t
   simp only at *
   subst hg
   subst ht
   refine ⟨K0 + K1 + K2 + K3 + K4 + K5 + K6 + K7 + K8 + K9 + K10 + K11 + K12 + K13 + K14 + K15 + K16 + K17 + K18 + K19 + K20 + 1,fun k hk => ?_⟩
   obtain ⟨m,rfl⟩ : ∃ m,k = m + 1:=⟨k - 1,by omega⟩
   have f17:=e17 m (by omega)
   have f16:spec_IsPuzzle.f (m + 1) h c = some (pz h c):=by simp [spec_IsPuzzle.f,e16 (m + 1) (by omega)]
   simp only [laws_FnPuzzlesFilled.f,hbig,e0 (m + 1) (by omega),e1 (m + 1) (by omega),e2 (m + 1) (by omega),e3 (m + 1) (by omega),e4 (m + 1) (by omega),e5 (m + 1) (by omega),e6 (m + 1) (by omega),e7 (m + 1) (by omega),e8 (m + 1) (by omega),e9 (m + 1) (by omega),e10 (m + 1) (by omega),e11 (m + 1) (by omega),e12 (m + 1) (by omega),e13 (m + 1) (by omega),e14 (m + 1) (by omega),e15 (m + 1) (by omega),e16 (m + 1) (by omega),e18 (m + 1) (by omega),e19 (m + 1) (by omega),e20 (m + 1) (by omega),Option.bind_some,if_true,Bool.false_eq_true,if_false]
   cases ok
   ·have hbf:=hok rfl
    subst hbf
    have h7f:=h90 rfl
    subst h7f
    cases hpz:pz h c
    ·rw [hpz] at f17 f16
     simp [laws_FnPuzzlesFilled.j0,f17,f16]
    ·rw [hpz] at f17 f16
     simp [laws_FnPuzzlesFilled.j0,f17,f16]
   ·have hpz:=hokp rfl
    rw [hpz] at f17 f16 ⊢
    cases b
    ·have h7f:=h90 rfl
     subst h7f
     have hA:A = []:=List.eq_nil_of_length_eq_zero (by
      have:=of_decide_eq_false b1.symm
      omega)
     simp [laws_FnPuzzlesFilled.j0,f17,f16,hA]
     subst hA
     simpa using f17
    ·have hA:0 < A.length:=of_decide_eq_true b1.symm
     cases h7 <;> simp [laws_FnPuzzlesFilled.j0,f17,f16,hA]
  ·exact ⟨0,fun k _ => by simp [laws_FnPuzzlesFilled.f,hbig]⟩

end Go.Proofs.YtgdefohillhdoaaGreatDoor.QPure
