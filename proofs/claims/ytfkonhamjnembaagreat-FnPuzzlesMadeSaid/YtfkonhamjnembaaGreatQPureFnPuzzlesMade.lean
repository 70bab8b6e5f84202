/- For every input the law FnPuzzlesMade answers true: the plain statement over lists and numbers. No conditions. -/
import Derived.Test.YtfkonhamjnembaaGreatQFnPuzzlesMadex1
import Derived.Test.YtfkonhamjnembaaGreatQFnPuzzlesMadex2
import Derived.Test.YtfkonhamjnembaaGreatQFnPuzzlesMadex3
import Derived.Test.YtfkonhamjnembaaGreatQFnPuzzlesMadex4
import Derived.Test.YtfkonhamjnembaaGreatQFnPuzzlesMadex5
import Derived.Test.YtfkonhamjnembaaGreatQFnPuzzlesMadex6
import Derived.Test.YtfkonhamjnembaaGreatQFnPuzzlesMadex7
import Derived.Test.YtfkonhamjnembaaGreatQFnPuzzlesMadex8
import Derived.Test.YtfkonhamjnembaaGreatQFnPuzzlesMadex9
import Derived.Test.YtfkonhamjnembaaGreatQFnPuzzlesMadex10
import Derived.Test.YtfkonhamjnembaaGreatQFnPuzzlesMadex11
import Derived.Test.YtfkonhamjnembaaGreatQFnPuzzlesMadex12
import Derived.Test.YtfkonhamjnembaaGreatQFnPuzzlesMadex13
import Derived.Test.YtfkonhamjnembaaGreatQFnPuzzlesMadex14
import Derived.Test.YtfkonhamjnembaaGreatQFnPuzzlesMadex15
import Derived.Test.YtfkonhamjnembaaGreatQFnPuzzlesMadex16
import Derived.Test.YtfkonhamjnembaaGreatQFnPuzzlesMadex17
import Derived.Test.YtfkonhamjnembaaGreatQFnPuzzlesMadex18
import Derived.Test.YtfkonhamjnembaaGreatQFnPuzzlesMadex19
import Derived.Test.YtfkonhamjnembaaGreatQFnPuzzlesMadex20
import Derived.Test.YtfkonhamjnembaaGreatQFnPuzzlesMadex21
import Derived.Test.YtfkonhamjnembaaGreatQFnPuzzlesMadex22
import Derived.Test.YtfkonhamjnembaaGreatQFnPuzzlesMadex23
import Derived.Test.YtfkonhamjnembaaGreatQFnPuzzlesMadex24
import Derived.Test.YtfkonhamjnembaaGreatQFnPuzzlesMadex25
import Derived.Test.YtfkonhamjnembaaGreatQFnPuzzlesMadex26
import Derived.Test.YtfkonhamjnembaaGreatQFnPuzzlesMadex27
import Derived.Test.YtfkonhamjnembaaGreatQFnPuzzlesMadex28
import Derived.Test.YtfkonhamjnembaaGreatQFnPuzzlesMadex29
namespace Go.Proofs.YtfkonhamjnembaaGreat.QPure
open Go.RowKit Go.Proofs.YtfkonhamjnembaaGreat.QFnPuzzlesMade Go.Proofs.YtfkonhamjnembaaGreatW.PrintWords Go.Proofs.YtfkonhamjnembaaGreatW.PrintLast

set_option linter.unusedVariables false
theorem t_eta (x:S67):(⟨x.f0,x.f1⟩ : S67) = x:=rfl
theorem t_ext (x y:S67) (h0:x.f0 = y.f0) (h1:x.f1 = y.f1):x = y:=by
 cases x
 cases y
 simp_all
instance t_dec : DecidableEq S67:=fun x y => if h : x.f0 = y.f0 ∧ x.f1 = y.f1 then isTrue (t_ext x y h.1 h.2) else isFalse (fun e => h (by subst e; exact ⟨rfl,rfl⟩))
theorem t_beq (x y:S67):(x.f0 == y.f0 && (x.f1 == y.f1)) = decide (x = y):=by
 by_cases h:x = y
 ·subst h
  simp
 ·have:¬ (x.f0 = y.f0 ∧ x.f1 = y.f1):=fun e => h (t_ext x y e.1 e.2)
  rw [decide_eq_false h]
  by_cases h0:x.f0 = y.f0
  ·have h1:¬ x.f1 = y.f1:=fun e => this ⟨h0,e⟩
   simp [h1]
  ·simp [h0]
theorem t_mid (pre:List S67) (x:S67) (xs:List S67) (d:S67):(pre ++ x :: xs).getD pre.length d = x:=by
 rw [List.getD_eq_getElem?_getD,List.getElem?_append_right (Nat.le_refl _),Nat.sub_self]
 rfl
theorem t_wrap (n:Int) (h : -1000000000 ≤ n) (h':n ≤ 1000000000):wrap64 n = n:=by
 unfold wrap64
 omega

def good (x:S67):Bool:=decide (0 ≤ x.f0) && (decide (x.f0 ≤ x.f1) && decide (x.f1 ≤ 9))
theorem good_iff (x:S67):good x = true ↔ 0 ≤ x.f0 ∧ x.f0 ≤ x.f1 ∧ x.f1 ≤ 9:=by
 unfold good
 simp
theorem tiGood_f (x:S67):spec_tiGood.f x.f0 x.f1 = some (good x):=by
 unfold spec_tiGood.f spec_l1In.f good
 by_cases h1:0 ≤ x.f0
 ·have h1':x.f0 ≥ 0:=h1
  rw [if_pos h1']
  by_cases h2:x.f0 ≤ x.f1
  ·simp [h1,h2]
  ·simp [h1,h2]
 ·have h1':¬ x.f0 ≥ 0:=h1
  rw [if_neg h1']
  simp [h1]

theorem place_ev (t:S67):∀ (rest pre:List S67),(pre ++ rest).length ≤ 2000000 → ∃ r:Int,Ev (fun k => spec_tiPlace.l0 k (pre ++ rest) ((pre ++ rest).length:Int) (pre.length:Int) t.f0 t.f1) r ∧ decide (r ≥ 0) = decide (t ∈ rest):=by
 intro rest
 induction rest with
 | nil =>
  intro pre hl
  refine ⟨-1,Ev.step (f:=fun _ => some (-1)) (fun k => ?_) (Ev.now _),by simp⟩
  simp only [spec_tiPlace.l0,List.append_nil]
  rw [if_neg (by omega)]
 | cons x xs ih =>
  intro pre hl
  have hlen:(pre ++ x :: xs).length = pre.length + xs.length + 1:=by simp; omega
  have hget:rd_T67 (pre ++ x :: xs) (pre.length:Int) = x:=by
   unfold rd_T67
   exact t_mid pre x xs _
  by_cases e:x = t
  ·refine ⟨(pre.length:Int),Ev.step (f:=fun _ => some (pre.length:Int)) (fun k => ?_) (Ev.now _),by simp [e]⟩
   simp only [spec_tiPlace.l0]
   rw [if_pos (by omega),if_pos (by omega),if_pos (by omega),hget,t_beq,if_pos (by simp [e])]
  ·obtain ⟨r,h1,h2⟩:=ih (pre ++ [x]) (by simpa using hl)
   have e1:pre ++ [x] ++ xs = pre ++ x :: xs:=by simp
   rw [e1] at h1
   refine ⟨r,Ev.step (fun k => ?_) h1,by rw [h2]; simp [Ne.symm e]⟩
   simp only [spec_tiPlace.l0]
   rw [if_pos (by omega),if_pos (by omega),if_pos (by omega),hget,t_beq,if_neg (by simp [e]),t_wrap ((pre.length:Int) + 1) (by omega) (by omega)]
   simp
theorem place_f (t:S67) (l:List S67) (hl:l.length ≤ 2000000):∃ r:Int,Ev (fun k => spec_tiPlace.f k l t.f0 t.f1) r ∧ decide (r ≥ 0) = decide (t ∈ l):=place_ev t l [] hl

theorem index_ev (t:S67):∀ (rest pre:List S67),(pre ++ rest).length ≤ 2000000 → ∃ r:Int,Ev (fun k => slices_Index_impl_Tile_impl_Tile.l0 k (pre ++ rest) ((pre ++ rest).length:Int) (pre.length:Int) t.f0 t.f1) r ∧ decide (r ≥ 0) = decide (t ∈ rest):=by
 intro rest
 induction rest with
 | nil =>
  intro pre hl
  refine ⟨-1,Ev.step (f:=fun _ => some (-1)) (fun k => ?_) (Ev.now _),by simp⟩
  simp only [slices_Index_impl_Tile_impl_Tile.l0,List.append_nil]
  rw [if_neg (by omega)]
 | cons x xs ih =>
  intro pre hl
  have hlen:(pre ++ x :: xs).length = pre.length + xs.length + 1:=by simp; omega
  have hget:rd_T67 (pre ++ x :: xs) (pre.length:Int) = x:=by
   unfold rd_T67
   exact t_mid pre x xs _
  by_cases e:t = x
  ·refine ⟨(pre.length:Int),Ev.step (f:=fun _ => some (pre.length:Int)) (fun k => ?_) (Ev.now _),by simp [e]⟩
   simp only [slices_Index_impl_Tile_impl_Tile.l0]
   rw [if_pos (by omega),if_pos (by omega),if_pos (by omega),hget,t_beq,if_pos (by simp [e])]
  ·obtain ⟨r,h1,h2⟩:=ih (pre ++ [x]) (by simpa using hl)
   have e1:pre ++ [x] ++ xs = pre ++ x :: xs:=by simp
   rw [e1] at h1
   refine ⟨r,Ev.step (fun k => ?_) h1,by rw [h2]; simp [e]⟩
   simp only [slices_Index_impl_Tile_impl_Tile.l0]
   rw [if_pos (by omega),if_pos (by omega),if_pos (by omega),hget,t_beq,if_neg (by simp [e]),t_wrap ((pre.length:Int) + 1) (by omega) (by omega)]
   simp
theorem contains_f (t:S67) (l:List S67) (hl:l.length ≤ 2000000):Ev (fun k => slices_Contains_impl_Tile_impl_Tile.f k l t.f0 t.f1) (decide (t ∈ l)):=by
 obtain ⟨r,h1,h2⟩:=index_ev t l [] hl
 rw [← h2]
 exact Ev.bind (f:=fun _ t177 => (some (decide (t177 ≥ 0)))) h1 ⟨0,fun k _ => rfl⟩

def nd:List S67 → List S67 → Bool
 | _,[] => true
 | pre,x :: xs => !decide (x ∈ pre) && nd (pre ++ [x]) xs
def hb:List S67 → List S67 → Bool
 | _,[] => true
 | pre,x :: xs => good x && (!decide (x ∈ pre) && hb (pre ++ [x]) xs)
theorem hb_nd:∀ (rest pre:List S67),hb pre rest = (rest.all good && nd pre rest):=by
 intro rest
 induction rest with
 | nil => intro pre; rfl
 | cons x xs ih =>
  intro pre
  unfold hb nd
  rw [ih,List.all_cons]
  cases good x <;> cases decide (x ∈ pre) <;> cases xs.all good <;> simp
theorem nd_nodup:∀ (rest pre:List S67),nd pre rest = true → (∀ x ∈ rest,x ∉ pre) ∧ rest.Nodup:=by
 intro rest
 induction rest with
 | nil => intro pre _; exact ⟨(fun x h => by cases h),List.nodup_nil⟩
 | cons x xs ih =>
  intro pre h
  unfold nd at h
  simp only [Bool.and_eq_true,Bool.not_eq_true',decide_eq_false_iff_not] at h
  obtain ⟨h1,h2⟩:=ih _ h.2
  refine ⟨fun y hy => ?_,?_⟩
  ·rcases List.mem_cons.1 hy with rfl | hy
   ·exact h.1
   ·exact fun hp => h1 y hy (List.mem_append_left _ hp)
  ·rw [List.nodup_cons]
   exact ⟨fun hx => h1 x hx (by simp),h2⟩

theorem tiHand_ev:∀ (rest pre:List S67),(pre ++ rest).length ≤ 2000000 → Ev (fun k => spec_tiHand.l0 k (pre ++ rest) (pre ++ rest) ((pre ++ rest).length:Int) (pre.length:Int)) (hb pre rest):=by
 intro rest
 induction rest with
 | nil =>
  intro pre hl
  refine Ev.step (f:=fun _ => some true) (fun k => ?_) (Ev.now _)
  simp only [spec_tiHand.l0,List.append_nil]
  rw [if_neg (by omega)]
 | cons x xs ih =>
  intro pre hl
  have hlen:(pre ++ x :: xs).length = pre.length + xs.length + 1:=by simp; omega
  have hget:rd_T67 (pre ++ x :: xs) (pre.length:Int) = x:=by
   unfold rd_T67
   exact t_mid pre x xs _
  have htake:(pre ++ x :: xs).take ((pre.length:Int)).toNat = pre:=by simp
  cases hg:good x
  ·refine Ev.step (f:=fun _ => some (hb pre (x :: xs))) (fun k => ?_) (Ev.now _)
   simp only [spec_tiHand.l0]
   rw [if_pos (by omega),if_pos (by omega),if_pos (by omega),hget,tiGood_f,hg]
   simp [hb,hg]
  ·obtain ⟨r,h1,h2⟩:=place_f x pre (by omega)
   have e1:pre ++ [x] ++ xs = pre ++ x :: xs:=by simp
   have hi:=ih (pre ++ [x]) (by simpa using hl)
   rw [e1] at hi
   refine Ev.step (f:=fun k => (spec_tiPlace.f k pre x.f0 x.f1).bind fun t123 => (if t123 ≥ 0 then (some false) else (spec_tiHand.l0 k (pre ++ x :: xs) (pre ++ x :: xs) ((pre ++ x :: xs).length:Int) (((pre ++ [x]).length:Nat):Int)))) (fun k => ?_) ?_
   ·simp only [spec_tiHand.l0]
    rw [if_pos (by omega),if_pos (by omega),if_pos (by omega),hget,tiGood_f,hg]
    simp only [Option.bind_some,if_true]
    rw [if_pos (by omega),htake,t_wrap ((pre.length:Int) + 1) (by omega) (by omega)]
    simp
   ·refine Ev.bind (f:=fun k t123 => (if t123 ≥ 0 then (some false) else (spec_tiHand.l0 k (pre ++ x :: xs) (pre ++ x :: xs) ((pre ++ x :: xs).length:Int) (((pre ++ [x]).length:Nat):Int)))) h1 ?_
    by_cases hm:x ∈ pre
    ·have hr:r ≥ 0:=by
      rw [decide_eq_true hm] at h2
      exact of_decide_eq_true h2
     refine ⟨0,fun k _ => ?_⟩
     (try dsimp only)
     rw [if_pos hr]
     simp [hb,hm]
    ·have hr:¬ r ≥ 0:=by
      rw [decide_eq_false hm] at h2
      exact of_decide_eq_false h2
     refine Ev.congr (fun k => ?_) (show Ev _ (hb pre (x :: xs)) from by
      have:hb pre (x :: xs) = hb (pre ++ [x]) xs:=by simp [hb,hg,hm]
      rw [this]
      exact hi)
     (try dsimp only)
     rw [if_neg hr]

theorem areDiff_ev:∀ (rest pre:List S67),(pre ++ rest).length ≤ 2000000 → Ev (fun k => impl_areDifferent_impl_Tile.l0 k (pre ++ rest) (pre ++ rest) ((pre ++ rest).length:Int) (pre.length:Int)) (nd pre rest):=by
 intro rest
 induction rest with
 | nil =>
  intro pre hl
  refine Ev.step (f:=fun _ => some true) (fun k => ?_) (Ev.now _)
  simp only [impl_areDifferent_impl_Tile.l0,List.append_nil]
  rw [if_neg (by omega)]
 | cons x xs ih =>
  intro pre hl
  have hlen:(pre ++ x :: xs).length = pre.length + xs.length + 1:=by simp; omega
  have hget:rd_T67 (pre ++ x :: xs) (pre.length:Int) = x:=by
   unfold rd_T67
   exact t_mid pre x xs _
  have htake:(pre ++ x :: xs).take ((pre.length:Int)).toNat = pre:=by simp
  have h1:=contains_f x pre (by omega)
  have e1:pre ++ [x] ++ xs = pre ++ x :: xs:=by simp
  have hi:=ih (pre ++ [x]) (by simpa using hl)
  rw [e1] at hi
  refine Ev.step (f:=fun k => (slices_Contains_impl_Tile_impl_Tile.f k pre x.f0 x.f1).bind fun t184 => (if t184 = true then (some false) else (impl_areDifferent_impl_Tile.l0 k (pre ++ x :: xs) (pre ++ x :: xs) ((pre ++ x :: xs).length:Int) (((pre ++ [x]).length:Nat):Int)))) (fun k => ?_) ?_
  ·simp only [impl_areDifferent_impl_Tile.l0]
   rw [if_pos (by omega),if_pos (by omega),if_pos (by omega),if_pos (by omega),hget,htake,t_wrap ((pre.length:Int) + 1) (by omega) (by omega)]
   simp
  ·refine Ev.bind (f:=fun k t184 => (if t184 = true then (some false) else (impl_areDifferent_impl_Tile.l0 k (pre ++ x :: xs) (pre ++ x :: xs) ((pre ++ x :: xs).length:Int) (((pre ++ [x]).length:Nat):Int)))) h1 ?_
   by_cases hm:x ∈ pre
   ·refine ⟨0,fun k _ => ?_⟩
    simp [nd,hm]
   ·refine Ev.congr (fun k => ?_) (show Ev _ (nd pre (x :: xs)) from by
     have:nd pre (x :: xs) = nd (pre ++ [x]) xs:=by simp [nd,hm]
     rw [this]
     exact hi)
    simp only [hm,decide_false,Bool.false_eq_true,if_false]

theorem noTile_good (x:S67):noTile x = !good x:=rfl
theorem any_no (l:List S67):l.any noTile = !l.all good:=by
 induction l with
 | nil => rfl
 | cons x xs ih => rw [List.any_cons,List.all_cons,ih,noTile_good]; cases good x <;> simp

def isH (l:List S67):Bool:=decide (l.length ≤ 55) && (l.all good && nd [] l)
theorem isH_spec (l:List S67) (hl:l.length ≤ 2000000):Ev (fun k => spec_tiHand.f k l) (isH l):=by
 by_cases h:l.length ≤ 55
 ·have hi:=tiHand_ev l [] hl
  rw [hb_nd] at hi
  refine Ev.congr (fun k => ?_) (show Ev _ (isH l) from by
   have:isH l = (l.all good && nd [] l):=by simp [isH,h]
   rw [this]
   exact hi)
  unfold spec_tiHand.f
  rw [if_neg (by omega)]
  rfl
 ·refine ⟨0,fun k _ => ?_⟩
  show spec_tiHand.f k l = _
  unfold spec_tiHand.f
  rw [if_pos (by omega)]
  simp [isH,h]
theorem isH_impl (l:List S67) (hl:l.length ≤ 2000000):Ev (fun k => impl_IsHand.f k l) (isH l):=by
 by_cases h:l.length ≤ 55
 ·cases hg:l.all good
  ·refine ⟨0,fun k _ => ?_⟩
   show impl_IsHand.f k l = _
   unfold impl_IsHand.f
   rw [if_pos (by omega),any_no,hg]
   simp [isH,hg]
  ·have hi:=areDiff_ev l [] hl
   refine Ev.congr (fun k => ?_) (show Ev _ (isH l) from by
    have:isH l = nd [] l:=by simp [isH,h,hg]
    rw [this]
    exact hi)
   unfold impl_IsHand.f
   rw [if_pos (by omega),any_no,hg]
   simp only [Bool.not_true,Bool.false_eq_true,if_false]
   rfl
 ·refine ⟨0,fun k _ => ?_⟩
  show impl_IsHand.f k l = _
  unfold impl_IsHand.f
  rw [if_neg (by omega)]
  simp [isH,h]
theorem isH_true (l:List S67) (h:isH l = true):l.length ≤ 55 ∧ (∀ x ∈ l,good x = true) ∧ l.Nodup:=by
 unfold isH at h
 simp only [Bool.and_eq_true,decide_eq_true_eq] at h
 exact ⟨h.1,List.all_eq_true.1 h.2.1,(nd_nodup l [] h.2.2).2⟩

def lt (x y:S67):Prop:=x.f0 < y.f0 ∨ (x.f0 = y.f0 ∧ x.f1 < y.f1)
theorem lt_irrefl (x:S67):¬ lt x x:=by
 unfold lt
 omega
theorem lt_trans {x y z:S67} (h:lt x y) (k:lt y z):lt x z:=by
 unfold lt at *
 omega
theorem lt_asymm {x y:S67} (h:lt x y):¬ lt y x:=by
 unfold lt at *
 omega
theorem cmpT_neg (x y:S67) (hx:good x = true) (hy:good y = true):cmpT x y < 0 ↔ lt x y:=by
 rw [good_iff] at hx hy
 unfold cmpT lt
 by_cases h:x.f0 = y.f0
 ·rw [if_pos h,t_wrap _ (by omega) (by omega)]
  omega
 ·rw [if_neg h,t_wrap _ (by omega) (by omega)]
  omega
theorem lt_total (x y:S67) (h:¬ lt x y) (k:x ≠ y):lt y x:=by
 have:¬ (x.f0 = y.f0 ∧ x.f1 = y.f1):=fun e => k (t_ext x y e.1 e.2)
 unfold lt at *
 omega

theorem uniq:∀ (a b:List S67),a.Pairwise lt → b.Pairwise lt → (∀ x,x ∈ a ↔ x ∈ b) → a = b:=by
 intro a
 induction a with
 | nil =>
  intro b _ _ h
  cases b with
  | nil => rfl
  | cons y ys => exact absurd ((h y).2 List.mem_cons_self) (by simp)
 | cons x xs ih =>
  intro b ha hb h
  cases b with
  | nil => exact absurd ((h x).1 List.mem_cons_self) (by simp)
  | cons y ys =>
   rw [List.pairwise_cons] at ha hb
   have e:x = y:=by
    rcases List.mem_cons.1 ((h x).1 List.mem_cons_self) with e | e
    ·exact e
    ·rcases List.mem_cons.1 ((h y).2 List.mem_cons_self) with e2 | e2
     ·exact e2.symm
     ·exact absurd (ha.1 y e2) (lt_asymm (hb.1 x e))
   subst e
   congr 1
   refine ih ys ha.2 hb.2 (fun z => ?_)
   constructor
   ·intro hz
    rcases List.mem_cons.1 ((h z).1 (List.mem_cons_of_mem _ hz)) with e | e
    ·subst e
     exact absurd (ha.1 z hz) (lt_irrefl z)
    ·exact e
   ·intro hz
    rcases List.mem_cons.1 ((h z).2 (List.mem_cons_of_mem _ hz)) with e | e
    ·subst e
     exact absurd (hb.1 z hz) (lt_irrefl z)
    ·exact e

theorem sortedT_iff:∀ (l:List S67),(∀ x ∈ l,good x = true) → l.Nodup → (sortedT l = true ↔ l.Pairwise lt):=by
 intro l
 induction l with
 | nil => intro _ _; exact ⟨fun _ => List.Pairwise.nil,fun _ => rfl⟩
 | cons x xs ih =>
  intro hg hn
  rw [List.nodup_cons] at hn
  have hgx:=hg x List.mem_cons_self
  have hi:=ih (fun y hy => hg y (List.mem_cons_of_mem _ hy)) hn.2
  unfold sortedT
  cases xs with
  | nil => simp [sortedT]
  | cons y ys =>
   have hgy:=hg y (by simp)
   simp only [Bool.and_eq_true,Bool.not_eq_true',decide_eq_false_iff_not]
   rw [hi,cmpT_neg y x hgy hgx]
   constructor
   ·rintro ⟨h1,h2⟩
    have hxy:lt x y:=lt_total y x h1 (fun e => hn.1 (by rw [← e]; exact List.mem_cons_self))
    refine List.pairwise_cons.2 ⟨fun z hz => ?_,h2⟩
    rcases List.mem_cons.1 hz with rfl | hz
    ·exact hxy
    ·exact lt_trans hxy ((List.pairwise_cons.1 h2).1 z hz)
   ·intro h
    obtain ⟨h1,h2⟩:=List.pairwise_cons.1 h
    exact ⟨lt_asymm (h1 y List.mem_cons_self),h2⟩

def code (l:List S67):List (Int × Int):=l.map fun t => (t.f0,t.f1)
def lst (n:Nat):List (Int × Int):=(List.range (n + 1)).flatMap fun a => (List.range (n + 1 - a)).map fun b => ((a:Int),((a + b:Nat):Int))
theorem whole:∃ A:List S67,Ev (fun k => spec_tiSet.f k 9) A ∧ A.length = 55 ∧ A.Pairwise lt ∧ (∀ x,x ∈ A ↔ good x = true):=by
 have h2:((spec_tiSet.f 100 9).map code) = some (lst 9):=by decide +kernel
 obtain ⟨A,hA,hc⟩:=Option.map_eq_some_iff.1 h2
 have hl:(lst 9).length = 55:=by decide +kernel
 have hp:(lst 9).Pairwise (fun x y => x.1 < y.1 ∨ (x.1 = y.1 ∧ x.2 < y.2)):=by decide +kernel
 have hg:∀ p ∈ lst 9,0 ≤ p.1 ∧ p.1 ≤ p.2 ∧ p.2 ≤ 9:=by decide +kernel
 have hall:∀ a:Fin 10,∀ b:Fin 10,a.val ≤ b.val → (((a.val:Nat):Int),((b.val:Nat):Int)) ∈ lst 9:=by decide +kernel
 generalize lst 9 = P at hc hl hp hg hall
 subst hc
 refine ⟨A,Ev.of (fun k => spec_tiSet.mono _ k) hA,?_,?_,fun x => ?_⟩
 ·unfold code at hl
  rw [List.length_map] at hl
  exact hl
 ·unfold code at hp
  rw [List.pairwise_map] at hp
  exact hp
 ·constructor
  ·intro hx
   rw [good_iff]
   exact hg (x.f0,x.f1) (by unfold code; exact List.mem_map.2 ⟨x,hx,rfl⟩)
  ·intro hx
   rw [good_iff] at hx
   have:=hall ⟨x.f0.toNat,by omega⟩ ⟨x.f1.toNat,by omega⟩ (by simp; omega)
   simp only at this
   rw [Int.toNat_of_nonneg (by omega),Int.toNat_of_nonneg (by omega)] at this
   unfold code at this
   obtain ⟨y,hy,e⟩:=List.mem_map.1 this
   simp only [Prod.mk.injEq] at e
   have:y = x:=t_ext y x e.1 e.2
   rw [← this]
   exact hy

theorem pick_ev (l:List S67) (hl:l.length ≤ 2000000) (b:Bool):∀ (rest pre out:List S67),(pre ++ rest).length ≤ 1000 → out.length ≤ pre.length →
  Ev (fun k => spec_tiPick.l0 k l b out (pre ++ rest) ((pre ++ rest).length:Int) (pre.length:Int)) (out ++ rest.filter fun x => decide (x ∈ l) == b):=by
 intro rest
 induction rest with
 | nil =>
  intro pre out h1 h2
  refine Ev.step (f:=fun _ => some (out ++ [])) (fun k => ?_) (Ev.now _)
  simp only [spec_tiPick.l0,List.append_nil]
  rw [if_neg (by omega)]
 | cons x xs ih =>
  intro pre out h1 h2
  have hlen:(pre ++ x :: xs).length = pre.length + xs.length + 1:=by simp; omega
  have hget:rd_T67 (pre ++ x :: xs) (pre.length:Int) = x:=by
   unfold rd_T67
   exact t_mid pre x xs _
  obtain ⟨r,p1,p2⟩:=place_f x l hl
  have e1:pre ++ [x] ++ xs = pre ++ x :: xs:=by simp
  refine Ev.step (f:=fun k => (spec_tiPlace.f k l x.f0 x.f1).bind fun t135 => (if ((decide (t135 ≥ 0)) == b) = true then (spec_tiPick.l0 k l b (out ++ [x]) (pre ++ x :: xs) ((pre ++ x :: xs).length:Int) (((pre ++ [x]).length:Nat):Int)) else (spec_tiPick.l0 k l b out (pre ++ x :: xs) ((pre ++ x :: xs).length:Int) (((pre ++ [x]).length:Nat):Int)))) (fun k => ?_) ?_
  ·simp only [spec_tiPick.l0]
   rw [if_pos (by omega),if_pos (by omega),if_pos (by omega),hget,t_wrap ((pre.length:Int) + 1) (by omega) (by omega),if_pos (by omega)]
   simp
  ·refine Ev.bind (f:=fun k t135 => (if ((decide (t135 ≥ 0)) == b) = true then (spec_tiPick.l0 k l b (out ++ [x]) (pre ++ x :: xs) ((pre ++ x :: xs).length:Int) (((pre ++ [x]).length:Nat):Int)) else (spec_tiPick.l0 k l b out (pre ++ x :: xs) ((pre ++ x :: xs).length:Int) (((pre ++ [x]).length:Nat):Int)))) p1 ?_
   rw [List.filter_cons]
   cases hd:(decide (x ∈ l) == b)
   ·have hi:=ih (pre ++ [x]) out (by simpa using h1) (by simp; omega)
    rw [e1] at hi
    refine Ev.congr (fun k => ?_) (by simpa using hi)
    (try dsimp only)
    rw [p2,hd]
    simp
   ·have hi:=ih (pre ++ [x]) (out ++ [x]) (by simpa using h1) (by simp; omega)
    rw [e1] at hi
    refine Ev.congr (fun k => ?_) (by simpa using hi)
    (try dsimp only)
    rw [p2,hd]
    simp

theorem len_le:∀ (a b:List S67),a.Nodup → (∀ x,x ∈ a → x ∈ b) → a.length ≤ b.length:=by
 intro a
 induction a with
 | nil => intro b _ _; simp
 | cons x xs ih =>
  intro b hn h
  rw [List.nodup_cons] at hn
  have hx:=h x List.mem_cons_self
  have:=ih (b.erase x) hn.2 (fun y hy => (List.mem_erase_of_ne (fun e => hn.1 (by rw [← e]; exact hy))).2 (h y (List.mem_cons_of_mem _ hy)))
  rw [List.length_erase_of_mem hx] at this
  have hp:0 < b.length:=List.length_pos_of_mem hx
  simp
  omega
theorem len_eq (a b:List S67) (ha:a.Nodup) (hb:b.Nodup) (h:∀ x,x ∈ a ↔ x ∈ b):a.length = b.length :=
 Nat.le_antisymm (len_le a b ha (fun x hx => (h x).1 hx)) (len_le b a hb (fun x hx => (h x).2 hx))

theorem sort_f (l:List S67) (h:isH l = true):∃ s:List S67,Ev (fun k => spec_tiSort.f k l) s ∧ s.length = l.length ∧ s.Pairwise lt ∧ (∀ x,x ∈ s ↔ x ∈ l) ∧ decide (s = l) = sortedT l:=by
 obtain ⟨h1,h2,h3⟩:=isH_true l h
 obtain ⟨A,hA,hl,hp,hm⟩:=whole
 have hk:=pick_ev l (by omega) true A [] [] (by simp; omega) (by simp)
 simp only [List.nil_append] at hk
 have hmem:∀ x,x ∈ A.filter (fun x => decide (x ∈ l) == true) ↔ x ∈ l:=by
  intro x
  rw [List.mem_filter,hm]
  constructor
  ·rintro ⟨_,h⟩
   simpa using h
  ·intro h
   exact ⟨h2 x h,by simp [h]⟩
 have hps:=hp.filter (fun x => decide (x ∈ l) == true)
 have hnd:∀ (s:List S67),s.Pairwise lt → s.Nodup:=fun s hs => hs.imp (fun {a b} hab e => by subst e; exact lt_irrefl a hab)
 refine ⟨A.filter (fun x => decide (x ∈ l) == true),?_,?_,hps,hmem,?_⟩
 ·refine Ev.congr (fun k => ?_) (Ev.bind (f:=fun k t130 => (spec_tiPick.l0 k l true [] t130 (t130.length:Int) 0)) hA hk)
  unfold spec_tiSort.f spec_tiPick.f
  cases spec_tiSet.f k 9 with
  | none => rfl
  | some t =>
   simp only [Option.bind_some]
   cases spec_tiPick.l0 k l true [] t (t.length:Int) 0 with
   | none => rfl
   | some u => rfl
 ·exact len_eq _ _ (hnd _ hps) h3 hmem
 ·by_cases e:A.filter (fun x => decide (x ∈ l) == true) = l
  ·rw [decide_eq_true e]
   rw [e] at hps
   exact ((sortedT_iff l h2 h3).2 hps).symm
  ·rw [decide_eq_false e]
   cases hs:sortedT l
   ·rfl
   ·exact absurd (uniq _ _ hps ((sortedT_iff l h2 h3).1 hs) hmem) e
theorem i_mid (pre:List Int) (x:Int) (xs:List Int):rd (pre ++ x :: xs) (pre.length:Int) = x:=by
 unfold rd
 rw [show ((pre.length:Int)).toNat = pre.length from rfl,List.getD_eq_getElem?_getD,List.getElem?_append_right (Nat.le_refl _),Nat.sub_self]
 rfl
theorem l1In_f (n lo hi:Int):spec_l1In.f n lo hi = some (inB lo hi n):=by
 unfold spec_l1In.f inB
 by_cases h1:lo ≤ n
 ·rw [if_pos (show n ≥ lo from h1)]
  simp [h1]
 ·rw [if_neg (show ¬ n ≥ lo from h1)]
  simp [h1]
theorem l1All_ev (lo hi:Int):∀ (rest pre:List Int),(pre ++ rest).length ≤ 2000000 → Ev (fun k => spec_l1All.l0 k lo hi (pre ++ rest) ((pre ++ rest).length:Int) (pre.length:Int)) (rest.all (inB lo hi)):=by
 intro rest
 induction rest with
 | nil =>
  intro pre hl
  refine Ev.step (f:=fun _ => some true) (fun k => ?_) (Ev.now _)
  simp only [spec_l1All.l0,List.append_nil]
  rw [if_neg (by omega)]
 | cons x xs ih =>
  intro pre hl
  have hlen:(pre ++ x :: xs).length = pre.length + xs.length + 1:=by simp; omega
  have e1:pre ++ [x] ++ xs = pre ++ x :: xs:=by simp
  have hq:=ih (pre ++ [x]) (by simpa using hl)
  rw [e1] at hq
  rw [List.all_cons]
  cases hx:inB lo hi x
  ·refine Ev.step (f:=fun _ => some false) (fun k => ?_) (Ev.now _)
   simp only [spec_l1All.l0]
   rw [if_pos (by omega),if_pos (by omega),if_pos (by omega),i_mid,l1In_f,hx]
   rfl
  ·rw [Bool.true_and]
   refine Ev.step (fun k => ?_) hq
   simp only [spec_l1All.l0]
   rw [if_pos (by omega),if_pos (by omega),if_pos (by omega),i_mid,l1In_f,hx,t_wrap ((pre.length:Int) + 1) (by omega) (by omega)]
   simp
theorem l1All_f (lo hi:Int) (l:List Int) (hl:l.length ≤ 2000000):Ev (fun k => spec_l1All.f k l lo hi) (l.all (inB lo hi)):=l1All_ev lo hi l [] hl
theorem any_out (lo hi:Int) (l:List Int):(!(l.any fun n => !inB lo hi n)) = l.all (inB lo hi):=by
 induction l with
 | nil => rfl
 | cons x xs ih => rw [List.any_cons,List.all_cons,← ih]; cases inB lo hi x <;> simp
theorem pzl_ev (s l:List S67) (c:List Int) (hs:s.length ≤ l.length) (hl:l.length ≤ 1000):∀ (d i:Nat),i + d = s.length → ∃ b:Bool,Ev (fun k => spec_pzGood.l0 k s (s.length:Int) (i:Int) l c) b ∧ (b = true ↔ ∀ j,i ≤ j → j < s.length → s.getD j z67 = l.getD j z67):=by
 intro d
 induction d with
 | zero =>
  intro i hi
  refine ⟨true,Ev.step (f:=fun _ => some true) (fun k => ?_) (Ev.now _),by simp; intro j h1 h2; omega⟩
  simp only [spec_pzGood.l0]
  rw [if_neg (by omega)]
 | succ d ih =>
  intro i hi
  obtain ⟨b,h1,h2⟩:=ih (i + 1) (by omega)
  have hb:(!(((rd_T67 s (i:Int)).f0) == ((rd_T67 l (i:Int)).f0)) || (!(((rd_T67 s (i:Int)).f1) == ((rd_T67 l (i:Int)).f1)))) = !decide (s.getD i z67 = l.getD i z67):=by
   rw [← t_beq]
   unfold rd_T67
   rw [show ((i:Int)).toNat = i from rfl,Bool.not_and]
  by_cases e:s.getD i z67 = l.getD i z67
  ·refine ⟨b,Ev.step (fun k => ?_) h1,?_⟩
   ·simp only [spec_pzGood.l0]
    rw [if_pos (by omega),if_pos (by omega),if_pos (by omega),if_pos (by omega),hb,if_neg (by simp only [e]; simp),t_wrap ((i:Int) + 1) (by omega) (by omega)]
    rfl
   ·rw [h2]
    constructor
    ·intro h j hj1 hj2
     by_cases ej:j = i
     ·subst ej
      exact e
     ·exact h j (by omega) hj2
    ·intro h j hj1 hj2
     exact h j (by omega) hj2
  ·refine ⟨false,Ev.step (f:=fun _ => some false) (fun k => ?_) (Ev.now _),?_⟩
   ·simp only [spec_pzGood.l0]
    rw [if_pos (by omega),if_pos (by omega),if_pos (by omega),if_pos (by omega),hb,if_pos (by simp only [decide_eq_false e]; rfl)]
   ·constructor
    ·intro h
     cases h
    ·intro h
     exact absurd (h i (Nat.le_refl _) (by omega)) e
theorem pzl_all (s l:List S67) (c:List Int) (hs:s.length = l.length) (hl:l.length ≤ 1000):Ev (fun k => spec_pzGood.l0 k s (s.length:Int) 0 l c) (decide (s = l)):=by
 obtain ⟨b,h1,h2⟩:=pzl_ev s l c (by omega) hl s.length 0 (by omega)
 have:b = decide (s = l):=by
  rw [Bool.eq_iff_iff,h2,decide_eq_true_eq]
  constructor
  ·intro h
   apply List.ext_getElem hs
   intro j j1 j2
   have:=h j (by omega) j1
   rw [List.getD_eq_getElem?_getD,List.getD_eq_getElem?_getD,List.getElem?_eq_getElem j2,List.getElem?_eq_getElem j1] at this
   exact this
  ·intro e j _ _
   rw [e]
 rw [← this]
 exact h1
def pz (l:List S67) (c:List Int):Bool:=inB 1 9 (l.length:Int) && (isH l && (decide ((c.length:Int) = (l.length:Int) + 1) && (c.all (inB (-1) 9) && sortedT l)))
theorem inB_iff (lo hi n:Int):inB lo hi n = true ↔ lo ≤ n ∧ n ≤ hi:=by
 unfold inB
 simp
theorem pz_true (l:List S67) (c:List Int) (h:pz l c = true):1 ≤ l.length ∧ l.length ≤ 9 ∧ isH l = true ∧ c.length = l.length + 1 ∧ (∀ x ∈ c,-1 ≤ x ∧ x ≤ 9) ∧ sortedT l = true:=by
 unfold pz at h
 simp only [Bool.and_eq_true,decide_eq_true_eq,inB_iff] at h
 obtain ⟨h1,h2,h3,h4,h5⟩:=h
 refine ⟨by omega,by omega,h2,by omega,fun x hx => ?_,h5⟩
 exact (inB_iff _ _ _).1 (List.all_eq_true.1 h4 x hx)
theorem pz_spec (l:List S67) (c:List Int) (hl:l.length ≤ 2000000) (hc:c.length ≤ 2000000):Ev (fun k => spec_pzGood.f k l c) (pz l c):=by
 unfold spec_pzGood.f
 rw [l1In_f]
 simp only [Option.bind_some]
 cases h1:inB 1 9 (l.length:Int)
 ·refine Ev.step (f:=fun _ => some (pz l c)) (fun k => ?_) (Ev.now _)
  simp [spec_pzGood.j0,pz,h1]
 ·simp only [if_true]
  have s1:=isH_spec l hl
  have hln:=(inB_iff _ _ _).1 h1
  refine Ev.bind (f:=fun k t171 => (if t171 = true then (if (c.length:Int) = (wrap64 ((l.length:Int) + 1)) then ((spec_l1All.f k c (-1) 9).bind fun t172 => (spec_pzGood.j0 k (!t172) l c)) else (spec_pzGood.j0 k true l c)) else (spec_pzGood.j0 k true l c))) s1 ?_
  rw [t_wrap ((l.length:Int) + 1) (by omega) (by omega)]
  cases h2:isH l
  ·refine Ev.step (f:=fun _ => some (pz l c)) (fun k => ?_) (Ev.now _)
   simp [spec_pzGood.j0,pz,h1,h2]
  ·by_cases h3:(c.length:Int) = (l.length:Int) + 1
   ·have hd:decide ((c.length:Int) = (l.length:Int) + 1) = true:=decide_eq_true h3
    simp only [if_true,h3]
    refine Ev.bind (f:=fun k t172 => (spec_pzGood.j0 k (!t172) l c)) (l1All_f (-1) 9 c hc) ?_
    cases h4:c.all (inB (-1) 9)
    ·refine Ev.step (f:=fun _ => some (pz l c)) (fun k => ?_) (Ev.now _)
     simp [spec_pzGood.j0,pz,h1,h2,hd,h4]
    ·obtain ⟨s,q1,q2,_,_,q5⟩:=sort_f l h2
     have e:pz l c = decide (s = l):=by
      unfold pz
      rw [h1,h2,hd,h4,q5]
      rfl
     rw [e]
     refine Ev.step (f:=fun k => (spec_tiSort.f k l).bind fun t173 => (spec_pzGood.l0 k t173 (t173.length:Int) 0 l c)) (fun k => ?_) (Ev.bind (f:=fun k t173 => (spec_pzGood.l0 k t173 (t173.length:Int) 0 l c)) q1 (pzl_all s l c q2 (by omega)))
     simp [spec_pzGood.j0]
   ·have hd:decide ((c.length:Int) = (l.length:Int) + 1) = false:=decide_eq_false h3
    refine Ev.step (f:=fun _ => some (pz l c)) (fun k => ?_) (Ev.now _)
    simp only [if_true]
    rw [if_neg h3]
    simp [spec_pzGood.j0,pz,h1,h2,hd]
theorem pz_impl (l:List S67) (c:List Int) (hl:l.length ≤ 2000000):Ev (fun k => impl_IsPuzzle.f k l c) (pz l c):=by
 unfold impl_IsPuzzle.f impl_areWithin.f
 refine Ev.bind (f:=fun k b1 => if b1 = true then (if inB 1 9 (l.length:Int) = true then (if sortedT l = true then (if (c.length:Int) = (l.length:Int) + 1 then some (!(c.any fun n => !inB (-1) 9 n)) else some false) else some false) else some false) else some false) (isH_impl l hl) ⟨0,fun k _ => ?_⟩
 (try dsimp only)
 rw [any_out]
 unfold pz
 by_cases h3:(c.length:Int) = (l.length:Int) + 1
 ·rw [decide_eq_true h3]
  cases isH l <;> cases inB 1 9 (l.length:Int) <;> cases sortedT l <;> simp [h3]
 ·rw [decide_eq_false h3]
  cases isH l <;> cases inB 1 9 (l.length:Int) <;> cases sortedT l <;> simp [h3]
theorem place_spec (l:List S67) (c:List Int) (n:Int) (hl:l.length ≤ 2000000) (hc:c.length ≤ 2000000):Ev (fun k => spec_pzPlace.f k l c n) (pz l c && inB 0 ((c.length:Int) - 1) n):=by
 unfold spec_pzPlace.f
 refine Ev.bind (f:=fun k t => (if t = true then ((spec_l1In.f n 0 (wrap64 ((c.length:Int) - 1))).bind fun u => (some u)) else (some false))) (pz_spec l c hl hc) ⟨0,fun k _ => ?_⟩
 rw [t_wrap _ (by omega) (by omega),l1In_f]
 cases pz l c <;> simp
theorem place_impl (l:List S67) (c:List Int) (n:Int) (hl:l.length ≤ 2000000) (hc:c.length ≤ 2000000):Ev (fun k => impl_isPlace.f k l c n) (pz l c && inB 0 ((c.length:Int) - 1) n):=by
 unfold impl_isPlace.f
 refine Ev.bind (f:=fun k t => (if t = true then ((impl_within.f n 0 (wrap64 ((c.length:Int) - 1))).bind fun u => (some u)) else (some false))) (pz_impl l c hl) ⟨0,fun k _ => ?_⟩
 rw [t_wrap _ (by omega) (by omega)]
 unfold impl_within.f inB
 by_cases h:0 ≤ n <;> cases pz l c <;> simp [h]
theorem with_both (l:List S67) (c:List Int) (n v:Int) (hl:l.length ≤ 1000) (hc:c.length ≤ 1000) (h0:0 ≤ n) (h1:n < c.length):spec_pzWith.f l c n v = some (l,c.set n.toNat v) ∧ impl_Puzzle_with.f l c n v = some (l,c.set n.toNat v):=by
 unfold spec_pzWith.f impl_Puzzle_with.f spec_l1Own.f slices_Clone_impl_Tile_impl_Tile.f slices_Clone_int_int.f
 constructor
 ·simp only [Option.bind_some,List.nil_append,List.length_nil]
  rw [if_pos (by omega),if_pos (by omega)]
  simp only [Option.bind_some]
  rw [if_pos h0,if_pos h1]
 ·rw [if_pos (by omega),if_pos (by omega)]
  simp only [Option.bind_some]
  rw [if_pos h0,if_pos h1]
theorem at_mem (c:List Int) (n:Int) (h0:0 ≤ n) (h1:n < c.length):rd c n ∈ c:=by
 unfold rd
 rw [List.getD_eq_getElem?_getD,List.getElem?_eq_getElem (by omega)]
 exact List.getElem_mem _
theorem at_place (l:List S67) (c:List Int) (n:Int) (h:(pz l c && inB 0 ((c.length:Int) - 1) n) = true):l.length ≤ 9 ∧ c.length ≤ 10 ∧ 0 ≤ n ∧ n < c.length ∧ (rd c n < 0 ↔ rd c n = -1):=by
 simp only [Bool.and_eq_true,inB_iff] at h
 obtain ⟨p1,p2,_,p4,p5,_⟩:=pz_true l c h.1
 have:=p5 _ (at_mem c n (by omega) (by omega))
 exact ⟨p2,by omega,by omega,by omega,by omega⟩
def tileOf (x y:Int):S67:=⟨mn x y,mx x y⟩
def tilesL:List Int → List S67
 | [] => []
 | x :: xs => (match xs with | [] => [] | y :: _ => [tileOf x y]) ++ tilesL xs
theorem tilesL_two (x y:Int) (r:List Int):tilesL (x :: y :: r) = tileOf x y :: tilesL (y :: r):=rfl
theorem tilesL_len:∀ c:List Int,(tilesL c).length = c.length - 1
 | [] => rfl
 | [_] => rfl
 | x :: y :: r => by
  rw [tilesL_two,List.length_cons,tilesL_len (y :: r)]
  simp
theorem tiOf_f (x y:Int):spec_tiOf.f x y = some ((tileOf x y).f0,(tileOf x y).f1):=by
 unfold spec_tiOf.f spec_l1Least.f spec_l1Most.f tileOf mn mx
 by_cases h:x < y
 ·rw [if_pos h,if_neg (by omega)]
  simp [h]
  omega
 ·by_cases h2:x > y
  ·rw [if_neg h,if_pos h2]
   simp [h]
   omega
  ·have:x = y:=by omega
   subst this
   simp
theorem haTiles_ev:∀ (rest pre:List Int) (o:List S67),(pre ++ rest).length ≤ 2000000 → o.length ≤ pre.length → 0 < pre.length →
  Ev (fun k => spec_haTiles.l0 k (pre ++ rest) o (pre.length:Int)) (o ++ tilesL (pre.getLast! :: rest)) ∧ Ev (fun k => impl_tilesOf.l0 k (pre ++ rest) o (pre.length:Int)) (o ++ tilesL (pre.getLast! :: rest)):=by
 intro rest
 induction rest with
 | nil =>
  intro pre o h1 h2 h3
  constructor
  ·refine Ev.step (f:=fun _ => some (o ++ tilesL [pre.getLast!])) (fun k => ?_) (Ev.now _)
   simp only [spec_haTiles.l0,List.append_nil]
   rw [if_neg (by omega)]
   simp [tilesL]
  ·refine Ev.step (f:=fun _ => some (o ++ tilesL [pre.getLast!])) (fun k => ?_) (Ev.now _)
   simp only [impl_tilesOf.l0,List.append_nil]
   rw [if_neg (by omega)]
   simp [tilesL]
 | cons x xs ih =>
  intro pre o h1 h2 h3
  have hlen:(pre ++ x :: xs).length = pre.length + xs.length + 1:=by simp; omega
  have e1:pre ++ [x] ++ xs = pre ++ x :: xs:=by simp
  have hl:(pre ++ [x]).getLast! = x:=by simp [List.getLast!_eq_getLast?_getD]
  have hp:rd (pre ++ x :: xs) ((pre.length:Int) - 1) = pre.getLast!:=by
   unfold rd
   rw [show ((pre.length:Int) - 1).toNat = pre.length - 1 from by omega,List.getD_eq_getElem?_getD,List.getElem?_append_left (by omega),List.getLast!_eq_getLast?_getD,List.getLast?_eq_getElem?]
   rfl
  obtain ⟨i1,i2⟩:=ih (pre ++ [x]) (o ++ [tileOf pre.getLast! x]) (by simpa using h1) (by simp; omega) (by simp)
  rw [e1,hl] at i1 i2
  have ht:o ++ tilesL (pre.getLast! :: x :: xs) = o ++ [tileOf pre.getLast! x] ++ tilesL (x :: xs):=by
   rw [tilesL_two]
   simp
  rw [ht]
  constructor
  ·refine Ev.step (fun k => ?_) i1
   simp only [spec_haTiles.l0]
   rw [if_pos (by omega),t_wrap ((pre.length:Int) - 1) (by omega) (by omega),if_pos (by omega),if_pos (by omega),if_pos (by omega),hp,i_mid,tiOf_f]
   simp only [Option.bind_some]
   rw [if_pos (by omega),t_wrap ((pre.length:Int) + 1) (by omega) (by omega)]
   simp
  ·refine Ev.step (fun k => ?_) i2
   simp only [impl_tilesOf.l0,impl_tile.f,Option.bind_some]
   rw [if_pos (by omega),t_wrap ((pre.length:Int) - 1) (by omega) (by omega),if_pos (by omega),if_pos (by omega),if_pos (by omega),hp,i_mid,if_pos (by omega),t_wrap ((pre.length:Int) + 1) (by omega) (by omega)]
   simp [tileOf]
theorem haTiles_f (c:List Int) (h:c.length ≤ 2000000):Ev (fun k => spec_haTiles.f k c) (tilesL c) ∧ Ev (fun k => impl_tilesOf.f k c) (tilesL c):=by
 unfold spec_haTiles.f impl_tilesOf.f
 cases c with
 | nil =>
  constructor
  ·refine Ev.step (f:=fun _ => some []) (fun k => ?_) (Ev.now _)
   simp [spec_haTiles.l0]
  ·refine Ev.step (f:=fun _ => some []) (fun k => ?_) (Ev.now _)
   simp [impl_tilesOf.l0]
 | cons x xs =>
  obtain ⟨i1,i2⟩:=haTiles_ev xs [x] [] (by simpa using h) (by simp) (by simp)
  exact ⟨i1,i2⟩
theorem tilesL_good (c:List Int) (h:c.all (inB 0 9) = true):∀ x ∈ tilesL c,good x = true:=by
 induction c with
 | nil => intro x hx; cases hx
 | cons a r ih =>
  rw [List.all_cons,Bool.and_eq_true] at h
  cases r with
  | nil => intro x hx; cases hx
  | cons b r =>
   intro x hx
   rw [tilesL_two] at hx
   rcases List.mem_cons.1 hx with rfl | hx
   ·have h2:=h.2
    rw [List.all_cons,Bool.and_eq_true] at h2
    have ha:=h.1
    have hb:=h2.1
    unfold inB at ha hb
    simp only [Bool.and_eq_true,decide_eq_true_eq] at ha hb
    rw [good_iff]
    unfold tileOf mn mx
    simp only
    split <;> split <;> omega
   ·exact ih h.2 x hx
def ch (c:List Int):Bool:=decide (1 ≤ c.length) && (c.all (inB 0 9) && nd [] (tilesL c))
theorem ch_true (c:List Int) (h:ch c = true):1 ≤ c.length ∧ c.length ≤ 56 ∧ (∀ x ∈ c,0 ≤ x ∧ x ≤ 9) ∧ isH (tilesL c) = true:=by
 unfold ch at h
 simp only [Bool.and_eq_true,decide_eq_true_eq] at h
 obtain ⟨h1,h2,h3⟩:=h
 have hg:=tilesL_good c h2
 obtain ⟨A,_,hA,hP,hm⟩:=whole
 have hle:=len_le (tilesL c) A (nd_nodup _ _ h3).2 (fun x hx => (hm x).2 (hg x hx))
 rw [tilesL_len,hA] at hle
 refine ⟨h1,by omega,fun x hx => ?_,?_⟩
 ·have:=List.all_eq_true.1 h2 x hx
  unfold inB at this
  simpa using this
 ·unfold isH
  rw [decide_eq_true (by rw [tilesL_len]; omega),h3,List.all_eq_true.2 hg]
  rfl
theorem set_mid {α:Type} (pre:List α) (x y:α) (xs:List α):(pre ++ x :: xs).set ((pre.length:Int)).toNat y = pre ++ y :: xs:=by
 rw [show ((pre.length:Int)).toNat = pre.length from rfl,List.set_append_right _ _ (Nat.le_refl _),Nat.sub_self,List.set_cons_zero]
theorem ch_spec (c:List Int) (h:c.length ≤ 2000000):Ev (fun k => spec_haGood.f k c) (ch c):=by
 unfold spec_haGood.f
 rw [l1In_f]
 simp only [Option.bind_some]
 cases h1:inB 1 56 (c.length:Int)
 ·refine ⟨0,fun k _ => ?_⟩
  have:ch c = false:=by
   cases hc:ch c
   ·rfl
   ·obtain ⟨a,b,_⟩:=ch_true c hc
    have:inB 1 56 (c.length:Int) = true:=(inB_iff _ _ _).2 (by omega)
    rw [this] at h1
    cases h1
  simp [this]
 ·simp only [if_true]
  have hb:=(inB_iff _ _ _).1 h1
  refine Ev.bind (f:=fun k t => _) (l1All_f 0 9 c h) ?_
  cases h2:c.all (inB 0 9)
  ·refine ⟨0,fun k _ => ?_⟩
   simp [ch,h2]
  ·simp only [if_true]
   refine Ev.bind (f:=fun k t => _) (haTiles_f c h).1 ?_
   refine Ev.bind (f:=fun k t => _) (isH_spec (tilesL c) (by rw [tilesL_len]; omega)) ⟨0,fun k _ => ?_⟩
   have:isH (tilesL c) = ch c:=by
    unfold isH ch
    rw [h2,List.all_eq_true.2 (tilesL_good c h2),decide_eq_true (show (tilesL c).length ≤ 55 from by rw [tilesL_len]; omega),decide_eq_true (show 1 ≤ c.length from by omega)]
   rw [this]
theorem ch_impl (c:List Int) (h:c.length ≤ 2000000):Ev (fun k => impl_IsChain.f k c) (ch c):=by
 unfold impl_IsChain.f impl_areWithin.f
 by_cases h1:(c.length:Int) > 0
 ·simp only [if_pos h1,Option.bind_some]
  rw [any_out]
  cases h2:c.all (inB 0 9)
  ·refine ⟨0,fun k _ => ?_⟩
   simp [ch,h2]
  ·simp only [if_true]
   refine Ev.bind (f:=fun k t => _) (haTiles_f c h).2 ?_
   have hi:=areDiff_ev (tilesL c) [] (by simp; rw [tilesL_len]; omega)
   refine Ev.bind (f:=fun k t => _) (show Ev (fun k => impl_areDifferent_impl_Tile.f k (tilesL c)) (nd [] (tilesL c)) from hi) ⟨0,fun k _ => ?_⟩
   have:nd [] (tilesL c) = ch c:=by
    unfold ch
    rw [h2,decide_eq_true (show 1 ≤ c.length from by omega)]
    rfl
   rw [this]
 ·simp only [if_neg h1]
  refine ⟨0,fun k _ => ?_⟩
  have:c.length = 0:=by omega
  simp [ch,this]
theorem msort_lt (l:List S67) (h:l.Nodup):(msort l).Pairwise lt:=by
 have hp:(msort l).Pairwise fun x y => (!ltT y x) = true:=by
  refine List.pairwise_mergeSort ?_ ?_ l
  ·intro a b c h1 h2
   simp only [Bool.not_eq_true',ltT_no] at *
   omega
  ·intro a b
   cases h1:ltT b a
   ·rfl
   ·have h2:=(ltT_iff _ _).1 h1
    have:ltT a b = false:=(ltT_no _ _).2 (by omega)
    rw [this]
    rfl
 have hn:(msort l).Nodup:=(List.mergeSort_perm l _).nodup_iff.2 h
 refine List.Pairwise.imp₂ (fun a b h1 h2 => ?_) hp hn
 have h3:=(ltT_no _ _).1 (by simpa using h1)
 refine lt_total b a h3 (fun e => h2 e.symm)
theorem sorted_both (l:List S67) (h:isH l = true):∃ s:List S67,Ev (fun k => spec_tiSort.f k l) s ∧ impl_sorted.f l = some s ∧ s.length = l.length:=by
 obtain ⟨s,h1,h2,h3,h4,_⟩:=sort_f l h
 obtain ⟨i1,i2,i3⟩:=isH_true l h
 have hm:msort l = s:=uniq _ _ (msort_lt l i3) h3 (fun x => by rw [h4]; exact (List.mergeSort_perm l _).mem_iff)
 refine ⟨s,h1,?_,h2⟩
 unfold impl_sorted.f slices_Clone_impl_Tile_impl_Tile.f
 rw [if_pos (by omega)]
 simp only [Option.bind_some]
 rw [if_pos (List.all_eq_true.2 (fun x hx => by rw [smallT_iff]; have:=(good_iff x).1 (i2 x hx); omega)),hm]
def gapAt (e:Int) (i:Nat) (x:Int):Int:=if Int.tmod (i:Int) e = 0 then x else -1
def gaps (e:Int):Nat → List Int → List Int
 | _,[] => []
 | i,x :: xs => gapAt e i x :: gaps e (i + 1) xs
theorem gaps_len (e:Int):∀ (l:List Int) (i:Nat),(gaps e i l).length = l.length
 | [],_ => rfl
 | x :: xs,i => by unfold gaps; rw [List.length_cons,gaps_len e xs]; rfl
theorem mk_spec (e:Int) (he:e ≠ 0) (s:List S67):∀ (rest pre o:List Int),(pre ++ rest).length ≤ 1000 → o.length ≤ 1000 + pre.length →
  Ev (fun k => spec_MakePuzzle.l0 k e (pre ++ rest) ((pre ++ rest).length:Int) (pre.length:Int) s o) (s,o ++ gaps e pre.length rest,true):=by
 intro rest
 induction rest with
 | nil =>
  intro pre o h1 h2
  refine Ev.step (f:=fun _ => some (s,o ++ [],true)) (fun k => ?_) (Ev.now _)
  simp only [spec_MakePuzzle.l0,List.append_nil]
  rw [if_neg (by omega)]
 | cons x xs ih =>
  intro pre o h1 h2
  have hlen:(pre ++ x :: xs).length = pre.length + xs.length + 1:=by simp; omega
  have e1:pre ++ [x] ++ xs = pre ++ x :: xs:=by simp
  have hi:=ih (pre ++ [x]) (o ++ [gapAt e pre.length x]) (by simpa using h1) (by simp; omega)
  rw [e1] at hi
  refine Ev.step (fun k => ?_) (show Ev _ (s,o ++ gaps e pre.length (x :: xs),true) from by
   have:o ++ gaps e pre.length (x :: xs) = o ++ [gapAt e pre.length x] ++ gaps e (pre ++ [x]).length xs:=by simp [gaps]
   rw [this]
   exact hi)
  simp only [spec_MakePuzzle.l0]
  rw [if_pos (by omega),if_pos (by omega),if_pos (by omega),if_neg he,i_mid,t_wrap ((pre.length:Int) + 1) (by omega) (by omega)]
  unfold gapAt
  by_cases hm:Int.tmod (pre.length:Int) e = 0
  ·rw [if_pos hm,if_pos hm,if_pos (by omega)]
   simp
  ·rw [if_neg hm,if_neg hm,if_pos (by omega)]
   simp
theorem mk_impl (e:Int) (he:e ≠ 0) (s:List S67):∀ (rest pre:List Int),pre.length + rest.length ≤ 1000 →
  Ev (fun k => impl_MakePuzzle.l0 k e ((pre.length + rest.length:Nat):Int) (pre.length:Int) s (pre ++ rest)) (s,pre ++ gaps e pre.length rest,true):=by
 intro rest
 induction rest with
 | nil =>
  intro pre h1
  refine Ev.step (f:=fun _ => some (s,pre ++ [],true)) (fun k => ?_) (Ev.now _)
  simp only [impl_MakePuzzle.l0,List.append_nil,List.length_nil]
  rw [if_neg (by omega)]
 | cons x xs ih =>
  intro pre h1
  have hl2:(x :: xs).length = xs.length + 1:=rfl
  have hlen:(pre ++ x :: xs).length = pre.length + xs.length + 1:=by simp; omega
  have hi:=ih (pre ++ [gapAt e pre.length x]) (by simp; omega)
  have e2:(pre ++ [gapAt e pre.length x]).length + xs.length = pre.length + (x :: xs).length:=by simp; omega
  rw [e2] at hi
  refine Ev.step (fun k => ?_) (show Ev _ (s,pre ++ gaps e pre.length (x :: xs),true) from by
   have:pre ++ gaps e pre.length (x :: xs) = pre ++ [gapAt e pre.length x] ++ gaps e (pre ++ [gapAt e pre.length x]).length xs:=by simp [gaps]
   rw [this]
   exact hi)
  simp only [impl_MakePuzzle.l0]
  rw [if_pos (by omega),if_neg he,t_wrap ((pre.length:Int) + 1) (by omega) (by omega)]
  unfold gapAt
  by_cases hm:Int.tmod (pre.length:Int) e = 0
  ·rw [if_pos hm,if_pos hm]
   simp
  ·rw [if_neg hm,if_neg hm,if_pos (by omega),if_pos (by omega),set_mid]
   simp
def sOf (x y:Int):S67:=⟨mn x y,mx x y⟩
theorem sOf_spec (x y:Int):spec_tiOf.f x y = some ((sOf x y).f0,(sOf x y).f1):=by
 unfold spec_tiOf.f spec_l1Least.f spec_l1Most.f sOf mn mx
 by_cases h:x < y
 ·have h2:¬ y < x:=by omega
  have h3:¬ x > y:=by omega
  simp [h,h2,h3]
 ·by_cases h2:y < x
  ·have h3:x > y:=h2
   simp [h,h2,h3]
  ·have e:x = y:=by omega
   subst e
   simp
def upf:Nat → Int → List Int
 | 0,_ => []
 | m + 1,n => n :: upf m (n + 1)
def rem (l:List S67) (t:S67):List S67:=l.filter fun x => !decide (x = t)
def fit (c:List Int) (at_:Nat) (n:Int):Bool:=decide (rd c (at_:Int) = -1 ∨ rd c (at_:Int) = n)
def last_ (p:List Int):Int:=rd p ((p.length:Int) - 1)
def srch (c:List Int):Nat → List Int → List S67 → List (List Int)
 | 0,_,_ => []
 | d + 1,p,l => if l = [] then [p] else (upf 10 0).flatMap fun n => if fit c p.length n = true ∧ sOf (last_ p) n ∈ l then srch c d (p ++ [n]) (rem l (sOf (last_ p) n)) else []
def row (l:List S67):Prop:=l.length ≤ 55 ∧ (∀ x ∈ l,good x = true) ∧ l.Pairwise lt
theorem row_nodup {l:List S67} (h:row l):l.Nodup:=h.2.2.imp (fun {a b} hab e => by subst e; exact lt_irrefl a hab)
theorem nd_of:∀ (rest pre:List S67),(∀ x ∈ rest,x ∉ pre) → rest.Nodup → nd pre rest = true:=by
 intro rest
 induction rest with
 | nil => intro pre _ _; rfl
 | cons x xs ih =>
  intro pre h1 h2
  rw [List.nodup_cons] at h2
  unfold nd
  rw [decide_eq_false (h1 x List.mem_cons_self),ih (pre ++ [x]) (fun y hy hm => by
   rcases List.mem_append.1 hm with hm | hm
   ·exact h1 y (List.mem_cons_of_mem _ hy) hm
   ·have e:y = x:=by simpa using hm
    subst e
    exact h2.1 hy) h2.2]
  rfl
theorem row_isH {l:List S67} (h:row l):isH l = true ∧ sortedT l = true:=by
 have hn:=row_nodup h
 refine ⟨?_,(sortedT_iff l h.2.1 hn).2 h.2.2⟩
 unfold isH
 rw [decide_eq_true h.1,List.all_eq_true.2 h.2.1,nd_of l [] (fun _ _ => by simp) hn]
 rfl
theorem row_of {l:List S67} (h:isH l = true) (k:sortedT l = true):row l:=by
 obtain ⟨h1,h2,h3⟩:=isH_true l h
 exact ⟨h1,h2,(sortedT_iff l h2 h3).1 k⟩
theorem row_rem {l:List S67} (h:row l) (t:S67):row (rem l t) :=
 ⟨Nat.le_trans (List.length_filter_le _ _) h.1,fun x hx => h.2.1 x (List.mem_filter.1 hx).1,h.2.2.filter _⟩
theorem rem_len {l:List S67} (h:l.Nodup) (t:S67) (ht:t ∈ l):(rem l t).length + 1 = l.length:=by
 induction l with
 | nil => cases ht
 | cons x xs ih =>
  rw [List.nodup_cons] at h
  unfold rem
  by_cases e:x = t
  ·subst e
   have hf:xs.filter (fun y => !decide (y = x)) = xs:=by
    rw [List.filter_eq_self]
    intro y hy
    have:y ≠ x:=fun e => h.1 (by rw [← e]; exact hy)
    simp [this]
   simp [hf]
  ·have ht':t ∈ xs:=by
    rcases List.mem_cons.1 ht with e2 | e2
    ·exact absurd e2.symm e
    ·exact e2
   have:=ih h.2 ht'
   unfold rem at this
   simp [e]
   omega
theorem index_at (t:S67):∀ (rest pre:List S67),(pre ++ rest).length ≤ 2000000 → rest.Nodup → ∃ r:Int,Ev (fun k => slices_Index_impl_Tile_impl_Tile.l0 k (pre ++ rest) ((pre ++ rest).length:Int) (pre.length:Int) t.f0 t.f1) r ∧
  (t ∉ rest → r = -1) ∧ (t ∈ rest → ∃ i:Nat,r = ((pre.length + i:Nat):Int) ∧ i < rest.length ∧ rest.eraseIdx i = rem rest t):=by
 intro rest
 induction rest with
 | nil =>
  intro pre hl _
  refine ⟨-1,Ev.step (f:=fun _ => some (-1)) (fun k => ?_) (Ev.now _),fun _ => rfl,fun h => by cases h⟩
  simp only [slices_Index_impl_Tile_impl_Tile.l0,List.append_nil]
  rw [if_neg (by omega)]
 | cons x xs ih =>
  intro pre hl hn
  rw [List.nodup_cons] at hn
  have hlen:(pre ++ x :: xs).length = pre.length + xs.length + 1:=by simp; omega
  have hget:rd_T67 (pre ++ x :: xs) (pre.length:Int) = x:=by
   unfold rd_T67
   exact t_mid pre x xs _
  by_cases e:t = x
  ·subst e
   refine ⟨(pre.length:Int),Ev.step (f:=fun _ => some (pre.length:Int)) (fun k => ?_) (Ev.now _),fun h => absurd List.mem_cons_self h,fun _ => ⟨0,rfl,by simp,?_⟩⟩
   ·simp only [slices_Index_impl_Tile_impl_Tile.l0]
    rw [if_pos (by omega),if_pos (by omega),if_pos (by omega),hget,t_beq,if_pos (by simp)]
   ·have hf:xs.filter (fun y => !decide (y = t)) = xs:=by
     rw [List.filter_eq_self]
     intro y hy
     have:y ≠ t:=fun e => hn.1 (by rw [← e]; exact hy)
     simp [this]
    unfold rem
    simp [hf]
  ·obtain ⟨r,h1,h2,h3⟩:=ih (pre ++ [x]) (by simpa using hl) hn.2
   have e1:pre ++ [x] ++ xs = pre ++ x :: xs:=by simp
   rw [e1] at h1
   refine ⟨r,Ev.step (fun k => ?_) h1,fun h => h2 (fun hm => h (List.mem_cons_of_mem _ hm)),fun h => ?_⟩
   ·simp only [slices_Index_impl_Tile_impl_Tile.l0]
    rw [if_pos (by omega),if_pos (by omega),if_pos (by omega),hget,t_beq,if_neg (by simp [e]),t_wrap ((pre.length:Int) + 1) (by omega) (by omega)]
    simp
   ·have hm:t ∈ xs:=by
     rcases List.mem_cons.1 h with e2 | e2
     ·exact absurd e2 e
     ·exact e2
    obtain ⟨i,hr,hi,he⟩:=h3 hm
    refine ⟨i + 1,by rw [hr]; simp; omega,by simp; omega,?_⟩
    rw [List.eraseIdx_cons_succ,he]
    unfold rem
    have:¬ x = t:=fun e2 => e e2.symm
    simp [this]
theorem index_rem (t:S67) (l:List S67) (hl:row l):∃ r:Int,Ev (fun k => slices_Index_impl_Tile_impl_Tile.f k l t.f0 t.f1) r ∧ (t ∉ l → r = -1) ∧ (t ∈ l → 0 ≤ r ∧ r < l.length ∧ l.eraseIdx r.toNat = rem l t):=by
 obtain ⟨r,h1,h2,h3⟩:=index_at t l [] (by have:=hl.1; simp; omega) (row_nodup hl)
 refine ⟨r,h1,h2,fun h => ?_⟩
 obtain ⟨i,hr,hi,he⟩:=h3 h
 subst hr
 refine ⟨by omega,by simp; omega,by simpa using he⟩
def Res (out S:List (List Int)) (r:Bool × List (List Int)):Prop:=if (out ++ S).length ≤ 200 then r = (true,out ++ S) else r.1 = false
theorem Res_nil (out:List (List Int)) (h:out.length ≤ 200):Res out [] (true,out):=by
 unfold Res
 rw [List.append_nil,if_pos h]
theorem Res_step {out S S':List (List Int)} {r r':Bool × List (List Int)} (h1:Res out S r) (hb:r.1 = true) (h2:r.2.length ≤ 200 → Res r.2 S' r'):Res out (S ++ S') r':=by
 unfold Res at h1
 by_cases h:(out ++ S).length ≤ 200
 ·rw [if_pos h] at h1
  subst h1
  have:=h2 h
  unfold Res at this ⊢
  rw [← List.append_assoc]
  exact this
 ·rw [if_neg h,hb] at h1
  cases h1
theorem Res_short {out S:List (List Int)} {r:Bool × List (List Int)} (h1:Res out S r) (hb:r.1 = true):r.2.length ≤ 200:=by
 unfold Res at h1
 by_cases h:(out ++ S).length ≤ 200
 ·rw [if_pos h] at h1
  subst h1
  exact h
 ·rw [if_neg h,hb] at h1
  cases h1
theorem Res_stop {out S S':List (List Int)} {r:Bool × List (List Int)} (h1:Res out S r) (hb:r.1 = false):Res out (S ++ S') (false,r.2):=by
 unfold Res at h1 ⊢
 by_cases h:(out ++ S).length ≤ 200
 ·rw [if_pos h] at h1
  subst h1
  cases hb
 ·rw [if_neg (by simp only [List.length_append] at h ⊢; omega)]
theorem fits_f (hand:List S67) (c:List Int) (at_:Nat) (n:Int) (h:at_ < c.length):impl_Puzzle_fits.f hand c (at_:Int) n = some (fit c at_ n):=by
 unfold impl_Puzzle_fits.f fit
 rw [if_pos (by omega),if_pos (by omega)]
 by_cases h1:rd c (at_:Int) = -1
 ·rw [if_pos h1]
  simp [h1]
 ·rw [if_neg h1]
  by_cases h2:rd c (at_:Int) = n
  ·simp [h2]
  ·simp [h1,h2]
theorem impl_loop (hand:List S67) (c p:List Int) (l:List S67) (d:Nat) (hl:row l) (hp:0 < p.length) (hpc:p.length < c.length) (hc:c.length ≤ 100)
  (hrec:∀ n,0 ≤ n → n ≤ 9 → sOf (last_ p) n ∈ l → ∀ out:List (List Int),out.length ≤ 200 → ∃ r,Ev (fun k => impl_Puzzle_solutions_1.f k hand c (p ++ [n]) (rem l (sOf (last_ p) n)) out) r ∧ Res out (srch c d (p ++ [n]) (rem l (sOf (last_ p) n))) r) :
  ∀ (m:Nat) (n:Int) (out:List (List Int)),n + m = 10 → 0 ≤ n → out.length ≤ 200 → ∃ r,Ev (fun k => impl_Puzzle_solutions_1.l k (fun c' l' o => impl_Puzzle_solutions_1.f k hand c c' l' o) hand c p l (m + 1) n out) r ∧
   Res out ((upf m n).flatMap fun n => if fit c p.length n = true ∧ sOf (last_ p) n ∈ l then srch c d (p ++ [n]) (rem l (sOf (last_ p) n)) else []) r:=by
 intro m
 induction m with
 | zero =>
  intro n out hn h0 ho
  refine ⟨(true,out),⟨0,fun k _ => ?_⟩,Res_nil out ho⟩
  show impl_Puzzle_solutions_1.l _ _ _ _ _ _ _ _ _ = _
  simp only [impl_Puzzle_solutions_1.l]
  rw [if_neg (by omega)]
 | succ m ih =>
  intro n out hn h0 ho
  have hn9:n < 10:=by omega
  simp only [upf,List.flatMap_cons]
  by_cases hf:fit c p.length n = true
  ·obtain ⟨q,hq,hq1,hq2⟩:=index_rem (sOf (last_ p) n) l hl
   by_cases hm:sOf (last_ p) n ∈ l
   ·obtain ⟨q0,q1,q2⟩:=hq2 hm
    rw [if_pos ⟨hf,hm⟩]
    obtain ⟨r,hr,hres⟩:=hrec n h0 (by omega) hm out ho
    have hgo:∀ r',(r.1 = true → Ev (fun k => impl_Puzzle_solutions_1.l k (fun c' l' o => impl_Puzzle_solutions_1.f k hand c c' l' o) hand c p l (m + 1) (n + 1) r.2) r') → (r.1 = false → r' = (false,r.2)) →
      Ev (fun k => impl_Puzzle_solutions_1.l k (fun c' l' o => impl_Puzzle_solutions_1.f k hand c c' l' o) hand c p l (m + 1 + 1) n out) r':=by
     intro r' h1 h2
     refine Ev.congr (f:=fun k => (slices_Index_impl_Tile_impl_Tile.f k l (sOf (last_ p) n).f0 (sOf (last_ p) n).f1).bind fun q => if 0 ≤ q then (if q < (l.length:Int) then ((slices_Clone_int_int.f p).bind fun c2 => ((slices_Clone_impl_Tile_impl_Tile.f l).bind fun l2 => ((impl_Puzzle_solutions_1.f k hand c (c2 ++ [n]) (l2.eraseIdx q.toNat) out).bind fun r => if r.1 = true then impl_Puzzle_solutions_1.l k (fun c' l' o => impl_Puzzle_solutions_1.f k hand c c' l' o) hand c p l (m + 1) (n + 1) r.2 else some (false,r.2)))) else none) else impl_Puzzle_solutions_1.l k (fun c' l' o => impl_Puzzle_solutions_1.f k hand c c' l' o) hand c p l (m + 1) (n + 1) out) (fun k => ?_) ?_
     ·show impl_Puzzle_solutions_1.l _ _ _ _ _ _ _ _ _ = _
      rw [impl_Puzzle_solutions_1.l,if_pos hn9,fits_f hand c p.length n hpc]
      simp only [Option.bind_some,hf,if_true]
      rw [if_pos hp]
      rfl
     ·refine Ev.bind (f:=fun k (q:Int) => _) hq ?_
      refine Ev.congr (f:=fun k => (impl_Puzzle_solutions_1.f k hand c (p ++ [n]) (rem l (sOf (last_ p) n)) out).bind fun r => if r.1 = true then impl_Puzzle_solutions_1.l k (fun c' l' o => impl_Puzzle_solutions_1.f k hand c c' l' o) hand c p l (m + 1) (n + 1) r.2 else some (false,r.2)) (fun k => ?_) ?_
      ·(try dsimp only)
       have g1:slices_Clone_int_int.f p = some p:=by unfold slices_Clone_int_int.f; rw [if_pos (by omega)]
       have g2:slices_Clone_impl_Tile_impl_Tile.f l = some l:=by unfold slices_Clone_impl_Tile_impl_Tile.f; rw [if_pos (by have:=hl.1; omega)]
       rw [if_pos q0,if_pos q1,g1,g2]
       simp only [Option.bind_some,q2]
      ·refine Ev.bind (f:=fun k (r:Bool × List (List Int)) => _) hr ?_
       cases hb:r.1 with
       | true =>
        refine Ev.congr (fun k => ?_) (h1 hb)
        simp
       | false =>
        rw [h2 hb]
        exact ⟨0,fun k _ => by simp⟩
    cases hb:r.1 with
    | true =>
     have hs:=Res_short hres hb
     obtain ⟨r2,hr2,hres2⟩:=ih (n + 1) r.2 (by omega) (by omega) hs
     exact ⟨r2,hgo r2 (fun _ => hr2) (fun h => by rw [hb] at h; cases h),Res_step hres hb (fun _ => hres2)⟩
    | false => exact ⟨(false,r.2),hgo _ (fun h => by rw [hb] at h; cases h) (fun _ => rfl),Res_stop hres hb⟩
   ·obtain ⟨r2,hr2,hres2⟩:=ih (n + 1) out (by omega) (by omega) ho
    rw [if_neg (fun h => hm h.2),List.nil_append]
    refine ⟨r2,?_,hres2⟩
    have hq':=hq1 hm
    refine Ev.congr (f:=fun k => (slices_Index_impl_Tile_impl_Tile.f k l (sOf (last_ p) n).f0 (sOf (last_ p) n).f1).bind fun q => if 0 ≤ q then (if q < (l.length:Int) then ((slices_Clone_int_int.f p).bind fun c2 => ((slices_Clone_impl_Tile_impl_Tile.f l).bind fun l2 => ((impl_Puzzle_solutions_1.f k hand c (c2 ++ [n]) (l2.eraseIdx q.toNat) out).bind fun r => if r.1 = true then impl_Puzzle_solutions_1.l k (fun c' l' o => impl_Puzzle_solutions_1.f k hand c c' l' o) hand c p l (m + 1) (n + 1) r.2 else some (false,r.2)))) else none) else impl_Puzzle_solutions_1.l k (fun c' l' o => impl_Puzzle_solutions_1.f k hand c c' l' o) hand c p l (m + 1) (n + 1) out) (fun k => ?_) ?_
    ·show impl_Puzzle_solutions_1.l _ _ _ _ _ _ _ _ _ = _
     rw [impl_Puzzle_solutions_1.l,if_pos hn9,fits_f hand c p.length n hpc]
     simp only [Option.bind_some,hf,if_true]
     rw [if_pos hp]
     rfl
    ·refine Ev.bind (f:=fun k (q:Int) => _) hq ?_
     refine Ev.congr (fun k => ?_) hr2
     (try dsimp only)
     rw [if_neg (by omega)]
  ·obtain ⟨r2,hr2,hres2⟩:=ih (n + 1) out (by omega) (by omega) ho
   rw [if_neg (fun h => hf h.1),List.nil_append]
   refine ⟨r2,Ev.congr (fun k => ?_) hr2,hres2⟩
   show impl_Puzzle_solutions_1.l _ _ _ _ _ _ _ _ _ = _
   rw [impl_Puzzle_solutions_1.l,if_pos hn9,fits_f hand c p.length n hpc]
   simp only [Option.bind_some]
   rw [if_neg hf]
theorem impl_look (hand:List S67) (c:List Int) (hc:c.length ≤ 100):∀ (d:Nat) (p:List Int) (l:List S67) (out:List (List Int)),row l → 0 < p.length → p.length + l.length = c.length → l.length < d → out.length ≤ 200 →
  ∃ r,Ev (fun k => impl_Puzzle_solutions_1.f k hand c p l out) r ∧ Res out (srch c d p l) r:=by
 intro d
 induction d with
 | zero => intro p l out _ _ _ h _; omega
 | succ d ih =>
  intro p l out hl hp hpc hd ho
  by_cases h0:l = []
  ·subst h0
   refine ⟨(decide ((out.length:Int) + 1 ≤ 200),out ++ [p]),Ev.step (f:=fun _ => some (decide ((out.length:Int) + 1 ≤ 200),out ++ [p])) (fun k => ?_) (Ev.now _),?_⟩
   ·simp only [impl_Puzzle_solutions_1.f,List.length_nil,if_true]
    rw [if_pos (by omega)]
   ·unfold Res
    rw [srch,if_pos rfl]
    by_cases h:(out ++ [p]).length ≤ 200
    ·rw [if_pos h]
     rw [List.length_append,List.length_singleton] at h
     rw [decide_eq_true (show (out.length:Int) + 1 ≤ 200 by omega)]
    ·rw [if_neg h]
     rw [List.length_append,List.length_singleton] at h
     dsimp only
     rw [decide_eq_false_iff_not]
     omega
  ·have hpos:0 < l.length:=List.length_pos_iff.2 h0
   obtain ⟨r,h1,h2⟩:=impl_loop hand c p l d hl hp (by omega) hc (fun n hn0 hn9 hm o ho' => by
    have:=rem_len (row_nodup hl) _ hm
    exact ih (p ++ [n]) (rem l (sOf (last_ p) n)) o (row_rem hl _) (by simp) (by simp; omega) (by omega) ho') 10 0 out (by omega) (by omega) ho
   refine ⟨r,Ev.step (fun k => ?_) h1,?_⟩
   ·simp only [impl_Puzzle_solutions_1.f]
    rw [if_neg (by omega)]
   ·simp only [srch]
    rw [if_neg h0]
    exact h2
def sols (c:List Int) (l:List S67):List (List Int):=(upf 10 0).flatMap fun n => if fit c 0 n = true then srch c (l.length + 1) [n] l else []
theorem impl_all_loop (l:List S67) (c:List Int) (hl:row l) (hc:c.length ≤ 100) (hlc:c.length = l.length + 1):∀ (m:Nat) (n:Int) (out:List (List Int)),n + m = 10 → 0 ≤ n → out.length ≤ 200 →
  ∃ r,Ev (fun k => impl_Puzzle_solutions.l k l c (m + 1) n out) r ∧ (if (out ++ (upf m n).flatMap fun n => if fit c 0 n = true then srch c (l.length + 1) [n] l else []).length ≤ 200 then r = (out ++ (upf m n).flatMap (fun n => if fit c 0 n = true then srch c (l.length + 1) [n] l else []),true) else r = ([],false)):=by
 intro m
 induction m with
 | zero =>
  intro n out hn h0 ho
  refine ⟨(out,true),⟨0,fun k _ => ?_⟩,?_⟩
  ·show impl_Puzzle_solutions.l _ _ _ _ _ _ = _
   rw [impl_Puzzle_solutions.l,if_neg (by omega)]
  ·simp only [upf,List.flatMap_nil,List.append_nil]
   rw [if_pos ho]
   trivial
 | succ m ih =>
  intro n out hn h0 ho
  have hn9:n < 10:=by omega
  have hf0:impl_Puzzle_fits.f l c 0 n = some (fit c 0 n):=fits_f l c 0 n (by omega)
  simp only [upf,List.flatMap_cons]
  by_cases hf:fit c 0 n = true
  ·rw [if_pos hf,← List.append_assoc]
   obtain ⟨r,hr,hres⟩:=impl_look l c hc (l.length + 1) [n] l out hl (by simp) (by simp; omega) (by omega) ho
   unfold Res at hres
   by_cases hs:(out ++ srch c (l.length + 1) [n] l).length ≤ 200
   ·rw [if_pos hs] at hres
    subst hres
    obtain ⟨r2,hr2,hres2⟩:=ih (n + 1) (out ++ srch c (l.length + 1) [n] l) (by omega) (by omega) hs
    refine ⟨r2,?_,hres2⟩
    refine Ev.congr (f:=fun k => (impl_Puzzle_solutions_1.f k l c [n] l out).bind fun r => if r.1 = true then impl_Puzzle_solutions.l k l c (m + 1) (n + 1) r.2 else some ([],false)) (fun k => ?_) (Ev.bind (f:=fun k (r:Bool × List (List Int)) => _) hr ?_)
    ·show impl_Puzzle_solutions.l _ _ _ _ _ _ = _
     rw [impl_Puzzle_solutions.l,if_pos hn9,hf0]
     simp only [Option.bind_some]
     rw [if_pos hf]
    ·simpa using hr2
   ·rw [if_neg hs] at hres
    refine ⟨([],false),?_,?_⟩
    ·refine Ev.congr (f:=fun k => (impl_Puzzle_solutions_1.f k l c [n] l out).bind fun r => if r.1 = true then impl_Puzzle_solutions.l k l c (m + 1) (n + 1) r.2 else some ([],false)) (fun k => ?_) (Ev.bind (f:=fun k (r:Bool × List (List Int)) => _) hr ⟨0,fun k _ => ?_⟩)
     ·show impl_Puzzle_solutions.l _ _ _ _ _ _ = _
      rw [impl_Puzzle_solutions.l,if_pos hn9,hf0]
      simp only [Option.bind_some]
      rw [if_pos hf]
     ·(try dsimp only)
      rw [hres]
      simp
    ·rw [if_neg (by simp only [List.length_append] at hs ⊢; omega)]
  ·rw [if_neg hf,List.nil_append]
   obtain ⟨r2,hr2,hres2⟩:=ih (n + 1) out (by omega) (by omega) ho
   refine ⟨r2,Ev.congr (fun k => ?_) hr2,hres2⟩
   show impl_Puzzle_solutions.l _ _ _ _ _ _ = _
   rw [impl_Puzzle_solutions.l,if_pos hn9,hf0]
   simp only [Option.bind_some]
   rw [if_neg hf]
theorem sols_impl (l:List S67) (c:List Int) (hl:row l) (hc:c.length ≤ 100) (hlc:c.length = l.length + 1):Ev (fun k => impl_Puzzle_solutions.f k l c) (if (sols c l).length ≤ 200 then (sols c l,true) else ([],false)):=by
 obtain ⟨r,h1,h2⟩:=impl_all_loop l c hl hc hlc 10 0 [] (by omega) (by omega) (by simp)
 have:r = if (sols c l).length ≤ 200 then (sols c l,true) else ([],false):=by
  simp only [List.nil_append] at h2
  by_cases h:(sols c l).length ≤ 200
  ·rw [if_pos h]
   rw [if_pos (show ((upf 10 0).flatMap fun n => if fit c 0 n = true then srch c (l.length + 1) [n] l else []).length ≤ 200 from h)] at h2
   exact h2
  ·rw [if_neg h]
   rw [if_neg (show ¬ ((upf 10 0).flatMap fun n => if fit c 0 n = true then srch c (l.length + 1) [n] l else []).length ≤ 200 from h)] at h2
   exact h2
 rw [← this]
 exact h1
def ResS (out S o:List (List Int)):Prop:=if (out ++ S).length ≤ 200 then o = out ++ S else 200 < o.length
theorem ResS_nil (out:List (List Int)):ResS out [] out:=by
 unfold ResS
 rw [List.append_nil]
 by_cases h:out.length ≤ 200
 ·rw [if_pos h]
 ·rw [if_neg h]
  omega
theorem ResS_full (out S:List (List Int)) (h:out.length > 200):ResS out S out:=by
 unfold ResS
 rw [if_neg (by simp; omega)]
 omega
theorem ResS_step {out S S' o o':List (List Int)} (h1:ResS out S o) (h2:ResS o S' o'):ResS out (S ++ S') o':=by
 unfold ResS at *
 by_cases h:(out ++ S).length ≤ 200
 ·rw [if_pos h] at h1
  subst h1
  rw [← List.append_assoc]
  exact h2
 ·rw [if_neg h] at h1
  rw [if_neg (by simp only [List.length_append] at h ⊢; omega)]
  rw [if_neg (by simp; omega)] at h2
  exact h2
theorem own_f (p:List Int) (h:p.length ≤ 1000000):spec_l1Own.f p = some p:=by
 unfold spec_l1Own.f
 simp only [Option.bind_some,List.length_nil,List.nil_append]
 rw [if_pos (by omega)]
theorem those_ev (t:S67):∀ (rest pre out:List S67),(pre ++ rest).length ≤ 1000 → out.length ≤ pre.length → Ev (fun k => spec_tiThose.l0 k [t] false out (pre ++ rest) ((pre ++ rest).length:Int) (pre.length:Int)) (out ++ rem rest t):=by
 intro rest
 induction rest with
 | nil =>
  intro pre out hl ho
  refine Ev.step (f:=fun _ => some (out ++ rem [] t)) (fun k => ?_) (Ev.now _)
  simp only [spec_tiThose.l0,List.append_nil]
  rw [if_neg (by omega)]
  simp [rem]
 | cons x xs ih =>
  intro pre out hl ho
  have hlen:(pre ++ x :: xs).length = pre.length + xs.length + 1:=by simp; omega
  have hget:rd_T67 (pre ++ x :: xs) (pre.length:Int) = x:=by
   unfold rd_T67
   exact t_mid pre x xs _
  have e1:pre ++ [x] ++ xs = pre ++ x :: xs:=by simp
  obtain ⟨r,h1,h2⟩:=place_f x [t] (by simp)
  refine Ev.step (f:=fun k => (spec_tiPlace.f k [t] x.f0 x.f1).bind fun t195 => (if ((decide (t195 ≥ 0)) == false) = true then (spec_tiThose.l0 k [t] false (out ++ [x]) (pre ++ x :: xs) ((pre ++ x :: xs).length:Int) (((pre ++ [x]).length:Nat):Int)) else (spec_tiThose.l0 k [t] false out (pre ++ x :: xs) ((pre ++ x :: xs).length:Int) (((pre ++ [x]).length:Nat):Int)))) (fun k => ?_) (Ev.bind (f:=fun k (r:Int) => _) h1 ?_)
  ·simp only [spec_tiThose.l0]
   rw [if_pos (by omega),if_pos (by omega),if_pos (by omega),hget,t_wrap ((pre.length:Int) + 1) (by omega) (by omega),if_pos (by omega)]
   simp [t_eta]
  ·(try dsimp only)
   rw [h2]
   by_cases e:x = t
   ·have hi:=ih (pre ++ [x]) out (by simpa using hl) (by simp; omega)
    rw [e1] at hi
    refine Ev.congr (fun k => ?_) (show Ev _ (out ++ rem (x :: xs) t) from by
     have:rem (x :: xs) t = rem xs t:=by simp [rem,e]
     rw [this]
     exact hi)
    simp [e]
   ·have hi:=ih (pre ++ [x]) (out ++ [x]) (by simpa using hl) (by simp; omega)
    rw [e1] at hi
    refine Ev.congr (fun k => ?_) (show Ev _ (out ++ rem (x :: xs) t) from by
     have:out ++ rem (x :: xs) t = out ++ [x] ++ rem xs t:=by simp [rem,e]
     rw [this]
     exact hi)
    simp [e]
theorem those_rem (l:List S67) (hl:row l) (t:S67):Ev (fun k => spec_tiThose.f k l [t] false) (rem l t):=by
 obtain ⟨hh,hs⟩:=row_isH hl
 obtain ⟨s,h1,h2,_,_,h5⟩:=sort_f l hh
 rw [hs] at h5
 have e:s = l:=of_decide_eq_true h5
 subst e
 unfold spec_tiThose.f
 refine Ev.bind (f:=fun k (s:List S67) => _) h1 ?_
 simpa using those_ev t s [] [] (by have:=hl.1; simp; omega) (by simp)
theorem times_ev (n:Int):∀ (rest pre:List S67) (a:Int),(pre ++ rest).length ≤ 1000 → 0 ≤ a → a ≤ 2 * pre.length → ∃ t:Int,Ev (fun k => spec_tiTimes.l0 k n a (pre ++ rest) ((pre ++ rest).length:Int) (pre.length:Int)) t ∧ a ≤ t ∧ (t > a ↔ ∃ x ∈ rest,x.f0 = n ∨ x.f1 = n):=by
 intro rest
 induction rest with
 | nil =>
  intro pre a hl h0 h1
  refine ⟨a,Ev.step (f:=fun _ => some a) (fun k => ?_) (Ev.now _),Int.le_refl _,by simp⟩
  simp only [spec_tiTimes.l0,List.append_nil]
  rw [if_neg (by omega)]
 | cons x xs ih =>
  intro pre a hl h0 h1
  have hlen:(pre ++ x :: xs).length = pre.length + xs.length + 1:=by simp; omega
  have hget:rd_T67 (pre ++ x :: xs) (pre.length:Int) = x:=by
   unfold rd_T67
   exact t_mid pre x xs _
  have e1:pre ++ [x] ++ xs = pre ++ x :: xs:=by simp
  have hw:=t_wrap ((pre.length:Int) + 1) (by omega) (by omega)
  by_cases ha:x.f0 = n
  ·by_cases hb:x.f1 = n
   ·obtain ⟨t,q1,q2,q3⟩:=ih (pre ++ [x]) (a + 1 + 1) (by simpa using hl) (by omega) (by simp; omega)
    rw [e1] at q1
    refine ⟨t,Ev.step (fun k => ?_) q1,by omega,⟨fun _ => ⟨x,List.mem_cons_self,.inl ha⟩,fun _ => by omega⟩⟩
    simp only [spec_tiTimes.l0]
    rw [if_pos (by omega),if_pos (by omega),if_pos (by omega),hget,if_pos ha,if_pos hb,hw,t_wrap (a + 1) (by omega) (by omega),t_wrap (a + 1 + 1) (by omega) (by omega)]
    simp
   ·obtain ⟨t,q1,q2,q3⟩:=ih (pre ++ [x]) (a + 1) (by simpa using hl) (by omega) (by simp; omega)
    rw [e1] at q1
    refine ⟨t,Ev.step (fun k => ?_) q1,by omega,⟨fun _ => ⟨x,List.mem_cons_self,.inl ha⟩,fun _ => by omega⟩⟩
    simp only [spec_tiTimes.l0]
    rw [if_pos (by omega),if_pos (by omega),if_pos (by omega),hget,if_pos ha,if_neg hb,hw,t_wrap (a + 1) (by omega) (by omega)]
    simp
  ·by_cases hb:x.f1 = n
   ·obtain ⟨t,q1,q2,q3⟩:=ih (pre ++ [x]) (a + 1) (by simpa using hl) (by omega) (by simp; omega)
    rw [e1] at q1
    refine ⟨t,Ev.step (fun k => ?_) q1,by omega,⟨fun _ => ⟨x,List.mem_cons_self,.inr hb⟩,fun _ => by omega⟩⟩
    simp only [spec_tiTimes.l0]
    rw [if_pos (by omega),if_pos (by omega),if_pos (by omega),hget,if_neg ha,if_pos hb,hw,t_wrap (a + 1) (by omega) (by omega)]
    simp
   ·obtain ⟨t,q1,q2,q3⟩:=ih (pre ++ [x]) a (by simpa using hl) (by omega) (by simp; omega)
    rw [e1] at q1
    refine ⟨t,Ev.step (fun k => ?_) q1,by omega,?_⟩
    ·simp only [spec_tiTimes.l0]
     rw [if_pos (by omega),if_pos (by omega),if_pos (by omega),hget,if_neg ha,if_neg hb,hw]
     simp
    ·rw [q3]
     constructor
     ·rintro ⟨y,hy,h⟩
      exact ⟨y,List.mem_cons_of_mem _ hy,h⟩
     ·rintro ⟨y,hy,h⟩
      rcases List.mem_cons.1 hy with e | e
      ·subst e
       rcases h with h | h
       ·exact absurd h ha
       ·exact absurd h hb
      ·exact ⟨y,e,h⟩
theorem times_any (l:List S67) (hl:l.length ≤ 1000) (n:Int):∃ t:Int,Ev (fun k => spec_tiTimes.f k l n) t ∧ (t > 0 ↔ ∃ x ∈ l,x.f0 = n ∨ x.f1 = n):=by
 obtain ⟨t,h1,_,h3⟩:=times_ev n l [] 0 (by simpa using hl) (by omega) (by simp)
 exact ⟨t,h1,h3⟩
theorem sOf_has (x y:Int):(sOf x y).f0 = x ∨ (sOf x y).f1 = x:=by
 unfold sOf mn mx
 by_cases h:y < x
 ·right
  have:¬ x < y:=by omega
  simp [this]
 ·left
  simp [h]
theorem srch_none (c:List Int) (d:Nat) (n:Int) (l:List S67) (h0:l ≠ []) (h:¬ ∃ x ∈ l,x.f0 = n ∨ x.f1 = n):srch c d [n] l = []:=by
 cases d with
 | zero => rfl
 | succ d =>
  simp only [srch]
  rw [if_neg h0,List.flatMap_eq_nil_iff]
  intro m _
  rw [if_neg]
  rintro ⟨_,hm⟩
  exact h ⟨_,hm,sOf_has n m⟩
theorem want_fit (c:List Int) (hc9:∀ x ∈ c,-1 ≤ x) (at_:Nat) (n:Int) (h:at_ < c.length):(0 ≤ rd c (at_:Int) ∧ rd c (at_:Int) ≠ n) ↔ ¬ fit c at_ n = true:=by
 have hm:rd c (at_:Int) ∈ c:=by
  unfold rd
  rw [show ((at_:Int)).toNat = at_ from rfl,List.getD_eq_getElem?_getD,List.getElem?_eq_getElem h]
  exact List.getElem_mem h
 have:=hc9 _ hm
 unfold fit
 simp only [decide_eq_true_eq]
 omega
theorem spec_loop (c p:List Int) (l:List S67) (d:Nat) (hl:row l) (hp:0 < p.length) (hpc:p.length < c.length) (hc:c.length ≤ 100) (hc9:∀ x ∈ c,-1 ≤ x)
  (hrec:∀ n,0 ≤ n → n ≤ 9 → sOf (last_ p) n ∈ l → ∀ out:List (List Int),∃ r,Ev (fun k => spec_pzLook.f k c (p ++ [n]) (rem l (sOf (last_ p) n)) out) r ∧ ResS out (srch c d (p ++ [n]) (rem l (sOf (last_ p) n))) r) :
  ∀ (m:Nat) (n:Int) (out:List (List Int)),n + m = 10 → 0 ≤ n → ∃ r,Ev (fun k => spec_pzLook.l k (fun b h o => spec_pzLook.f k c b h o) c p l (m + 1) n out) r ∧
   ResS out ((upf m n).flatMap fun n => if fit c p.length n = true ∧ sOf (last_ p) n ∈ l then srch c d (p ++ [n]) (rem l (sOf (last_ p) n)) else []) r:=by
 intro m
 induction m with
 | zero =>
  intro n out hn h0
  refine ⟨out,⟨0,fun k _ => ?_⟩,ResS_nil out⟩
  show spec_pzLook.l _ _ _ _ _ _ _ _ = _
  rw [spec_pzLook.l,if_neg (by omega)]
 | succ m ih =>
  intro n out hn h0
  have hn9:n ≤ 9:=by omega
  have hwf:=want_fit c hc9 p.length n hpc
  simp only [upf,List.flatMap_cons]
  by_cases hf:fit c p.length n = true
  ·have hnw:¬ (0 ≤ rd c (p.length:Int) ∧ rd c (p.length:Int) ≠ n):=fun h => (hwf.1 h) hf
   obtain ⟨q,hq,hq1⟩:=place_f (sOf (last_ p) n) l (by have:=hl.1; omega)
   have hgo:∀ r',Ev (fun k => (spec_tiPlace.f k l (sOf (last_ p) n).f0 (sOf (last_ p) n).f1).bind fun q => if q ≥ 0 then ((spec_l1Own.f p).bind fun b2 => if b2.length < 17592186044415 then ((spec_tiThose.f k l [sOf (last_ p) n] false).bind fun h2 => ((spec_pzLook.f k c (b2 ++ [n]) h2 out).bind fun o => spec_pzLook.l k (fun b h o => spec_pzLook.f k c b h o) c p l (m + 1) (n + 1) o)) else none) else spec_pzLook.l k (fun b h o => spec_pzLook.f k c b h o) c p l (m + 1) (n + 1) out) r' →
     Ev (fun k => spec_pzLook.l k (fun b h o => spec_pzLook.f k c b h o) c p l (m + 1 + 1) n out) r':=by
    intro r' h
    refine Ev.congr (fun k => ?_) h
    show spec_pzLook.l _ _ _ _ _ _ _ _ = _
    rw [spec_pzLook.l,if_pos hn9,if_pos hpc,if_neg hnw,if_neg (by omega),show rd p ((p.length:Int) - 1) = last_ p from rfl,sOf_spec]
    simp only [Option.bind_some,t_eta]
   by_cases hm:sOf (last_ p) n ∈ l
   ·rw [if_pos ⟨hf,hm⟩]
    rw [decide_eq_true hm] at hq1
    have q0:q ≥ 0:=of_decide_eq_true hq1
    obtain ⟨o1,ho1,hres1⟩:=hrec n h0 (by omega) hm out
    obtain ⟨o2,ho2,hres2⟩:=ih (n + 1) o1 (by omega) (by omega)
    refine ⟨o2,hgo o2 (Ev.bind (f:=fun k (q:Int) => _) hq ?_),ResS_step hres1 hres2⟩
    refine Ev.congr (f:=fun k => (spec_tiThose.f k l [sOf (last_ p) n] false).bind fun h2 => ((spec_pzLook.f k c (p ++ [n]) h2 out).bind fun o => spec_pzLook.l k (fun b h o => spec_pzLook.f k c b h o) c p l (m + 1) (n + 1) o)) (fun k => ?_) ?_
    ·(try dsimp only)
     rw [if_pos q0,own_f p (by omega)]
     simp only [Option.bind_some]
     rw [if_pos (by omega)]
    ·exact Ev.bind (f:=fun k (h2:List S67) => _) (those_rem l hl _) (Ev.bind (f:=fun k (o:List (List Int)) => _) ho1 ho2)
   ·rw [if_neg (fun h => hm h.2),List.nil_append]
    rw [decide_eq_false hm] at hq1
    have q0:¬ q ≥ 0:=of_decide_eq_false hq1
    obtain ⟨o2,ho2,hres2⟩:=ih (n + 1) out (by omega) (by omega)
    refine ⟨o2,hgo o2 (Ev.bind (f:=fun k (q:Int) => _) hq (Ev.congr (fun k => ?_) ho2)),hres2⟩
    (try dsimp only)
    rw [if_neg q0]
  ·have hw:0 ≤ rd c (p.length:Int) ∧ rd c (p.length:Int) ≠ n:=hwf.2 hf
   obtain ⟨o2,ho2,hres2⟩:=ih (n + 1) out (by omega) (by omega)
   rw [if_neg (fun h => hf h.1),List.nil_append]
   refine ⟨o2,Ev.congr (fun k => ?_) ho2,hres2⟩
   show spec_pzLook.l _ _ _ _ _ _ _ _ = _
   rw [spec_pzLook.l,if_pos hn9,if_pos hpc,if_pos hw]
theorem spec_look (c:List Int) (hc:c.length ≤ 100) (hc9:∀ x ∈ c,-1 ≤ x):∀ (d:Nat) (p:List Int) (l:List S67) (out:List (List Int)),row l → 0 < p.length → p.length + l.length = c.length → l.length < d →
  ∃ r,Ev (fun k => spec_pzLook.f k c p l out) r ∧ ResS out (srch c d p l) r:=by
 intro d
 induction d with
 | zero => intro p l out _ _ _ h; omega
 | succ d ih =>
  intro p l out hl hp hpc hd
  by_cases hfull:out.length > 200
  ·refine ⟨out,Ev.step (f:=fun _ => some out) (fun k => ?_) (Ev.now _),ResS_full out _ hfull⟩
   simp only [spec_pzLook.f]
   rw [if_pos hfull]
  ·by_cases h0:l = []
   ·subst h0
    refine ⟨out ++ [p],Ev.step (f:=fun _ => some (out ++ [p])) (fun k => ?_) (Ev.now _),?_⟩
    ·simp only [spec_pzLook.f]
     rw [if_neg hfull,if_pos (by simpa using hpc),own_f p (by have:p.length = c.length:=(by simpa using hpc); omega)]
     rfl
    ·unfold ResS
     rw [srch,if_pos rfl]
     by_cases h:(out ++ [p]).length ≤ 200
     ·rw [if_pos h]
     ·rw [if_neg h]
      omega
   ·have hpos:0 < l.length:=List.length_pos_iff.2 h0
    obtain ⟨r,h1,h2⟩:=spec_loop c p l d hl hp (by omega) hc hc9 (fun n hn0 hn9 hm o => by
     have:=rem_len (row_nodup hl) _ hm
     exact ih (p ++ [n]) (rem l (sOf (last_ p) n)) o (row_rem hl _) (by simp) (by simp; omega) (by omega)) 10 0 out (by omega) (by omega)
    refine ⟨r,Ev.step (fun k => ?_) h1,?_⟩
    ·simp only [spec_pzLook.f]
     rw [if_neg hfull,if_neg (by omega)]
    ·simp only [srch]
     rw [if_neg h0]
     exact h2
theorem spec_all_loop (l:List S67) (c:List Int) (hl:row l) (h0:l ≠ []) (hc:c.length ≤ 100) (hlc:c.length = l.length + 1) (hc9:∀ x ∈ c,-1 ≤ x):∀ (m:Nat) (n:Int) (out:List (List Int)),n + m = 10 → 0 ≤ n →
  ∃ r,Ev (fun k => spec_pzLook.l k (fun b h o => spec_pzLook.f k c b h o) c [] l (m + 1) n out) r ∧ ResS out ((upf m n).flatMap fun n => if fit c 0 n = true then srch c (l.length + 1) [n] l else []) r:=by
 intro m
 induction m with
 | zero =>
  intro n out hn h0
  refine ⟨out,⟨0,fun k _ => ?_⟩,ResS_nil out⟩
  show spec_pzLook.l _ _ _ _ _ _ _ _ = _
  rw [spec_pzLook.l,if_neg (by omega)]
 | succ m ih =>
  intro n out hn hn0
  have hn9:n ≤ 9:=by omega
  have hpc:([] : List Int).length < c.length:=by simp; omega
  have hwf:=want_fit c hc9 0 n (by omega)
  simp only [upf,List.flatMap_cons]
  by_cases hf:fit c 0 n = true
  ·have hnw:¬ (0 ≤ rd c ((([] : List Int).length:Nat):Int) ∧ rd c ((([] : List Int).length:Nat):Int) ≠ n):=fun h => (hwf.1 h) hf
   rw [if_pos hf]
   obtain ⟨t,ht,ht1⟩:=times_any l (by have:=hl.1; omega) n
   have hgo:∀ r',Ev (fun k => (spec_tiTimes.f k l n).bind fun t => if t > 0 then ((spec_pzLook.f k c [n] l out).bind fun o => spec_pzLook.l k (fun b h o => spec_pzLook.f k c b h o) c [] l (m + 1) (n + 1) o) else spec_pzLook.l k (fun b h o => spec_pzLook.f k c b h o) c [] l (m + 1) (n + 1) out) r' →
     Ev (fun k => spec_pzLook.l k (fun b h o => spec_pzLook.f k c b h o) c [] l (m + 1 + 1) n out) r':=by
    intro r' h
    refine Ev.congr (fun k => ?_) h
    show spec_pzLook.l _ _ _ _ _ _ _ _ = _
    rw [spec_pzLook.l,if_pos hn9,if_pos hpc,if_neg hnw,if_pos (show ([] : List Int).length = 0 from rfl)]
   by_cases hx:∃ x ∈ l,x.f0 = n ∨ x.f1 = n
   ·have t0:=ht1.2 hx
    obtain ⟨o1,ho1,hres1⟩:=spec_look c hc hc9 (l.length + 1) [n] l out hl (by simp) (by simp; omega) (by omega)
    obtain ⟨o2,ho2,hres2⟩:=ih (n + 1) o1 (by omega) (by omega)
    refine ⟨o2,hgo o2 (Ev.bind (f:=fun k (t:Int) => _) ht (Ev.congr (fun k => ?_) (Ev.bind (f:=fun k (o:List (List Int)) => spec_pzLook.l k (fun b h o => spec_pzLook.f k c b h o) c [] l (m + 1) (n + 1) o) ho1 ho2))),ResS_step hres1 hres2⟩
    (try dsimp only)
    rw [if_pos t0]
   ·have t0:¬ t > 0:=fun h => hx (ht1.1 h)
    rw [srch_none c _ n l h0 hx,List.nil_append]
    obtain ⟨o2,ho2,hres2⟩:=ih (n + 1) out (by omega) (by omega)
    refine ⟨o2,hgo o2 (Ev.bind (f:=fun k (t:Int) => _) ht (Ev.congr (fun k => ?_) ho2)),hres2⟩
    (try dsimp only)
    rw [if_neg t0]
  ·have hw:0 ≤ rd c ((([] : List Int).length:Nat):Int) ∧ rd c ((([] : List Int).length:Nat):Int) ≠ n:=hwf.2 hf
   obtain ⟨o2,ho2,hres2⟩:=ih (n + 1) out (by omega) (by omega)
   rw [if_neg hf,List.nil_append]
   refine ⟨o2,Ev.congr (fun k => ?_) ho2,hres2⟩
   show spec_pzLook.l _ _ _ _ _ _ _ _ = _
   rw [spec_pzLook.l,if_pos hn9,if_pos hpc,if_pos hw]
theorem sols_spec (l:List S67) (c:List Int) (hl:row l) (h0:l ≠ []) (hc:c.length ≤ 100) (hlc:c.length = l.length + 1) (hc9:∀ x ∈ c,-1 ≤ x):∃ o,Ev (fun k => spec_pzAll.f k l c) (o,decide ((sols c l).length ≤ 200)) ∧ ((sols c l).length ≤ 200 → o = sols c l):=by
 obtain ⟨o,h1,h2⟩:=spec_all_loop l c hl h0 hc hlc hc9 10 0 [] (by omega) (by omega)
 have h3:Ev (fun k => spec_pzLook.f k c [] l []) o:=by
  refine Ev.step (fun k => ?_) h1
  simp only [spec_pzLook.f]
  rw [if_neg (by simp),if_neg (by simp; omega)]
 unfold ResS at h2
 rw [List.nil_append] at h2
 have h4:(if (sols c l).length ≤ 200 then o = sols c l else 200 < o.length):=h2
 refine ⟨o,?_,fun h => by rw [if_pos h] at h4; exact h4⟩
 have hb:decide ((o.length:Int) ≤ 200) = decide ((sols c l).length ≤ 200):=by
  by_cases h:(sols c l).length ≤ 200
  ·rw [if_pos h] at h4
   subst h4
   rw [decide_eq_true h,decide_eq_true (by omega)]
  ·rw [if_neg h] at h4
   rw [decide_eq_false h,decide_eq_false (by omega)]
 unfold spec_pzAll.f
 rw [← hb]
 exact Ev.bind (f:=fun _ (o:List (List Int)) => some (o,decide ((o.length:Int) ≤ 200))) h3 ⟨0,fun k _ => rfl⟩
theorem upf_mem:∀ (m:Nat) (n x:Int),x ∈ upf m n → n ≤ x ∧ x < n + m:=by
 intro m
 induction m with
 | zero => intro n x h; cases h
 | succ m ih =>
  intro n x h
  simp only [upf,List.mem_cons] at h
  rcases h with e | h
  ·omega
  ·have:=ih (n + 1) x h
   omega
theorem srch_mem (c:List Int):∀ (d:Nat) (p:List Int) (l:List S67),row l → (∀ x ∈ p,0 ≤ x ∧ x ≤ 9) → ∀ s ∈ srch c d p l,s.length = p.length + l.length ∧ ∀ x ∈ s,0 ≤ x ∧ x ≤ 9:=by
 intro d
 induction d with
 | zero => intro p l _ _ s hs; cases hs
 | succ d ih =>
  intro p l hl hp s hs
  simp only [srch] at hs
  by_cases h0:l = []
  ·rw [if_pos h0] at hs
   have e:s = p:=by simpa using hs
   subst e
   subst h0
   exact ⟨by simp,hp⟩
  ·rw [if_neg h0] at hs
   obtain ⟨n,hn,hs⟩:=List.mem_flatMap.1 hs
   have hn9:=upf_mem 10 0 n hn
   by_cases hc:fit c p.length n = true ∧ sOf (last_ p) n ∈ l
   ·rw [if_pos hc] at hs
    have hr:=rem_len (row_nodup hl) _ hc.2
    obtain ⟨h1,h2⟩:=ih (p ++ [n]) (rem l (sOf (last_ p) n)) (row_rem hl _) (fun x hx => by
     rcases List.mem_append.1 hx with hx | hx
     ·exact hp x hx
     ·have e:x = n:=by simpa using hx
      omega) s hs
    refine ⟨?_,h2⟩
    rw [h1]
    simp
    omega
   ·rw [if_neg hc] at hs
    cases hs
theorem sols_mem (c:List Int) (l:List S67) (hl:row l):∀ s ∈ sols c l,s.length = l.length + 1 ∧ ∀ x ∈ s,0 ≤ x ∧ x ≤ 9:=by
 intro s hs
 obtain ⟨n,hn,hs⟩:=List.mem_flatMap.1 hs
 have hn9:=upf_mem 10 0 n hn
 by_cases hf:fit c 0 n = true
 ·rw [if_pos hf] at hs
  obtain ⟨h1,h2⟩:=srch_mem c (l.length + 1) [n] l hl (fun x hx => by
   have e:x = n:=by simpa using hx
   omega) s hs
  exact ⟨by rw [h1]; simp; omega,h2⟩
 ·rw [if_neg hf] at hs
  cases hs
theorem single_both (l:List S67) (c:List Int) (hr:row l) (h0:l ≠ []) (hlc:c.length = l.length + 1) (hc9:∀ x ∈ c,-1 ≤ x):∃ o b,Ev (fun k => spec_pzAll.f k l c) (o,b) ∧ (b = true ∧ o.length = 1 ↔ (sols c l).length = 1) ∧ Ev (fun k => impl_Puzzle_isSingle.f k l c) (decide ((sols c l).length = 1)):=by
 have hl:=hr.1
 obtain ⟨o,g1,g2⟩:=sols_spec l c hr h0 (by omega) hlc hc9
 have g3:=sols_impl l c hr (by omega) hlc
 refine ⟨o,_,g1,?_,?_⟩
 ·rw [decide_eq_true_eq]
  constructor
  ·rintro ⟨h1,h2⟩
   rw [← g2 h1]
   exact h2
  ·intro h
   exact ⟨by omega,by rw [g2 (by omega)]; exact h⟩
 ·unfold impl_Puzzle_isSingle.f
  refine Ev.bind (f:=fun k (bt:List (List Int) × Bool) => _) g3 ⟨0,fun k _ => ?_⟩
  by_cases h:(sols c l).length ≤ 200
  ·simp only [if_pos h]
   by_cases h1:(sols c l).length = 1
   ·simp [h1]
   ·simp only [decide_eq_false h1]
    rw [beq_eq_false_iff_ne.2 (by omega)]
  ·simp only [if_neg h]
   rw [decide_eq_false (by omega)]
   rfl
theorem turn_spec (l:List Int) (hl:l.length ≤ 1000):∀ (n:Nat) (o:List Int),n ≤ l.length → o.length + n ≤ 2000 → Ev (fun k => spec_haTurn.l0 k l o ((n:Int) - 1)) (o ++ (l.take n).reverse):=by
 intro n
 induction n with
 | zero =>
  intro o _ _
  refine Ev.step (f:=fun _ => some o) (fun k => ?_) ⟨0,fun k _ => by simp⟩
  simp only [spec_haTurn.l0]
  rw [if_neg (by omega)]
 | succ n ih =>
  intro o h1 h2
  have hg:rd l (n:Int) = l[n]:=by
   unfold rd
   rw [show ((n:Int)).toNat = n from rfl,List.getD_eq_getElem?_getD,List.getElem?_eq_getElem (by omega)]
   rfl
  have hi:=ih (o ++ [l[n]]) (by omega) (by simp; omega)
  refine Ev.step (fun k => ?_) (show Ev _ (o ++ (l.take (n + 1)).reverse) from by
   rw [List.take_succ_eq_append_getElem (by omega),List.reverse_append]
   simpa using hi)
  simp only [spec_haTurn.l0]
  rw [show ((n + 1:Nat):Int) - 1 = (n:Int) from by omega,if_pos (by omega),if_pos (by omega),if_pos (by omega),if_pos (by omega),hg,t_wrap _ (by omega) (by omega)]
theorem turn_impl:∀ (n:Nat) (pre mid post:List Int),mid.length ≤ n → pre.length + mid.length + post.length ≤ 1000 → Ev (fun k => slices_Reverse_int_int.l0 k (pre ++ (mid ++ post)) (pre.length:Int) ((pre.length:Int) + mid.length - 1)) (pre ++ (mid.reverse ++ post)):=by
 intro n
 induction n with
 | zero =>
  intro pre mid post h1 h2
  obtain rfl:mid = []:=List.length_eq_zero_iff.1 (by omega)
  refine Ev.step (f:=fun _ => some (pre ++ ([].reverse ++ post))) (fun k => ?_) (Ev.now _)
  simp only [slices_Reverse_int_int.l0,List.length_nil]
  rw [if_neg (by omega)]
  rfl
 | succ n ih =>
  intro pre mid post h1 h2
  cases mid with
  | nil =>
   refine Ev.step (f:=fun _ => some (pre ++ ([].reverse ++ post))) (fun k => ?_) (Ev.now _)
   simp only [slices_Reverse_int_int.l0,List.length_nil]
   rw [if_neg (by omega)]
   rfl
  | cons x m =>
   rcases List.eq_nil_or_concat m with rfl | ⟨m,y,rfl⟩
   ·refine Ev.step (f:=fun _ => some (pre ++ ([x].reverse ++ post))) (fun k => ?_) (Ev.now _)
    simp only [slices_Reverse_int_int.l0,List.length_cons,List.length_nil]
    rw [if_neg (by omega)]
    rfl
   ·simp only [List.concat_eq_append] at *
    have hm:(x :: (m ++ [y])).length = m.length + 2:=by simp
    rw [hm] at h1 h2
    have e0:pre ++ (x :: (m ++ [y]) ++ post) = pre ++ x :: (m ++ y :: post):=by simp
    have e1:pre ++ x :: (m ++ y :: post) = (pre ++ x :: m) ++ y :: post:=by simp
    have e3:pre ++ y :: (m ++ y :: post) = (pre ++ y :: m) ++ y :: post:=by simp
    have e2:((pre.length:Int) + ((m.length + 2:Nat):Int) - 1) = ((pre ++ x :: m).length:Int):=by simp; omega
    have e4:((pre ++ x :: m).length:Int) = ((pre ++ y :: m).length:Int):=by simp
    have hi:=ih (pre ++ [y]) m (x :: post) (by omega) (by simp; omega)
    have hlen:(pre ++ x :: (m ++ y :: post)).length = pre.length + m.length + post.length + 2:=by simp; omega
    have hr1:rd (pre ++ x :: (m ++ y :: post)) ((pre ++ x :: m).length:Int) = y:=by rw [e1]; exact i_mid _ _ _
    have hr2:rd (pre ++ x :: (m ++ y :: post)) (pre.length:Int) = x:=i_mid _ _ _
    rw [hm,e0,e2]
    refine Ev.step (fun k => ?_) (show Ev _ (pre ++ ((x :: (m ++ [y])).reverse ++ post)) from by
     have e:pre ++ ((x :: (m ++ [y])).reverse ++ post) = pre ++ [y] ++ (m.reverse ++ x :: post):=by simp
     rw [e]
     exact hi)
    simp only [slices_Reverse_int_int.l0]
    have hp:((pre ++ x :: m).length:Int) = pre.length + m.length + 1:=by simp; omega
    rw [if_pos (by omega),if_pos (by omega),if_pos (by omega),if_pos (by omega),if_pos (by omega),hr1,hr2,set_mid,e3,e4,set_mid,t_wrap ((pre.length:Int) + 1) (by omega) (by omega),← e4,hp,t_wrap _ (by omega) (by omega)]
    have e5:pre ++ y :: m ++ x :: post = pre ++ [y] ++ (m ++ x :: post):=by simp
    rw [e5]
    have e6:(pre.length:Int) + 1 = ((pre ++ [y]).length:Int):=by simp
    rw [e6,show (pre.length:Int) + m.length + 1 - 1 = ((pre ++ [y]).length:Int) + m.length - 1 from by simp; omega]
theorem both_turn (l:List S67) (c:List Int) (hl:l.length ≤ 2000000) (hc:c.length ≤ 2000000):∃ r:List S67 × List Int × Bool,Ev (fun k => spec_TurnPuzzle.f k l c) r ∧ Ev (fun k => impl_TurnPuzzle.f k l c) r ∧ r.1.length ≤ 1000 ∧ r.2.1.length ≤ 1000:=by
 have h1:=pz_spec l c hl hc
 have h2:=pz_impl l c hl
 unfold spec_TurnPuzzle.f impl_TurnPuzzle.f
 cases hp:pz l c
 ·rw [hp] at h1 h2
  exact ⟨([],[],false),Ev.bind (f:=fun k t => _) h1 ⟨0,fun k _ => by simp⟩,Ev.bind (f:=fun k t => _) h2 ⟨0,fun k _ => by simp⟩,by simp,by simp⟩
 ·rw [hp] at h1 h2
  obtain ⟨p1,p2,_,p4,_,_⟩:=pz_true l c hp
  have t1:=turn_spec c (by omega) c.length [] (Nat.le_refl _) (by simp; omega)
  have t2:=turn_impl c.length [] c [] (Nat.le_refl _) (by simp; omega)
  rw [List.take_length,List.nil_append] at t1
  simp only [List.nil_append,List.append_nil,List.length_nil,Int.natCast_zero,Int.zero_add] at t2
  have w:wrap64 ((c.length:Int) - 1) = (c.length:Int) - 1:=t_wrap _ (by omega) (by omega)
  refine ⟨(l,c.reverse,true),Ev.bind (f:=fun k t => _) h1 ?_,Ev.bind (f:=fun k t => _) h2 ?_,by simp; omega,by simp; omega⟩
  ·simp only [if_true,Option.bind_some,List.length_nil,if_pos (show 0 + l.length < 8796093022208 from by omega)]
   unfold spec_haTurn.f
   rw [w]
   exact Ev.bind (f:=fun k t => _) t1 ⟨0,fun k _ => rfl⟩
  ·simp only [if_true]
   unfold impl_turned.f slices_Clone_impl_Tile_impl_Tile.f slices_Clone_int_int.f slices_Reverse_int_int.f
   simp only [if_pos (show l.length < 8796093022208 from by omega),if_pos (show c.length < 17592186044416 from by omega),Option.bind_some]
   rw [w]
   exact Ev.bind (f:=fun k t => _) (Ev.bind (f:=fun k t => _) t2 ⟨0,fun k _ => rfl⟩) ⟨0,fun k _ => rfl⟩
theorem gaps_impl:∀ (rest pre:List Int) (a:Int),(pre ++ rest).length ≤ 2000000 → 0 ≤ a → a ≤ pre.length → Ev (fun k => impl_CountGaps.l0 k a (pre ++ rest) ((pre ++ rest).length:Int) (pre.length:Int)) (a + ((rest.countP fun x => x == -1:Nat):Int),true):=by
 intro rest
 induction rest with
 | nil =>
  intro pre a hl h0 h1
  refine Ev.step (f:=fun _ => some (a + (([] : List Int).countP fun x => x == -1:Nat),true)) (fun k => ?_) (Ev.now _)
  simp only [impl_CountGaps.l0,List.append_nil]
  rw [if_neg (by omega)]
  simp
 | cons x xs ih =>
  intro pre a hl h0 h1
  have hlen:(pre ++ x :: xs).length = pre.length + xs.length + 1:=by simp; omega
  have e1:pre ++ [x] ++ xs = pre ++ x :: xs:=by simp
  by_cases e:x = -1
  ·have hi:=ih (pre ++ [x]) (a + 1) (by simpa using hl) (by omega) (by simp; omega)
   rw [e1] at hi
   refine Ev.step (fun k => ?_) (show Ev _ (a + (((x :: xs).countP fun x => x == -1:Nat):Int),true) from by
    have:((x :: xs).countP fun x => x == -1) = (xs.countP fun x => x == -1) + 1:=by simp [e]
    rw [this,show a + (((xs.countP fun x => x == -1) + 1:Nat):Int) = a + 1 + ((xs.countP fun x => x == -1:Nat):Int) from by omega]
    exact hi)
   have hb:impl_bit.f (x == -1) = some 1:=by simp [impl_bit.f,e]
   simp only [impl_CountGaps.l0]
   rw [if_pos (by omega),if_pos (by omega),if_pos (by omega),i_mid,hb]
   simp only [Option.bind_some]
   rw [t_wrap ((pre.length:Int) + 1) (by omega) (by omega),t_wrap (a + 1) (by omega) (by omega)]
   simp
  ·have hi:=ih (pre ++ [x]) a (by simpa using hl) (by omega) (by simp; omega)
   rw [e1] at hi
   refine Ev.step (fun k => ?_) (show Ev _ (a + (((x :: xs).countP fun x => x == -1:Nat):Int),true) from by
    have:((x :: xs).countP fun x => x == -1) = (xs.countP fun x => x == -1):=by simp [e]
    rw [this]
    exact hi)
   have hb:impl_bit.f (x == -1) = some 0:=by simp [impl_bit.f,e]
   simp only [impl_CountGaps.l0]
   rw [if_pos (by omega),if_pos (by omega),if_pos (by omega),i_mid,hb]
   simp only [Option.bind_some]
   rw [t_wrap ((pre.length:Int) + 1) (by omega) (by omega),t_wrap (a + 0) (by omega) (by omega),Int.add_zero]
   simp
def ndI:List Int → List Int → Bool
 | _,[] => true
 | pre,x :: xs => !decide (x ∈ pre) && ndI (pre ++ [x]) xs
theorem ndI_nodup:∀ (rest pre:List Int),ndI pre rest = true → (∀ x ∈ rest,x ∉ pre) ∧ rest.Nodup:=by
 intro rest
 induction rest with
 | nil => intro pre _; exact ⟨(fun x h => by cases h),List.nodup_nil⟩
 | cons x xs ih =>
  intro pre h
  unfold ndI at h
  simp only [Bool.and_eq_true,Bool.not_eq_true',decide_eq_false_iff_not] at h
  obtain ⟨h1,h2⟩:=ih _ h.2
  refine ⟨fun y hy => ?_,?_⟩
  ·rcases List.mem_cons.1 hy with rfl | hy
   ·exact h.1
   ·exact fun hp => h1 y hy (List.mem_append_left _ hp)
  ·rw [List.nodup_cons]
   exact ⟨fun hx => h1 x hx (by simp),h2⟩
theorem nd_of2:∀ (rest pre:List S67),rest.Nodup → (∀ x ∈ rest,x ∉ pre) → nd pre rest = true:=by
 intro rest
 induction rest with
 | nil => intro pre _ _; rfl
 | cons x xs ih =>
  intro pre h1 h2
  rw [List.nodup_cons] at h1
  unfold nd
  rw [ih (pre ++ [x]) h1.2 (fun y hy => by
   rw [List.mem_append]
   rintro (h | h)
   ·exact h2 y (List.mem_cons_of_mem _ hy) h
   ·rw [List.mem_singleton] at h
    subst h
    exact h1.1 hy)]
  simp [h2 x List.mem_cons_self]
theorem idxI_ev (t:Int):∀ (rest pre:List Int),(pre ++ rest).length ≤ 2000000 → ∃ r:Int,Ev (fun k => slices_Index_int_int.l0 k (pre ++ rest) t ((pre ++ rest).length:Int) (pre.length:Int)) r ∧ decide (r ≥ 0) = decide (t ∈ rest):=by
 intro rest
 induction rest with
 | nil =>
  intro pre hl
  refine ⟨-1,Ev.step (f:=fun _ => some (-1)) (fun k => ?_) (Ev.now _),by simp⟩
  simp only [slices_Index_int_int.l0,List.append_nil]
  rw [if_neg (by omega)]
 | cons x xs ih =>
  intro pre hl
  have hlen:(pre ++ x :: xs).length = pre.length + xs.length + 1:=by simp; omega
  have hget:=i_mid pre x xs
  by_cases e:t = x
  ·refine ⟨(pre.length:Int),Ev.step (f:=fun _ => some (pre.length:Int)) (fun k => ?_) (Ev.now _),by simp [e]⟩
   simp only [slices_Index_int_int.l0]
   rw [if_pos (by omega),if_pos (by omega),if_pos (by omega),hget,if_pos e]
  ·obtain ⟨r,h1,h2⟩:=ih (pre ++ [x]) (by simpa using hl)
   have e1:pre ++ [x] ++ xs = pre ++ x :: xs:=by simp
   rw [e1] at h1
   refine ⟨r,Ev.step (fun k => ?_) h1,by rw [h2]; simp [e]⟩
   simp only [slices_Index_int_int.l0]
   rw [if_pos (by omega),if_pos (by omega),if_pos (by omega),hget,if_neg e,t_wrap ((pre.length:Int) + 1) (by omega) (by omega)]
   simp
theorem containsI_f (t:Int) (l:List Int) (hl:l.length ≤ 2000000):Ev (fun k => slices_Contains_int_int.f k l t) (decide (t ∈ l)):=by
 obtain ⟨r,h1,h2⟩:=idxI_ev t l [] hl
 rw [← h2]
 exact Ev.bind (f:=fun _ t177 => (some (decide (t177 ≥ 0)))) h1 ⟨0,fun k _ => rfl⟩
theorem areDiffI_ev:∀ (rest pre:List Int),(pre ++ rest).length ≤ 2000000 → Ev (fun k => impl_areDifferent_int.l0 k (pre ++ rest) (pre ++ rest) ((pre ++ rest).length:Int) (pre.length:Int)) (ndI pre rest):=by
 intro rest
 induction rest with
 | nil =>
  intro pre hl
  refine Ev.step (f:=fun _ => some true) (fun k => ?_) (Ev.now _)
  simp only [impl_areDifferent_int.l0,List.append_nil]
  rw [if_neg (by omega)]
 | cons x xs ih =>
  intro pre hl
  have hlen:(pre ++ x :: xs).length = pre.length + xs.length + 1:=by simp; omega
  have hget:=i_mid pre x xs
  have htake:(pre ++ x :: xs).take ((pre.length:Int)).toNat = pre:=by simp
  have h1:=containsI_f x pre (by omega)
  have e1:pre ++ [x] ++ xs = pre ++ x :: xs:=by simp
  have hi:=ih (pre ++ [x]) (by simpa using hl)
  rw [e1] at hi
  refine Ev.step (f:=fun k => (slices_Contains_int_int.f k pre x).bind fun t184 => (if t184 = true then (some false) else (impl_areDifferent_int.l0 k (pre ++ x :: xs) (pre ++ x :: xs) ((pre ++ x :: xs).length:Int) (((pre ++ [x]).length:Nat):Int)))) (fun k => ?_) ?_
  ·simp only [impl_areDifferent_int.l0]
   rw [if_pos (by omega),if_pos (by omega),if_pos (by omega),if_pos (by omega),hget,htake,t_wrap ((pre.length:Int) + 1) (by omega) (by omega)]
   simp
  ·refine Ev.bind (f:=fun k t184 => (if t184 = true then (some false) else (impl_areDifferent_int.l0 k (pre ++ x :: xs) (pre ++ x :: xs) ((pre ++ x :: xs).length:Int) (((pre ++ [x]).length:Nat):Int)))) h1 ?_
   by_cases hm:x ∈ pre
   ·refine ⟨0,fun k _ => ?_⟩
    simp [ndI,hm]
   ·refine Ev.congr (fun k => ?_) (show Ev _ (ndI pre (x :: xs)) from by
     have:ndI pre (x :: xs) = ndI (pre ++ [x]) xs:=by simp [ndI,hm]
     rw [this]
     exact hi)
    simp only [hm,decide_false,Bool.false_eq_true,if_false]
theorem hasI_ev (t:Int):∀ (rest pre:List Int),(pre ++ rest).length ≤ 2000000 → Ev (fun k => spec_l1Has.l0 k t (pre ++ rest) ((pre ++ rest).length:Int) (pre.length:Int)) (decide (t ∈ rest)):=by
 intro rest
 induction rest with
 | nil =>
  intro pre hl
  refine Ev.step (f:=fun _ => some (decide (t ∈ ([] : List Int)))) (fun k => ?_) (Ev.now _)
  simp only [spec_l1Has.l0,List.append_nil]
  rw [if_neg (by omega)]
  simp
 | cons x xs ih =>
  intro pre hl
  have hlen:(pre ++ x :: xs).length = pre.length + xs.length + 1:=by simp; omega
  have hget:=i_mid pre x xs
  by_cases e:x = t
  ·refine Ev.step (f:=fun _ => some (decide (t ∈ x :: xs))) (fun k => ?_) (Ev.now _)
   simp only [spec_l1Has.l0]
   rw [if_pos (by omega),if_pos (by omega),if_pos (by omega),hget,if_pos e]
   simp [e]
  ·have hi:=ih (pre ++ [x]) (by simpa using hl)
   have e1:pre ++ [x] ++ xs = pre ++ x :: xs:=by simp
   rw [e1] at hi
   refine Ev.step (fun k => ?_) (show Ev _ (decide (t ∈ x :: xs)) from by
    have:decide (t ∈ x :: xs) = decide (t ∈ xs):=by simp [Ne.symm e]
    rw [this]
    exact hi)
   simp only [spec_l1Has.l0]
   rw [if_pos (by omega),if_pos (by omega),if_pos (by omega),hget,if_neg e,t_wrap ((pre.length:Int) + 1) (by omega) (by omega)]
   simp
theorem hasI_f (t:Int) (l:List Int) (hl:l.length ≤ 2000000):Ev (fun k => spec_l1Has.f k l t) (decide (t ∈ l)):=hasI_ev t l [] hl
def nms (ns:List Int):Bool:=decide ((ns.length:Int) = 10) && (ns.all (inB 0 9) && ndI [] ns)
theorem nms_true (ns:List Int) (h:nms ns = true):ns.length = 10 ∧ (∀ x ∈ ns,0 ≤ x ∧ x ≤ 9) ∧ ns.Nodup:=by
 unfold nms at h
 simp only [Bool.and_eq_true,decide_eq_true_eq] at h
 exact ⟨by omega,fun x hx => (inB_iff _ _ _).1 (List.all_eq_true.1 h.2.1 x hx),(ndI_nodup ns [] h.2.2).2⟩
theorem nms_impl (ns:List Int) (h:ns.length ≤ 2000000):Ev (fun k => impl_areNames.f k ns) (nms ns):=by
 by_cases h1:(ns.length:Int) = 10
 ·by_cases h2:ns.all (inB 0 9) = true
  ·have hi:=areDiffI_ev ns [] h
   refine Ev.congr (f:=fun k => (impl_areDifferent_int.f k ns).bind fun t248 => (some t248)) (fun k => ?_) (Ev.bind (f:=fun _ t => some t) hi ⟨0,fun k _ => ?_⟩)
   ·unfold impl_areNames.f impl_areWithin.f
    rw [if_pos h1,any_out,h2]
    simp only [Option.bind_some,if_true]
   ·simp [nms,h1,h2]
  ·refine ⟨0,fun k _ => ?_⟩
   (try dsimp only)
   unfold impl_areNames.f impl_areWithin.f
   rw [if_pos h1,any_out,Bool.eq_false_iff.2 h2]
   simp [nms,Bool.eq_false_iff.2 h2]
 ·refine ⟨0,fun k _ => ?_⟩
  (try dsimp only)
  unfold impl_areNames.f
  rw [if_neg h1]
  simp [nms,h1]
theorem names_ev (l:List S67) (c ns:List Int) (R:List S67 × List Int × Bool) (hn:ns.length ≤ 1000):∀ (rest pre:List Int),pre ++ rest = ns → (ndI pre rest = true → Ev (fun k => spec_RenamePuzzle.l1 k ns ([] : List S67) l (l.length:Int) 0 l c) R) → (ndI pre rest = false → R = ([],[],false)) →
  Ev (fun k => spec_RenamePuzzle.l0 k ns ns (ns.length:Int) (pre.length:Int) l c) R:=by
 intro rest
 induction rest with
 | nil =>
  intro pre e h1 h2
  refine Ev.step (fun k => ?_) (h1 rfl)
  simp only [spec_RenamePuzzle.l0]
  rw [if_neg (by rw [← e]; simp)]
 | cons x xs ih =>
  intro pre e h1 h2
  have hlen:ns.length = pre.length + xs.length + 1:=by rw [← e]; simp; omega
  have hget:rd ns (pre.length:Int) = x:=by rw [← e]; exact i_mid pre x xs
  have htake:ns.take ((pre.length:Int)).toNat = pre:=by rw [← e]; simp
  refine Ev.step (f:=fun k => (spec_l1Has.f k pre x).bind fun t203 => (if t203 = true then (some (([] : List S67),([] : List Int),false)) else (spec_RenamePuzzle.l0 k ns ns (ns.length:Int) ((pre ++ [x]).length:Int) l c))) (fun k => ?_) (Ev.bind (f:=fun k (t:Bool) => _) (hasI_f x pre (by omega)) ?_)
  ·simp only [spec_RenamePuzzle.l0]
   rw [if_pos (by omega),if_pos (by omega),if_pos (by omega),if_pos (by omega),htake,hget,t_wrap ((pre.length:Int) + 1) (by omega) (by omega)]
   simp
  ·by_cases hm:x ∈ pre
   ·have:=h2 (by simp [ndI,hm])
    subst this
    simp only [hm,decide_true,if_true]
    exact ⟨0,fun k _ => rfl⟩
   ·simp only [hm,decide_false,Bool.false_eq_true,if_false]
    exact ih (pre ++ [x]) (by rw [← e]; simp) (fun h => h1 (by simp [ndI,hm,h])) (fun h => h2 (by simp [ndI,hm,h]))
def ren (ns:List Int) (t:S67):S67:=tileOf (rd ns t.f0) (rd ns t.f1)
theorem tiles_spec (ns:List Int) (hns:ns.length = 10) (l:List S67) (c:List Int) (R:List S67 × List Int × Bool) (hl:l.length ≤ 1000) (hg:∀ x ∈ l,good x = true):∀ (rest pre out:List S67),pre ++ rest = l → out.length ≤ pre.length →
  Ev (fun k => (spec_tiSort.f k (out ++ rest.map (ren ns))).bind fun t213 => (spec_RenamePuzzle.l2 k ns c (c.length:Int) 0 t213 ([] : List Int))) R →
  Ev (fun k => spec_RenamePuzzle.l1 k ns out l (l.length:Int) (pre.length:Int) l c) R:=by
 intro rest
 induction rest with
 | nil =>
  intro pre out e h0 h
  refine Ev.step (fun k => ?_) h
  simp only [spec_RenamePuzzle.l1,List.map_nil,List.append_nil]
  rw [if_neg (by rw [← e]; simp)]
 | cons x xs ih =>
  intro pre out e h0 h
  have hlen:l.length = pre.length + xs.length + 1:=by rw [← e]; simp; omega
  have hget:rd_T67 l (pre.length:Int) = x:=by
   rw [← e]
   unfold rd_T67
   exact t_mid pre x xs _
  have hx:=(good_iff x).1 (hg x (by rw [← e]; simp))
  refine Ev.step (fun k => ?_) (ih (pre ++ [x]) (out ++ [ren ns x]) (by rw [← e]; simp) (by simp; omega) (by simpa using h))
  simp only [spec_RenamePuzzle.l1]
  rw [if_pos (by omega),if_pos (by omega),if_pos (by omega),hget,if_pos (by omega),if_pos (by omega),if_pos (by omega),if_pos (by omega),tiOf_f,t_wrap ((pre.length:Int) + 1) (by omega) (by omega)]
  simp only [Option.bind_some]
  rw [if_pos (by omega)]
  simp [ren]
theorem tiles_impl (ns:List Int) (hns:ns.length = 10) (l s:List S67) (hl:l.length ≤ 1000) (hg:∀ x ∈ l,good x = true):∀ (rest pre out:List S67),pre ++ rest = l → out.length ≤ pre.length →
  impl_sorted.f (out ++ rest.map (ren ns)) = some s →
  Ev (fun k => impl_renamedHand.l0 k ns out l (l.length:Int) (pre.length:Int)) s:=by
 intro rest
 induction rest with
 | nil =>
  intro pre out e h0 h
  refine Ev.step (f:=fun _ => some s) (fun k => ?_) (Ev.now _)
  simp only [List.map_nil,List.append_nil] at h
  simp only [impl_renamedHand.l0]
  rw [if_neg (by rw [← e]; simp),h]
  rfl
 | cons x xs ih =>
  intro pre out e h0 h
  have hlen:l.length = pre.length + xs.length + 1:=by rw [← e]; simp; omega
  have hget:rd_T67 l (pre.length:Int) = x:=by
   rw [← e]
   unfold rd_T67
   exact t_mid pre x xs _
  have hx:=(good_iff x).1 (hg x (by rw [← e]; simp))
  refine Ev.step (fun k => ?_) (ih (pre ++ [x]) (out ++ [ren ns x]) (by rw [← e]; simp) (by simp; omega) (by simpa using h))
  simp only [impl_renamedHand.l0,impl_Tile_renamed.f,impl_tile.f]
  rw [if_pos (by omega),if_pos (by omega),if_pos (by omega),hget,if_pos (by omega),if_pos (by omega),if_pos (by omega),if_pos (by omega),t_wrap ((pre.length:Int) + 1) (by omega) (by omega)]
  simp only [Option.bind_some]
  rw [if_pos (by omega)]
  simp [ren,tileOf]
def cm (ns:List Int) (x:Int):Int:=if x ≥ 0 then rd ns x else x
theorem chain_spec (ns:List Int) (hns:ns.length = 10) (s:List S67) (c:List Int) (hc:c.length ≤ 1000) (h9:∀ x ∈ c,-1 ≤ x ∧ x ≤ 9):∀ (rest pre out:List Int),pre ++ rest = c → out.length ≤ pre.length →
  Ev (fun k => spec_RenamePuzzle.l2 k ns c (c.length:Int) (pre.length:Int) s out) (s,out ++ rest.map (cm ns),true):=by
 intro rest
 induction rest with
 | nil =>
  intro pre out e h0
  refine Ev.step (f:=fun _ => some (s,out ++ ([] : List Int).map (cm ns),true)) (fun k => ?_) (Ev.now _)
  simp only [spec_RenamePuzzle.l2,List.map_nil,List.append_nil]
  rw [if_neg (by rw [← e]; simp)]
 | cons x xs ih =>
  intro pre out e h0
  have hlen:c.length = pre.length + xs.length + 1:=by rw [← e]; simp; omega
  have hget:rd c (pre.length:Int) = x:=by rw [← e]; exact i_mid pre x xs
  have hx:=h9 x (by rw [← e]; simp)
  have hi:=ih (pre ++ [x]) (out ++ [cm ns x]) (by rw [← e]; simp) (by simp; omega)
  refine Ev.step (fun k => ?_) (show Ev _ (s,out ++ (x :: xs).map (cm ns),true) from by
   have e2:out ++ (x :: xs).map (cm ns) = out ++ [cm ns x] ++ xs.map (cm ns):=by simp
   rw [e2]
   exact hi)
  simp only [spec_RenamePuzzle.l2]
  rw [if_pos (by omega),if_pos (by omega),if_pos (by omega),hget,t_wrap ((pre.length:Int) + 1) (by omega) (by omega)]
  by_cases h:x ≥ 0
  ·rw [if_pos h,if_pos (by omega),if_pos (by omega),if_pos (by omega)]
   simp [cm,h]
  ·rw [if_neg h,if_pos (by omega)]
   simp [cm,h]
theorem chain_impl (ns:List Int) (hns:ns.length = 10) (s:List S67):∀ (rest pre:List Int),pre.length + rest.length ≤ 1000 → (∀ x ∈ rest,-1 ≤ x ∧ x ≤ 9) →
  Ev (fun k => impl_RenamePuzzle.l0 k ns (pre ++ rest) ((pre.length + rest.length:Nat):Int) (pre.length:Int) s (pre ++ rest)) (s,pre ++ rest.map (cm ns),true):=by
 intro rest
 induction rest with
 | nil =>
  intro pre h1 _
  refine Ev.step (f:=fun _ => some (s,pre ++ ([] : List Int).map (cm ns),true)) (fun k => ?_) (Ev.now _)
  simp only [impl_RenamePuzzle.l0,List.map_nil,List.append_nil,List.length_nil]
  rw [if_neg (by omega)]
 | cons x xs ih =>
  intro pre h1 h9
  have hl2:(x :: xs).length = xs.length + 1:=rfl
  have hlen:(pre ++ x :: xs).length = pre.length + xs.length + 1:=by simp; omega
  have hget:=i_mid pre x xs
  have hx:=h9 x List.mem_cons_self
  have hi:=ih (pre ++ [cm ns x]) (by simp; omega) (fun y hy => h9 y (List.mem_cons_of_mem _ hy))
  have e2:(pre ++ [cm ns x]).length + xs.length = pre.length + (x :: xs).length:=by simp; omega
  rw [e2] at hi
  refine Ev.step (fun k => ?_) (show Ev _ (s,pre ++ (x :: xs).map (cm ns),true) from by
   have:pre ++ (x :: xs).map (cm ns) = pre ++ [cm ns x] ++ xs.map (cm ns):=by simp
   rw [this]
   exact hi)
  simp only [impl_RenamePuzzle.l0]
  rw [if_pos (by omega),if_pos (by omega),if_pos (by omega),hget,t_wrap ((pre.length:Int) + 1) (by omega) (by omega)]
  by_cases hm:x = -1
  ·rw [if_pos hm]
   simp [cm,hm]
  ·rw [if_neg hm,if_pos (by omega),if_pos (by omega),if_pos (by omega),set_mid]
   simp [cm,show x ≥ 0 from by omega]
theorem rd_inj (ns:List Int) (hn:ns.Nodup) (a b:Int) (ha:0 ≤ a) (ha2:a < ns.length) (hb:0 ≤ b) (hb2:b < ns.length) (e:rd ns a = rd ns b):a = b:=by
 have h1:a.toNat < ns.length:=by omega
 have h2:b.toNat < ns.length:=by omega
 unfold rd at e
 rw [List.getD_eq_getElem?_getD,List.getD_eq_getElem?_getD,List.getElem?_eq_getElem h1,List.getElem?_eq_getElem h2] at e
 have e2:ns[a.toNat] = ns[b.toNat]:=e
 have hp:=List.pairwise_iff_getElem.1 hn
 rcases Nat.lt_trichotomy a.toNat b.toNat with h | h | h
 ·exact absurd e2 (hp _ _ h1 h2 h)
 ·omega
 ·exact absurd e2.symm (hp _ _ h2 h1 h)
theorem rd_in (ns:List Int) (h9:∀ x ∈ ns,0 ≤ x ∧ x ≤ 9) (a:Int) (ha:0 ≤ a) (ha2:a < ns.length):0 ≤ rd ns a ∧ rd ns a ≤ 9:=by
 have h1:a.toNat < ns.length:=by omega
 unfold rd
 rw [List.getD_eq_getElem?_getD,List.getElem?_eq_getElem h1]
 exact h9 _ (List.getElem_mem h1)
theorem ren_hand (ns:List Int) (hns:nms ns = true) (l:List S67) (h:isH l = true):isH (l.map (ren ns)) = true:=by
 obtain ⟨n1,n2,n3⟩:=nms_true ns hns
 obtain ⟨i1,i2,i3⟩:=isH_true l h
 have hg:∀ x ∈ l,0 ≤ x.f0 ∧ x.f0 ≤ x.f1 ∧ x.f1 ≤ 9:=fun x hx => (good_iff x).1 (i2 x hx)
 have hall:(l.map (ren ns)).all good = true:=by
  rw [List.all_eq_true]
  intro y hy
  obtain ⟨x,hx,rfl⟩:=List.mem_map.1 hy
  have hx2:=hg x hx
  have a1:=rd_in ns n2 x.f0 (by omega) (by omega)
  have a2:=rd_in ns n2 x.f1 (by omega) (by omega)
  rw [good_iff]
  unfold ren tileOf mn mx
  (try dsimp only)
  (repeat' split) <;> omega
 have hnd:(l.map (ren ns)).Nodup:=by
  refine List.pairwise_map.2 (List.Pairwise.imp_of_mem (fun {x y} hx hy hne e => hne ?_) i3)
  have hx2:=hg x hx
  have hy2:=hg y hy
  have e0:=congrArg (fun t:S67 => t.f0) e
  have e1:=congrArg (fun t:S67 => t.f1) e
  unfold ren tileOf mn mx at e0 e1
  (try dsimp only at e0 e1)
  have j:∀ a b:Int,0 ≤ a → a ≤ 9 → 0 ≤ b → b ≤ 9 → rd ns a = rd ns b → a = b:=fun a b h1 h2 h3 h4 => rd_inj ns n3 a b h1 (by omega) h3 (by omega)
  have c:(rd ns x.f0 = rd ns y.f0 ∧ rd ns x.f1 = rd ns y.f1) ∨ (rd ns x.f0 = rd ns y.f1 ∧ rd ns x.f1 = rd ns y.f0):=by
   split at e0 <;> split at e0 <;> (repeat' (split at e1)) <;> omega
  rcases c with ⟨c1,c2⟩ | ⟨c1,c2⟩
  ·exact t_ext x y (j _ _ (by omega) (by omega) (by omega) (by omega) c1) (j _ _ (by omega) (by omega) (by omega) (by omega) c2)
  ·have d1:=j _ _ (by omega) (by omega) (by omega) (by omega) c1
   have d2:=j _ _ (by omega) (by omega) (by omega) (by omega) c2
   exact t_ext x y (by omega) (by omega)
 unfold isH
 rw [hall,nd_of2 _ _ hnd (fun x _ h => by cases h)]
 simp [i1]
theorem d_bits (E:Int) (h0:0 ≤ E) (h1:E ≤ 18446744073709551615):0 ≤ Go.bits .and .u64 E 255 ∧ Go.bits .and .u64 E 255 ≤ 255:=by
 have h:=bits_and_u64_nat E.toNat 255 (by omega) (by omega)
 rw [Int.toNat_of_nonneg h0] at h
 have h2:(E.toNat &&& 255) ≤ 255:=Nat.and_le_right
 have h3:Go.bits .and .u64 E 255 = ((E.toNat &&& 255:Nat):Int):=h
 omega
theorem d_w (n:Int) (h : -1000000000 ≤ n) (h':n ≤ 1000000000):wrap64 n = n:=by
 unfold wrap64
 omega
theorem d_rd (l:List Int) (hl:∀ x ∈ l,0 ≤ x ∧ x ≤ 255) (p:Int):0 ≤ rd l p ∧ rd l p ≤ 255:=by
 unfold rd
 rw [List.getD_eq_getElem?_getD]
 by_cases h:p.toNat < l.length
 ·rw [List.getElem?_eq_getElem h]
  exact hl _ (List.getElem_mem _)
 ·rw [List.getElem?_eq_none (by omega)]
  simp
theorem d_next (l:List Int) (hl:∀ x ∈ l,0 ≤ x ∧ x ≤ 255) (p s:Int) (hp:0 ≤ p ∧ p ≤ 1000000):∃ v s',spec_l1Cur_next.f l p s = some (v,p + 1,s') ∧ 0 ≤ v ∧ v ≤ 255:=by
 have h:=d_rd l hl p
 have hb:∀ n:Int,0 ≤ wrap64 (Go.bits .and .u64 (IntKind.u64.wrap n / 1099511627776) 255) ∧ wrap64 (Go.bits .and .u64 (IntKind.u64.wrap n / 1099511627776) 255) ≤ 255:=by
  intro n
  have h:=d_bits (IntKind.u64.wrap n / 1099511627776) (by rw [IntKind.wrap_u64]; omega) (by rw [IntKind.wrap_u64]; omega)
  rw [d_w _ (by omega) (by omega)]
  exact h
 unfold spec_l1Cur_next.f
 rw [d_w (p + 1) (by omega) (by omega)]
 by_cases h1:p < (l.length:Int)
 ·rw [if_pos h1,if_pos hp.1]
  by_cases h2:p + 1 ≤ (l.length:Int)
  ·rw [if_pos h2]
   exact ⟨_,_,rfl,by rw [d_w _ (by omega) (by omega)]; exact h⟩
  ·rw [if_neg h2]
   exact ⟨_,_,rfl,hb _⟩
 ·rw [if_neg h1]
  by_cases h2:p + 1 ≤ (l.length:Int)
  ·rw [if_pos h2]
   exact ⟨_,_,rfl,by omega,by omega⟩
  ·rw [if_neg h2]
   exact ⟨_,_,rfl,hb _⟩
theorem d_pick (l:List Int) (hl:∀ x ∈ l,0 ≤ x ∧ x ≤ 255) (p s:Int) (hp:0 ≤ p ∧ p ≤ 100000) (a:Int) (ha:1 ≤ a):∃ v p' s',spec_l1Cur_pick.f l p s a = some (v,p',s') ∧ 0 ≤ v ∧ v < a ∧ 0 ≤ p' ∧ p' ≤ p + 2:=by
 unfold spec_l1Cur_pick.f
 by_cases h1:a ≤ 1
 ·rw [if_pos h1]
  exact ⟨0,p,s,rfl,by omega,by omega,by omega,by omega⟩
 ·rw [if_neg h1]
  obtain ⟨v,s1,e1,v0,v1⟩:=d_next l hl p s (by omega)
  rw [e1]
  simp only [Option.bind_some]
  by_cases h2:a > 200
  ·rw [if_pos h2]
   obtain ⟨u,s2,e2,u0,u1⟩:=d_next l hl (p + 1) s1 (by omega)
   rw [e2]
   simp only [Option.bind_some]
   rw [if_neg (by omega),d_w (v * 256) (by omega) (by omega),d_w _ (by omega) (by omega)]
   exact ⟨_,_,_,rfl,Int.tmod_nonneg _ (by omega),Int.tmod_lt_of_pos _ (by omega),by omega,by omega⟩
  ·rw [if_neg h2,if_neg (by omega)]
   exact ⟨_,_,_,rfl,Int.tmod_nonneg _ (by omega),Int.tmod_lt_of_pos _ (by omega),by omega,by omega⟩
theorem d_among (l:List Int) (hl:∀ x ∈ l,0 ≤ x ∧ x ≤ 255) (p s:Int) (hp:0 ≤ p ∧ p ≤ 100000) (xs:List Int) (hx:1 ≤ xs.length):∃ v p' s',spec_l1Cur_among.f l p s xs = some (v,p',s') ∧ 0 ≤ p' ∧ p' ≤ p + 2:=by
 unfold spec_l1Cur_among.f
 obtain ⟨v,q,s1,e1,v0,v1,q0,q1⟩:=d_pick l hl p s hp (xs.length:Int) (by omega)
 rw [e1]
 simp only [Option.bind_some]
 rw [if_pos v0,if_pos v1]
 exact ⟨_,_,_,rfl,q0,q1⟩
theorem d_one (l:List Int) (hl:∀ x ∈ l,0 ≤ x ∧ x ≤ 255) (p s:Int) (hp:0 ≤ p ∧ p ≤ 100000) (a:Int) (ha:1 ≤ a):∃ v p' s',spec_l1Cur_one.f l p s a = some (v,p',s') ∧ 0 ≤ p' ∧ p' ≤ p + 2:=by
 unfold spec_l1Cur_one.f
 obtain ⟨v,q,s1,e1,v0,v1,q0,q1⟩:=d_pick l hl p s hp a ha
 rw [e1]
 exact ⟨_,_,_,rfl,q0,q1⟩
theorem ch_one (v:Int) (h:0 ≤ v ∧ v ≤ 9):ch [v] = true:=by
 unfold ch inB
 simp [tilesL,nd,h.1,h.2]
theorem d_sureLoop (l:List Int) (hl:∀ x ∈ l,0 ≤ x ∧ x ≤ 255) (m:Int) (hm:0 ≤ m ∧ m ≤ 9):∀ (n:Nat) (c:List Int) (p s:Int),c.length + n ≤ 100 → ch c = true → 0 ≤ p → p + 2 * n ≤ 100000 →
  ∃ c' p' s',Ev (fun k => spec_l1Cur_sureChain.l0 k m c (n:Int) l p s) (c',p',s') ∧ ch c' = true ∧ c'.length ≤ c.length + n ∧ 0 ≤ p' ∧ p' ≤ p + 2 * n:=by
 intro n
 induction n with
 | zero =>
  intro c p s h1 h2 h3 h4
  refine ⟨c,p,s,Ev.step (f:=fun _ => some (c,p,s)) (fun k => ?_) (Ev.now _),h2,by omega,h3,by omega⟩
  simp only [spec_l1Cur_sureChain.l0]
  rw [if_neg (by omega)]
 | succ n ih =>
  intro c p s h1 h2 h3 h4
  obtain ⟨v,q,s1,e1,v0,v1,q0,q1⟩:=d_pick l hl p s (by omega) (m + 1) (by omega)
  have hg:=ch_spec (c ++ [v]) (by simp; omega)
  have hw:wrap64 (m + 1) = m + 1:=t_wrap _ (by omega) (by omega)
  have hn:((n + 1:Nat):Int) - 1 = (n:Int):=by omega
  have hw2:wrap64 (((n + 1:Nat):Int) - 1) = (n:Int):=by rw [hn]; exact t_wrap _ (by omega) (by omega)
  have st:∀ R,Ev (fun k => (spec_haGood.f k (c ++ [v])).bind fun t163 => (if t163 = true then (spec_l1Cur_sureChain.l0 k m (c ++ [v]) (n:Int) l q s1) else (spec_l1Cur_sureChain.l0 k m c (n:Int) l q s1))) R → Ev (fun k => spec_l1Cur_sureChain.l0 k m c ((n + 1:Nat):Int) l p s) R:=fun R h => by
   refine Ev.step (fun k => ?_) h
   simp only [spec_l1Cur_sureChain.l0]
   rw [if_pos (by omega),own_f c (by omega),hw,e1,hw2]
   simp only [Option.bind_some]
   rw [if_pos (by omega)]
  cases hb:ch (c ++ [v])
  ·rw [hb] at hg
   obtain ⟨c',p',s',g1,g2,g3,g4,g5⟩:=ih c q s1 (by omega) h2 q0 (by omega)
   exact ⟨c',p',s',st _ (Ev.bind (f:=fun k t => _) hg (by simpa using g1)),g2,by omega,g4,by omega⟩
  ·rw [hb] at hg
   obtain ⟨c',p',s',g1,g2,g3,g4,g5⟩:=ih (c ++ [v]) q s1 (by simp; omega) hb q0 (by omega)
   exact ⟨c',p',s',st _ (Ev.bind (f:=fun k t => _) hg (by simpa using g1)),g2,by simp at g3; omega,g4,by omega⟩
theorem d_sureChain (l:List Int) (hl:∀ x ∈ l,0 ≤ x ∧ x ≤ 255) (a m:Int) (ha:0 ≤ a ∧ a ≤ 20) (hm:0 ≤ m ∧ m ≤ 9) (p s:Int) (hp:0 ≤ p ∧ p ≤ 10000) :
  ∃ c' p' s',Ev (fun k => spec_l1Cur_sureChain.f k l p s a m) (c',p',s') ∧ ch c' = true ∧ c'.length ≤ 21 ∧ 0 ≤ p' ∧ p' ≤ p + 44:=by
 obtain ⟨v,q,s1,e1,v0,v1,q0,q1⟩:=d_pick l hl p s (by omega) (m + 1) (by omega)
 obtain ⟨u,q',s2,e2,u0,u1,r0,r1⟩:=d_pick l hl q s1 (by omega) (a + 1) (by omega)
 obtain ⟨c',p',s',g1,g2,g3,g4,g5⟩:=d_sureLoop l hl m hm u.toNat [v] q' s2 (by simp; omega) (ch_one v (by omega)) r0 (by omega)
 refine ⟨c',p',s',?_,g2,by simp at g3; omega,g4,by omega⟩
 unfold spec_l1Cur_sureChain.f
 rw [t_wrap (m + 1) (by omega) (by omega),t_wrap (a + 1) (by omega) (by omega),e1]
 simp only [Option.bind_some]
 rw [e2]
 simp only [Option.bind_some]
 rw [Int.toNat_of_nonneg u0] at g1
 exact g1
theorem d_chain (l:List Int) (hl:∀ x ∈ l,0 ≤ x ∧ x ≤ 255) (a m:Int) (ha:0 ≤ a ∧ a ≤ 20) (hm:0 ≤ m ∧ m ≤ 9) (p s:Int) (hp:0 ≤ p ∧ p ≤ 10000) :
  ∃ c' p' s',Ev (fun k => spec_l1Cur_chain.f k l p s a m) (c',p',s') ∧ c'.length ≤ 100 ∧ 0 ≤ p' ∧ p' ≤ p + 50:=by
 obtain ⟨c,q,s1,g1,g2,g3,g4,g5⟩:=d_sureChain l hl a m ha hm p s hp
 obtain ⟨v,q',s2,e1,v0,v1,q0,q1⟩:=d_pick l hl q s1 (by omega) 14 (by omega)
 have hc0:=(ch_true c g2).1
 unfold spec_l1Cur_chain.f
 by_cases h0:v = 0
 ·obtain ⟨u,q2,s3,e2,r0,r1⟩:=d_among l hl q' s2 (by omega) [(-1),10,4611686018427387904,rd c 0] (by simp)
  refine ⟨c ++ [u],q2,s3,Ev.bind (f:=fun k (b:List Int × Int × Int) => _) g1 ⟨0,fun k _ => ?_⟩,by simp; omega,r0,by omega⟩
  simp only [e1,Option.bind_some]
  rw [if_pos h0,if_pos (by omega),e2]
  simp only [Option.bind_some]
  rw [if_pos (by omega)]
 ·by_cases h1:v = 1
  ·refine ⟨c ++ c,q',s2,Ev.bind (f:=fun k (b:List Int × Int × Int) => _) g1 ⟨0,fun k _ => ?_⟩,by simp; omega,q0,by omega⟩
   simp only [e1,Option.bind_some]
   rw [if_neg h0,if_pos h1,if_pos (by omega)]
  ·by_cases h2:v = 2
   ·refine ⟨[],q',s2,Ev.bind (f:=fun k (b:List Int × Int × Int) => _) g1 ⟨0,fun k _ => ?_⟩,by simp,q0,by omega⟩
    simp only [e1,Option.bind_some]
    rw [if_neg h0,if_neg h1,if_pos h2]
   ·refine ⟨c,q',s2,Ev.bind (f:=fun k (b:List Int × Int × Int) => _) g1 ⟨0,fun k _ => ?_⟩,by omega,q0,by omega⟩
    simp only [e1,Option.bind_some]
    rw [if_neg h0,if_neg h1,if_neg h2]
theorem d_make (l:List Int) (hl:∀ x ∈ l,0 ≤ x ∧ x ≤ 255):∃ c e,Ev (fun k => spec_DrawMakePuzzle.f k l) (c,e) ∧ c.length ≤ 100:=by
 obtain ⟨c,q,s1,g1,g2,g3,g4⟩:=d_chain l hl 9 5 (by omega) (by omega) 0 0 (by omega)
 obtain ⟨v1,q1,t1,e1,_,_,a1,b1⟩:=d_pick l hl q s1 (by omega) 5 (by omega)
 obtain ⟨v2,q2,t2,e2,_,_,a2,b2⟩:=d_pick l hl q1 t1 (by omega) 9 (by omega)
 obtain ⟨v3,q3,t3,e3,_,_,a3,b3⟩:=d_pick l hl q2 t2 (by omega) 9 (by omega)
 refine ⟨c,wrap64 ((wrap64 (v1 - (wrap64 (Int.tdiv v2 8)))) + (wrap64 (4 * (wrap64 (Int.tdiv v3 8))))),?_,g2⟩
 unfold spec_DrawMakePuzzle.f
 refine Ev.bind (f:=fun k (b:List Int × Int × Int) => _) g1 ⟨0,fun k _ => ?_⟩
 simp only [e1,e2,e3,Option.bind_some]
theorem d_sureHandLoop (l:List Int) (hl:∀ x ∈ l,0 ≤ x ∧ x ≤ 255) (m:Int) (hm:0 ≤ m ∧ m ≤ 9):∀ (n:Nat) (c:List S67) (p s:Int),c.length + n ≤ 100 → 0 ≤ p → p + 4 * n ≤ 100000 →
  ∃ c' p' s',Ev (fun k => spec_l1Cur_sureHand.l0 k m c (n:Int) l p s) (c',p',s') ∧ c'.length ≤ c.length + n ∧ 0 ≤ p' ∧ p' ≤ p + 4 * n:=by
 intro n
 induction n with
 | zero =>
  intro c p s h1 h3 h4
  refine ⟨c,p,s,Ev.step (f:=fun _ => some (c,p,s)) (fun k => ?_) (Ev.now _),by omega,h3,by omega⟩
  simp only [spec_l1Cur_sureHand.l0]
  rw [if_neg (by omega)]
 | succ n ih =>
  intro c p s h1 h3 h4
  obtain ⟨v,q,s1,e1,v0,v1,q0,q1⟩:=d_pick l hl p s (by omega) (m + 1) (by omega)
  obtain ⟨u,q',s2,e2,u0,u1,r0,r1⟩:=d_pick l hl q s1 (by omega) (m + 1) (by omega)
  obtain ⟨r,hr,_⟩:=place_f (tileOf v u) c (by omega)
  have hw:wrap64 (m + 1) = m + 1:=t_wrap _ (by omega) (by omega)
  have hn:((n + 1:Nat):Int) - 1 = (n:Int):=by omega
  have hw2:wrap64 (((n + 1:Nat):Int) - 1) = (n:Int):=by rw [hn]; exact t_wrap _ (by omega) (by omega)
  have st:∀ R,Ev (fun k => (spec_tiPlace.f k c (tileOf v u).f0 (tileOf v u).f1).bind fun t351 => (if t351 < 0 then (spec_l1Cur_sureHand.l0 k m (c ++ [tileOf v u]) (n:Int) l q' s2) else (spec_l1Cur_sureHand.l0 k m c (n:Int) l q' s2))) R → Ev (fun k => spec_l1Cur_sureHand.l0 k m c ((n + 1:Nat):Int) l p s) R:=fun R h => by
   refine Ev.step (fun k => ?_) h
   simp only [spec_l1Cur_sureHand.l0]
   rw [if_pos (by omega),hw,e1,hw2]
   simp only [Option.bind_some]
   rw [e2]
   simp only [Option.bind_some,tiOf_f]
   rw [if_pos (show c.length < 8796093022208 from by omega)]
  by_cases hb:r < 0
  ·obtain ⟨c',p',s',g1,g3,g4,g5⟩:=ih (c ++ [tileOf v u]) q' s2 (by simp; omega) r0 (by omega)
   exact ⟨c',p',s',st _ (Ev.bind (f:=fun k t => _) hr (by simpa [hb] using g1)),by simp at g3; omega,g4,by omega⟩
  ·obtain ⟨c',p',s',g1,g3,g4,g5⟩:=ih c q' s2 (by omega) r0 (by omega)
   exact ⟨c',p',s',st _ (Ev.bind (f:=fun k t => _) hr (by simpa [hb] using g1)),by omega,g4,by omega⟩
theorem d_sureHand (l:List Int) (hl:∀ x ∈ l,0 ≤ x ∧ x ≤ 255) (a m:Int) (ha:0 ≤ a ∧ a ≤ 20) (hm:0 ≤ m ∧ m ≤ 9) (p s:Int) (hp:0 ≤ p ∧ p ≤ 10000) :
  ∃ c' p' s',Ev (fun k => spec_l1Cur_sureHand.f k l p s a m) (c',p',s') ∧ c'.length ≤ 20 ∧ 0 ≤ p' ∧ p' ≤ p + 90:=by
 obtain ⟨u,q',s2,e2,u0,u1,r0,r1⟩:=d_pick l hl p s (by omega) (a + 1) (by omega)
 obtain ⟨c',p',s',g1,g3,g4,g5⟩:=d_sureHandLoop l hl m hm u.toNat [] q' s2 (by simp; omega) r0 (by omega)
 refine ⟨c',p',s',?_,by simp at g3; omega,g4,by omega⟩
 unfold spec_l1Cur_sureHand.f
 rw [t_wrap (a + 1) (by omega) (by omega),e2]
 simp only [Option.bind_some]
 rw [Int.toNat_of_nonneg u0] at g1
 exact g1
theorem d_tile (l:List Int) (hl:∀ x ∈ l,0 ≤ x ∧ x ≤ 255) (p s:Int) (hp:0 ≤ p ∧ p ≤ 10000):∃ x y p' s',spec_l1Cur_tile.f l p s = some (x,y,p',s') ∧ 0 ≤ p' ∧ p' ≤ p + 6:=by
 unfold spec_l1Cur_tile.f
 obtain ⟨b,q,s1,e1,q0,q1⟩:=d_one l hl p s (by omega) 10 (by omega)
 rw [e1]
 simp only [Option.bind_some]
 cases b
 ·obtain ⟨v,q2,s2,e2,_,_,a2,b2⟩:=d_pick l hl q s1 (by omega) 10 (by omega)
  obtain ⟨u,q3,s3,e3,_,_,a3,b3⟩:=d_pick l hl q2 s2 (by omega) 10 (by omega)
  simp only [Bool.false_eq_true,if_false,e2,Option.bind_some,e3,tiOf_f]
  exact ⟨_,_,_,_,rfl,a3,by omega⟩
 ·obtain ⟨v,q2,s2,e2,a2,b2⟩:=d_among l hl q s1 (by omega) [(-1),3,9,10] (by simp)
  obtain ⟨u,q3,s3,e3,a3,b3⟩:=d_among l hl q2 s2 (by omega) [2,9,10,4611686018427387904] (by simp)
  simp only [if_true,e2,Option.bind_some,e3]
  exact ⟨_,_,_,_,rfl,a3,by omega⟩
theorem d_sets:∀ n:Fin 10,((spec_tiSet.f 100 ((n.val:Nat):Int)).map fun A => decide (A.length ≤ 60)) = some true:=by decide +kernel
theorem d_set (v:Int) (h0:0 ≤ v) (h1:v < 10):∃ A:List S67,Ev (fun k => spec_tiSet.f k v) A ∧ A.length ≤ 60:=by
 have h:=d_sets ⟨v.toNat,by omega⟩
 simp only [Int.toNat_of_nonneg h0] at h
 obtain ⟨A,hA,hd⟩:=Option.map_eq_some_iff.1 h
 exact ⟨A,Ev.of (fun k => spec_tiSet.mono _ k) hA,of_decide_eq_true hd⟩
theorem d_hand (l:List Int) (hl:∀ x ∈ l,0 ≤ x ∧ x ≤ 255) (a m:Int) (ha:0 ≤ a ∧ a ≤ 20) (hm:0 ≤ m ∧ m ≤ 9) (p s:Int) (hp:0 ≤ p ∧ p ≤ 9000) :
  ∃ c' p' s',Ev (fun k => spec_l1Cur_hand.f k l p s a m) (c',p',s') ∧ c'.length ≤ 100 ∧ 0 ≤ p' ∧ p' ≤ p + 100:=by
 obtain ⟨c,q,s1,g1,g3,g4,g5⟩:=d_sureHand l hl a m ha hm p s (by omega)
 obtain ⟨v,q',s2,e1,v0,v1,q0,q1⟩:=d_pick l hl q s1 (by omega) 18 (by omega)
 unfold spec_l1Cur_hand.f
 by_cases h0:v = 0
 ·obtain ⟨x,y,q2,s3,e2,r0,r1⟩:=d_tile l hl q' s2 (by omega)
  refine ⟨c ++ [⟨x,y⟩],q2,s3,Ev.bind (f:=fun k (b:List S67 × Int × Int) => _) g1 ⟨0,fun k _ => ?_⟩,by simp; omega,r0,by omega⟩
  simp only [e1,Option.bind_some]
  rw [if_pos h0,e2]
  simp only [Option.bind_some]
  rw [if_pos (by omega)]
 ·by_cases h1:v = 1
  ·by_cases hc:(c.length:Int) > 0
   ·refine ⟨c ++ [⟨(rd_T67 c 0).f0,(rd_T67 c 0).f1⟩],q',s2,Ev.bind (f:=fun k (b:List S67 × Int × Int) => _) g1 ⟨0,fun k _ => ?_⟩,by simp; omega,q0,by omega⟩
    simp only [e1,Option.bind_some]
    rw [if_neg h0,if_pos h1,if_pos hc,if_pos (by omega),if_pos (by omega)]
   ·refine ⟨c,q',s2,Ev.bind (f:=fun k (b:List S67 × Int × Int) => _) g1 ⟨0,fun k _ => ?_⟩,by omega,q0,by omega⟩
    simp only [e1,Option.bind_some]
    rw [if_neg h0,if_pos h1,if_neg hc]
  ·by_cases h2:v = 2
   ·obtain ⟨u,q3,s3,e3,u0,u1,a3,b3⟩:=d_pick l hl q' s2 (by omega) 10 (by omega)
    obtain ⟨A,hA,hA2⟩:=d_set u u0 u1
    refine ⟨A,q3,s3,Ev.bind (f:=fun k (b:List S67 × Int × Int) => _) g1 ?_,by omega,a3,by omega⟩
    simp only [e1,Option.bind_some,if_neg h0,if_neg h1,if_pos h2,e3]
    exact Ev.bind (f:=fun k (t:List S67) => _) hA ⟨0,fun k _ => rfl⟩
   ·by_cases h3:v = 3
    ·obtain ⟨A,hA,hA2⟩:=d_set 9 (by omega) (by omega)
     refine ⟨A ++ [⟨0,0⟩],q',s2,Ev.bind (f:=fun k (b:List S67 × Int × Int) => _) g1 ?_,by simp; omega,q0,by omega⟩
     simp only [e1,Option.bind_some,if_neg h0,if_neg h1,if_neg h2,if_pos h3]
     exact Ev.bind (f:=fun k (t:List S67) => _) hA ⟨0,fun k _ => by rw [if_pos (by omega)]⟩
    ·refine ⟨c,q',s2,Ev.bind (f:=fun k (b:List S67 × Int × Int) => _) g1 ⟨0,fun k _ => ?_⟩,by omega,q0,by omega⟩
     simp only [e1,Option.bind_some]
     rw [if_neg h0,if_neg h1,if_neg h2,if_neg h3]
theorem d_surePuzzleLoop (l:List Int) (hl:∀ x ∈ l,0 ≤ x ∧ x ≤ 255) (h:List S67):∀ (rest pre o:List Int) (p s:Int),(pre ++ rest).length ≤ 100 → o.length ≤ pre.length → 0 ≤ p → p + 2 * rest.length ≤ 50000 →
  ∃ c' p' s',Ev (fun k => spec_l1Cur_surePuzzle.l0 k (pre ++ rest) ((pre ++ rest).length:Int) (pre.length:Int) l p s h o) (h,c',p',s') ∧ c'.length = o.length + rest.length ∧ 0 ≤ p' ∧ p' ≤ p + 2 * rest.length:=by
 intro rest
 induction rest with
 | nil =>
  intro pre o p s h1 h2 h3 h4
  refine ⟨o,p,s,Ev.step (f:=fun _ => some (h,o,p,s)) (fun k => ?_) (Ev.now _),by simp,h3,by simp⟩
  simp only [spec_l1Cur_surePuzzle.l0,List.append_nil]
  rw [if_neg (by omega)]
 | cons x xs ih =>
  intro pre o p s h1 h2 h3 h4
  have hlen:(pre ++ x :: xs).length = pre.length + xs.length + 1:=by simp; omega
  have e1:pre ++ [x] ++ xs = pre ++ x :: xs:=by simp
  have hx:(x :: xs).length = xs.length + 1:=rfl
  obtain ⟨b,q,s1,eb,q0,q1⟩:=d_one l hl p s (by omega) 2 (by omega)
  have hw:wrap64 ((pre.length:Int) + 1) = ((pre ++ [x]).length:Int):=by rw [t_wrap _ (by omega) (by omega)]; simp
  cases b
  ·obtain ⟨c',p',s',g1,g2,g3,g4⟩:=ih (pre ++ [x]) (o ++ [x]) q s1 (by rw [e1]; omega) (by simp; omega) q0 (by omega)
   rw [e1] at g1
   refine ⟨c',p',s',Ev.step (fun k => ?_) g1,by simp at g2; omega,g3,by omega⟩
   simp only [spec_l1Cur_surePuzzle.l0]
   rw [if_pos (by omega),if_pos (by omega),if_pos (by omega),eb]
   simp only [Option.bind_some,Bool.false_eq_true,if_false]
   rw [if_pos (by omega),i_mid,hw]
  ·obtain ⟨c',p',s',g1,g2,g3,g4⟩:=ih (pre ++ [x]) (o ++ [-1]) q s1 (by rw [e1]; omega) (by simp; omega) q0 (by omega)
   rw [e1] at g1
   refine ⟨c',p',s',Ev.step (fun k => ?_) g1,by simp at g2; omega,g3,by omega⟩
   simp only [spec_l1Cur_surePuzzle.l0]
   rw [if_pos (by omega),if_pos (by omega),if_pos (by omega),eb]
   simp only [Option.bind_some,if_true]
   rw [if_pos (by omega),hw]
theorem d_surePuzzle (l:List Int) (hl:∀ x ∈ l,0 ≤ x ∧ x ≤ 255) (a m:Int) (ha:0 ≤ a ∧ a ≤ 20) (hm:0 ≤ m ∧ m ≤ 9) (p s:Int) (hp:0 ≤ p ∧ p ≤ 9000) :
  ∃ h c' p' s',Ev (fun k => spec_l1Cur_surePuzzle.f k l p s a m) (h,c',p',s') ∧ h.length ≤ 21 ∧ 2 ≤ c'.length ∧ c'.length ≤ 21 ∧ 0 ≤ p' ∧ p' ≤ p + 100:=by
 obtain ⟨c,q,s1,g1,g2,g3,g4,g5⟩:=d_sureChain l hl a m ha hm p s (by omega)
 have go:∀ c:List Int,ch c = true → 2 ≤ c.length → c.length ≤ 21 → ∃ h c' p' s',Ev (fun k => spec_l1Cur_surePuzzle.j0 k c l q s1) (h,c',p',s') ∧ h.length ≤ 21 ∧ 2 ≤ c'.length ∧ c'.length ≤ 21 ∧ 0 ≤ p' ∧ p' ≤ p + 100:=by
  intro c k1 k2 k3
  obtain ⟨_,_,_,hH⟩:=ch_true c k1
  obtain ⟨h,t1,_,t3⟩:=sorted_both (tilesL c) hH
  obtain ⟨c',p',s',w1,w2,w3,w4⟩:=d_surePuzzleLoop l hl h c [] [] q s1 (by simp; omega) (by simp) g4 (by omega)
  simp only [List.nil_append,List.length_nil] at w1
  refine ⟨h,c',p',s',?_,by rw [t3,tilesL_len]; omega,by simp at w2; omega,by simp at w2; omega,w3,by omega⟩
  refine Ev.step (f:=fun k => (spec_haTiles.f k c).bind fun t322 => ((spec_tiSort.f k t322).bind fun t325 => (spec_l1Cur_surePuzzle.l0 k c (c.length:Int) 0 l q s1 t325 ([] : List Int)))) (fun k => by simp only [spec_l1Cur_surePuzzle.j0]) ?_
  exact Ev.bind (f:=fun k t => _) (haTiles_f c (by omega)).1 (Ev.bind (f:=fun k t => _) t1 w1)
 unfold spec_l1Cur_surePuzzle.f
 by_cases h2:(c.length:Int) < 2
 ·obtain ⟨h,c',p',s',w1,w⟩:=go [0,1] (by decide) (by simp) (by simp)
  exact ⟨h,c',p',s',Ev.bind (f:=fun k (b:List Int × Int × Int) => _) g1 (by simpa only [if_pos h2] using w1),w⟩
 ·obtain ⟨h,c',p',s',w1,w⟩:=go c g2 (by omega) g3
  exact ⟨h,c',p',s',Ev.bind (f:=fun k (b:List Int × Int × Int) => _) g1 (by simpa only [if_neg h2] using w1),w⟩
theorem d_puzzle (l:List Int) (hl:∀ x ∈ l,0 ≤ x ∧ x ≤ 255):∃ h c' p' s',Ev (fun k => spec_l1Cur_puzzle.f k l 0 0) (h,c',p',s') ∧ h.length ≤ 100 ∧ c'.length ≤ 100 ∧ 0 ≤ p' ∧ p' ≤ 1000:=by
 obtain ⟨h,c,q,s1,g1,g2,g3,g4,g5,g6⟩:=d_surePuzzle l hl 7 4 (by omega) (by omega) 0 0 (by omega)
 obtain ⟨v,q',s2,e1,v0,v1,q0,q1⟩:=d_pick l hl q s1 (by omega) 14 (by omega)
 unfold spec_l1Cur_puzzle.f
 by_cases h0:v = 0
 ·obtain ⟨u,q2,s3,e2,u0,u1,a2,b2⟩:=d_pick l hl q' s2 (by omega) (c.length:Int) (by omega)
  obtain ⟨z,q3,s4,e3,a3,b3⟩:=d_among l hl q2 s3 (by omega) [(-2),10,0,9] (by simp)
  refine ⟨h,c.set u.toNat z,q3,s4,Ev.bind (f:=fun k (b:List S67 × List Int × Int × Int) => _) g1 ⟨0,fun k _ => ?_⟩,by omega,by simp; omega,a3,by omega⟩
  simp only [e1,Option.bind_some]
  rw [if_pos h0,e2]
  simp only [Option.bind_some]
  rw [e3]
  simp only [Option.bind_some]
  rw [if_pos u0,if_pos u1]
 ·by_cases h1:v = 1
  ·refine ⟨h,c.drop (1:Int).toNat,q',s2,Ev.bind (f:=fun k (b:List S67 × List Int × Int × Int) => _) g1 ⟨0,fun k _ => ?_⟩,by omega,by simp; omega,q0,by omega⟩
   simp only [e1,Option.bind_some]
   rw [if_neg h0,if_pos h1,if_pos (by omega)]
  ·by_cases h2:v = 2
   ·by_cases hc:(h.length:Int) > 1
    ·refine ⟨((h.set (0:Int).toNat (⟨(rd_T67 h 1).f0,(rd_T67 h 1).f1⟩ : S67)).set (1:Int).toNat (⟨(rd_T67 h 0).f0,(rd_T67 h 0).f1⟩ : S67)),c,q',s2,Ev.bind (f:=fun k (b:List S67 × List Int × Int × Int) => _) g1 ⟨0,fun k _ => ?_⟩,?_,by omega,q0,by omega⟩
     ·simp only [e1,Option.bind_some]
      rw [if_neg h0,if_neg h1,if_pos h2,if_pos hc,if_pos (by omega),if_pos (by omega)]
     ·simp; omega
    ·refine ⟨h,c,q',s2,Ev.bind (f:=fun k (b:List S67 × List Int × Int × Int) => _) g1 ⟨0,fun k _ => ?_⟩,by omega,by omega,q0,by omega⟩
     simp only [e1,Option.bind_some]
     rw [if_neg h0,if_neg h1,if_pos h2,if_neg hc]
   ·by_cases h3:v = 3
    ·obtain ⟨A,q3,s3,hA,hA2,a3,b3⟩:=d_hand l hl 10 5 (by omega) (by omega) q' s2 (by omega)
     refine ⟨A,c,q3,s3,Ev.bind (f:=fun k (b:List S67 × List Int × Int × Int) => _) g1 ?_,hA2,by omega,a3,by omega⟩
     simp only [e1,Option.bind_some,if_neg h0,if_neg h1,if_neg h2,if_pos h3]
     exact Ev.bind (f:=fun k (t:List S67 × Int × Int) => _) hA ⟨0,fun k _ => rfl⟩
    ·refine ⟨h,c,q',s2,Ev.bind (f:=fun k (b:List S67 × List Int × Int × Int) => _) g1 ⟨0,fun k _ => ?_⟩,by omega,by omega,q0,by omega⟩
     simp only [e1,Option.bind_some]
     rw [if_neg h0,if_neg h1,if_neg h2,if_neg h3]
theorem rd_set (c:List Int) (i j:Nat) (v:Int):rd (c.set i v) (j:Int) = if i = j ∧ i < c.length then v else rd c (j:Int):=by
 unfold rd
 simp only [Int.toNat_natCast,List.getD_eq_getElem?_getD,List.getElem?_set]
 by_cases h:i = j
 ·subst h
  by_cases h2:i < c.length
  ·simp [h2]
  ·simp [h2]
 ·simp [h]
theorem rd_cons0 (x:Int) (xs:List Int):rd (x :: xs) ((0:Nat):Int) = x:=rfl
theorem rd_consS (x:Int) (xs:List Int) (j:Nat):rd (x :: xs) ((j + 1:Nat):Int) = rd xs (j:Int):=by
 unfold rd
 simp only [Int.toNat_natCast,List.getD_eq_getElem?_getD,List.getElem?_cons_succ]
def mo (c d:List Int):Prop:=∀ j:Nat,rd c (j:Int) = -1 ∨ rd c (j:Int) = rd d (j:Int)
theorem mo_refl (c:List Int):mo c c:=fun _ => .inr rfl
theorem mo_trans {a b c:List Int} (h:mo a b) (k:mo b c):mo a c:=fun j => by
 rcases h j with h | h
 ·exact .inl h
 ·rcases k j with k | k
  ·exact .inl (h.trans k)
  ·exact .inr (h.trans k)
theorem mo_set (c:List Int) (i:Nat):mo (c.set i (-1)) c:=fun j => by
 rw [rd_set]
 by_cases h:i = j ∧ i < c.length
 ·rw [if_pos h]; exact .inl rfl
 ·rw [if_neg h]; exact .inr rfl
theorem mo_set2 {c d:List Int} (h:mo c d) (hl:c.length = d.length) (i:Nat):mo (c.set i (-1)) (d.set i (-1)):=fun j => by
 rw [rd_set,rd_set,hl]
 by_cases e:i = j ∧ i < d.length
 ·rw [if_pos e]; exact .inl rfl
 ·rw [if_neg e,if_neg e]; exact h j
theorem mo_fit {c d:List Int} (h:mo c d) (i:Nat) (n:Int) (k:fit d i n = true):fit c i n = true:=by
 unfold fit at *
 simp only [decide_eq_true_eq] at *
 rcases h i with h | h
 ·exact .inl h
 ·rw [h]; exact k
theorem mo_count:∀ (c d:List Int),c.length = d.length → mo c d → (d.countP fun x => x == -1) ≤ (c.countP fun x => x == -1)
 | [],[],_,_ => Nat.le_refl _
 | x :: xs,y :: ys,hl,h => by
  have ih:=mo_count xs ys (by simpa using hl) (fun j => by have:=h (j + 1); rwa [rd_consS,rd_consS] at this)
  have h0:=h 0
  rw [rd_cons0,rd_cons0] at h0
  rw [List.countP_cons,List.countP_cons]
  rcases h0 with h0 | h0
  ·subst h0
   simp only [beq_self_eq_true,if_true]
   split <;> omega
  ·subst h0
   omega
theorem flat_sub {α β:Type} (f g:α → List β) (h:∀ x,(f x).Sublist (g x)):∀ l:List α,(l.flatMap f).Sublist (l.flatMap g)
 | [] => List.Sublist.refl _
 | x :: xs => by
  simp only [List.flatMap_cons]
  exact (h x).append (flat_sub f g h xs)
theorem srch_sub {c d:List Int} (h:mo c d):∀ (k:Nat) (p:List Int) (l:List S67),(srch d k p l).Sublist (srch c k p l)
 | 0,_,_ => List.Sublist.refl _
 | k + 1,p,l => by
  unfold srch
  by_cases e:l = []
  ·rw [if_pos e,if_pos e]; exact List.Sublist.refl _
  ·rw [if_neg e,if_neg e]
   refine flat_sub _ _ (fun n => ?_) _
   by_cases g:fit d p.length n = true ∧ sOf (last_ p) n ∈ l
   ·rw [if_pos g,if_pos ⟨mo_fit h _ _ g.1,g.2⟩]
    exact srch_sub h k _ _
   ·rw [if_neg g]
    exact List.nil_sublist _
theorem sols_sub {c d:List Int} (h:mo c d) (l:List S67):(sols d l).Sublist (sols c l):=by
 unfold sols
 refine flat_sub _ _ (fun n => ?_) _
 by_cases g:fit d 0 n = true
 ·rw [if_pos g,if_pos (mo_fit h _ _ g)]
  exact srch_sub h _ _ _
 ·rw [if_neg g]
  exact List.nil_sublist _
def grd (l:List S67):Nat → Nat → List Int → List Int
 | 0,_,c => c
 | d + 1,i,c => if (sols (c.set i (-1)) l).length = 1 then grd l d (i + 1) (c.set i (-1)) else grd l d (i + 1) c
theorem grd_len (l:List S67):∀ (d i:Nat) (c:List Int),(grd l d i c).length = c.length
 | 0,_,_ => rfl
 | d + 1,i,c => by
  unfold grd
  split
  ·rw [grd_len l d,List.length_set]
  ·rw [grd_len l d]
theorem grd_mo (l:List S67):∀ (d i:Nat) (c:List Int),mo (grd l d i c) c
 | 0,_,_ => mo_refl _
 | d + 1,i,c => by
  unfold grd
  split
  ·exact mo_trans (grd_mo l d _ _) (mo_set c i)
  ·exact grd_mo l d _ _
theorem grd_one (l:List S67):∀ (d i:Nat) (c:List Int),(sols c l).length = 1 → (sols (grd l d i c) l).length = 1
 | 0,_,_,h => h
 | d + 1,i,c,h => by
  unfold grd
  split
  ·rename_i g
   exact grd_one l d _ _ g
  ·exact grd_one l d _ _ h
theorem grd_two (l:List S67):∀ (d i:Nat) (c:List Int),(sols c l).length = 1 → ∀ j,i ≤ j → j < i + d → j < c.length → rd (grd l d i c) (j:Int) ≠ -1 → 2 ≤ (sols ((grd l d i c).set j (-1)) l).length
 | 0,i,c,h,j,h1,h2,_,_ => by omega
 | d + 1,i,c,h,j,h1,h2,h3,h4 => by
  unfold grd at h4 ⊢
  split at h4
  ·rename_i g
   rw [if_pos g]
   by_cases e:i = j
   ·subst e
    exfalso
    rcases grd_mo l d (i + 1) (c.set i (-1)) i with m | m
    ·exact h4 m
    ·rw [rd_set,if_pos ⟨rfl,h3⟩] at m
     exact h4 m
   ·exact grd_two l d (i + 1) _ g j (by omega) (by omega) (by rw [List.length_set]; exact h3) h4
  ·rename_i g
   rw [if_neg g]
   by_cases e:i = j
   ·subst e
    have a:=(sols_sub (mo_set c i) l).length_le
    have b:=(sols_sub (mo_set2 (grd_mo l d (i + 1) c) (grd_len l d (i + 1) c) i) l).length_le
    omega
   ·exact grd_two l d (i + 1) c h j (by omega) (by omega) h3 h4
theorem harder_grd (l:List S67) (hr:row l) (h0:l ≠ []) (hl9:l.length ≤ 9):∀ (d i:Nat) (c:List Int),i + d = c.length → c.length = l.length + 1 → (∀ x ∈ c,-1 ≤ x) →
  Ev (fun k => spec_HarderPuzzle.l0 k (c.length:Int) (i:Int) l c) (l,grd l d i c,true) ∧ Ev (fun k => impl_HarderPuzzle.l0 k (c.length:Int) (i:Int) l c) (l,grd l d i c,true):=by
 intro d
 induction d with
 | zero =>
  intro i c hi hlc hc9
  refine ⟨Ev.step (f:=fun _ => some (l,c,true)) (fun k => ?_) (Ev.now _),Ev.step (f:=fun _ => some (l,c,true)) (fun k => ?_) (Ev.now _)⟩
  ·simp only [spec_HarderPuzzle.l0]
   rw [if_neg (by omega)]
  ·simp only [impl_HarderPuzzle.l0]
   rw [if_neg (by omega)]
 | succ d ih =>
  intro i c hi hlc hc9
  have hw:=t_wrap ((i:Int) + 1) (by omega) (by omega)
  obtain ⟨w1,w2⟩:=with_both l c (i:Int) (-1) (by omega) (by omega) (by omega) (by omega)
  rw [show ((i:Int)).toNat = i from rfl] at w1 w2
  have hset9:∀ x ∈ c.set i (-1),-1 ≤ x:=fun x hx => by
   rcases List.mem_or_eq_of_mem_set hx with h | h
   ·exact hc9 x h
   ·omega
  obtain ⟨o,b,g1,g2,g3⟩:=single_both l (c.set i (-1)) hr h0 (by simp; omega) hset9
  have hs:∀ R,Ev (fun k => (spec_pzAll.f k l (c.set i (-1))).bind fun bt255 => (if bt255.2 = true then (if (bt255.1.length:Int) = 1 then (spec_HarderPuzzle.l0 k (c.length:Int) ((i:Int) + 1) l (c.set i (-1))) else (spec_HarderPuzzle.l0 k (c.length:Int) ((i:Int) + 1) l c)) else (spec_HarderPuzzle.l0 k (c.length:Int) ((i:Int) + 1) l c))) R → Ev (fun k => spec_HarderPuzzle.l0 k (c.length:Int) (i:Int) l c) R:=fun R h => by
   refine Ev.step (fun k => ?_) h
   simp only [spec_HarderPuzzle.l0]
   rw [if_pos (by omega),w1,hw]
   rfl
  have hm:∀ R,Ev (fun k => (impl_Puzzle_isSingle.f k l (c.set i (-1))).bind fun t313 => (if t313 = true then (impl_HarderPuzzle.l0 k (c.length:Int) ((i:Int) + 1) l (c.set i (-1))) else (impl_HarderPuzzle.l0 k (c.length:Int) ((i:Int) + 1) l c))) R → Ev (fun k => impl_HarderPuzzle.l0 k (c.length:Int) (i:Int) l c) R:=fun R h => by
   refine Ev.step (fun k => ?_) h
   simp only [impl_HarderPuzzle.l0]
   rw [if_pos (by omega),w2,hw]
   rfl
  by_cases hone:(sols (c.set i (-1)) l).length = 1
  ·obtain ⟨hb,ho⟩:=g2.2 hone
   obtain ⟨q1,q2⟩:=ih (i + 1) (c.set i (-1)) (by simp; omega) (by simp; omega) hset9
   rw [List.length_set] at q1 q2
   have hgr:grd l (d + 1) i c = grd l d (i + 1) (c.set i (-1)):=by rw [grd,if_pos hone]
   rw [hgr]
   refine ⟨hs _ (Ev.bind (f:=fun k (bt:List (List Int) × Bool) => _) g1 (Ev.congr (fun k => ?_) q1)),hm _ (Ev.bind (f:=fun k (t:Bool) => _) g3 (Ev.congr (fun k => ?_) q2))⟩
   ·(try dsimp only)
    rw [if_pos hb,if_pos (by omega)]
    rfl
   ·(try dsimp only)
    rw [if_pos (decide_eq_true hone)]
    rfl
  ·obtain ⟨q1,q2⟩:=ih (i + 1) c (by omega) hlc hc9
   have hgr:grd l (d + 1) i c = grd l d (i + 1) c:=by rw [grd,if_neg hone]
   rw [hgr]
   refine ⟨hs _ (Ev.bind (f:=fun k (bt:List (List Int) × Bool) => _) g1 (Ev.congr (fun k => ?_) q1)),hm _ (Ev.bind (f:=fun k (t:Bool) => _) g3 (Ev.congr (fun k => ?_) q2))⟩
   ·(try dsimp only)
    cases b with
    | false =>
     rw [if_neg (by simp)]
     rfl
    | true =>
     have:¬ o.length = 1:=fun h => hone (g2.1 ⟨rfl,h⟩)
     rw [if_pos rfl,if_neg (by omega)]
     rfl
   ·(try dsimp only)
    rw [if_neg (by rw [decide_eq_true_eq]; exact hone)]
    rfl
def hardP (l:List S67) (c:List Int):List S67 × List Int × Bool:=if pz l c = true ∧ (sols c l).length = 1 then (l,grd l c.length 0 c,true) else ([],[],false)
theorem hard_both (l:List S67) (c:List Int) (hl:l.length ≤ 2000000) (hc:c.length ≤ 2000000):Ev (fun k => spec_HarderPuzzle.f k l c) (hardP l c) ∧ Ev (fun k => impl_HarderPuzzle.f k l c) (hardP l c):=by
 have h1:=pz_spec l c hl hc
 have h2:=pz_impl l c hl
 unfold spec_HarderPuzzle.f impl_HarderPuzzle.f spec_pzAsked.f hardP
 cases hp:pz l c
 ·rw [hp] at h1 h2
  rw [if_neg (by simp)]
  refine ⟨Ev.bind (f:=fun k (bt:List (List Int) × Bool) => _) (Ev.bind (f:=fun k (t:Bool) => _) h1 (⟨0,fun k _ => rfl⟩ : Ev (fun k => (if false = true then ((spec_pzAll.f k l c).bind fun bt215 => (some (bt215.1,bt215.2))) else (some (([] : List (List Int)),false)))) ([],false))) ?_,Ev.bind (f:=fun k (t:Bool) => _) h2 ?_⟩
  ·refine Ev.step (f:=fun _ => some ([],[],false)) (fun k => ?_) (Ev.now _)
   simp [spec_HarderPuzzle.j0]
  ·refine Ev.step (f:=fun _ => some ([],[],false)) (fun k => ?_) (Ev.now _)
   simp [impl_HarderPuzzle.j0]
 ·rw [hp] at h1 h2
  obtain ⟨p1,p2,p3,p4,p5,p6⟩:=pz_true l c hp
  have hrow:=row_of p3 p6
  have hne:l ≠ []:=fun e => by rw [e] at p1; simp at p1
  have hc9:∀ x ∈ c,-1 ≤ x:=fun x hx => (p5 x hx).1
  obtain ⟨o,b,g1,g2,g3⟩:=single_both l c hrow hne p4 hc9
  have ha:Ev (fun k => (spec_pzGood.f k l c).bind fun t214 => (if t214 = true then ((spec_pzAll.f k l c).bind fun bt215 => (some (bt215.1,bt215.2))) else (some (([] : List (List Int)),false)))) (o,b):=by
   refine Ev.bind (f:=fun k (t:Bool) => _) h1 ?_
   simpa using Ev.bind (f:=fun _ (bt215:List (List Int) × Bool) => some (bt215.1,bt215.2)) g1 ⟨0,fun k _ => rfl⟩
  by_cases hone:(sols c l).length = 1
  ·rw [if_pos ⟨rfl,hone⟩]
   obtain ⟨hb,ho⟩:=g2.2 hone
   subst hb
   obtain ⟨q1,q2⟩:=harder_grd l hrow hne p2 c.length 0 c (by omega) p4 hc9
   refine ⟨Ev.bind (f:=fun k (bt:List (List Int) × Bool) => _) ha ?_,Ev.bind (f:=fun k (t:Bool) => _) h2 ?_⟩
   ·simp only [if_true]
    refine Ev.step (fun k => ?_) q1
    have hz:((o.length:Int) != 1) = false:=by rw [ho]; rfl
    simp only [spec_HarderPuzzle.j0,hz,Option.bind_some,List.length_nil,List.nil_append,own_f c (by omega)]
    rw [if_neg (by simp),if_pos (by omega)]
    rfl
   ·simp only [if_true]
    refine Ev.bind (f:=fun k (t:Bool) => _) g3 (Ev.step (fun k => ?_) q2)
    have hk1:slices_Clone_int_int.f c = some c:=by unfold slices_Clone_int_int.f; rw [if_pos (by omega)]
    have hk2:slices_Clone_impl_Tile_impl_Tile.f l = some l:=by unfold slices_Clone_impl_Tile_impl_Tile.f; rw [if_pos (by omega)]
    rw [decide_eq_true hone]
    simp only [impl_HarderPuzzle.j0,hk1,hk2,Option.bind_some]
    rfl
  ·rw [if_neg (fun h => hone h.2)]
   refine ⟨Ev.bind (f:=fun k (bt:List (List Int) × Bool) => _) ha ?_,Ev.bind (f:=fun k (t:Bool) => _) h2 ?_⟩
   ·refine Ev.step (f:=fun _ => some ([],[],false)) (fun k => ?_) (Ev.now _)
    cases b with
    | false => simp [spec_HarderPuzzle.j0]
    | true =>
     have:¬ o.length = 1:=fun h => hone (g2.1 ⟨rfl,h⟩)
     have hz:((o.length:Int) != 1) = true:=bne_iff_ne.2 (by omega)
     simp only [if_true,hz,spec_HarderPuzzle.j0]
   ·simp only [if_true]
    refine Ev.bind (f:=fun k (t:Bool) => _) g3 (Ev.step (f:=fun _ => some ([],[],false)) (fun k => ?_) (Ev.now _))
    rw [decide_eq_false hone]
    simp only [impl_HarderPuzzle.j0,Bool.not_false,if_true]
theorem upf_mem2:∀ (m:Nat) (n x:Int),n ≤ x → x < n + m → x ∈ upf m n
 | 0,n,x,h,k => by omega
 | m + 1,n,x,h,k => by
  simp only [upf,List.mem_cons]
  by_cases e:x = n
  ·exact .inl e
  ·exact .inr (upf_mem2 m (n + 1) x (by omega) (by omega))
theorem last_app (p:List Int) (n:Int):last_ (p ++ [n]) = n:=by
 unfold last_
 rw [show ((p ++ [n]).length:Int) - 1 = (p.length:Int) from by simp]
 exact i_mid p n []
theorem rem_nodup {l:List S67} (h:l.Nodup) (t:S67):(rem l t).Nodup:=List.Pairwise.filter _ h
theorem not_rem (l:List S67) (t:S67):t ∉ rem l t:=fun h => by
 unfold rem at h
 simp at h
theorem perm_rem {l:List S67} (h:l.Nodup) {t:S67} (ht:t ∈ l):(t :: rem l t).Perm l:=by
 refine (List.perm_ext_iff_of_nodup (List.nodup_cons.2 ⟨not_rem l t,rem_nodup h t⟩) h).2 fun x => ?_
 unfold rem
 simp only [List.mem_cons,List.mem_filter,Bool.not_eq_true',decide_eq_false_iff_not]
 constructor
 ·rintro (rfl | h)
  ·exact ht
  ·exact h.1
 ·intro hx
  by_cases e:x = t
  ·exact .inl e
  ·exact .inr ⟨hx,e⟩
theorem srch_iff (c:List Int):∀ (d:Nat) (p:List Int) (l:List S67),l.Nodup → l.length < d → ∀ r,r ∈ srch c d p l ↔ ∃ q,r = p ++ q ∧ (∀ x ∈ q,0 ≤ x ∧ x ≤ 9) ∧ (∀ i:Nat,i < q.length → fit c (p.length + i) (rd q (i:Int)) = true) ∧ (tilesL (last_ p :: q)).Perm l
 | 0,_,l,_,h,_ => by omega
 | d + 1,p,l,hn,hl,r => by
  unfold srch
  by_cases e:l = []
  ·rw [if_pos e]
   subst e
   simp only [List.mem_singleton]
   constructor
   ·rintro rfl
    exact ⟨[],by simp,by simp,by simp,List.Perm.nil⟩
   ·rintro ⟨q,rfl,_,_,h⟩
    have:=h.length_eq
    rw [tilesL_len] at this
    simp at this
    simp [this]
  ·rw [if_neg e]
   simp only [List.mem_flatMap]
   constructor
   ·rintro ⟨n,hnn,hr⟩
    have hr9:=upf_mem 10 0 n hnn
    by_cases g:fit c p.length n = true ∧ sOf (last_ p) n ∈ l
    ·rw [if_pos g] at hr
     obtain ⟨q,rfl,q1,q2,q3⟩:=(srch_iff c d (p ++ [n]) (rem l (sOf (last_ p) n)) (rem_nodup hn _) (by have:=rem_len hn _ g.2; omega) r).1 hr
     refine ⟨n :: q,by simp,fun x hx => ?_,fun i hi => ?_,?_⟩
     ·rcases List.mem_cons.1 hx with rfl | hx
      ·omega
      ·exact q1 x hx
     ·cases i with
      | zero => rw [rd_cons0]; exact g.1
      | succ i =>
       rw [rd_consS]
       have:=q2 i (by simpa using hi)
       rw [show (p ++ [n]).length + i = p.length + (i + 1) from by simp; omega] at this
       exact this
     ·rw [tilesL_two]
      rw [last_app] at q3
      exact (q3.cons _).trans (perm_rem hn g.2)
    ·rw [if_neg g] at hr
     cases hr
   ·rintro ⟨q,rfl,q1,q2,q3⟩
    cases q with
    | nil =>
     have:=q3.length_eq
     rw [tilesL_len] at this
     exact absurd (List.length_eq_zero_iff.1 this.symm) e
    | cons n q =>
     rw [tilesL_two] at q3
     have hn9:=q1 n List.mem_cons_self
     have ht:sOf (last_ p) n ∈ l:=q3.mem_iff.1 (show sOf (last_ p) n ∈ tileOf (last_ p) n :: _ from List.mem_cons_self)
     have hf:fit c p.length n = true:=by have:=q2 0 (by simp); rwa [rd_cons0] at this
     refine ⟨n,upf_mem2 10 0 n hn9.1 (by omega),?_⟩
     rw [if_pos ⟨hf,ht⟩]
     refine (srch_iff c d (p ++ [n]) (rem l (sOf (last_ p) n)) (rem_nodup hn _) (by have:=rem_len hn _ ht; omega) _).2 ⟨q,by simp,fun x hx => q1 x (List.mem_cons_of_mem _ hx),fun i hi => ?_,?_⟩
     ·have:=q2 (i + 1) (by simpa using hi)
      rw [rd_consS] at this
      rw [show (p ++ [n]).length + i = p.length + (i + 1) from by simp; omega]
      exact this
     ·rw [last_app]
      exact List.Perm.cons_inv (q3.trans (perm_rem hn ht).symm)
theorem sols_iff (c:List Int) (l:List S67) (hn:l.Nodup) (r:List Int):r ∈ sols c l ↔ r ≠ [] ∧ (∀ x ∈ r,0 ≤ x ∧ x ≤ 9) ∧ (∀ i:Nat,i < r.length → fit c i (rd r (i:Int)) = true) ∧ (tilesL r).Perm l:=by
 unfold sols
 simp only [List.mem_flatMap]
 constructor
 ·rintro ⟨n,hnn,hr⟩
  have hr9:=upf_mem 10 0 n hnn
  by_cases g:fit c 0 n = true
  ·rw [if_pos g] at hr
   obtain ⟨q,rfl,q1,q2,q3⟩:=(srch_iff c (l.length + 1) [n] l hn (by omega) r).1 hr
   refine ⟨by simp,fun x hx => ?_,fun i hi => ?_,q3⟩
   ·rcases List.mem_cons.1 (show x ∈ n :: q from hx) with rfl | hx
    ·omega
    ·exact q1 x hx
   ·cases i with
    | zero => exact g
    | succ i =>
     have:=q2 i (by simpa using hi)
     rw [show [n].length + i = i + 1 from by simp; omega] at this
     rw [show [n] ++ q = n :: q from rfl,rd_consS]
     exact this
  ·rw [if_neg g] at hr
   cases hr
 ·rintro ⟨h0,h1,h2,h3⟩
  cases r with
  | nil => exact absurd rfl h0
  | cons n q =>
   have hn9:=h1 n List.mem_cons_self
   refine ⟨n,upf_mem2 10 0 n hn9.1 (by omega),?_⟩
   rw [if_pos (show fit c 0 n = true from by have:=h2 0 (by simp); rwa [rd_cons0] at this)]
   refine (srch_iff c (l.length + 1) [n] l hn (by omega) _).2 ⟨q,rfl,fun x hx => h1 x (List.mem_cons_of_mem _ hx),fun i hi => ?_,h3⟩
   have:=h2 (i + 1) (by simpa using hi)
   rw [rd_consS] at this
   rw [show [n].length + i = i + 1 from by simp; omega]
   exact this
theorem srch_pre (c:List Int):∀ (d:Nat) (p:List Int) (l:List S67) (r),r ∈ srch c d p l → ∃ q,r = p ++ q
 | 0,_,_,_,h => by cases h
 | d + 1,p,l,r,h => by
  unfold srch at h
  split at h
  ·exact ⟨[],by simpa using h⟩
  ·obtain ⟨n,_,hr⟩:=List.mem_flatMap.1 h
   split at hr
   ·obtain ⟨q,rfl⟩:=srch_pre c d _ _ r hr
    exact ⟨n :: q,by simp⟩
   ·cases hr
theorem upf_nodup:(upf 10 0).Pairwise (· ≠ ·):=by decide
theorem srch_nodup (c:List Int):∀ (d:Nat) (p:List Int) (l:List S67),(srch c d p l).Nodup
 | 0,_,_ => List.nodup_nil
 | d + 1,p,l => by
  unfold srch
  split
  ·simp
  ·refine List.pairwise_flatMap.2 ⟨fun n _ => ?_,upf_nodup.imp fun {a b} hab x hx y hy => ?_⟩
   ·split
    ·exact srch_nodup c d _ _
    ·exact List.nodup_nil
   ·split at hx
    ·split at hy
     ·obtain ⟨q,rfl⟩:=srch_pre c d _ _ _ hx
      obtain ⟨q',rfl⟩:=srch_pre c d _ _ _ hy
      intro e
      simp at e
      exact hab e.1
     ·cases hy
    ·cases hx
theorem sols_nodup (c:List Int) (l:List S67):(sols c l).Nodup:=by
 unfold sols
 refine List.pairwise_flatMap.2 ⟨fun n _ => ?_,upf_nodup.imp fun {a b} hab x hx y hy => ?_⟩
 ·split
  ·exact srch_nodup c _ _ _
  ·exact List.nodup_nil
 ·split at hx
  ·split at hy
   ·obtain ⟨q,rfl⟩:=srch_pre c _ _ _ _ hx
    obtain ⟨q',rfl⟩:=srch_pre c _ _ _ _ hy
    intro e
    simp at e
    exact hab e.1
   ·cases hy
  ·cases hx
theorem len_sub {α:Type}:∀ (a b:List α),a.Nodup → (∀ x,x ∈ a → x ∈ b) → a.length ≤ b.length
 | [],_,_,_ => Nat.zero_le _
 | x :: a,b,h,k => by
  rw [List.nodup_cons] at h
  obtain ⟨s,t,rfl⟩:=List.append_of_mem (k x List.mem_cons_self)
  have:=len_sub a (s ++ t) h.2 (fun y hy => by
   have:=k y (List.mem_cons_of_mem _ hy)
   simp only [List.mem_append,List.mem_cons] at this ⊢
   rcases this with g | rfl | g
   ·exact .inl g
   ·exact absurd hy h.1
   ·exact .inr g)
  simp at this ⊢
  omega
theorem ren_tileOf (ns:List Int) (x y:Int):ren ns (tileOf x y) = tileOf (rd ns x) (rd ns y):=by
 unfold ren tileOf mn mx
 (try dsimp only)
 refine t_ext _ _ ?_ ?_ <;> (try dsimp only) <;> (repeat' split) <;> first | rfl | omega | (exfalso; omega) | (have:x = y:=by omega); subst this; rfl
theorem ren_tiles (ns:List Int):∀ p:List Int,tilesL (p.map (rd ns)) = (tilesL p).map (ren ns)
 | [] => rfl
 | [_] => rfl
 | x :: y :: r => by
  rw [tilesL_two,List.map_cons,List.map_cons,tilesL_two,List.map_cons,ren_tileOf,← ren_tiles ns (y :: r),List.map_cons]
theorem rd_map (f:Int → Int) (p:List Int) (i:Nat) (h:i < p.length):rd (p.map f) (i:Int) = f (rd p (i:Int)):=by
 unfold rd
 simp [List.getD_eq_getElem?_getD,h]
theorem ren_inj (ns:List Int) (hns:nms ns = true) (x y:S67) (hx:good x = true) (hy:good y = true) (e:ren ns x = ren ns y):x = y:=by
 obtain ⟨n1,n2,n3⟩:=nms_true ns hns
 have hx2:=(good_iff x).1 hx
 have hy2:=(good_iff y).1 hy
 have e0:=congrArg (fun t:S67 => t.f0) e
 have e1:=congrArg (fun t:S67 => t.f1) e
 unfold ren tileOf mn mx at e0 e1
 (try dsimp only at e0 e1)
 have j:∀ a b:Int,0 ≤ a → a ≤ 9 → 0 ≤ b → b ≤ 9 → rd ns a = rd ns b → a = b:=fun a b h1 h2 h3 h4 => rd_inj ns n3 a b h1 (by omega) h3 (by omega)
 have c:(rd ns x.f0 = rd ns y.f0 ∧ rd ns x.f1 = rd ns y.f1) ∨ (rd ns x.f0 = rd ns y.f1 ∧ rd ns x.f1 = rd ns y.f0):=by
  split at e0 <;> split at e0 <;> (repeat' (split at e1)) <;> omega
 rcases c with ⟨c1,c2⟩ | ⟨c1,c2⟩
 ·exact t_ext x y (j _ _ (by omega) (by omega) (by omega) (by omega) c1) (j _ _ (by omega) (by omega) (by omega) (by omega) c2)
 ·have d1:=j _ _ (by omega) (by omega) (by omega) (by omega) c1
  have d2:=j _ _ (by omega) (by omega) (by omega) (by omega) c2
  exact t_ext x y (by omega) (by omega)
theorem names_all (ns:List Int) (hns:nms ns = true) (v:Int) (h0:0 ≤ v) (h9:v ≤ 9):∃ x,0 ≤ x ∧ x ≤ 9 ∧ rd ns x = v:=by
 obtain ⟨n1,n2,n3⟩:=nms_true ns hns
 have hm:v ∈ ns:=Classical.byContradiction fun hv => by
  have:=len_sub (v :: ns) (upf 10 0) (List.nodup_cons.2 ⟨hv,n3⟩) (fun x hx => by
   rcases List.mem_cons.1 hx with rfl | hx
   ·exact upf_mem2 10 0 x h0 (by omega)
   ·have:=n2 x hx
    exact upf_mem2 10 0 x this.1 (by omega))
  have h10:(upf 10 0).length = 10:=by decide
  simp at this
  omega
 obtain ⟨i,hi,e⟩:=List.mem_iff_getElem.1 hm
 refine ⟨(i:Int),by omega,by omega,?_⟩
 unfold rd
 simp [List.getD_eq_getElem?_getD,hi,e]
theorem names_back (ns:List Int) (hns:nms ns = true):∀ q:List Int,(∀ x ∈ q,0 ≤ x ∧ x ≤ 9) → ∃ p:List Int,(∀ x ∈ p,0 ≤ x ∧ x ≤ 9) ∧ p.map (rd ns) = q
 | [],_ => ⟨[],by simp,rfl⟩
 | x :: q,h => by
  obtain ⟨p,h1,h2⟩:=names_back ns hns q (fun y hy => h y (List.mem_cons_of_mem _ hy))
  have hx:=h x List.mem_cons_self
  obtain ⟨y,y0,y9,e⟩:=names_all ns hns x hx.1 hx.2
  refine ⟨y :: p,fun z hz => ?_,by rw [List.map_cons,h2,e]⟩
  rcases List.mem_cons.1 hz with rfl | hz
  ·exact ⟨y0,y9⟩
  ·exact h1 z hz
theorem fit_ren (ns:List Int) (hns:nms ns = true) (c:List Int) (h9:∀ x ∈ c,-1 ≤ x ∧ x ≤ 9) (i:Nat) (hi:i < c.length) (n:Int) (n0:0 ≤ n) (n9:n ≤ 9):fit (c.map (cm ns)) i (rd ns n) = fit c i n:=by
 obtain ⟨n1,n2,n3⟩:=nms_true ns hns
 have hm:=h9 _ (at_mem c (i:Int) (by omega) (by omega))
 unfold fit
 rw [rd_map _ _ _ hi]
 generalize rd c (i:Int) = x at hm
 unfold cm
 have hr:=rd_in ns n2 n n0 (by omega)
 by_cases hx:x ≥ 0
 ·rw [if_pos hx]
  have hx2:=rd_in ns n2 x hx (by omega)
  by_cases e:x = n
  ·subst e
   simp
  ·have:rd ns x ≠ rd ns n:=fun k => e (rd_inj ns n3 x n hx (by omega) n0 (by omega) k)
   rw [decide_eq_false (by omega),decide_eq_false (by omega)]
 ·rw [if_neg hx]
  have:x = -1:=by omega
  subst this
  simp
theorem map_inj (ns:List Int) (hns:nms ns = true):∀ p q:List Int,(∀ x ∈ p,0 ≤ x ∧ x ≤ 9) → (∀ x ∈ q,0 ≤ x ∧ x ≤ 9) → p.map (rd ns) = q.map (rd ns) → p = q
 | [],[],_,_,_ => rfl
 | [],_ :: _,_,_,h => by simp at h
 | _ :: _,[],_,_,h => by simp at h
 | x :: p,y :: q,h1,h2,h => by
  obtain ⟨n1,n2,n3⟩:=nms_true ns hns
  rw [List.map_cons,List.map_cons,List.cons.injEq] at h
  have hx:=h1 x List.mem_cons_self
  have hy:=h2 y List.mem_cons_self
  rw [rd_inj ns n3 x y hx.1 (by omega) hy.1 (by omega) h.1,map_inj ns hns p q (fun z hz => h1 z (List.mem_cons_of_mem _ hz)) (fun z hz => h2 z (List.mem_cons_of_mem _ hz)) h.2]
theorem tilesL_good9 (p:List Int) (h:∀ x ∈ p,0 ≤ x ∧ x ≤ 9):∀ x ∈ tilesL p,good x = true:=tilesL_good p (List.all_eq_true.2 fun x hx => (inB_iff 0 9 x).2 (h x hx))
theorem ren_sols (ns:List Int) (hns:nms ns = true) (c:List Int) (l s:List S67) (hl:l.Nodup) (hg:∀ x ∈ l,good x = true) (hs:s.Nodup) (hsl:s.Perm (l.map (ren ns))) (h9:∀ x ∈ c,-1 ≤ x ∧ x ≤ 9) (hlc:c.length = l.length + 1):(sols (c.map (cm ns)) s).length = (sols c l).length:=by
 obtain ⟨n1,n2,n3⟩:=nms_true ns hns
 have fwd:∀ p ∈ sols c l,p.map (rd ns) ∈ sols (c.map (cm ns)) s:=by
  intro p hp
  obtain ⟨h0,h1,h2,h3⟩:=(sols_iff c l hl p).1 hp
  have hpl:p.length = c.length:=by
   have:=h3.length_eq
   rw [tilesL_len] at this
   have:p.length ≠ 0:=fun e => h0 (List.length_eq_zero_iff.1 e)
   omega
  refine (sols_iff _ s hs _).2 ⟨by simpa using h0,fun x hx => ?_,fun i hi => ?_,?_⟩
  ·obtain ⟨y,hy,rfl⟩:=List.mem_map.1 hx
   have:=h1 y hy
   exact rd_in ns n2 y this.1 (by omega)
  ·rw [List.length_map] at hi
   have hm:=h1 _ (at_mem p (i:Int) (by omega) (by omega))
   rw [rd_map _ _ _ hi,fit_ren ns hns c h9 i (by omega) _ hm.1 hm.2]
   exact h2 i hi
  ·rw [ren_tiles]
   exact (h3.map _).trans hsl.symm
 have bwd:∀ q ∈ sols (c.map (cm ns)) s,∃ p ∈ sols c l,p.map (rd ns) = q:=by
  intro q hq
  obtain ⟨h0,h1,h2,h3⟩:=(sols_iff _ s hs q).1 hq
  obtain ⟨p,p9,rfl⟩:=names_back ns hns q h1
  rw [ren_tiles] at h3
  have h4:((tilesL p).map (ren ns)).Perm (l.map (ren ns)):=h3.trans hsl
  have hnd:((tilesL p).map (ren ns)).Nodup:=h3.nodup_iff.2 hs
  have hpl:p.length = c.length:=by
   have:=h4.length_eq
   rw [List.length_map,List.length_map,tilesL_len] at this
   have:p.length ≠ 0:=fun e => h0 (by rw [List.length_eq_zero_iff.1 e]; rfl)
   omega
  refine ⟨p,(sols_iff c l hl p).2 ⟨by intro e; exact h0 (by rw [e]; rfl),p9,fun i hi => ?_,?_⟩,rfl⟩
  ·have hm:=p9 _ (at_mem p (i:Int) (by omega) (by omega))
   have:=h2 i (by rw [List.length_map]; exact hi)
   rw [rd_map _ _ _ hi,fit_ren ns hns c h9 i (by omega) _ hm.1 hm.2] at this
   exact this
  ·refine (List.perm_ext_iff_of_nodup (List.Pairwise.imp (fun {a b} h e => h (by rw [e])) (List.pairwise_map.1 hnd)) hl).2 fun x => ?_
   constructor
   ·intro hx
    obtain ⟨u,hu,e⟩:=List.mem_map.1 (h4.mem_iff.1 (List.mem_map.2 ⟨x,hx,rfl⟩))
    rw [← ren_inj ns hns u x (hg u hu) (tilesL_good9 p p9 x hx) e]
    exact hu
   ·intro hx
    obtain ⟨u,hu,e⟩:=List.mem_map.1 (h4.mem_iff.2 (List.mem_map.2 ⟨x,hx,rfl⟩))
    rw [← ren_inj ns hns u x (tilesL_good9 p p9 u hu) (hg x hx) e]
    exact hu
 have hin:((sols c l).map fun p => p.map (rd ns)).Nodup:=by
  refine List.pairwise_map.2 ((sols_nodup c l).imp_of_mem fun {a b} ha hb hne e => hne ?_)
  exact map_inj ns hns a b ((sols_iff c l hl a).1 ha).2.1 ((sols_iff c l hl b).1 hb).2.1 e
 have a1:=len_sub _ (sols (c.map (cm ns)) s) hin (fun x hx => by
  obtain ⟨p,hp,rfl⟩:=List.mem_map.1 hx
  exact fwd p hp)
 have a2:=len_sub (sols (c.map (cm ns)) s) ((sols c l).map fun p => p.map (rd ns)) (sols_nodup _ _) (fun x hx => by
  obtain ⟨p,hp,e⟩:=bwd x hx
  exact List.mem_map.2 ⟨p,hp,e⟩)
 rw [List.length_map] at a1 a2
 omega
theorem sorted_full (l:List S67) (h:isH l = true):∃ s:List S67,Ev (fun k => spec_tiSort.f k l) s ∧ impl_sorted.f l = some s ∧ s.length = l.length ∧ row s ∧ s.Perm l:=by
 obtain ⟨s,h1,h2,h3,h4,_⟩:=sort_f l h
 obtain ⟨i1,i2,i3⟩:=isH_true l h
 have hm:msort l = s:=uniq _ _ (msort_lt l i3) h3 (fun x => by rw [h4]; exact (List.mergeSort_perm l _).mem_iff)
 refine ⟨s,h1,?_,h2,⟨by omega,fun x hx => i2 x ((h4 x).1 hx),h3⟩,by rw [← hm]; exact List.mergeSort_perm l _⟩
 unfold impl_sorted.f slices_Clone_impl_Tile_impl_Tile.f
 rw [if_pos (by omega)]
 simp only [Option.bind_some]
 rw [if_pos (List.all_eq_true.2 (fun x hx => by rw [smallT_iff]; have:=(good_iff x).1 (i2 x hx); omega)),hm]
theorem within_f (a b d:Int):impl_within.f a b d = some (inB b d a):=by
 unfold impl_within.f inB
 by_cases h:b ≤ a <;> simp [h]
theorem make_both (a1:Int) (c:List Int) (hc:c.length ≤ 2000000) :
  (Ev (fun k => spec_MakePuzzle.f k c a1) (([] : List S67),([] : List Int),false) ∧ Ev (fun k => impl_MakePuzzle.f k c a1) (([] : List S67),([] : List Int),false)) ∨
  (ch c = true ∧ 2 ≤ c.length ∧ c.length ≤ 10 ∧ ∃ s:List S67,row s ∧ s.Perm (tilesL c) ∧ impl_sorted.f (tilesL c) = some s ∧ Ev (fun k => spec_MakePuzzle.f k c a1) (s,gaps a1 0 c,true) ∧ Ev (fun k => impl_MakePuzzle.f k c a1) (s,gaps a1 0 c,true)):=by
 have h1:=ch_spec c hc
 have h2:=ch_impl c hc
 unfold spec_MakePuzzle.f impl_MakePuzzle.f
 rw [l1In_f,l1In_f,within_f,within_f]
 simp only [Option.bind_some]
 rw [t_wrap ((c.length:Int) - 1) (by omega) (by omega)]
 have no1:Ev (fun k => spec_MakePuzzle.j0 k c a1 true) (([] : List S67),([] : List Int),false):=Ev.step (f:=fun _ => some _) (fun k => by simp [spec_MakePuzzle.j0]) (Ev.now _)
 have no2:Ev (fun k => impl_MakePuzzle.j0 k c a1 true) (([] : List S67),([] : List Int),false):=Ev.step (f:=fun _ => some _) (fun k => by simp [impl_MakePuzzle.j0]) (Ev.now _)
 cases hp:ch c
 ·rw [hp] at h1 h2
  exact .inl ⟨Ev.bind (f:=fun k t => _) h1 (by simpa using no1),Ev.bind (f:=fun k t => _) h2 (by simpa using no2)⟩
 ·rw [hp] at h1 h2
  obtain ⟨p1,p2,p3,p4⟩:=ch_true c hp
  cases hb:inB 1 9 ((c.length:Int) - 1)
  ·exact .inl ⟨Ev.bind (f:=fun k t => _) h1 (by simpa using no1),Ev.bind (f:=fun k t => _) h2 (by simpa using no2)⟩
  ·cases hq:inB 1 10 a1
   ·exact .inl ⟨Ev.bind (f:=fun k t => _) h1 (by simpa using no1),Ev.bind (f:=fun k t => _) h2 (by simpa using no2)⟩
   ·have he:=(inB_iff _ _ _).1 hq
    have hb2:=(inB_iff _ _ _).1 hb
    obtain ⟨s,s1,s2,s3,s4,s5⟩:=sorted_full (tilesL c) p4
    have m1:=mk_spec a1 (by omega) s c [] [] (by simp; omega) (by simp)
    have m2:=mk_impl a1 (by omega) s c [] (by simp; omega)
    simp only [List.nil_append,List.length_nil,Nat.zero_add] at m1 m2
    refine .inr ⟨rfl,by omega,by omega,s,s4,s5,s2,Ev.bind (f:=fun k t => _) h1 ?_,Ev.bind (f:=fun k t => _) h2 ?_⟩
    ·simp only [if_true,Bool.not_true]
     refine Ev.step (fun k => by simp only [spec_MakePuzzle.j0,Bool.false_eq_true,if_false]; rfl) ?_
     refine Ev.bind (f:=fun k t => _) (haTiles_f c hc).1 ?_
     exact Ev.bind (f:=fun k t => _) s1 m1
    ·simp only [if_true,Bool.not_true]
     refine Ev.step (fun k => by simp only [impl_MakePuzzle.j0,Bool.false_eq_true,if_false]; rfl) ?_
     refine Ev.bind (f:=fun k t => _) (haTiles_f c hc).2 ?_
     simp only [s2,slices_Clone_int_int.f,if_pos (show c.length < 17592186044416 from by omega),Option.bind_some]
     exact m2
def openP (l:List S67) (c:List Int) (n:Int):List S67 × List Int × Bool:=if (pz l c && inB 0 ((c.length:Int) - 1) n) = true ∧ rd c n ≠ -1 then (l,c.set n.toNat (-1),true) else ([],[],false)
theorem open_both (a1:Int) (l:List S67) (c:List Int) (hl:l.length ≤ 2000000) (hc:c.length ≤ 2000000):Ev (fun k => spec_OpenGap.f k l c a1) (openP l c a1) ∧ Ev (fun k => impl_OpenGap.f k l c a1) (openP l c a1):=by
 have h1:=place_spec l c a1 hl hc
 have h2:=place_impl l c a1 hl hc
 unfold spec_OpenGap.f impl_OpenGap.f
 cases hp:(pz l c && inB 0 ((c.length:Int) - 1) a1)
 ·rw [hp] at h1 h2
  have eP:openP l c a1 = ([],[],false):=if_neg (by rw [hp]; simp)
  rw [eP]
  exact ⟨Ev.bind (f:=fun k t => _) h1 ⟨0,fun k _ => by simp⟩,Ev.bind (f:=fun k t => _) h2 ⟨0,fun k _ => by simp⟩⟩
 ·rw [hp] at h1 h2
  obtain ⟨p1,p2,p3,p4,p5⟩:=at_place l c a1 hp
  obtain ⟨w1,w2⟩:=with_both l c a1 (-1) (by omega) (by omega) p3 p4
  by_cases hg:rd c a1 = -1
  ·have eP:openP l c a1 = ([],[],false):=if_neg (fun h => h.2 hg)
   rw [eP]
   refine ⟨Ev.bind (f:=fun k t => _) h1 ⟨0,fun k _ => ?_⟩,Ev.bind (f:=fun k t => _) h2 ⟨0,fun k _ => ?_⟩⟩
   ·simp [p3,p4,hg]
   ·simp [p3,p4,hg]
  ·have hg2:¬ rd c a1 < 0:=fun e => hg (p5.1 e)
   have eP:openP l c a1 = (l,c.set a1.toNat (-1),true):=if_pos ⟨hp,hg⟩
   rw [eP]
   refine ⟨Ev.bind (f:=fun k t => _) h1 ⟨0,fun k _ => ?_⟩,Ev.bind (f:=fun k t => _) h2 ⟨0,fun k _ => ?_⟩⟩
   ·simp only [if_true,p3,p4,if_neg hg2,w1,Option.bind_some]
   ·simp only [if_true,p3,p4,if_neg hg,w2,Option.bind_some]
theorem number_f (n:Int):spec_tiNumber.f n = some (inB 0 9 n) ∧ impl_isNumber.f n = some (inB 0 9 n):=by
 unfold spec_tiNumber.f impl_isNumber.f
 rw [l1In_f,within_f]
 exact ⟨rfl,rfl⟩
def fillP (l:List S67) (c:List Int) (n v:Int):List S67 × List Int × Bool:=if (pz l c && inB 0 ((c.length:Int) - 1) n) = true ∧ inB 0 9 v = true ∧ rd c n = -1 then (l,c.set n.toNat v,true) else ([],[],false)
theorem fill_both (a1 a2:Int) (l:List S67) (c:List Int) (hl:l.length ≤ 2000000) (hc:c.length ≤ 2000000):Ev (fun k => spec_FillGap.f k l c a1 a2) (fillP l c a1 a2) ∧ Ev (fun k => impl_FillGap.f k l c a1 a2) (fillP l c a1 a2):=by
 have h1:=place_spec l c a1 hl hc
 have h2:=place_impl l c a1 hl hc
 obtain ⟨n1,n2⟩:=number_f a2
 unfold spec_FillGap.f impl_FillGap.f
 rw [n1,n2]
 cases hp:(pz l c && inB 0 ((c.length:Int) - 1) a1)
 ·rw [hp] at h1 h2
  have eP:fillP l c a1 a2 = ([],[],false):=if_neg (by rw [hp]; simp)
  rw [eP]
  exact ⟨Ev.bind (f:=fun k t => _) h1 ⟨0,fun k _ => by simp⟩,Ev.bind (f:=fun k t => _) h2 ⟨0,fun k _ => by simp⟩⟩
 ·rw [hp] at h1 h2
  obtain ⟨p1,p2,p3,p4,p5⟩:=at_place l c a1 hp
  obtain ⟨w1,w2⟩:=with_both l c a1 a2 (by omega) (by omega) p3 p4
  cases hb:inB 0 9 a2
  ·have eP:fillP l c a1 a2 = ([],[],false):=if_neg (by rw [hb]; simp)
   rw [eP]
   exact ⟨Ev.bind (f:=fun k t => _) h1 ⟨0,fun k _ => by simp⟩,Ev.bind (f:=fun k t => _) h2 ⟨0,fun k _ => by simp⟩⟩
  by_cases hg:rd c a1 = -1
  ·have hg2:¬ rd c a1 ≥ 0:=by omega
   have eP:fillP l c a1 a2 = (l,c.set a1.toNat a2,true):=if_pos ⟨hp,hb,hg⟩
   rw [eP]
   refine ⟨Ev.bind (f:=fun k t => _) h1 ⟨0,fun k _ => ?_⟩,Ev.bind (f:=fun k t => _) h2 ⟨0,fun k _ => ?_⟩⟩
   ·simp only [if_true,p3,p4,if_neg hg2,w1,Option.bind_some]
   ·simp only [if_true,p3,p4,if_pos hg,w2,Option.bind_some]
  ·have hg2:rd c a1 ≥ 0:=by omega
   have eP:fillP l c a1 a2 = ([],[],false):=if_neg (fun h => hg h.2.2)
   rw [eP]
   refine ⟨Ev.bind (f:=fun k t => _) h1 ⟨0,fun k _ => ?_⟩,Ev.bind (f:=fun k t => _) h2 ⟨0,fun k _ => ?_⟩⟩
   ·simp only [if_true,p3,p4,if_pos hg2,Option.bind_some]
   ·simp only [if_true,p3,p4,if_neg hg,Option.bind_some]
def solP (l:List S67) (c:List Int):List (List Int) × Bool:=if pz l c = true ∧ (sols c l).length ≤ 200 then (sols c l,true) else ([],false)
theorem sol_f (l:List S67) (c:List Int) (hl:l.length ≤ 2000000) (hc:c.length ≤ 2000000):Ev (fun k => impl_Solutions.f k l c) (solP l c):=by
 have h2:=pz_impl l c hl
 unfold impl_Solutions.f solP
 cases hp:pz l c
 ·rw [hp] at h2
  rw [if_neg (by simp)]
  exact Ev.bind (f:=fun k t => _) h2 ⟨0,fun k _ => by simp⟩
 ·rw [hp] at h2
  obtain ⟨p1,p2,p3,p4,p5,p6⟩:=pz_true l c hp
  have g3:=sols_impl l c (row_of p3 p6) (by omega) p4
  by_cases hs:(sols c l).length ≤ 200
  ·rw [if_pos hs] at g3
   rw [if_pos ⟨rfl,hs⟩]
   refine Ev.bind (f:=fun k t => _) h2 ?_
   simpa using Ev.bind (f:=fun _ (bt201:List (List Int) × Bool) => some (bt201.1,bt201.2)) g3 ⟨0,fun k _ => rfl⟩
  ·rw [if_neg hs] at g3
   rw [if_neg (fun h => hs h.2)]
   refine Ev.bind (f:=fun k t => _) h2 ?_
   simpa using Ev.bind (f:=fun _ (bt201:List (List Int) × Bool) => some (bt201.1,bt201.2)) g3 ⟨0,fun k _ => rfl⟩
theorem count_f (l:List S67) (c:List Int) (hl:l.length ≤ 2000000) (hc:c.length ≤ 2000000):Ev (fun k => impl_CountSolutions.f k l c) (((solP l c).1.length:Int),(solP l c).2):=by
 unfold impl_CountSolutions.f
 exact Ev.bind (f:=fun k (bt238:List (List Int) × Bool) => _) (sol_f l c hl hc) ⟨0,fun k _ => rfl⟩
theorem gaps_f (l:List S67) (c:List Int) (hl:l.length ≤ 2000000) (hc:c.length ≤ 2000000) (hp:pz l c = true):Ev (fun k => impl_CountGaps.f k l c) (((c.countP fun x => x == -1:Nat):Int),true):=by
 have h2:=pz_impl l c hl
 unfold impl_CountGaps.f
 rw [hp] at h2
 have g2:=gaps_impl c [] 0 (by simpa using hc) (by omega) (by simp)
 exact Ev.bind (f:=fun k t200 => (if t200 = true then (impl_CountGaps.l0 k 0 c (c.length:Int) 0) else (some (0,false)))) h2 (by simpa using g2)
theorem ren_both (l:List S67) (c ns:List Int) (hl:l.length ≤ 2000000) (hc:c.length ≤ 2000000) (hn:ns.length ≤ 2000000) :
  (Ev (fun k => spec_RenamePuzzle.f k l c ns) (([] : List S67),([] : List Int),false) ∧ Ev (fun k => impl_RenamePuzzle.f k l c ns) (([] : List S67),([] : List Int),false)) ∨
  (pz l c = true ∧ nms ns = true ∧ ∃ s:List S67,row s ∧ s.Perm (l.map (ren ns)) ∧ Ev (fun k => spec_RenamePuzzle.f k l c ns) (s,c.map (cm ns),true) ∧ Ev (fun k => impl_RenamePuzzle.f k l c ns) (s,c.map (cm ns),true)):=by
 have h1:=pz_spec l c hl hc
 have h2:=pz_impl l c hl
 have h3:=nms_impl ns hn
 unfold spec_RenamePuzzle.f impl_RenamePuzzle.f
 have no1:Ev (fun k => spec_RenamePuzzle.j0 k ns true l c) (([] : List S67),([] : List Int),false):=Ev.step (f:=fun _ => some _) (fun k => by simp [spec_RenamePuzzle.j0]) (Ev.now _)
 have no2:Ev (fun k => impl_RenamePuzzle.j0 k ns true l c) (([] : List S67),([] : List Int),false):=Ev.step (f:=fun _ => some _) (fun k => by simp [impl_RenamePuzzle.j0]) (Ev.now _)
 cases hp:pz l c
 ·rw [hp] at h1 h2
  exact .inl ⟨Ev.bind (f:=fun k t => _) h1 (by simpa using no1),Ev.bind (f:=fun k t => _) h2 (by simpa using no2)⟩
 ·rw [hp] at h1 h2
  obtain ⟨p1,p2,p3,p4,p5,p6⟩:=pz_true l c hp
  cases hq:nms ns
  ·rw [hq] at h3
   refine .inl ⟨Ev.bind (f:=fun k t => _) h1 ?_,Ev.bind (f:=fun k t => _) h2 ?_⟩
   ·simp only [if_true]
    by_cases e1:(ns.length:Int) = 10
    ·simp only [e1,if_true]
     refine Ev.bind (f:=fun k t => _) (l1All_f 0 9 ns hn) ?_
     cases e2:ns.all (inB 0 9)
     ·simpa using no1
     ·simp only [Bool.not_true]
      refine Ev.step (fun k => by simp only [spec_RenamePuzzle.j0,Bool.false_eq_true,if_false]; rfl) ?_
      have e3:ndI [] ns = false:=by
       unfold nms at hq
       simpa [e1,e2] using hq
      exact names_ev l c ns ([],[],false) (by omega) ns [] rfl (fun h => by rw [e3] at h; cases h) (fun _ => rfl)
    ·simp only [e1,if_false]
     exact no1
   ·simp only [if_true]
    refine Ev.bind (f:=fun k t => _) h3 ?_
    simpa using no2
  ·rw [hq] at h3
   obtain ⟨n1,n2,n3⟩:=nms_true ns hq
   obtain ⟨s,s1,s2,s3,s4,s5⟩:=sorted_full (l.map (ren ns)) (ren_hand ns hq l p3)
   obtain ⟨i1,i2,i3⟩:=isH_true l p3
   refine .inr ⟨rfl,rfl,s,s4,s5,Ev.bind (f:=fun k t => _) h1 ?_,Ev.bind (f:=fun k t => _) h2 ?_⟩
   ·simp only [if_true]
    have e1:(ns.length:Int) = 10:=by omega
    simp only [e1,if_true]
    refine Ev.bind (f:=fun k t => _) (l1All_f 0 9 ns hn) ?_
    have hq2:=hq
    unfold nms at hq2
    simp only [Bool.and_eq_true] at hq2
    rw [hq2.2.1]
    simp only [Bool.not_true]
    refine Ev.step (fun k => by simp only [spec_RenamePuzzle.j0,Bool.false_eq_true,if_false]; rfl) ?_
    refine names_ev l c ns _ (by omega) ns [] rfl (fun _ => ?_) (fun h => by rw [hq2.2.2] at h; cases h)
    refine tiles_spec ns n1 l c _ (by omega) i2 l [] [] rfl (by simp) ?_
    refine Ev.bind (f:=fun k (t:List S67) => _) (by simpa using s1) ?_
    exact chain_spec ns n1 s c (by omega) p5 c [] [] rfl (by simp)
   ·simp only [if_true]
    refine Ev.bind (f:=fun k t => _) h3 ?_
    simp only [Bool.not_true]
    refine Ev.step (fun k => by simp only [impl_RenamePuzzle.j0,Bool.false_eq_true,if_false]; rfl) ?_
    refine Ev.bind (f:=fun k (t:List S67) => _) (show Ev (fun k => impl_renamedHand.f k l ns) s from tiles_impl ns n1 l s (by omega) i2 l [] [] rfl (by simp) (by simpa using s2)) ?_
    have hcl:slices_Clone_int_int.f c = some c:=by unfold slices_Clone_int_int.f; rw [if_pos (by omega)]
    simp only [hcl,Option.bind_some]
    simpa using chain_impl ns n1 s c [] (by simp; omega) p5
theorem same_ev:∀ (rest pre:List Int),(pre ++ rest).length ≤ 100000000 → Ev (fun k => laws_iSame.l0 k (pre ++ rest) (pre ++ rest) ((pre ++ rest).length:Int) (pre.length:Int)) true:=by
 intro rest
 induction rest with
 | nil =>
  intro pre h
  refine Ev.step (f:=fun _ => some true) (fun k => ?_) (Ev.now _)
  simp only [laws_iSame.l0,List.append_nil]
  rw [if_neg (by omega)]
 | cons x xs ih =>
  intro pre h
  have hlen:(pre ++ x :: xs).length = pre.length + xs.length + 1:=by simp; omega
  have e1:pre ++ [x] ++ xs = pre ++ x :: xs:=by simp
  have hi:=ih (pre ++ [x]) (by simpa using h)
  rw [e1] at hi
  refine Ev.step (fun k => ?_) hi
  simp only [laws_iSame.l0]
  rw [if_pos (by omega),if_pos (by omega),if_pos (by omega),if_pos (by omega),t_wrap ((pre.length:Int) + 1) (by omega) (by omega)]
  simp
theorem same_f (c:List Int) (h:c.length ≤ 100000000):Ev (fun k => laws_iSame.f k c c) true:=by
 unfold laws_iSame.f
 simp only [if_true]
 exact same_ev c [] h
theorem tiles_ev:∀ (rest pre:List S67),(pre ++ rest).length ≤ 100000000 → Ev (fun k => laws_iTiles.l0 k (pre ++ rest) (pre ++ rest) ((pre ++ rest).length:Int) (pre.length:Int)) true:=by
 intro rest
 induction rest with
 | nil =>
  intro pre h
  refine Ev.step (f:=fun _ => some true) (fun k => ?_) (Ev.now _)
  simp only [laws_iTiles.l0,List.append_nil]
  rw [if_neg (by omega)]
 | cons x xs ih =>
  intro pre h
  have hlen:(pre ++ x :: xs).length = pre.length + xs.length + 1:=by simp; omega
  have e1:pre ++ [x] ++ xs = pre ++ x :: xs:=by simp
  have hi:=ih (pre ++ [x]) (by simpa using h)
  rw [e1] at hi
  refine Ev.step (fun k => ?_) hi
  simp only [laws_iTiles.l0]
  rw [if_pos (by omega),if_pos (by omega),if_pos (by omega),if_pos (by omega),if_neg (by simp),t_wrap ((pre.length:Int) + 1) (by omega) (by omega)]
  simp
theorem tiles_f (l:List S67) (h:l.length ≤ 100000000):Ev (fun k => laws_iTiles.f k l l) true:=by
 unfold laws_iTiles.f
 simp only [if_true]
 exact tiles_ev l [] h
theorem puz_f (l:List S67) (c:List Int) (hl:l.length ≤ 2000000) (hc:c.length ≤ 2000000):Ev (fun k => laws_iPuzzle.f k l c l c) true:=by
 unfold laws_iPuzzle.f
 refine Ev.bind (f:=fun k t => _) (tiles_f l (by omega)) ?_
 simp only [if_true]
 exact Ev.bind (f:=fun k t => _) (same_f c (by omega)) ⟨0,fun k _ => rfl⟩
theorem row_mid (pre:List (List Int)) (x:List Int) (xs:List (List Int)):rd_L3 (pre ++ x :: xs) (pre.length:Int) = x:=by
 unfold rd_L3
 simp [List.getD_eq_getElem?_getD]
theorem rows_ev:∀ (rest pre:List (List Int)),(pre ++ rest).length ≤ 100000000 → (∀ r ∈ rest,r.length ≤ 1000) → Ev (fun k => laws_iRows.l0 k (pre ++ rest) (pre ++ rest) ((pre ++ rest).length:Int) (pre.length:Int)) true:=by
 intro rest
 induction rest with
 | nil =>
  intro pre h _
  refine Ev.step (f:=fun _ => some true) (fun k => ?_) (Ev.now _)
  simp only [laws_iRows.l0,List.append_nil]
  rw [if_neg (by omega)]
 | cons x xs ih =>
  intro pre h hr
  have hlen:(pre ++ x :: xs).length = pre.length + xs.length + 1:=by simp; omega
  have e1:pre ++ [x] ++ xs = pre ++ x :: xs:=by simp
  have hi:=ih (pre ++ [x]) (by simpa using h) (fun r hr2 => hr r (List.mem_cons_of_mem _ hr2))
  rw [e1] at hi
  have st:∀ R,Ev (fun k => (laws_iSame.f k x x).bind fun t579 => (if t579 = true then (laws_iRows.l0 k (pre ++ x :: xs) (pre ++ x :: xs) ((pre ++ x :: xs).length:Int) ((pre ++ [x]).length:Int)) else (some false))) R → Ev (fun k => laws_iRows.l0 k (pre ++ x :: xs) (pre ++ x :: xs) ((pre ++ x :: xs).length:Int) (pre.length:Int)) R:=fun R h => by
   refine Ev.step (fun k => ?_) h
   simp only [laws_iRows.l0]
   rw [if_pos (by omega),if_pos (by omega),if_pos (by omega),if_pos (by omega),row_mid,t_wrap ((pre.length:Int) + 1) (by omega) (by omega)]
   simp
  exact st _ (Ev.bind (f:=fun k t => _) (same_f x (by have:=hr x List.mem_cons_self; omega)) (by simpa using hi))
theorem rows_f (l:List (List Int)) (h:l.length ≤ 100000) (hr:∀ r ∈ l,r.length ≤ 1000):Ev (fun k => laws_iRows.f k l l) true:=by
 unfold laws_iRows.f
 simp only [if_true]
 exact rows_ev l [] (by simpa using (by omega:l.length ≤ 100000000)) hr
theorem eqT_ev:∀ (rest pre:List S67),(pre ++ rest).length ≤ 100000000 → Ev (fun k => slices_Equal_impl_Tile_impl_Tile.l0 k (pre ++ rest) (pre ++ rest) ((pre ++ rest).length:Int) (pre.length:Int)) true:=by
 intro rest
 induction rest with
 | nil =>
  intro pre h
  refine Ev.step (f:=fun _ => some true) (fun k => ?_) (Ev.now _)
  simp only [slices_Equal_impl_Tile_impl_Tile.l0,List.append_nil]
  rw [if_neg (by omega)]
 | cons x xs ih =>
  intro pre h
  have hlen:(pre ++ x :: xs).length = pre.length + xs.length + 1:=by simp; omega
  have e1:pre ++ [x] ++ xs = pre ++ x :: xs:=by simp
  have hi:=ih (pre ++ [x]) (by simpa using h)
  rw [e1] at hi
  refine Ev.step (fun k => ?_) hi
  simp only [slices_Equal_impl_Tile_impl_Tile.l0]
  rw [if_pos (by omega),if_pos (by omega),if_pos (by omega),if_pos (by omega),if_neg (by simp),t_wrap ((pre.length:Int) + 1) (by omega) (by omega)]
  simp
theorem fits_gaps (e:Int) (s:List S67):∀ (rest pre qpre:List Int),pre.length = qpre.length → (pre ++ rest).length ≤ 100000 →
  Ev (fun k => impl_IsSolution.l0 k (pre ++ rest) ((pre ++ rest).length:Int) (pre.length:Int) s (qpre ++ gaps e pre.length rest)) (true,true):=by
 intro rest
 induction rest with
 | nil =>
  intro pre qpre h1 h3
  refine Ev.step (f:=fun _ => some (true,true)) (fun k => ?_) (Ev.now _)
  simp only [impl_IsSolution.l0,List.append_nil]
  rw [if_neg (by omega)]
 | cons x xs ih =>
  intro pre qpre h1 h3
  have hlen:(pre ++ x :: xs).length = pre.length + xs.length + 1:=by simp; omega
  have e1:pre ++ [x] ++ xs = pre ++ x :: xs:=by simp
  have hg:gaps e pre.length (x :: xs) = gapAt e pre.length x :: gaps e (pre.length + 1) xs:=rfl
  have hi:=ih (pre ++ [x]) (qpre ++ [gapAt e pre.length x]) (by simp [h1]) (by simpa using h3)
  rw [e1] at hi
  have e2:qpre ++ [gapAt e pre.length x] ++ gaps e (pre ++ [x]).length xs = qpre ++ gaps e pre.length (x :: xs):=by rw [hg]; simp
  rw [e2] at hi
  have hq:rd (qpre ++ gaps e pre.length (x :: xs)) (pre.length:Int) = gapAt e pre.length x:=by rw [hg,h1]; exact i_mid _ _ _
  have hql:(qpre ++ gaps e pre.length (x :: xs)).length = qpre.length + xs.length + 1:=by rw [List.length_append,gaps_len,List.length_cons]; omega
  have hfit:impl_Puzzle_fits.f s (qpre ++ gaps e pre.length (x :: xs)) (pre.length:Int) x = some true:=by
   unfold impl_Puzzle_fits.f
   rw [if_pos (by omega),if_pos (by omega),hq]
   unfold gapAt
   by_cases hm:Int.tmod (pre.length:Int) e = 0
   ·rw [if_pos hm]
    simp
   ·rw [if_neg hm]
    simp
  refine Ev.step (fun k => ?_) hi
  simp only [impl_IsSolution.l0]
  rw [if_pos (by omega),if_pos (by omega),if_pos (by omega),i_mid,hfit,t_wrap ((pre.length:Int) + 1) (by omega) (by omega)]
  simp
theorem row_pz (s:List S67) (c:List Int) (hs:row s) (h1:1 ≤ s.length) (h9:s.length ≤ 9) (hc:c.length = s.length + 1) (hx:∀ x ∈ c,-1 ≤ x ∧ x ≤ 9):pz s c = true:=by
 obtain ⟨a,b⟩:=row_isH hs
 unfold pz
 simp only [Bool.and_eq_true,inB_iff,a,b,and_true,true_and,decide_eq_true_eq]
 exact ⟨⟨by omega,by omega⟩,by omega,List.all_eq_true.2 fun x h => (inB_iff _ _ _).2 (hx x h)⟩
theorem gaps_mem (e:Int):∀ (c:List Int) (i:Nat),(∀ x ∈ c,0 ≤ x ∧ x ≤ 9) → ∀ x ∈ gaps e i c,-1 ≤ x ∧ x ≤ 9
 | [],_,_,x,h => by cases h
 | y :: ys,i,hc,x,h => by
  have hy:=hc y List.mem_cons_self
  unfold gaps at h
  rcases List.mem_cons.1 h with rfl | h
  ·unfold gapAt
   split <;> omega
  ·exact gaps_mem e ys (i + 1) (fun z hz => hc z (List.mem_cons_of_mem _ hz)) x h
theorem made_pz (e:Int) (c:List Int) (s:List S67) (hs:row s) (hp:s.Perm (tilesL c)) (h2:2 ≤ c.length) (h10:c.length ≤ 10) (h9:∀ x ∈ c,0 ≤ x ∧ x ≤ 9):pz s (gaps e 0 c) = true:=by
 have hl:=hp.length_eq
 rw [tilesL_len] at hl
 exact row_pz s _ hs (by omega) (by omega) (by rw [gaps_len]; omega) (gaps_mem e c 0 h9)
theorem made_is (e:Int) (c:List Int) (s:List S67) (hc:ch c = true) (hs:row s) (hp:s.Perm (tilesL c)) (hsr:impl_sorted.f (tilesL c) = some s) (h2:2 ≤ c.length) (h10:c.length ≤ 10):Ev (fun k => impl_IsSolution.f k s (gaps e 0 c) c) (true,true):=by
 obtain ⟨c1,c2,c3,c4⟩:=ch_true c hc
 have h1:=pz_impl s (gaps e 0 c) (by have:=hs.1; omega)
 rw [made_pz e c s hs hp h2 h10 c3] at h1
 have h3:=ch_impl c (by omega)
 rw [hc] at h3
 unfold impl_IsSolution.f
 refine Ev.bind (f:=fun k t => _) h1 ?_
 simp only [if_true]
 refine Ev.bind (f:=fun k t => _) h3 ?_
 simp only [Bool.not_true]
 refine Ev.step (f:=fun k => (impl_tilesOf.f k c).bind fun t301 => ((impl_sorted.f t301).bind fun t304 => ((slices_Equal_impl_Tile_impl_Tile.f k t304 s).bind fun t307 => (impl_IsSolution.j1 k c (!t307) s (gaps e 0 c))))) (fun k => ?_) ?_
 ·simp only [impl_IsSolution.j0,Bool.false_eq_true,if_false]
  rw [if_pos (by rw [gaps_len])]
 ·refine Ev.bind (f:=fun k t => _) (haTiles_f c (by omega)).2 ?_
  simp only [hsr,Option.bind_some]
  refine Ev.bind (f:=fun k t => _) (show Ev (fun k => slices_Equal_impl_Tile_impl_Tile.f k s s) true from by
   unfold slices_Equal_impl_Tile_impl_Tile.f
   simp only [if_true]
   exact eqT_ev s [] (by have:=hs.1; simp; omega)) ?_
  simp only [Bool.not_true]
  refine Ev.step (fun k => by simp only [impl_IsSolution.j1,Bool.false_eq_true,if_false]; rfl) ?_
  exact fits_gaps e s c [] [] rfl (by simp; omega)
theorem d_fill (l:List Int) (hl:∀ x ∈ l,0 ≤ x ∧ x ≤ 255):∃ h c n v,Ev (fun k => spec_DrawFillGap.f k l) (h,c,n,v) ∧ h.length ≤ 100 ∧ c.length ≤ 100:=by
 obtain ⟨h,c,q,s,g1,g2,g3,g4,g5⟩:=d_puzzle l hl
 obtain ⟨v1,q1,t1,e1,_,_,a1,b1⟩:=d_pick l hl q s (by omega) 8 (by omega)
 obtain ⟨v2,q2,t2,e2,_,_,a2,b2⟩:=d_pick l hl q1 t1 (by omega) 9 (by omega)
 obtain ⟨v3,q3,t3,e3,_,_,a3,b3⟩:=d_pick l hl q2 t2 (by omega) 6 (by omega)
 obtain ⟨v4,q4,t4,e4,_,_,a4,b4⟩:=d_pick l hl q3 t3 (by omega) 9 (by omega)
 refine ⟨h,c,wrap64 (v1 - (wrap64 (Int.tdiv v2 8))),wrap64 (v3 - (wrap64 (Int.tdiv v4 8))),?_,g2,g3⟩
 unfold spec_DrawFillGap.f
 refine Ev.bind (f:=fun k (b:List S67 × List Int × Int × Int) => _) g1 ⟨0,fun k _ => ?_⟩
 simp only [e1,e2,e3,e4,Option.bind_some]
theorem d_open (l:List Int) (hl:∀ x ∈ l,0 ≤ x ∧ x ≤ 255):∃ h c n,Ev (fun k => spec_DrawOpenGap.f k l) (h,c,n) ∧ h.length ≤ 100 ∧ c.length ≤ 100:=by
 obtain ⟨h,c,q,s,g1,g2,g3,g4,g5⟩:=d_puzzle l hl
 obtain ⟨v1,q1,t1,e1,_,_,a1,b1⟩:=d_pick l hl q s (by omega) 8 (by omega)
 obtain ⟨v2,q2,t2,e2,_,_,a2,b2⟩:=d_pick l hl q1 t1 (by omega) 9 (by omega)
 refine ⟨h,c,wrap64 (v1 - (wrap64 (Int.tdiv v2 8))),?_,g2,g3⟩
 unfold spec_DrawOpenGap.f
 refine Ev.bind (f:=fun k (b:List S67 × List Int × Int × Int) => _) g1 ⟨0,fun k _ => ?_⟩
 simp only [e1,e2,Option.bind_some]
theorem d_turn (l:List Int) (hl:∀ x ∈ l,0 ≤ x ∧ x ≤ 255):∃ h c,Ev (fun k => spec_DrawTurnPuzzle.f k l) (h,c) ∧ h.length ≤ 100 ∧ c.length ≤ 100:=by
 obtain ⟨h,c,q,s,g1,g2,g3,g4,g5⟩:=d_puzzle l hl
 refine ⟨h,c,?_,g2,g3⟩
 unfold spec_DrawTurnPuzzle.f spec_DrawIsPuzzle.f
 exact Ev.bind (f:=fun k (b:List S67 × List Int) => _) (Ev.bind (f:=fun k (b:List S67 × List Int × Int × Int) => _) g1 ⟨0,fun k _ => rfl⟩) ⟨0,fun k _ => rfl⟩
theorem d_namedLoop (l:List Int) (hl:∀ x ∈ l,0 ≤ x ∧ x ≤ 255):∀ (n:Nat) (m:Int) (o:List Int) (p s:Int),m + n = 10 → 0 ≤ m → (o.length:Int) = m → 0 ≤ p → p + 2 * n ≤ 5000 →
  ∃ o' p' s',Ev (fun k => spec_l1Cur_named.l0 k o m l p s) (o',p',s') ∧ o'.length ≤ 100:=by
 intro n
 induction n with
 | zero =>
  intro m o p s h1 h2 h3 h4 h5
  obtain ⟨v,q,s1,e1,v0,v1,q0,q1⟩:=d_pick l hl p s (by omega) 14 (by omega)
  by_cases b0:v = 0
  ·obtain ⟨u,q2,s2,e2,u0,u1,a2,b2⟩:=d_pick l hl q s1 (by omega) (o.length:Int) (by omega)
   obtain ⟨z,q3,s3,e3,a3,b3⟩:=d_among l hl q2 s2 (by omega) [(-1),0,9,10] (by simp)
   refine ⟨o.set u.toNat z,q3,s3,Ev.step (f:=fun _ => some (o.set u.toNat z,q3,s3)) (fun k => ?_) (Ev.now _),by simp; omega⟩
   simp only [spec_l1Cur_named.l0]
   rw [if_neg (by omega),e1]
   simp only [Option.bind_some]
   rw [if_pos b0,e2]
   simp only [Option.bind_some]
   rw [e3]
   simp only [Option.bind_some]
   rw [if_pos u0,if_pos u1]
  ·by_cases b1:v = 1
   ·refine ⟨o.drop (1:Int).toNat,q,s1,Ev.step (f:=fun _ => some (o.drop (1:Int).toNat,q,s1)) (fun k => ?_) (Ev.now _),by simp; omega⟩
    simp only [spec_l1Cur_named.l0]
    rw [if_neg (by omega),e1]
    simp only [Option.bind_some]
    rw [if_neg b0,if_pos b1,if_pos (by omega)]
   ·refine ⟨o,q,s1,Ev.step (f:=fun _ => some (o,q,s1)) (fun k => ?_) (Ev.now _),by omega⟩
    simp only [spec_l1Cur_named.l0]
    rw [if_neg (by omega),e1]
    simp only [Option.bind_some]
    rw [if_neg b0,if_neg b1]
 | succ n ih =>
  intro m o p s h1 h2 h3 h4 h5
  obtain ⟨v,q,s1,e1,v0,v1,q0,q1⟩:=d_pick l hl p s (by omega) ((o.length:Int) + 1) (by omega)
  have hln:(o.take v.toNat ++ [m] ++ o.drop v.toNat).length = o.length + 1:=by simp; omega
  obtain ⟨o',p',s',g1,g2⟩:=ih (m + 1) (o.take v.toNat ++ [m] ++ o.drop v.toNat) q s1 (by omega) (by omega) (by rw [hln]; omega) q0 (by omega)
  refine ⟨o',p',s',Ev.step (fun k => ?_) g1,g2⟩
  simp only [spec_l1Cur_named.l0]
  rw [if_pos (by omega),t_wrap ((o.length:Int) + 1) (by omega) (by omega),e1]
  simp only [Option.bind_some]
  rw [if_pos v0,if_pos (by omega),own_f _ (by simp; omega)]
  simp only [Option.bind_some]
  rw [if_pos (by simp; omega),if_pos (by simp; omega),t_wrap (m + 1) (by omega) (by omega)]
theorem d_rename (l:List Int) (hl:∀ x ∈ l,0 ≤ x ∧ x ≤ 255):∃ h c ns,Ev (fun k => spec_DrawRenamePuzzle.f k l) (h,c,ns) ∧ h.length ≤ 100 ∧ c.length ≤ 100 ∧ ns.length ≤ 100:=by
 obtain ⟨h,c,q,s,g1,g2,g3,g4,g5⟩:=d_puzzle l hl
 obtain ⟨ns,p',s',w1,w2⟩:=d_namedLoop l hl 10 0 [] q s (by omega) (by omega) rfl g4 (by omega)
 refine ⟨h,c,ns,?_,g2,g3,w2⟩
 unfold spec_DrawRenamePuzzle.f
 exact Ev.bind (f:=fun k (b:List S67 × List Int × Int × Int) => _) g1 (Ev.bind (f:=fun k (b:List Int × Int × Int) => _) (show Ev (fun k => spec_l1Cur_named.f k l q s) (ns,p',s') from w1) ⟨0,fun k _ => rfl⟩)
theorem d_harder (l:List Int) (hl:∀ x ∈ l,0 ≤ x ∧ x ≤ 255):∃ h c,Ev (fun k => spec_DrawHarderPuzzle.f k l) (h,c) ∧ h.length ≤ 1000 ∧ c.length ≤ 1000:=by
 obtain ⟨h,c,q,s,g1,g2,g3,g4,g5⟩:=d_puzzle l hl
 have h1:=pz_spec h c (by omega) (by omega)
 unfold spec_DrawHarderPuzzle.f
 cases hp:pz h c
 ·rw [hp] at h1
  exact ⟨h,c,Ev.bind (f:=fun k (b:List S67 × List Int × Int × Int) => _) g1 (Ev.bind (f:=fun k t => _) h1 ⟨0,fun k _ => by simp⟩),by omega,by omega⟩
 ·rw [hp] at h1
  obtain ⟨p1,p2,p3,p4,p5,p6⟩:=pz_true h c hp
  have hne:h ≠ []:=fun e => by rw [e] at p1; simp at p1
  obtain ⟨o,w1,w2⟩:=sols_spec h c (row_of p3 p6) hne (by omega) p4 (fun x hx => (p5 x hx).1)
  have go:∀ R,Ev (fun k => (if (decide ((sols c h).length ≤ 200)) = true then (if (o.length:Int) > 0 then ((spec_l1Cur_one.f l q s 4).bind fun bt483 => (if bt483.1 = true then (some (h,c)) else (if 0 < (o.length:Int) then (some (h,rd_L3 o 0)) else (none)))) else (some (h,c))) else (some (h,c)))) R → Ev (fun k => (spec_l1Cur_puzzle.f k l 0 0).bind fun bt469 => ((spec_pzGood.f k bt469.1 bt469.2.1).bind fun t478 => (if t478 = true then ((spec_pzAll.f k bt469.1 bt469.2.1).bind fun bt479 => (if bt479.2 = true then (if (bt479.1.length:Int) > 0 then ((spec_l1Cur_one.f l bt469.2.2.1 bt469.2.2.2 4).bind fun bt483 => (if bt483.1 = true then (some (bt469.1,bt469.2.1)) else (if 0 < (bt479.1.length:Int) then (some (bt469.1,rd_L3 bt479.1 0)) else (none)))) else (some (bt469.1,bt469.2.1))) else (some (bt469.1,bt469.2.1)))) else (some (bt469.1,bt469.2.1))))) R:=fun R hR => by
   refine Ev.bind (f:=fun k (b:List S67 × List Int × Int × Int) => _) g1 (Ev.bind (f:=fun k t => _) h1 ?_)
   simp only [if_true]
   exact Ev.bind (f:=fun k (b:List (List Int) × Bool) => _) w1 hR
  by_cases hs:(sols c h).length ≤ 200
  ·have eo:=w2 hs
   by_cases h0:(o.length:Int) > 0
   ·obtain ⟨b,q',s',e1,_,_⟩:=d_one l hl q s (by omega) 4 (by omega)
    cases b
    ·have hm:rd_L3 o 0 ∈ o:=by
      unfold rd_L3
      rw [List.getD_eq_getElem?_getD,List.getElem?_eq_getElem (by simp; omega)]
      exact List.getElem_mem _
     have hlen:=(sols_mem c h (row_of p3 p6) (rd_L3 o 0) (by rw [← eo]; exact hm)).1
     refine ⟨h,rd_L3 o 0,go _ ⟨0,fun k _ => ?_⟩,by omega,by omega⟩
     rw [decide_eq_true hs,if_pos rfl,if_pos h0,e1]
     simp only [Option.bind_some,Bool.false_eq_true,if_false]
     rw [if_pos h0]
    ·refine ⟨h,c,go _ ⟨0,fun k _ => ?_⟩,by omega,by omega⟩
     rw [decide_eq_true hs,if_pos rfl,if_pos h0,e1]
     simp only [Option.bind_some,if_true]
   ·refine ⟨h,c,go _ ⟨0,fun k _ => ?_⟩,by omega,by omega⟩
    rw [decide_eq_true hs,if_pos rfl,if_neg h0]
  ·refine ⟨h,c,go _ ⟨0,fun k _ => ?_⟩,by omega,by omega⟩
   rw [decide_eq_false hs,if_neg (by simp)]
theorem pz_set (l:List S67) (c:List Int) (i:Nat) (v:Int) (h:pz l c = true) (h0 : -1 ≤ v) (h9:v ≤ 9):pz l (c.set i v) = true:=by
 obtain ⟨p1,p2,p3,p4,p5,p6⟩:=pz_true l c h
 refine row_pz l _ (row_of p3 p6) p1 p2 (by rw [List.length_set]; exact p4) fun x hx => ?_
 rcases List.mem_or_eq_of_mem_set hx with hx | rfl
 ·exact p5 x hx
 ·exact ⟨h0,h9⟩
theorem set_back (c:List Int) (i:Nat) (v w:Int) (h:i < c.length) (e:rd c (i:Int) = w):(c.set i v).set i w = c:=by
 rw [List.set_set]
 unfold rd at e
 rw [Int.toNat_natCast,List.getD_eq_getElem?_getD,List.getElem?_eq_getElem h] at e
 have:c[i] = w:=e
 rw [← this]
 exact List.set_getElem_self h
theorem place_of (l:List S67) (c:List Int) (n:Int) (h:(pz l c && inB 0 ((c.length:Int) - 1) n) = true):pz l c = true ∧ ∃ i:Nat,n = (i:Int) ∧ i < c.length:=by
 simp only [Bool.and_eq_true,inB_iff] at h
 exact ⟨h.1,n.toNat,by omega,by omega⟩
theorem place_mk (l:List S67) (c:List Int) (i:Nat) (h:pz l c = true) (hi:i < c.length):(pz l c && inB 0 ((c.length:Int) - 1) (i:Int)) = true:=by
 simp only [Bool.and_eq_true,inB_iff]
 exact ⟨h,by omega,by omega⟩
theorem open_fill (l:List S67) (c:List Int) (n v:Int) (h:(fillP l c n v).2.2 = true):fillP l c n v = (l,c.set n.toNat v,true) ∧ openP l (c.set n.toNat v) n = (l,c,true):=by
 unfold fillP at h ⊢
 split at h
 ·rename_i g
  obtain ⟨hp,i,rfl,hi⟩:=place_of l c n g.1
  have hv:=(inB_iff _ _ _).1 g.2.1
  rw [if_pos g]
  refine ⟨rfl,?_⟩
  unfold openP
  rw [Int.toNat_natCast,if_pos ⟨place_mk l _ i (pz_set l c i v hp (by omega) hv.2) (by rw [List.length_set]; exact hi),by rw [rd_set,if_pos ⟨rfl,hi⟩]; omega⟩,set_back c i v (-1) hi g.2.2]
 ·cases h
theorem fill_open (l:List S67) (c:List Int) (n:Int) (h:(openP l c n).2.2 = true):(0 ≤ n ∧ n < c.length) ∧ openP l c n = (l,c.set n.toNat (-1),true) ∧ fillP l (c.set n.toNat (-1)) n (rd c n) = (l,c,true):=by
 unfold openP at h ⊢
 split at h
 ·rename_i g
  obtain ⟨hp,i,rfl,hi⟩:=place_of l c n g.1
  have hm:=(pz_true l c hp).2.2.2.2.1 _ (at_mem c (i:Int) (by omega) (by omega))
  rw [if_pos g]
  refine ⟨by omega,rfl,?_⟩
  unfold fillP
  rw [Int.toNat_natCast,if_pos ⟨place_mk l _ i (pz_set l c i (-1) hp (by omega) (by omega)) (by rw [List.length_set]; exact hi),(inB_iff _ _ _).2 (by have:=g.2; omega),by rw [rd_set,if_pos ⟨rfl,hi⟩]⟩,set_back c i (-1) _ hi rfl]
 ·cases h
theorem fillP_len (l:List S67) (c:List Int) (n v:Int) (hl:l.length ≤ 1000) (hc:c.length ≤ 1000):(fillP l c n v).1.length ≤ 1000 ∧ (fillP l c n v).2.1.length ≤ 1000:=by
 unfold fillP
 split
 ·exact ⟨hl,by simp; omega⟩
 ·simp
theorem openP_len (l:List S67) (c:List Int) (n:Int) (hl:l.length ≤ 1000) (hc:c.length ≤ 1000):(openP l c n).1.length ≤ 1000 ∧ (openP l c n).2.1.length ≤ 1000:=by
 unfold openP
 split
 ·exact ⟨hl,by simp; omega⟩
 ·simp
theorem j15_no (u:List S67) (cu:List Int) (v:List S67) (cv:List Int):Ev (fun k => laws_FnPuzzlesMade.j15 k false u cu v cv) true :=
 Ev.step (f:=fun _ => some true) (fun k => by simp [laws_FnPuzzlesMade.j15]) (Ev.now _)
theorem j15_yes (u:List S67) (cu:List Int) (s:List S67) (ns:List Int) (hp:pz u cu = true) (hn:nms ns = true) (hs:row s) (hsl:s.Perm (u.map (ren ns))):Ev (fun k => laws_FnPuzzlesMade.j15 k true u cu s (cu.map (cm ns))) true:=by
 obtain ⟨p1,p2,p3,p4,p5,p6⟩:=pz_true u cu hp
 obtain ⟨n1,n2,n3⟩:=nms_true ns hn
 have hsn:=hsl.length_eq
 rw [List.length_map] at hsn
 have hpz:pz s (cu.map (cm ns)) = true:=row_pz s _ hs (by omega) (by omega) (by rw [List.length_map]; omega) fun x hx => by
  obtain ⟨y,hy,rfl⟩:=List.mem_map.1 hx
  have:=p5 y hy
  unfold cm
  split
  ·rename_i g
   have:=rd_in ns n2 y g (by omega)
   omega
  ·omega
 have hrow:=row_of p3 p6
 have hsols:=ren_sols ns hn cu u s (row_nodup hrow) hrow.2.1 (row_nodup hs) hsl p5 p4
 have c1:=count_f u cu (by omega) (by omega)
 have c2:=count_f s (cu.map (cm ns)) (by omega) (by rw [List.length_map]; omega)
 have h3:=pz_impl s (cu.map (cm ns)) (by omega)
 rw [hpz] at h3
 have e2:(solP u cu).2 = (solP s (cu.map (cm ns))).2:=by
  unfold solP
  rw [hp,hpz,hsols]
  by_cases g:(sols cu u).length ≤ 200 <;> simp [g]
 have e1:((solP u cu).1.length:Int) = ((solP s (cu.map (cm ns))).1.length:Int):=by
  unfold solP
  rw [hp,hpz,hsols]
  by_cases g:(sols cu u).length ≤ 200 <;> simp [g,hsols]
 refine Ev.step (fun k => by simp only [laws_FnPuzzlesMade.j15,if_true]; rfl) ?_
 refine Ev.bind (f:=fun k (b:Int × Bool) => _) c1 ?_
 refine Ev.bind (f:=fun k (b:Int × Bool) => _) c2 ?_
 simp only [e2,bne_self_eq_false,Bool.false_eq_true,if_false,e1,if_true]
 exact Ev.bind (f:=fun k t => _) h3 ⟨0,fun k _ => by simp⟩
theorem j14_ev (b53:Bool) (s:List S67) (cs:List Int) (n:Int) (u:List S67) (cu:List Int) (v:List S67) (cv:List Int) (hs:s.length ≤ 1000) (hc:cs.length ≤ 1000) (h:Ev (fun k => laws_FnPuzzlesMade.j15 k b53 u cu v cv) true):Ev (fun k => laws_FnPuzzlesMade.j14 k n (openP s cs n).2.2 b53 s cs (openP s cs n).1 (openP s cs n).2.1 u cu v cv) true:=by
 cases hb:(openP s cs n).2.2
 ·exact Ev.step (fun k => by simp only [laws_FnPuzzlesMade.j14,Bool.false_eq_true,if_false]) h
 ·obtain ⟨⟨n0,n1⟩,e1,e2⟩:=fill_open s cs n hb
  rw [e1]
  have f1:=(fill_both n (rd cs n) s (cs.set n.toNat (-1)) (by omega) (by simp; omega)).2
  rw [e2] at f1
  refine Ev.step (fun k => by simp only [laws_FnPuzzlesMade.j14,if_true,if_pos n0,if_pos n1]; rfl) ?_
  refine Ev.bind (f:=fun k (b:List S67 × List Int × Bool) => _) f1 ?_
  simp only [if_true]
  refine Ev.bind (f:=fun k t => _) (puz_f s cs (by omega) (by omega)) ?_
  simpa using h
theorem j13_ev (b42 b53:Bool) (r:List S67) (cr:List Int) (n v:Int) (m:Int) (s:List S67) (cs:List Int) (o:List S67) (co:List Int) (u:List S67) (cu:List Int) (w:List S67) (cw:List Int) (hs:r.length ≤ 1000) (hc:cr.length ≤ 1000) (h:Ev (fun k => laws_FnPuzzlesMade.j14 k m b42 b53 s cs o co u cu w cw) true):Ev (fun k => laws_FnPuzzlesMade.j13 k n (fillP r cr n v).2.2 m b42 b53 r cr (fillP r cr n v).1 (fillP r cr n v).2.1 s cs o co u cu w cw) true:=by
 cases hb:(fillP r cr n v).2.2
 ·exact Ev.step (fun k => by simp only [laws_FnPuzzlesMade.j13,Bool.false_eq_true,if_false]) h
 ·obtain ⟨e1,e2⟩:=open_fill r cr n v hb
  rw [e1]
  have f1:=(open_both n r (cr.set n.toNat v) (by omega) (by simp; omega)).2
  rw [e2] at f1
  refine Ev.step (fun k => by simp only [laws_FnPuzzlesMade.j13,if_true]; rfl) ?_
  refine Ev.bind (f:=fun k (b:List S67 × List Int × Bool) => _) f1 ?_
  simp only [if_true]
  refine Ev.bind (f:=fun k t => _) (puz_f r cr (by omega) (by omega)) ?_
  simpa using h
theorem rest_ev (l:List Int) (hl:∀ x ∈ l,0 ≤ x ∧ x ≤ 255):Ev (fun k => laws_FnPuzzlesMade.j11 k l) true:=by
 obtain ⟨r,cr,n,v,a1,a2,a3⟩:=d_fill l hl
 obtain ⟨s,cs,m,b1,b2,b3⟩:=d_open l hl
 obtain ⟨t,ct,t1,t2,t3⟩:=d_turn l hl
 obtain ⟨u,cu,ns,u1,u2,u3,u4⟩:=d_rename l hl
 obtain ⟨f1,f2⟩:=fill_both n v r cr (by omega) (by omega)
 obtain ⟨o1,o2⟩:=open_both m s cs (by omega) (by omega)
 obtain ⟨tr,w1,w2,w3,w4⟩:=both_turn t ct (by omega) (by omega)
 obtain ⟨x1,x2⟩:=fillP_len r cr n v (by omega) (by omega)
 obtain ⟨y1,y2⟩:=openP_len s cs m (by omega) (by omega)
 have R:∃ q:List S67 × List Int × Bool,Ev (fun k => spec_RenamePuzzle.f k u cu ns) q ∧ Ev (fun k => impl_RenamePuzzle.f k u cu ns) q ∧ q.1.length ≤ 1000 ∧ q.2.1.length ≤ 1000 ∧ Ev (fun k => laws_FnPuzzlesMade.j15 k q.2.2 u cu q.1 q.2.1) true:=by
  rcases ren_both u cu ns (by omega) (by omega) (by omega) with ⟨q1,q2⟩ | ⟨hp,hn,z,hz,hzp,q1,q2⟩
  ·exact ⟨_,q1,q2,by simp,by simp,j15_no _ _ _ _⟩
  ·exact ⟨_,q1,q2,by have:=hz.1; simp; omega,by simp; omega,j15_yes u cu z ns hp hn hz hzp⟩
 obtain ⟨q,q1,q2,q3,q4,q5⟩:=R
 have last:=j13_ev (openP s cs m).2.2 q.2.2 r cr n v m s cs (openP s cs m).1 (openP s cs m).2.1 u cu q.1 q.2.1 (by omega) (by omega) (j14_ev q.2.2 s cs m u cu q.1 q.2.1 (by omega) (by omega) q5)
 refine Ev.step (fun k => by simp only [laws_FnPuzzlesMade.j11]; rfl) ?_
 refine Ev.bind (f:=fun k (b:List S67 × List Int × Int × Int) => _) a1 ?_
 refine Ev.bind (f:=fun k (b:List S67 × List Int × Bool) => _) f2 ?_
 refine Ev.bind (f:=fun k (b:List S67 × List Int × Bool) => _) f1 ?_
 refine Ev.bind (f:=fun k (b:List S67 × List Int × Int) => _) b1 ?_
 refine Ev.bind (f:=fun k (b:List S67 × List Int × Bool) => _) o2 ?_
 refine Ev.bind (f:=fun k (b:List S67 × List Int × Bool) => _) o1 ?_
 refine Ev.bind (f:=fun k (b:List S67 × List Int) => _) t1 ?_
 refine Ev.bind (f:=fun k (b:List S67 × List Int × Bool) => _) w2 ?_
 refine Ev.bind (f:=fun k (b:List S67 × List Int × Bool) => _) w1 ?_
 refine Ev.bind (f:=fun k (b:List S67 × List Int × List Int) => _) u1 ?_
 refine Ev.bind (f:=fun k (b:List S67 × List Int × Bool) => _) q2 ?_
 refine Ev.bind (f:=fun k (b:List S67 × List Int × Bool) => _) q1 ?_
 simp only [bne_self_eq_false,Bool.false_eq_true,if_false]
 refine Ev.bind (f:=fun k t => _) (puz_f (fillP r cr n v).1 (fillP r cr n v).2.1 (by omega) (by omega)) ?_
 simp only [if_true]
 refine Ev.bind (f:=fun k t => _) (puz_f (openP s cs m).1 (openP s cs m).2.1 (by omega) (by omega)) ?_
 simp only [if_true]
 refine Ev.bind (f:=fun k t => _) (puz_f tr.1 tr.2.1 (by omega) (by omega)) ?_
 simp only [if_true]
 refine Ev.bind (f:=fun k t => _) (puz_f q.1 q.2.1 (by omega) (by omega)) ?_
 simp only [Bool.not_true]
 refine Ev.step (fun k => by simp only [laws_FnPuzzlesMade.j12,Bool.false_eq_true,if_false]; rfl) ?_
 exact last
theorem loop_ev (l1:List Int) (hrest:Ev (fun k => laws_FnPuzzlesMade.j11 k l1) true) (l:List S67) (c:List Int) (hp:pz l c = true) (h2:∀ j:Nat,j < c.length → rd c (j:Int) ≠ -1 → 2 ≤ (sols (c.set j (-1)) l).length):∀ (d i:Nat),i + d = c.length → Ev (fun k => laws_FnPuzzlesMade.l0 k l1 c (c.length:Int) (i:Int) l c) true:=by
 obtain ⟨p1,p2,p3,p4,p5,p6⟩:=pz_true l c hp
 intro d
 induction d with
 | zero =>
  intro i hi
  refine Ev.step (fun k => ?_) hrest
  simp only [laws_FnPuzzlesMade.l0]
  rw [if_neg (by omega)]
 | succ d ih =>
  intro i hi
  have hn:=ih (i + 1) (by omega)
  have hw:=t_wrap ((i:Int) + 1) (by omega) (by omega)
  have hm:=p5 _ (at_mem c (i:Int) (by omega) (by omega))
  refine Ev.step (f:=fun k => laws_FnPuzzlesMade.j9 k l1 c (c.length:Int) (i:Int) l c) (fun k => by simp only [laws_FnPuzzlesMade.l0]; rw [if_pos (by omega)]) ?_
  by_cases hg:rd c (i:Int) = -1
  ·refine Ev.step (fun k => ?_) hn
   simp only [laws_FnPuzzlesMade.j9]
   rw [if_pos (by omega),if_pos (by omega),if_pos (by omega),hw]
   simp
  ·refine Ev.step (f:=fun k => laws_FnPuzzlesMade.j10 k l1 (i:Int) c (c.length:Int) (i:Int) l c) (fun k => ?_) ?_
   ·simp only [laws_FnPuzzlesMade.j9]
    rw [if_pos (by omega),if_pos (by omega),if_neg (by omega)]
   ·have eo:openP l c (i:Int) = (l,c.set i (-1),true):=if_pos ⟨place_mk l c i hp (by omega),hg⟩
    have o2:=(open_both (i:Int) l c (by omega) (by omega)).2
    rw [eo] at o2
    have c2:=count_f l (c.set i (-1)) (by omega) (by simp; omega)
    have hs:=h2 i (by omega) hg
    refine Ev.step (fun k => by simp only [laws_FnPuzzlesMade.j10]; rfl) ?_
    refine Ev.bind (f:=fun k (b:List S67 × List Int × Bool) => _) o2 ?_
    refine Ev.bind (f:=fun k (b:Int × Bool) => _) c2 ?_
    rw [hw]
    simp only [if_true]
    have hpz:=pz_set l c i (-1) hp (by omega) (by omega)
    by_cases g:(sols (c.set i (-1)) l).length ≤ 200
    ·have e:solP l (c.set i (-1)) = (sols (c.set i (-1)) l,true):=if_pos ⟨hpz,g⟩
     rw [e]
     have hz:¬ ((sols (c.set i (-1)) l).length:Int) < 2:=by omega
     simp only [if_true,hz,if_false]
     exact hn
    ·have e:solP l (c.set i (-1)) = ([],false):=if_neg (fun h => g h.2)
     rw [e]
     simpa using hn
theorem hardP_len (l:List S67) (c:List Int) (hl:l.length ≤ 1000) (hc:c.length ≤ 1000):(hardP l c).1.length ≤ 1000 ∧ (hardP l c).2.1.length ≤ 1000:=by
 unfold hardP
 split
 ·exact ⟨hl,by rw [grd_len]; exact hc⟩
 ·simp
theorem mo_pz {l:List S67} {c d:List Int} (h:mo d c) (hl:d.length = c.length) (hp:pz l c = true):pz l d = true:=by
 obtain ⟨p1,p2,p3,p4,p5,p6⟩:=pz_true l c hp
 refine row_pz l d (row_of p3 p6) p1 p2 (by omega) fun x hx => ?_
 obtain ⟨i,hi,e⟩:=List.mem_iff_getElem.1 hx
 have hr:rd d (i:Int) = x:=by
  unfold rd
  simp [List.getD_eq_getElem?_getD,hi,e]
 rcases h i with h | h
 ·omega
 ·have:=p5 _ (at_mem c (i:Int) (by omega) (by omega))
  omega
theorem harder_ev (l1:List Int) (hl1:∀ x ∈ l1,0 ≤ x ∧ x ≤ 255):Ev (fun k => laws_FnPuzzlesMade.j3 k l1) true:=by
 have hrest:=rest_ev l1 hl1
 obtain ⟨l,c,d1,d2,d3⟩:=d_harder l1 hl1
 obtain ⟨s1,s2⟩:=hard_both l c (by omega) (by omega)
 obtain ⟨y1,y2⟩:=hardP_len l c (by omega) (by omega)
 refine Ev.step (fun k => by simp only [laws_FnPuzzlesMade.j3]; rfl) ?_
 refine Ev.bind (f:=fun k (b:List S67 × List Int) => _) d1 ?_
 refine Ev.bind (f:=fun k (b:List S67 × List Int × Bool) => _) s2 ?_
 refine Ev.bind (f:=fun k (b:List S67 × List Int × Bool) => _) s1 ?_
 simp only [bne_self_eq_false,Bool.false_eq_true,if_false]
 refine Ev.bind (f:=fun k t => _) (puz_f (hardP l c).1 (hardP l c).2.1 (by omega) (by omega)) ?_
 simp only [Bool.not_true]
 refine Ev.step (fun k => by simp only [laws_FnPuzzlesMade.j4,Bool.false_eq_true,if_false]; rfl) ?_
 by_cases hone:pz l c = true ∧ (sols c l).length = 1
 ·have e:hardP l c = (l,grd l c.length 0 c,true):=if_pos hone
  rw [e]
  have hlen:=grd_len l c.length 0 c
  have hmo:=grd_mo l c.length 0 c
  have h1:=grd_one l c.length 0 c hone.2
  have hpz:=mo_pz hmo hlen hone.1
  obtain ⟨p1,p2,p3,p4,p5,p6⟩:=pz_true l c hone.1
  have hrow:=row_of p3 p6
  have a1:=sol_f l c (by omega) (by omega)
  have a2:=sol_f l (grd l c.length 0 c) (by omega) (by omega)
  have ea:solP l c = (sols c l,true):=if_pos ⟨hone.1,by omega⟩
  have heq:sols c l = sols (grd l c.length 0 c) l:=(sols_sub hmo l).eq_of_length (by omega)
  have eb:solP l (grd l c.length 0 c) = (sols c l,true):=by
   rw [heq]
   exact if_pos ⟨hpz,by omega⟩
  rw [ea] at a1
  rw [eb] at a2
  have g1:=gaps_f l c (by omega) (by omega) hone.1
  have g2:=gaps_f l (grd l c.length 0 c) (by omega) (by omega) hpz
  have hcnt:=mo_count (grd l c.length 0 c) c hlen hmo
  refine Ev.step (fun k => by simp only [laws_FnPuzzlesMade.j5,if_true]; rfl) ?_
  refine Ev.bind (f:=fun k (b:List (List Int) × Bool) => _) a1 ?_
  refine Ev.bind (f:=fun k (b:List (List Int) × Bool) => _) a2 ?_
  refine Ev.bind (f:=fun k (b:Int × Bool) => _) g1 ?_
  refine Ev.bind (f:=fun k (b:Int × Bool) => _) g2 ?_
  simp only [if_true]
  have hz:((sols c l).length:Int) = 1:=by omega
  simp only [hz,if_true]
  refine Ev.bind (f:=fun k t => _) (rows_f (sols c l) (by omega) (fun r hr => by have:=(sols_mem c l hrow r hr).1; omega)) ?_
  simp only [if_true]
  rw [decide_eq_false (by omega)]
  refine Ev.step (fun k => by simp only [laws_FnPuzzlesMade.j6,Bool.false_eq_true,if_false]; rfl) ?_
  refine Ev.step (fun k => by simp only [laws_FnPuzzlesMade.j7]; rfl) ?_
  exact loop_ev l1 hrest l (grd l c.length 0 c) hpz (fun j hj hne => grd_two l c.length 0 c hone.2 j (by omega) (by omega) (by omega) hne) (grd l c.length 0 c).length 0 (by omega)
 ·have e:hardP l c = ([],[],false):=if_neg hone
  rw [e]
  exact Ev.step (fun k => by simp only [laws_FnPuzzlesMade.j5,Bool.false_eq_true,if_false]) hrest
theorem wf_u8 (l:List Int) (h:∀ x_ ∈ l,(Lit.int .u8 x_).wf = true):∀ x ∈ l,0 ≤ x ∧ x ≤ 255:=by
 intro x hx
 have h1:(decide (IntKind.u8.min ≤ x) && decide (x ≤ IntKind.u8.max)) = true:=h x hx
 have h2:IntKind.u8.min = 0:=by decide
 have h3:IntKind.u8.max = 255:=by decide
 rw [h2,h3] at h1
 simpa using h1
theorem FnPuzzlesMade (l0:List Int) (l1:List Int) (_h0:(l0.length ≤ 9223372036854775807 ∧ ∀ x_ ∈ l0,(Lit.int .u8 x_).wf = true)) (_h1:(l1.length ≤ 9223372036854775807 ∧ ∀ x_ ∈ l1,(Lit.int .u8 x_).wf = true)):∃ k,laws_FnPuzzlesMade.f k l0 l1 = some true:=by
 have hb0:∀ x ∈ l0,0 ≤ x ∧ x ≤ 255:=wf_u8 l0 _h0.2
 have hb1:∀ x ∈ l1,0 ≤ x ∧ x ≤ 255:=wf_u8 l1 _h1.2
 refine Ev.rounds (g:=fun k => laws_FnPuzzlesMade.f k l0 l1) ?_
 unfold laws_FnPuzzlesMade.f
 have hbig:∃ b,laws_big.f l0 l1 = some b:=by
  unfold laws_big.f
  split
  ·exact ⟨_,rfl⟩
  ·exact ⟨_,rfl⟩
 obtain ⟨b,hb⟩:=hbig
 rw [hb]
 simp only [Option.bind_some]
 cases b
 ·simp only [Bool.false_eq_true,if_false]
  have h3:=harder_ev l1 hb1
  obtain ⟨c,e,d1,d2⟩:=d_make l0 hb0
  refine Ev.step (fun k => by simp only [laws_FnPuzzlesMade.j0]; rfl) ?_
  refine Ev.bind (f:=fun k (b:List Int × Int) => _) d1 ?_
  rcases make_both e c (by omega) with ⟨q1,q2⟩ | ⟨hc,c2,c10,s,hs,hsp,hsr,q1,q2⟩
  ·refine Ev.bind (f:=fun k (b:List S67 × List Int × Bool) => _) q2 ?_
   refine Ev.bind (f:=fun k (b:List S67 × List Int × Bool) => _) q1 ?_
   simp only [bne_self_eq_false,Bool.false_eq_true,if_false]
   refine Ev.bind (f:=fun k t => _) (puz_f [] [] (by simp) (by simp)) ?_
   simp only [Bool.not_true]
   refine Ev.step (fun k => by simp only [laws_FnPuzzlesMade.j1,Bool.false_eq_true,if_false]; rfl) ?_
   exact Ev.step (fun k => by simp only [laws_FnPuzzlesMade.j2,Bool.false_eq_true,if_false]) h3
  ·have hlen:=hs.1
   have hpz:=made_pz e c s hs hsp c2 c10 (ch_true c hc).2.2.1
   have m1:=made_is e c s hc hs hsp hsr c2 c10
   have m2:=pz_impl s (gaps e 0 c) (by omega)
   rw [hpz] at m2
   refine Ev.bind (f:=fun k (b:List S67 × List Int × Bool) => _) q2 ?_
   refine Ev.bind (f:=fun k (b:List S67 × List Int × Bool) => _) q1 ?_
   simp only [bne_self_eq_false,Bool.false_eq_true,if_false]
   refine Ev.bind (f:=fun k t => _) (puz_f s (gaps e 0 c) (by omega) (by rw [gaps_len]; omega)) ?_
   simp only [Bool.not_true]
   refine Ev.step (fun k => by simp only [laws_FnPuzzlesMade.j1,Bool.false_eq_true,if_false]; rfl) ?_
   refine Ev.step (fun k => by simp only [laws_FnPuzzlesMade.j2,if_true]; rfl) ?_
   refine Ev.bind (f:=fun k (b:Bool × Bool) => _) m1 ?_
   refine Ev.bind (f:=fun k t => _) m2 ?_
   simpa using h3
 ·exact ⟨0,fun k _ => by simp⟩

end Go.Proofs.YtfkonhamjnembaaGreat.QPure
