/- For every input the law FnChainsListed answers true: the plain statement over lists and numbers. No conditions. -/
import Derived.Test.YtkofmaeffgbelaaQFnChainsListedx1
import Derived.Test.YtkofmaeffgbelaaQFnChainsListedx2
import Derived.Test.YtkofmaeffgbelaaQFnChainsListedx3
import Derived.Test.YtkofmaeffgbelaaQFnChainsListedx4
import Derived.Test.YtkofmaeffgbelaaQFnChainsListedx5
import Derived.Test.YtkofmaeffgbelaaQFnChainsListedx6
import Derived.Test.YtkofmaeffgbelaaQFnChainsListedx7
import Derived.Test.YtkofmaeffgbelaaQFnChainsListedx8
import Derived.Test.YtkofmaeffgbelaaQFnChainsListedx9
import Derived.Test.YtkofmaeffgbelaaQFnChainsListedx10
import Derived.Test.YtkofmaeffgbelaaQFnChainsListedx11
import Derived.Test.YtkofmaeffgbelaaQFnChainsListedx12
namespace Go.Proofs.Ytkofmaeffgbelaa.QPure
open Go.RowKit Go.Proofs.Ytkofmaeffgbelaa.QFnChainsListed Go.Proofs.YtkofmaeffgbelaaW.PrintWords Go.Proofs.YtkofmaeffgbelaaW.PrintLast
set_option linter.unusedSimpArgs false
set_option linter.unusedVariables false

set_option linter.unusedVariables false
theorem t_ext (x y:S39) (h0:x.f0 = y.f0) (h1:x.f1 = y.f1):x = y:=by
  cases x
  cases y
  simp_all
instance t_dec : DecidableEq S39:=fun x y => if h : x.f0 = y.f0 ∧ x.f1 = y.f1 then isTrue (t_ext x y h.1 h.2) else isFalse (fun e => h (by subst e; exact ⟨rfl,rfl⟩))
theorem t_beq (x y:S39):(x.f0 == y.f0 && (x.f1 == y.f1)) = decide (x = y):=by
  by_cases h:x = y
  · subst h
    simp
  · have:¬ (x.f0 = y.f0 ∧ x.f1 = y.f1):=fun e => h (t_ext x y e.1 e.2)
    rw [decide_eq_false h]
    by_cases h0:x.f0 = y.f0
    · have h1:¬ x.f1 = y.f1:=fun e => this ⟨h0,e⟩
      simp [h1]
    · simp [h0]
theorem t_mid (pre:List S39) (x:S39) (xs:List S39) (d:S39):(pre ++ x :: xs).getD pre.length d = x:=by
  rw [List.getD_eq_getElem?_getD,List.getElem?_append_right (Nat.le_refl _),Nat.sub_self]
  rfl
theorem t_wrap (n:Int) (h : -1000000000 ≤ n) (h':n ≤ 1000000000):wrap64 n = n:=by
  unfold wrap64
  omega

theorem t_wrap2 (n:Int) (h : -1000000000000 ≤ n) (h':n ≤ 1000000000000):wrap64 n = n:=by
  unfold wrap64
  omega

def good (x:S39):Bool:=decide (0 ≤ x.f0) && (decide (x.f0 ≤ x.f1) && decide (x.f1 ≤ 9))
theorem good_iff (x:S39):good x = true ↔ 0 ≤ x.f0 ∧ x.f0 ≤ x.f1 ∧ x.f1 ≤ 9:=by
  unfold good
  simp
theorem tiGood_f (x:S39):spec_tiGood.f x.f0 x.f1 = some (good x):=by
  unfold spec_tiGood.f spec_l1In.f good
  by_cases h1:0 ≤ x.f0
  · have h1':x.f0 ≥ 0:=h1
    rw [if_pos h1']
    by_cases h2:x.f0 ≤ x.f1
    · simp [h1,h2]
    · simp [h1,h2]
  · have h1':¬ x.f0 ≥ 0:=h1
    rw [if_neg h1']
    simp [h1]

theorem place_ev (t:S39):∀ (rest pre:List S39),(pre ++ rest).length ≤ 2000000 → ∃ r:Int,Ev (fun k => spec_tiPlace.l0 k (pre ++ rest) ((pre ++ rest).length:Int) (pre.length:Int) t.f0 t.f1) r ∧ decide (r ≥ 0) = decide (t ∈ rest):=by
  intro rest
  induction rest with
  | nil =>
    intro pre hl
    refine ⟨-1,Ev.step (f:=fun _ => some (-1)) (fun k => ?_) (Ev.now _),by simp⟩
    simp only [spec_tiPlace.l0,List.append_nil]
    rw [if_neg (by omega)]
  | cons x xs ih =>
    intro pre hl
    have hlen:(pre ++ x :: xs).length = pre.length + xs.length + 1:=by simp; omega
    have hget:rd_T39 (pre ++ x :: xs) (pre.length:Int) = x:=by
      unfold rd_T39
      exact t_mid pre x xs _
    by_cases e:x = t
    · refine ⟨(pre.length:Int),Ev.step (f:=fun _ => some (pre.length:Int)) (fun k => ?_) (Ev.now _),by simp [e]⟩
      simp only [spec_tiPlace.l0]
      rw [if_pos (by omega),if_pos (by omega),if_pos (by omega),hget,t_beq,if_pos (by simp [e])]
    · obtain ⟨r,h1,h2⟩:=ih (pre ++ [x]) (by simpa using hl)
      have e1:pre ++ [x] ++ xs = pre ++ x :: xs:=by simp
      rw [e1] at h1
      refine ⟨r,Ev.step (fun k => ?_) h1,by rw [h2]; simp [Ne.symm e]⟩
      simp only [spec_tiPlace.l0]
      rw [if_pos (by omega),if_pos (by omega),if_pos (by omega),hget,t_beq,if_neg (by simp [e]),t_wrap ((pre.length:Int) + 1) (by omega) (by omega)]
      simp
theorem place_f (t:S39) (l:List S39) (hl:l.length ≤ 2000000):∃ r:Int,Ev (fun k => spec_tiPlace.f k l t.f0 t.f1) r ∧ decide (r ≥ 0) = decide (t ∈ l):=place_ev t l [] hl

theorem index_ev (t:S39):∀ (rest pre:List S39),(pre ++ rest).length ≤ 2000000 → ∃ r:Int,Ev (fun k => slices_Index_impl_Tile_impl_Tile.l0 k (pre ++ rest) ((pre ++ rest).length:Int) (pre.length:Int) t.f0 t.f1) r ∧ decide (r ≥ 0) = decide (t ∈ rest):=by
  intro rest
  induction rest with
  | nil =>
    intro pre hl
    refine ⟨-1,Ev.step (f:=fun _ => some (-1)) (fun k => ?_) (Ev.now _),by simp⟩
    simp only [slices_Index_impl_Tile_impl_Tile.l0,List.append_nil]
    rw [if_neg (by omega)]
  | cons x xs ih =>
    intro pre hl
    have hlen:(pre ++ x :: xs).length = pre.length + xs.length + 1:=by simp; omega
    have hget:rd_T39 (pre ++ x :: xs) (pre.length:Int) = x:=by
      unfold rd_T39
      exact t_mid pre x xs _
    by_cases e:t = x
    · refine ⟨(pre.length:Int),Ev.step (f:=fun _ => some (pre.length:Int)) (fun k => ?_) (Ev.now _),by simp [e]⟩
      simp only [slices_Index_impl_Tile_impl_Tile.l0]
      rw [if_pos (by omega),if_pos (by omega),if_pos (by omega),hget,t_beq,if_pos (by simp [e])]
    · obtain ⟨r,h1,h2⟩:=ih (pre ++ [x]) (by simpa using hl)
      have e1:pre ++ [x] ++ xs = pre ++ x :: xs:=by simp
      rw [e1] at h1
      refine ⟨r,Ev.step (fun k => ?_) h1,by rw [h2]; simp [e]⟩
      simp only [slices_Index_impl_Tile_impl_Tile.l0]
      rw [if_pos (by omega),if_pos (by omega),if_pos (by omega),hget,t_beq,if_neg (by simp [e]),t_wrap ((pre.length:Int) + 1) (by omega) (by omega)]
      simp
theorem contains_f (t:S39) (l:List S39) (hl:l.length ≤ 2000000):Ev (fun k => slices_Contains_impl_Tile_impl_Tile.f k l t.f0 t.f1) (decide (t ∈ l)):=by
  obtain ⟨r,h1,h2⟩:=index_ev t l [] hl
  rw [← h2]
  exact Ev.bind (f:=fun _ t177 => (some (decide (t177 ≥ 0)))) h1 ⟨0,fun k _ => rfl⟩

def nd:List S39 → List S39 → Bool
  | _,[] => true
  | pre,x :: xs => !decide (x ∈ pre) && nd (pre ++ [x]) xs
def hb:List S39 → List S39 → Bool
  | _,[] => true
  | pre,x :: xs => good x && (!decide (x ∈ pre) && hb (pre ++ [x]) xs)
theorem hb_nd:∀ (rest pre:List S39),hb pre rest = (rest.all good && nd pre rest):=by
  intro rest
  induction rest with
  | nil => intro pre; rfl
  | cons x xs ih =>
    intro pre
    unfold hb nd
    rw [ih,List.all_cons]
    cases good x <;> cases decide (x ∈ pre) <;> cases xs.all good <;> simp
theorem nd_nodup:∀ (rest pre:List S39),nd pre rest = true → (∀ x ∈ rest,x ∉ pre) ∧ rest.Nodup:=by
  intro rest
  induction rest with
  | nil => intro pre _; exact ⟨(fun x h => by cases h),List.nodup_nil⟩
  | cons x xs ih =>
    intro pre h
    unfold nd at h
    simp only [Bool.and_eq_true,Bool.not_eq_true',decide_eq_false_iff_not] at h
    obtain ⟨h1,h2⟩:=ih _ h.2
    refine ⟨fun y hy => ?_,?_⟩
    · rcases List.mem_cons.1 hy with rfl | hy
      · exact h.1
      · exact fun hp => h1 y hy (List.mem_append_left _ hp)
    · rw [List.nodup_cons]
      exact ⟨fun hx => h1 x hx (by simp),h2⟩

theorem tiHand_ev:∀ (rest pre:List S39),(pre ++ rest).length ≤ 2000000 → Ev (fun k => spec_tiHand.l0 k (pre ++ rest) (pre ++ rest) ((pre ++ rest).length:Int) (pre.length:Int)) (hb pre rest):=by
  intro rest
  induction rest with
  | nil =>
    intro pre hl
    refine Ev.step (f:=fun _ => some true) (fun k => ?_) (Ev.now _)
    simp only [spec_tiHand.l0,List.append_nil]
    rw [if_neg (by omega)]
  | cons x xs ih =>
    intro pre hl
    have hlen:(pre ++ x :: xs).length = pre.length + xs.length + 1:=by simp; omega
    have hget:rd_T39 (pre ++ x :: xs) (pre.length:Int) = x:=by
      unfold rd_T39
      exact t_mid pre x xs _
    have htake:(pre ++ x :: xs).take ((pre.length:Int)).toNat = pre:=by simp
    cases hg:good x
    · refine Ev.step (f:=fun _ => some (hb pre (x :: xs))) (fun k => ?_) (Ev.now _)
      simp only [spec_tiHand.l0]
      rw [if_pos (by omega),if_pos (by omega),if_pos (by omega),hget,tiGood_f,hg]
      simp [hb,hg]
    · obtain ⟨r,h1,h2⟩:=place_f x pre (by omega)
      have e1:pre ++ [x] ++ xs = pre ++ x :: xs:=by simp
      have hi:=ih (pre ++ [x]) (by simpa using hl)
      rw [e1] at hi
      refine Ev.step (f:=fun k => (spec_tiPlace.f k pre x.f0 x.f1).bind fun t123 => (if t123 ≥ 0 then (some false) else (spec_tiHand.l0 k (pre ++ x :: xs) (pre ++ x :: xs) ((pre ++ x :: xs).length:Int) (((pre ++ [x]).length:Nat):Int)))) (fun k => ?_) ?_
      · simp only [spec_tiHand.l0]
        rw [if_pos (by omega),if_pos (by omega),if_pos (by omega),hget,tiGood_f,hg]
        simp only [Option.bind_some,if_true]
        rw [if_pos (by omega),htake,t_wrap ((pre.length:Int) + 1) (by omega) (by omega)]
        simp
      · refine Ev.bind (f:=fun k t123 => (if t123 ≥ 0 then (some false) else (spec_tiHand.l0 k (pre ++ x :: xs) (pre ++ x :: xs) ((pre ++ x :: xs).length:Int) (((pre ++ [x]).length:Nat):Int)))) h1 ?_
        by_cases hm:x ∈ pre
        · have hr:r ≥ 0:=by
            rw [decide_eq_true hm] at h2
            exact of_decide_eq_true h2
          refine ⟨0,fun k _ => ?_⟩
          (try dsimp only)
          rw [if_pos hr]
          simp [hb,hm]
        · have hr:¬ r ≥ 0:=by
            rw [decide_eq_false hm] at h2
            exact of_decide_eq_false h2
          refine Ev.congr (fun k => ?_) (show Ev _ (hb pre (x :: xs)) from by
            have:hb pre (x :: xs) = hb (pre ++ [x]) xs:=by simp [hb,hg,hm]
            rw [this]
            exact hi)
          (try dsimp only)
          rw [if_neg hr]

theorem areDiff_ev:∀ (rest pre:List S39),(pre ++ rest).length ≤ 2000000 → Ev (fun k => impl_areDifferent_impl_Tile.l0 k (pre ++ rest) (pre ++ rest) ((pre ++ rest).length:Int) (pre.length:Int)) (nd pre rest):=by
  intro rest
  induction rest with
  | nil =>
    intro pre hl
    refine Ev.step (f:=fun _ => some true) (fun k => ?_) (Ev.now _)
    simp only [impl_areDifferent_impl_Tile.l0,List.append_nil]
    rw [if_neg (by omega)]
  | cons x xs ih =>
    intro pre hl
    have hlen:(pre ++ x :: xs).length = pre.length + xs.length + 1:=by simp; omega
    have hget:rd_T39 (pre ++ x :: xs) (pre.length:Int) = x:=by
      unfold rd_T39
      exact t_mid pre x xs _
    have htake:(pre ++ x :: xs).take ((pre.length:Int)).toNat = pre:=by simp
    have h1:=contains_f x pre (by omega)
    have e1:pre ++ [x] ++ xs = pre ++ x :: xs:=by simp
    have hi:=ih (pre ++ [x]) (by simpa using hl)
    rw [e1] at hi
    refine Ev.step (f:=fun k => (slices_Contains_impl_Tile_impl_Tile.f k pre x.f0 x.f1).bind fun t184 => (if t184 = true then (some false) else (impl_areDifferent_impl_Tile.l0 k (pre ++ x :: xs) (pre ++ x :: xs) ((pre ++ x :: xs).length:Int) (((pre ++ [x]).length:Nat):Int)))) (fun k => ?_) ?_
    · simp only [impl_areDifferent_impl_Tile.l0]
      rw [if_pos (by omega),if_pos (by omega),if_pos (by omega),if_pos (by omega),hget,htake,t_wrap ((pre.length:Int) + 1) (by omega) (by omega)]
      simp
    · refine Ev.bind (f:=fun k t184 => (if t184 = true then (some false) else (impl_areDifferent_impl_Tile.l0 k (pre ++ x :: xs) (pre ++ x :: xs) ((pre ++ x :: xs).length:Int) (((pre ++ [x]).length:Nat):Int)))) h1 ?_
      by_cases hm:x ∈ pre
      · refine ⟨0,fun k _ => ?_⟩
        simp [nd,hm]
      · refine Ev.congr (fun k => ?_) (show Ev _ (nd pre (x :: xs)) from by
          have:nd pre (x :: xs) = nd (pre ++ [x]) xs:=by simp [nd,hm]
          rw [this]
          exact hi)
        simp only [hm,decide_false,Bool.false_eq_true,if_false]

theorem noTile_good (x:S39):noTile x = !good x:=rfl
theorem any_no (l:List S39):l.any noTile = !l.all good:=by
  induction l with
  | nil => rfl
  | cons x xs ih => rw [List.any_cons,List.all_cons,ih,noTile_good]; cases good x <;> simp

def isH (l:List S39):Bool:=decide (l.length ≤ 55) && (l.all good && nd [] l)
theorem isH_spec (l:List S39) (hl:l.length ≤ 2000000):Ev (fun k => spec_tiHand.f k l) (isH l):=by
  by_cases h:l.length ≤ 55
  · have hi:=tiHand_ev l [] hl
    rw [hb_nd] at hi
    refine Ev.congr (fun k => ?_) (show Ev _ (isH l) from by
      have:isH l = (l.all good && nd [] l):=by simp [isH,h]
      rw [this]
      exact hi)
    unfold spec_tiHand.f
    rw [if_neg (by omega)]
    rfl
  · refine ⟨0,fun k _ => ?_⟩
    show spec_tiHand.f k l = _
    unfold spec_tiHand.f
    rw [if_pos (by omega)]
    simp [isH,h]
theorem isH_impl (l:List S39) (hl:l.length ≤ 2000000):Ev (fun k => impl_IsHand.f k l) (isH l):=by
  by_cases h:l.length ≤ 55
  · cases hg:l.all good
    · refine ⟨0,fun k _ => ?_⟩
      show impl_IsHand.f k l = _
      unfold impl_IsHand.f
      rw [if_pos (by omega),any_no,hg]
      simp [isH,hg]
    · have hi:=areDiff_ev l [] hl
      refine Ev.congr (fun k => ?_) (show Ev _ (isH l) from by
        have:isH l = nd [] l:=by simp [isH,h,hg]
        rw [this]
        exact hi)
      unfold impl_IsHand.f
      rw [if_pos (by omega),any_no,hg]
      simp only [Bool.not_true,Bool.false_eq_true,if_false]
      rfl
  · refine ⟨0,fun k _ => ?_⟩
    show impl_IsHand.f k l = _
    unfold impl_IsHand.f
    rw [if_neg (by omega)]
    simp [isH,h]
theorem isH_true (l:List S39) (h:isH l = true):l.length ≤ 55 ∧ (∀ x ∈ l,good x = true) ∧ l.Nodup:=by
  unfold isH at h
  simp only [Bool.and_eq_true,decide_eq_true_eq] at h
  exact ⟨h.1,List.all_eq_true.1 h.2.1,(nd_nodup l [] h.2.2).2⟩

def lt (x y:S39):Prop:=x.f0 < y.f0 ∨ (x.f0 = y.f0 ∧ x.f1 < y.f1)
def code (l:List S39):List (Int × Int):=l.map fun t => (t.f0,t.f1)
def lst (n:Nat):List (Int × Int):=(List.range (n + 1)).flatMap fun a => (List.range (n + 1 - a)).map fun b => ((a:Int),((a + b:Nat):Int))
theorem whole:∃ A:List S39,Ev (fun k => spec_tiSet.f k 9) A ∧ A.length = 55 ∧ A.Pairwise lt ∧ (∀ x,x ∈ A ↔ good x = true):=by
  have h2:((spec_tiSet.f 100 9).map code) = some (lst 9):=by decide +kernel
  obtain ⟨A,hA,hc⟩:=Option.map_eq_some_iff.1 h2
  have hl:(lst 9).length = 55:=by decide +kernel
  have hp:(lst 9).Pairwise (fun x y => x.1 < y.1 ∨ (x.1 = y.1 ∧ x.2 < y.2)):=by decide +kernel
  have hg:∀ p ∈ lst 9,0 ≤ p.1 ∧ p.1 ≤ p.2 ∧ p.2 ≤ 9:=by decide +kernel
  have hall:∀ a:Fin 10,∀ b:Fin 10,a.val ≤ b.val → (((a.val:Nat):Int),((b.val:Nat):Int)) ∈ lst 9:=by decide +kernel
  generalize lst 9 = P at hc hl hp hg hall
  subst hc
  refine ⟨A,Ev.of (fun k => spec_tiSet.mono _ k) hA,?_,?_,fun x => ?_⟩
  · unfold code at hl
    rw [List.length_map] at hl
    exact hl
  · unfold code at hp
    rw [List.pairwise_map] at hp
    exact hp
  · constructor
    · intro hx
      rw [good_iff]
      exact hg (x.f0,x.f1) (by unfold code; exact List.mem_map.2 ⟨x,hx,rfl⟩)
    · intro hx
      rw [good_iff] at hx
      have:=hall ⟨x.f0.toNat,by omega⟩ ⟨x.f1.toNat,by omega⟩ (by simp; omega)
      simp only at this
      rw [Int.toNat_of_nonneg (by omega),Int.toNat_of_nonneg (by omega)] at this
      unfold code at this
      obtain ⟨y,hy,e⟩:=List.mem_map.1 this
      simp only [Prod.mk.injEq] at e
      have:y = x:=t_ext y x e.1 e.2
      rw [← this]
      exact hy

theorem len_le:∀ (a b:List S39),a.Nodup → (∀ x,x ∈ a → x ∈ b) → a.length ≤ b.length:=by
  intro a
  induction a with
  | nil => intro b _ _; simp
  | cons x xs ih =>
    intro b hn h
    rw [List.nodup_cons] at hn
    have hx:=h x List.mem_cons_self
    have:=ih (b.erase x) hn.2 (fun y hy => (List.mem_erase_of_ne (fun e => hn.1 (by rw [← e]; exact hy))).2 (h y (List.mem_cons_of_mem _ hy)))
    rw [List.length_erase_of_mem hx] at this
    have hp:0 < b.length:=List.length_pos_of_mem hx
    simp
    omega
def tileOf (x y:Int):S39:=⟨mn x y,mx x y⟩
theorem tiOf_f (x y:Int):spec_tiOf.f x y = some ((tileOf x y).f0,(tileOf x y).f1):=by
  unfold spec_tiOf.f spec_l1Least.f spec_l1Most.f tileOf mn mx
  by_cases h:x < y
  · rw [if_pos h,if_neg (by omega)]
    simp [h]
    omega
  · by_cases h2:x > y
    · rw [if_neg h,if_pos h2]
      simp [h]
      omega
    · have:x = y:=by omega
      subst this
      simp
theorem d_bits (E:Int) (h0:0 ≤ E) (h1:E ≤ 18446744073709551615):0 ≤ Go.bits .and .u64 E 255 ∧ Go.bits .and .u64 E 255 ≤ 255:=by
  have h:=bits_and_u64_nat E.toNat 255 (by omega) (by omega)
  rw [Int.toNat_of_nonneg h0] at h
  have h2:(E.toNat &&& 255) ≤ 255:=Nat.and_le_right
  have h3:Go.bits .and .u64 E 255 = ((E.toNat &&& 255:Nat):Int):=h
  omega
theorem d_w (n:Int) (h : -1000000000 ≤ n) (h':n ≤ 1000000000):wrap64 n = n:=by
  unfold wrap64
  omega
theorem d_rd (l:List Int) (hl:∀ x ∈ l,0 ≤ x ∧ x ≤ 255) (p:Int):0 ≤ rd l p ∧ rd l p ≤ 255:=by
  unfold rd
  rw [List.getD_eq_getElem?_getD]
  by_cases h:p.toNat < l.length
  · rw [List.getElem?_eq_getElem h]
    exact hl _ (List.getElem_mem _)
  · rw [List.getElem?_eq_none (by omega)]
    simp
theorem d_next (l:List Int) (hl:∀ x ∈ l,0 ≤ x ∧ x ≤ 255) (p s:Int) (hp:0 ≤ p ∧ p ≤ 1000000):∃ v s',spec_l1Cur_next.f l p s = some (v,p + 1,s') ∧ 0 ≤ v ∧ v ≤ 255:=by
  have h:=d_rd l hl p
  have hb:∀ n:Int,0 ≤ wrap64 (Go.bits .and .u64 (IntKind.u64.wrap n / 1099511627776) 255) ∧ wrap64 (Go.bits .and .u64 (IntKind.u64.wrap n / 1099511627776) 255) ≤ 255:=by
    intro n
    have h:=d_bits (IntKind.u64.wrap n / 1099511627776) (by rw [IntKind.wrap_u64]; omega) (by rw [IntKind.wrap_u64]; omega)
    rw [d_w _ (by omega) (by omega)]
    exact h
  unfold spec_l1Cur_next.f
  rw [d_w (p + 1) (by omega) (by omega)]
  by_cases h1:p < (l.length:Int)
  · rw [if_pos h1,if_pos hp.1]
    by_cases h2:p + 1 ≤ (l.length:Int)
    · rw [if_pos h2]
      exact ⟨_,_,rfl,by rw [d_w _ (by omega) (by omega)]; exact h⟩
    · rw [if_neg h2]
      exact ⟨_,_,rfl,hb _⟩
  · rw [if_neg h1]
    by_cases h2:p + 1 ≤ (l.length:Int)
    · rw [if_pos h2]
      exact ⟨_,_,rfl,by omega,by omega⟩
    · rw [if_neg h2]
      exact ⟨_,_,rfl,hb _⟩
theorem d_pick (l:List Int) (hl:∀ x ∈ l,0 ≤ x ∧ x ≤ 255) (p s:Int) (hp:0 ≤ p ∧ p ≤ 100000) (a:Int) (ha:1 ≤ a):∃ v p' s',spec_l1Cur_pick.f l p s a = some (v,p',s') ∧ 0 ≤ v ∧ v < a ∧ 0 ≤ p' ∧ p' ≤ p + 2:=by
  unfold spec_l1Cur_pick.f
  by_cases h1:a ≤ 1
  · rw [if_pos h1]
    exact ⟨0,p,s,rfl,by omega,by omega,by omega,by omega⟩
  · rw [if_neg h1]
    obtain ⟨v,s1,e1,v0,v1⟩:=d_next l hl p s (by omega)
    rw [e1]
    simp only [Option.bind_some]
    by_cases h2:a > 200
    · rw [if_pos h2]
      obtain ⟨u,s2,e2,u0,u1⟩:=d_next l hl (p + 1) s1 (by omega)
      rw [e2]
      simp only [Option.bind_some]
      rw [if_neg (by omega),d_w (v * 256) (by omega) (by omega),d_w _ (by omega) (by omega)]
      exact ⟨_,_,_,rfl,Int.tmod_nonneg _ (by omega),Int.tmod_lt_of_pos _ (by omega),by omega,by omega⟩
    · rw [if_neg h2,if_neg (by omega)]
      exact ⟨_,_,_,rfl,Int.tmod_nonneg _ (by omega),Int.tmod_lt_of_pos _ (by omega),by omega,by omega⟩
theorem d_among (l:List Int) (hl:∀ x ∈ l,0 ≤ x ∧ x ≤ 255) (p s:Int) (hp:0 ≤ p ∧ p ≤ 100000) (xs:List Int) (hx:1 ≤ xs.length):∃ v p' s',spec_l1Cur_among.f l p s xs = some (v,p',s') ∧ 0 ≤ p' ∧ p' ≤ p + 2:=by
  unfold spec_l1Cur_among.f
  obtain ⟨v,q,s1,e1,v0,v1,q0,q1⟩:=d_pick l hl p s hp (xs.length:Int) (by omega)
  rw [e1]
  simp only [Option.bind_some]
  rw [if_pos v0,if_pos v1]
  exact ⟨_,_,_,rfl,q0,q1⟩
theorem d_one (l:List Int) (hl:∀ x ∈ l,0 ≤ x ∧ x ≤ 255) (p s:Int) (hp:0 ≤ p ∧ p ≤ 100000) (a:Int) (ha:1 ≤ a):∃ v p' s',spec_l1Cur_one.f l p s a = some (v,p',s') ∧ 0 ≤ p' ∧ p' ≤ p + 2:=by
  unfold spec_l1Cur_one.f
  obtain ⟨v,q,s1,e1,v0,v1,q0,q1⟩:=d_pick l hl p s hp a ha
  rw [e1]
  exact ⟨_,_,_,rfl,q0,q1⟩
theorem i_mid (pre:List Int) (x:Int) (xs:List Int):rd (pre ++ x :: xs) (pre.length:Int) = x:=by
  unfold rd
  rw [show ((pre.length:Int)).toNat = pre.length from rfl,List.getD_eq_getElem?_getD,List.getElem?_append_right (Nat.le_refl _),Nat.sub_self]
  rfl
theorem l1In_f (n lo hi:Int):spec_l1In.f n lo hi = some (inB lo hi n):=by
  unfold spec_l1In.f inB
  by_cases h1:lo ≤ n
  · rw [if_pos (show n ≥ lo from h1)]
    simp [h1]
  · rw [if_neg (show ¬ n ≥ lo from h1)]
    simp [h1]
theorem l1All_ev (lo hi:Int):∀ (rest pre:List Int),(pre ++ rest).length ≤ 2000000 → Ev (fun k => spec_l1All.l0 k lo hi (pre ++ rest) ((pre ++ rest).length:Int) (pre.length:Int)) (rest.all (inB lo hi)):=by
  intro rest
  induction rest with
  | nil =>
    intro pre hl
    refine Ev.step (f:=fun _ => some true) (fun k => ?_) (Ev.now _)
    simp only [spec_l1All.l0,List.append_nil]
    rw [if_neg (by omega)]
  | cons x xs ih =>
    intro pre hl
    have hlen:(pre ++ x :: xs).length = pre.length + xs.length + 1:=by simp; omega
    have e1:pre ++ [x] ++ xs = pre ++ x :: xs:=by simp
    have hq:=ih (pre ++ [x]) (by simpa using hl)
    rw [e1] at hq
    rw [List.all_cons]
    cases hx:inB lo hi x
    · refine Ev.step (f:=fun _ => some false) (fun k => ?_) (Ev.now _)
      simp only [spec_l1All.l0]
      rw [if_pos (by omega),if_pos (by omega),if_pos (by omega),i_mid,l1In_f,hx]
      rfl
    · rw [Bool.true_and]
      refine Ev.step (fun k => ?_) hq
      simp only [spec_l1All.l0]
      rw [if_pos (by omega),if_pos (by omega),if_pos (by omega),i_mid,l1In_f,hx,t_wrap ((pre.length:Int) + 1) (by omega) (by omega)]
      simp
theorem l1All_f (lo hi:Int) (l:List Int) (hl:l.length ≤ 2000000):Ev (fun k => spec_l1All.f k l lo hi) (l.all (inB lo hi)):=l1All_ev lo hi l [] hl
theorem any_out (lo hi:Int) (l:List Int):(!(l.any fun n => !inB lo hi n)) = l.all (inB lo hi):=by
  induction l with
  | nil => rfl
  | cons x xs ih => rw [List.any_cons,List.all_cons,← ih]; cases inB lo hi x <;> simp
theorem inB_iff (lo hi n:Int):inB lo hi n = true ↔ lo ≤ n ∧ n ≤ hi:=by
  unfold inB
  simp
def tilesL:List Int → List S39
  | [] => []
  | x :: xs => (match xs with | [] => [] | y :: _ => [tileOf x y]) ++ tilesL xs
theorem tilesL_two (x y:Int) (r:List Int):tilesL (x :: y :: r) = tileOf x y :: tilesL (y :: r):=rfl
theorem tilesL_len:∀ c:List Int,(tilesL c).length = c.length - 1
  | [] => rfl
  | [_] => rfl
  | x :: y :: r => by
    rw [tilesL_two,List.length_cons,tilesL_len (y :: r)]
    simp
theorem haTiles_ev:∀ (rest pre:List Int) (o:List S39),(pre ++ rest).length ≤ 2000000 → o.length ≤ pre.length → 0 < pre.length →
    Ev (fun k => spec_haTiles.l0 k (pre ++ rest) o (pre.length:Int)) (o ++ tilesL (pre.getLast! :: rest)) ∧ Ev (fun k => impl_tilesOf.l0 k (pre ++ rest) o (pre.length:Int)) (o ++ tilesL (pre.getLast! :: rest)):=by
  intro rest
  induction rest with
  | nil =>
    intro pre o h1 h2 h3
    constructor
    · refine Ev.step (f:=fun _ => some (o ++ tilesL [pre.getLast!])) (fun k => ?_) (Ev.now _)
      simp only [spec_haTiles.l0,List.append_nil]
      rw [if_neg (by omega)]
      simp [tilesL]
    · refine Ev.step (f:=fun _ => some (o ++ tilesL [pre.getLast!])) (fun k => ?_) (Ev.now _)
      simp only [impl_tilesOf.l0,List.append_nil]
      rw [if_neg (by omega)]
      simp [tilesL]
  | cons x xs ih =>
    intro pre o h1 h2 h3
    have hlen:(pre ++ x :: xs).length = pre.length + xs.length + 1:=by simp; omega
    have e1:pre ++ [x] ++ xs = pre ++ x :: xs:=by simp
    have hl:(pre ++ [x]).getLast! = x:=by simp [List.getLast!_eq_getLast?_getD]
    have hp:rd (pre ++ x :: xs) ((pre.length:Int) - 1) = pre.getLast!:=by
      unfold rd
      rw [show ((pre.length:Int) - 1).toNat = pre.length - 1 from by omega,List.getD_eq_getElem?_getD,List.getElem?_append_left (by omega),List.getLast!_eq_getLast?_getD,List.getLast?_eq_getElem?]
      rfl
    obtain ⟨i1,i2⟩:=ih (pre ++ [x]) (o ++ [tileOf pre.getLast! x]) (by simpa using h1) (by simp; omega) (by simp)
    rw [e1,hl] at i1 i2
    have ht:o ++ tilesL (pre.getLast! :: x :: xs) = o ++ [tileOf pre.getLast! x] ++ tilesL (x :: xs):=by
      rw [tilesL_two]
      simp
    rw [ht]
    constructor
    · refine Ev.step (fun k => ?_) i1
      simp only [spec_haTiles.l0]
      rw [if_pos (by omega),t_wrap ((pre.length:Int) - 1) (by omega) (by omega),if_pos (by omega),if_pos (by omega),if_pos (by omega),hp,i_mid,tiOf_f]
      simp only [Option.bind_some]
      rw [if_pos (by omega),t_wrap ((pre.length:Int) + 1) (by omega) (by omega)]
      simp
    · refine Ev.step (fun k => ?_) i2
      simp only [impl_tilesOf.l0,impl_tile.f,Option.bind_some]
      rw [if_pos (by omega),t_wrap ((pre.length:Int) - 1) (by omega) (by omega),if_pos (by omega),if_pos (by omega),if_pos (by omega),hp,i_mid,if_pos (by omega),t_wrap ((pre.length:Int) + 1) (by omega) (by omega)]
      simp [tileOf]
theorem haTiles_f (c:List Int) (h:c.length ≤ 2000000):Ev (fun k => spec_haTiles.f k c) (tilesL c) ∧ Ev (fun k => impl_tilesOf.f k c) (tilesL c):=by
  unfold spec_haTiles.f impl_tilesOf.f
  cases c with
  | nil =>
    constructor
    · refine Ev.step (f:=fun _ => some []) (fun k => ?_) (Ev.now _)
      simp [spec_haTiles.l0]
    · refine Ev.step (f:=fun _ => some []) (fun k => ?_) (Ev.now _)
      simp [impl_tilesOf.l0]
  | cons x xs =>
    obtain ⟨i1,i2⟩:=haTiles_ev xs [x] [] (by simpa using h) (by simp) (by simp)
    exact ⟨i1,i2⟩
theorem tilesL_good (c:List Int) (h:c.all (inB 0 9) = true):∀ x ∈ tilesL c,good x = true:=by
  induction c with
  | nil => intro x hx; cases hx
  | cons a r ih =>
    rw [List.all_cons,Bool.and_eq_true] at h
    cases r with
    | nil => intro x hx; cases hx
    | cons b r =>
      intro x hx
      rw [tilesL_two] at hx
      rcases List.mem_cons.1 hx with rfl | hx
      · have h2:=h.2
        rw [List.all_cons,Bool.and_eq_true] at h2
        have ha:=h.1
        have hb:=h2.1
        unfold inB at ha hb
        simp only [Bool.and_eq_true,decide_eq_true_eq] at ha hb
        rw [good_iff]
        unfold tileOf mn mx
        simp only
        split <;> split <;> omega
      · exact ih h.2 x hx
def ch (c:List Int):Bool:=decide (1 ≤ c.length) && (c.all (inB 0 9) && nd [] (tilesL c))
theorem ch_true (c:List Int) (h:ch c = true):1 ≤ c.length ∧ c.length ≤ 56 ∧ (∀ x ∈ c,0 ≤ x ∧ x ≤ 9) ∧ isH (tilesL c) = true:=by
  unfold ch at h
  simp only [Bool.and_eq_true,decide_eq_true_eq] at h
  obtain ⟨h1,h2,h3⟩:=h
  have hg:=tilesL_good c h2
  obtain ⟨A,_,hA,hP,hm⟩:=whole
  have hle:=len_le (tilesL c) A (nd_nodup _ _ h3).2 (fun x hx => (hm x).2 (hg x hx))
  rw [tilesL_len,hA] at hle
  refine ⟨h1,by omega,fun x hx => ?_,?_⟩
  · have:=List.all_eq_true.1 h2 x hx
    unfold inB at this
    simpa using this
  · unfold isH
    rw [decide_eq_true (by rw [tilesL_len]; omega),h3,List.all_eq_true.2 hg]
    rfl
theorem ch_spec (c:List Int) (h:c.length ≤ 2000000):Ev (fun k => spec_haGood.f k c) (ch c):=by
  unfold spec_haGood.f
  rw [l1In_f]
  simp only [Option.bind_some]
  cases h1:inB 1 56 (c.length:Int)
  · refine ⟨0,fun k _ => ?_⟩
    have:ch c = false:=by
      cases hc:ch c
      · rfl
      · obtain ⟨a,b,_⟩:=ch_true c hc
        have:inB 1 56 (c.length:Int) = true:=(inB_iff _ _ _).2 (by omega)
        rw [this] at h1
        cases h1
    simp [this]
  · simp only [if_true]
    have hb:=(inB_iff _ _ _).1 h1
    refine Ev.bind (f:=fun k t => _) (l1All_f 0 9 c h) ?_
    cases h2:c.all (inB 0 9)
    · refine ⟨0,fun k _ => ?_⟩
      simp [ch,h2]
    · simp only [if_true]
      refine Ev.bind (f:=fun k t => _) (haTiles_f c h).1 ?_
      refine Ev.bind (f:=fun k t => _) (isH_spec (tilesL c) (by rw [tilesL_len]; omega)) ⟨0,fun k _ => ?_⟩
      have:isH (tilesL c) = ch c:=by
        unfold isH ch
        rw [h2,List.all_eq_true.2 (tilesL_good c h2),decide_eq_true (show (tilesL c).length ≤ 55 from by rw [tilesL_len]; omega),decide_eq_true (show 1 ≤ c.length from by omega)]
      rw [this]
theorem ch_impl (c:List Int) (h:c.length ≤ 2000000):Ev (fun k => impl_IsChain.f k c) (ch c):=by
  unfold impl_IsChain.f impl_areWithin.f
  by_cases h1:(c.length:Int) > 0
  · simp only [if_pos h1,Option.bind_some]
    rw [any_out]
    cases h2:c.all (inB 0 9)
    · refine ⟨0,fun k _ => ?_⟩
      simp [ch,h2]
    · simp only [if_true]
      refine Ev.bind (f:=fun k t => _) (haTiles_f c h).2 ?_
      have hi:=areDiff_ev (tilesL c) [] (by simp; rw [tilesL_len]; omega)
      refine Ev.bind (f:=fun k t => _) (show Ev (fun k => impl_areDifferent_impl_Tile.f k (tilesL c)) (nd [] (tilesL c)) from hi) ⟨0,fun k _ => ?_⟩
      have:nd [] (tilesL c) = ch c:=by
        unfold ch
        rw [h2,decide_eq_true (show 1 ≤ c.length from by omega)]
        rfl
      rw [this]
  · simp only [if_neg h1]
    refine ⟨0,fun k _ => ?_⟩
    have:c.length = 0:=by omega
    simp [ch,this]
theorem nodup_nd:∀ (rest pre:List S39),(∀ x ∈ rest,x ∉ pre) → rest.Nodup → nd pre rest = true:=by
  intro rest
  induction rest with
  | nil => intro pre _ _; rfl
  | cons x xs ih =>
    intro pre h1 h2
    rw [List.nodup_cons] at h2
    unfold nd
    rw [decide_eq_false (h1 x List.mem_cons_self),ih (pre ++ [x]) (fun y hy hp => ?_) h2.2]
    · rfl
    · rcases List.mem_append.1 hp with hp | hp
      · exact h1 y (List.mem_cons_of_mem _ hy) hp
      · have:y = x:=by simpa using hp
        subst this
        exact h2.1 hy
theorem ch_iff (c:List Int):ch c = true ↔ 1 ≤ c.length ∧ (∀ x ∈ c,0 ≤ x ∧ x ≤ 9) ∧ (tilesL c).Nodup:=by
  constructor
  · intro h
    have h1:=ch_true c h
    exact ⟨h1.1,h1.2.2.1,(isH_true _ h1.2.2.2).2.2⟩
  · rintro ⟨h1,h2,h3⟩
    unfold ch
    rw [decide_eq_true h1,nodup_nd _ [] (fun _ _ h => by cases h) h3,List.all_eq_true.2 (fun x hx => (inB_iff _ _ _).2 (h2 x hx))]
    rfl
theorem tilesL_app (x:Int) (b:List Int):∀ a:List Int,tilesL (a ++ x :: b) = tilesL (a ++ [x]) ++ tilesL (x :: b)
  | [] => rfl
  | [y] => rfl
  | y :: z :: a => by
    have ih:=tilesL_app x b (z :: a)
    simp only [List.cons_append] at ih ⊢
    rw [tilesL_two,ih,tilesL_two]
    rfl
theorem tileOf_comm (x y:Int):tileOf x y = tileOf y x:=by
  apply t_ext <;> (unfold tileOf mn mx; simp only; split <;> split <;> omega)
theorem tilesL_rev:∀ c:List Int,tilesL c.reverse = (tilesL c).reverse
  | [] => rfl
  | [_] => rfl
  | x :: y :: r => by
    have ih:=tilesL_rev (y :: r)
    rw [tilesL_two,List.reverse_cons,List.reverse_cons,List.append_assoc]
    show tilesL (r.reverse ++ y :: [x]) = _
    rw [tilesL_app,← List.reverse_cons,ih,List.reverse_cons,tileOf_comm x y]
    rfl
theorem tilesL_take:∀ (c:List Int) (n:Nat),tilesL (c.take n) = (tilesL c).take (n - 1)
  | [],n => by simp [tilesL]
  | [x],n => by cases n <;> simp [tilesL]
  | x :: y :: r,0 => by simp [tilesL]
  | x :: y :: r,1 => by simp [tilesL]
  | x :: y :: r,n + 2 => by
    have ih:=tilesL_take (y :: r) (n + 1)
    rw [List.take_succ_cons] at ih
    rw [List.take_succ_cons,List.take_succ_cons,tilesL_two,ih,tilesL_two]
    simp
theorem rdT_get (l:List S39) (i:Nat):rd_T39 l (i:Int) = l.getD i z39:=rfl
theorem iIn_ev (l:List S39) (t:S39) (hl:l.length ≤ 100000000) (ht:t ∈ l):∀ (d i:Nat),i + d = l.length → t ∈ l.drop i → Ev (fun k => laws_iIn.l0 k l (l.length:Int) (i:Int) t.f0 t.f1) true:=by
  intro d
  induction d with
  | zero =>
    intro i hi h
    rw [List.drop_eq_nil_of_le (by omega)] at h
    cases h
  | succ d ih =>
    intro i hi h
    by_cases e:l.getD i z39 = t
    · refine ⟨1,fun k hk => ?_⟩
      obtain ⟨j,rfl⟩ : ∃ j,k = j + 1:=⟨k - 1,by omega⟩
      simp only [laws_iIn.l0]
      rw [if_pos (by omega),if_pos (by omega),if_pos (by omega),rdT_get,e]
      simp
    · refine Ev.step (fun k => ?_) (ih (i + 1) (by omega) ?_)
      · simp only [laws_iIn.l0]
        rw [if_pos (by omega),if_pos (by omega),if_pos (by omega),rdT_get,t_beq,decide_eq_false e,t_wrap ((i:Int) + 1) (by omega) (by omega)]
        simp
      · have hx:l.drop i = l[i] :: l.drop (i + 1):=List.drop_eq_getElem_cons (by omega)
        rw [hx] at h
        rcases List.mem_cons.1 h with h | h
        · exfalso
          apply e
          rw [h,List.getD_eq_getElem?_getD,List.getElem?_eq_getElem (by omega)]
          rfl
        · exact h
theorem iIn_f (l:List S39) (t:S39) (hl:l.length ≤ 100000000) (ht:t ∈ l):Ev (fun k => laws_iIn.f k l t.f0 t.f1) true:=iIn_ev l t hl ht l.length 0 (by omega) ht
theorem wn (n:Nat) (h:n ≤ 100000000):wrap64 ((n:Int) - 1) = (n:Int) - 1:=t_wrap _ (by omega) (by omega)
theorem tiles_i (c:List Int) (h:c.length ≤ 2000000):Ev (fun k => impl_TilesOfChain.f k c) (if ch c = true then (tilesL c,true) else ([],false)):=by
  unfold impl_TilesOfChain.f
  refine Ev.bind (f:=fun k t => _) (ch_impl c h) ?_
  cases ch c
  · exact ⟨0,fun _ _ => rfl⟩
  · simp only [if_true]
    exact Ev.bind (f:=fun k t => some (t,true)) (haTiles_f c h).2 ⟨0,fun _ _ => rfl⟩
theorem rev_set (A M B:List Int) (x y:Int):((A ++ x :: M ++ y :: B).set A.length y).set (A.length + M.length + 1) x = A ++ y :: M ++ x :: B:=by
  have e1:(A ++ x :: M ++ y :: B).set A.length y = A ++ y :: M ++ y :: B:=by
    simp [List.set_append]
  rw [e1]
  have e2:A.length + M.length + 1 = (A ++ y :: M).length:=by simp; omega
  rw [e2]
  simp [List.set_append]
theorem rev_ev:∀ (n:Nat) (A M B:List Int),M.length = n → (A ++ M ++ B).length ≤ 2000000 → Ev (fun k => slices_Reverse_int_int.l0 k (A ++ M ++ B) (A.length:Int) ((A.length:Int) + (M.length:Int) - 1)) (A ++ M.reverse ++ B):=by
  intro n
  induction n using Nat.strongRecOn with
  | ind n ih =>
    intro A M B hn hl
    by_cases h2:2 ≤ M.length
    · obtain ⟨x,M',rfl⟩ : ∃ x M',M = x :: M':=by
        cases M with
        | nil => simp at h2
        | cons x M' => exact ⟨x,M',rfl⟩
      obtain ⟨N,y,rfl⟩ : ∃ N y,M' = N ++ [y]:=by
        have hne:M' ≠ []:=by
          rintro rfl
          simp at h2
        exact ⟨M'.dropLast,M'.getLast hne,(List.dropLast_concat_getLast hne).symm⟩
      have hlen:(x :: (N ++ [y])).length = N.length + 2:=by simp
      have hl2:A.length + N.length + 2 + B.length ≤ 2000000:=by simp at hl; omega
      have e0:A ++ x :: (N ++ [y]) ++ B = A ++ x :: N ++ y :: B:=by simp
      have e3:A ++ y :: N ++ x :: B = (A ++ [y]) ++ N ++ ([x] ++ B):=by simp
      have e4:A ++ (x :: (N ++ [y])).reverse ++ B = (A ++ [y]) ++ N.reverse ++ ([x] ++ B):=by simp
      have gx:rd (A ++ x :: N ++ y :: B) (A.length:Int) = x:=by
        show (A ++ x :: N ++ y :: B).getD A.length 0 = x
        simp [List.getD_eq_getElem?_getD]
      have gy:rd (A ++ x :: N ++ y :: B) (((A.length + N.length + 1:Nat)):Int) = y:=by
        show (A ++ x :: N ++ y :: B).getD (A.length + N.length + 1) 0 = y
        have e:A.length + N.length + 1 = (A ++ x :: N).length:=by simp; omega
        rw [e]
        simp [List.getD_eq_getElem?_getD]
      have ll:(A ++ x :: N ++ y :: B).length = A.length + N.length + 2 + B.length:=by simp; omega
      rw [e4]
      have step:=ih N.length (by omega) (A ++ [y]) N ([x] ++ B) rfl (by simp; omega)
      refine Ev.step (fun k => ?_) step
      simp only [slices_Reverse_int_int.l0]
      rw [hlen,show ((A.length:Int) + ((N.length + 2:Nat):Int) - 1) = ((A.length + N.length + 1:Nat):Int) by omega,e0,if_pos (by omega),if_pos (by omega),if_pos (by omega),if_pos (by omega),if_pos (by omega),gx,gy,
        Int.toNat_natCast,Int.toNat_natCast,rev_set,e3,t_wrap ((A.length:Int) + 1) (by omega) (by omega),t_wrap (((A.length + N.length + 1:Nat):Int) - 1) (by omega) (by omega)]
      have l1:(A ++ [y]).length = A.length + 1:=by simp
      rw [l1,show (((A.length + N.length + 1:Nat):Int) - 1) = ((A.length + 1:Nat):Int) + (N.length:Int) - 1 by omega]
      rfl
    · have hr:M.reverse = M:=by
        match M,h2 with
        | [],_ => rfl
        | [_],_ => rfl
        | _ :: _ :: _,h2 => simp at h2
      rw [hr]
      refine ⟨1,fun k hk => ?_⟩
      obtain ⟨j,rfl⟩ : ∃ j,k = j + 1:=⟨k - 1,by omega⟩
      simp only [slices_Reverse_int_int.l0]
      rw [if_neg (by omega)]
theorem turned_f (c:List Int) (h:c.length ≤ 2000000):Ev (fun k => impl_turned.f k c) c.reverse:=by
  unfold impl_turned.f slices_Clone_int_int.f
  rw [if_pos (by omega)]
  simp only [Option.bind_some]
  have h1:=rev_ev c.length [] c [] rfl (by simpa using h)
  refine Ev.bind (f:=fun k t => some t) (?_:Ev (fun k => slices_Reverse_int_int.f k c) c.reverse) ⟨0,fun _ _ => rfl⟩
  unfold slices_Reverse_int_int.f
  rw [wn _ (by omega)]
  have e:[] ++ c ++ [] = c:=by simp
  have e2:[] ++ c.reverse ++ [] = c.reverse:=by simp
  rw [e,e2] at h1
  simpa using h1
theorem turn_i (c:List Int) (h:c.length ≤ 2000000):Ev (fun k => impl_TurnChain.f k c) (if ch c = true then (c.reverse,true) else ([],false)):=by
  unfold impl_TurnChain.f
  refine Ev.bind (f:=fun k t => _) (ch_impl c h) ?_
  cases ch c
  · exact ⟨0,fun _ _ => rfl⟩
  · simp only [if_true]
    exact Ev.bind (f:=fun k t => some (t,true)) (turned_f c h) ⟨0,fun _ _ => rfl⟩
theorem ch_one (v:Int) (h:0 ≤ v ∧ v ≤ 9):ch [v] = true:=by
  unfold ch inB
  simp [tilesL,nd,h.1,h.2]
theorem d_sureLoop (l:List Int) (hl:∀ x ∈ l,0 ≤ x ∧ x ≤ 255) (m:Int) (hm:0 ≤ m ∧ m ≤ 9):∀ (n:Nat) (c:List Int) (p s:Int),c.length + n ≤ 100 → ch c = true → 0 ≤ p → p + 2 * n ≤ 100000 →
    ∃ c' p' s',Ev (fun k => spec_l1Cur_sureChain.l0 k m c (n:Int) l p s) (c',p',s') ∧ ch c' = true ∧ c'.length ≤ c.length + n ∧ 0 ≤ p' ∧ p' ≤ p + 2 * n:=by
  intro n
  induction n with
  | zero =>
    intro c p s h1 h2 h3 h4
    refine ⟨c,p,s,Ev.step (f:=fun _ => some (c,p,s)) (fun k => ?_) (Ev.now _),h2,by omega,h3,by omega⟩
    simp only [spec_l1Cur_sureChain.l0]
    rw [if_neg (by omega)]
  | succ n ih =>
    intro c p s h1 h2 h3 h4
    obtain ⟨v,q,s1,e1,v0,v1,q0,q1⟩:=d_pick l hl p s (by omega) (m + 1) (by omega)
    have hg:=ch_spec (c ++ [v]) (by simp; omega)
    have hw:wrap64 (m + 1) = m + 1:=t_wrap _ (by omega) (by omega)
    have hn:((n + 1:Nat):Int) - 1 = (n:Int):=by omega
    have hw2:wrap64 (((n + 1:Nat):Int) - 1) = (n:Int):=by rw [hn]; exact t_wrap _ (by omega) (by omega)
    have st:∀ R,Ev (fun k => (spec_haGood.f k (c ++ [v])).bind fun t163 => (if t163 = true then (spec_l1Cur_sureChain.l0 k m (c ++ [v]) (n:Int) l q s1) else (spec_l1Cur_sureChain.l0 k m c (n:Int) l q s1))) R → Ev (fun k => spec_l1Cur_sureChain.l0 k m c ((n + 1:Nat):Int) l p s) R:=fun R h => by
      refine Ev.step (fun k => ?_) h
      simp only [spec_l1Cur_sureChain.l0]
      rw [if_pos (by omega),own_f c (by omega),hw,e1,hw2]
      simp only [Option.bind_some]
      rw [if_pos (by omega)]
    cases hb:ch (c ++ [v])
    · rw [hb] at hg
      obtain ⟨c',p',s',g1,g2,g3,g4,g5⟩:=ih c q s1 (by omega) h2 q0 (by omega)
      exact ⟨c',p',s',st _ (Ev.bind (f:=fun k t => _) hg (by simpa using g1)),g2,by omega,g4,by omega⟩
    · rw [hb] at hg
      obtain ⟨c',p',s',g1,g2,g3,g4,g5⟩:=ih (c ++ [v]) q s1 (by simp; omega) hb q0 (by omega)
      exact ⟨c',p',s',st _ (Ev.bind (f:=fun k t => _) hg (by simpa using g1)),g2,by simp at g3; omega,g4,by omega⟩
theorem d_sureChain (l:List Int) (hl:∀ x ∈ l,0 ≤ x ∧ x ≤ 255) (a m:Int) (ha:0 ≤ a ∧ a ≤ 20) (hm:0 ≤ m ∧ m ≤ 9) (p s:Int) (hp:0 ≤ p ∧ p ≤ 10000) :
    ∃ c' p' s',Ev (fun k => spec_l1Cur_sureChain.f k l p s a m) (c',p',s') ∧ ch c' = true ∧ c'.length ≤ 21 ∧ 0 ≤ p' ∧ p' ≤ p + 44:=by
  obtain ⟨v,q,s1,e1,v0,v1,q0,q1⟩:=d_pick l hl p s (by omega) (m + 1) (by omega)
  obtain ⟨u,q',s2,e2,u0,u1,r0,r1⟩:=d_pick l hl q s1 (by omega) (a + 1) (by omega)
  obtain ⟨c',p',s',g1,g2,g3,g4,g5⟩:=d_sureLoop l hl m hm u.toNat [v] q' s2 (by simp; omega) (ch_one v (by omega)) r0 (by omega)
  refine ⟨c',p',s',?_,g2,by simp at g3; omega,g4,by omega⟩
  unfold spec_l1Cur_sureChain.f
  rw [t_wrap (m + 1) (by omega) (by omega),t_wrap (a + 1) (by omega) (by omega),e1]
  simp only [Option.bind_some]
  rw [e2]
  simp only [Option.bind_some]
  rw [Int.toNat_of_nonneg u0] at g1
  exact g1
theorem d_sureHandLoop (l:List Int) (hl:∀ x ∈ l,0 ≤ x ∧ x ≤ 255) (m:Int) (hm:0 ≤ m ∧ m ≤ 9):∀ (n:Nat) (c:List S39) (p s:Int),c.length + n ≤ 100 → 0 ≤ p → p + 4 * n ≤ 100000 →
    ∃ c' p' s',Ev (fun k => spec_l1Cur_sureHand.l0 k m c (n:Int) l p s) (c',p',s') ∧ c'.length ≤ c.length + n ∧ 0 ≤ p' ∧ p' ≤ p + 4 * n:=by
  intro n
  induction n with
  | zero =>
    intro c p s h1 h3 h4
    refine ⟨c,p,s,Ev.step (f:=fun _ => some (c,p,s)) (fun k => ?_) (Ev.now _),by omega,h3,by omega⟩
    simp only [spec_l1Cur_sureHand.l0]
    rw [if_neg (by omega)]
  | succ n ih =>
    intro c p s h1 h3 h4
    obtain ⟨v,q,s1,e1,v0,v1,q0,q1⟩:=d_pick l hl p s (by omega) (m + 1) (by omega)
    obtain ⟨u,q',s2,e2,u0,u1,r0,r1⟩:=d_pick l hl q s1 (by omega) (m + 1) (by omega)
    obtain ⟨r,hr,_⟩:=place_f (tileOf v u) c (by omega)
    have hw:wrap64 (m + 1) = m + 1:=t_wrap _ (by omega) (by omega)
    have hn:((n + 1:Nat):Int) - 1 = (n:Int):=by omega
    have hw2:wrap64 (((n + 1:Nat):Int) - 1) = (n:Int):=by rw [hn]; exact t_wrap _ (by omega) (by omega)
    have st:∀ R,Ev (fun k => (spec_tiPlace.f k c (tileOf v u).f0 (tileOf v u).f1).bind fun t351 => (if t351 < 0 then (spec_l1Cur_sureHand.l0 k m (c ++ [tileOf v u]) (n:Int) l q' s2) else (spec_l1Cur_sureHand.l0 k m c (n:Int) l q' s2))) R → Ev (fun k => spec_l1Cur_sureHand.l0 k m c ((n + 1:Nat):Int) l p s) R:=fun R h => by
      refine Ev.step (fun k => ?_) h
      simp only [spec_l1Cur_sureHand.l0]
      rw [if_pos (by omega),hw,e1,hw2]
      simp only [Option.bind_some]
      rw [e2]
      simp only [Option.bind_some,tiOf_f]
      rw [if_pos (show c.length < 8796093022208 from by omega)]
    by_cases hb:r < 0
    · obtain ⟨c',p',s',g1,g3,g4,g5⟩:=ih (c ++ [tileOf v u]) q' s2 (by simp; omega) r0 (by omega)
      exact ⟨c',p',s',st _ (Ev.bind (f:=fun k t => _) hr (by simpa [hb] using g1)),by simp at g3; omega,g4,by omega⟩
    · obtain ⟨c',p',s',g1,g3,g4,g5⟩:=ih c q' s2 (by omega) r0 (by omega)
      exact ⟨c',p',s',st _ (Ev.bind (f:=fun k t => _) hr (by simpa [hb] using g1)),by omega,g4,by omega⟩
theorem d_sureHand (l:List Int) (hl:∀ x ∈ l,0 ≤ x ∧ x ≤ 255) (a m:Int) (ha:0 ≤ a ∧ a ≤ 20) (hm:0 ≤ m ∧ m ≤ 9) (p s:Int) (hp:0 ≤ p ∧ p ≤ 10000) :
    ∃ c' p' s',Ev (fun k => spec_l1Cur_sureHand.f k l p s a m) (c',p',s') ∧ c'.length ≤ 20 ∧ 0 ≤ p' ∧ p' ≤ p + 90:=by
  obtain ⟨u,q',s2,e2,u0,u1,r0,r1⟩:=d_pick l hl p s (by omega) (a + 1) (by omega)
  obtain ⟨c',p',s',g1,g3,g4,g5⟩:=d_sureHandLoop l hl m hm u.toNat [] q' s2 (by simp; omega) r0 (by omega)
  refine ⟨c',p',s',?_,by simp at g3; omega,g4,by omega⟩
  unfold spec_l1Cur_sureHand.f
  rw [t_wrap (a + 1) (by omega) (by omega),e2]
  simp only [Option.bind_some]
  rw [Int.toNat_of_nonneg u0] at g1
  exact g1
theorem d_tile (l:List Int) (hl:∀ x ∈ l,0 ≤ x ∧ x ≤ 255) (p s:Int) (hp:0 ≤ p ∧ p ≤ 10000):∃ x y p' s',spec_l1Cur_tile.f l p s = some (x,y,p',s') ∧ 0 ≤ p' ∧ p' ≤ p + 6:=by
  unfold spec_l1Cur_tile.f
  obtain ⟨b,q,s1,e1,q0,q1⟩:=d_one l hl p s (by omega) 10 (by omega)
  rw [e1]
  simp only [Option.bind_some]
  cases b
  · obtain ⟨v,q2,s2,e2,_,_,a2,b2⟩:=d_pick l hl q s1 (by omega) 10 (by omega)
    obtain ⟨u,q3,s3,e3,_,_,a3,b3⟩:=d_pick l hl q2 s2 (by omega) 10 (by omega)
    simp only [Bool.false_eq_true,if_false,e2,Option.bind_some,e3,tiOf_f]
    exact ⟨_,_,_,_,rfl,a3,by omega⟩
  · obtain ⟨v,q2,s2,e2,a2,b2⟩:=d_among l hl q s1 (by omega) [(-1),3,9,10] (by simp)
    obtain ⟨u,q3,s3,e3,a3,b3⟩:=d_among l hl q2 s2 (by omega) [2,9,10,4611686018427387904] (by simp)
    simp only [if_true,e2,Option.bind_some,e3]
    exact ⟨_,_,_,_,rfl,a3,by omega⟩
theorem d_sets:∀ n:Fin 10,((spec_tiSet.f 100 ((n.val:Nat):Int)).map fun A => decide (A.length ≤ 60)) = some true:=by decide +kernel
theorem d_set (v:Int) (h0:0 ≤ v) (h1:v < 10):∃ A:List S39,Ev (fun k => spec_tiSet.f k v) A ∧ A.length ≤ 60:=by
  have h:=d_sets ⟨v.toNat,by omega⟩
  simp only [Int.toNat_of_nonneg h0] at h
  obtain ⟨A,hA,hd⟩:=Option.map_eq_some_iff.1 h
  exact ⟨A,Ev.of (fun k => spec_tiSet.mono _ k) hA,of_decide_eq_true hd⟩
theorem d_hand (l:List Int) (hl:∀ x ∈ l,0 ≤ x ∧ x ≤ 255) (a m:Int) (ha:0 ≤ a ∧ a ≤ 20) (hm:0 ≤ m ∧ m ≤ 9) (p s:Int) (hp:0 ≤ p ∧ p ≤ 9000) :
    ∃ c' p' s',Ev (fun k => spec_l1Cur_hand.f k l p s a m) (c',p',s') ∧ c'.length ≤ 100 ∧ 0 ≤ p' ∧ p' ≤ p + 100:=by
  obtain ⟨c,q,s1,g1,g3,g4,g5⟩:=d_sureHand l hl a m ha hm p s (by omega)
  obtain ⟨v,q',s2,e1,v0,v1,q0,q1⟩:=d_pick l hl q s1 (by omega) 18 (by omega)
  unfold spec_l1Cur_hand.f
  by_cases h0:v = 0
  · obtain ⟨x,y,q2,s3,e2,r0,r1⟩:=d_tile l hl q' s2 (by omega)
    refine ⟨c ++ [⟨x,y⟩],q2,s3,Ev.bind (f:=fun k (b:List S39 × Int × Int) => _) g1 ⟨0,fun k _ => ?_⟩,by simp; omega,r0,by omega⟩
    simp only [e1,Option.bind_some]
    rw [if_pos h0,e2]
    simp only [Option.bind_some]
    rw [if_pos (by omega)]
  · by_cases h1:v = 1
    · by_cases hc:(c.length:Int) > 0
      · refine ⟨c ++ [⟨(rd_T39 c 0).f0,(rd_T39 c 0).f1⟩],q',s2,Ev.bind (f:=fun k (b:List S39 × Int × Int) => _) g1 ⟨0,fun k _ => ?_⟩,by simp; omega,q0,by omega⟩
        simp only [e1,Option.bind_some]
        rw [if_neg h0,if_pos h1,if_pos hc,if_pos (by omega),if_pos (by omega)]
      · refine ⟨c,q',s2,Ev.bind (f:=fun k (b:List S39 × Int × Int) => _) g1 ⟨0,fun k _ => ?_⟩,by omega,q0,by omega⟩
        simp only [e1,Option.bind_some]
        rw [if_neg h0,if_pos h1,if_neg hc]
    · by_cases h2:v = 2
      · obtain ⟨u,q3,s3,e3,u0,u1,a3,b3⟩:=d_pick l hl q' s2 (by omega) 10 (by omega)
        obtain ⟨A,hA,hA2⟩:=d_set u u0 u1
        refine ⟨A,q3,s3,Ev.bind (f:=fun k (b:List S39 × Int × Int) => _) g1 ?_,by omega,a3,by omega⟩
        simp only [e1,Option.bind_some,if_neg h0,if_neg h1,if_pos h2,e3]
        exact Ev.bind (f:=fun k (t:List S39) => _) hA ⟨0,fun k _ => rfl⟩
      · by_cases h3:v = 3
        · obtain ⟨A,hA,hA2⟩:=d_set 9 (by omega) (by omega)
          refine ⟨A ++ [⟨0,0⟩],q',s2,Ev.bind (f:=fun k (b:List S39 × Int × Int) => _) g1 ?_,by simp; omega,q0,by omega⟩
          simp only [e1,Option.bind_some,if_neg h0,if_neg h1,if_neg h2,if_pos h3]
          exact Ev.bind (f:=fun k (t:List S39) => _) hA ⟨0,fun k _ => by rw [if_pos (by omega)]⟩
        · refine ⟨c,q',s2,Ev.bind (f:=fun k (b:List S39 × Int × Int) => _) g1 ⟨0,fun k _ => ?_⟩,by omega,q0,by omega⟩
          simp only [e1,Option.bind_some]
          rw [if_neg h0,if_neg h1,if_neg h2,if_neg h3]
def sOf (x y:Int):S39:=⟨mn x y,mx x y⟩
theorem sOf_spec (x y:Int):spec_tiOf.f x y = some ((sOf x y).f0,(sOf x y).f1):=by
  unfold spec_tiOf.f spec_l1Least.f spec_l1Most.f sOf mn mx
  by_cases h:x < y
  · have h2:¬ y < x:=by omega
    have h3:¬ x > y:=by omega
    simp [h,h2,h3]
  · by_cases h2:y < x
    · have h3:x > y:=h2
      simp [h,h2,h3]
    · have e:x = y:=by omega
      subst e
      simp
def upf:Nat → Int → List Int
  | 0,_ => []
  | m + 1,n => n :: upf m (n + 1)
def rem (l:List S39) (t:S39):List S39:=l.filter fun x => !decide (x = t)
def last_ (p:List Int):Int:=rd p ((p.length:Int) - 1)
theorem rem_len {l:List S39} (h:l.Nodup) (t:S39) (ht:t ∈ l):(rem l t).length + 1 = l.length:=by
  induction l with
  | nil => cases ht
  | cons x xs ih =>
    rw [List.nodup_cons] at h
    unfold rem
    by_cases e:x = t
    · subst e
      have hf:xs.filter (fun y => !decide (y = x)) = xs:=by
        rw [List.filter_eq_self]
        intro y hy
        have:y ≠ x:=fun e => h.1 (by rw [← e]; exact hy)
        simp [this]
      simp [hf]
    · have ht':t ∈ xs:=by
        rcases List.mem_cons.1 ht with e2 | e2
        · exact absurd e2.symm e
        · exact e2
      have:=ih h.2 ht'
      unfold rem at this
      simp [e]
      omega
theorem index_at (t:S39):∀ (rest pre:List S39),(pre ++ rest).length ≤ 2000000 → rest.Nodup → ∃ r:Int,Ev (fun k => slices_Index_impl_Tile_impl_Tile.l0 k (pre ++ rest) ((pre ++ rest).length:Int) (pre.length:Int) t.f0 t.f1) r ∧
    (t ∉ rest → r = -1) ∧ (t ∈ rest → ∃ i:Nat,r = ((pre.length + i:Nat):Int) ∧ i < rest.length ∧ rest.eraseIdx i = rem rest t):=by
  intro rest
  induction rest with
  | nil =>
    intro pre hl _
    refine ⟨-1,Ev.step (f:=fun _ => some (-1)) (fun k => ?_) (Ev.now _),fun _ => rfl,fun h => by cases h⟩
    simp only [slices_Index_impl_Tile_impl_Tile.l0,List.append_nil]
    rw [if_neg (by omega)]
  | cons x xs ih =>
    intro pre hl hn
    rw [List.nodup_cons] at hn
    have hlen:(pre ++ x :: xs).length = pre.length + xs.length + 1:=by simp; omega
    have hget:rd_T39 (pre ++ x :: xs) (pre.length:Int) = x:=by
      unfold rd_T39
      exact t_mid pre x xs _
    by_cases e:t = x
    · subst e
      refine ⟨(pre.length:Int),Ev.step (f:=fun _ => some (pre.length:Int)) (fun k => ?_) (Ev.now _),fun h => absurd List.mem_cons_self h,fun _ => ⟨0,rfl,by simp,?_⟩⟩
      · simp only [slices_Index_impl_Tile_impl_Tile.l0]
        rw [if_pos (by omega),if_pos (by omega),if_pos (by omega),hget,t_beq,if_pos (by simp)]
      · have hf:xs.filter (fun y => !decide (y = t)) = xs:=by
          rw [List.filter_eq_self]
          intro y hy
          have:y ≠ t:=fun e => hn.1 (by rw [← e]; exact hy)
          simp [this]
        unfold rem
        simp [hf]
    · obtain ⟨r,h1,h2,h3⟩:=ih (pre ++ [x]) (by simpa using hl) hn.2
      have e1:pre ++ [x] ++ xs = pre ++ x :: xs:=by simp
      rw [e1] at h1
      refine ⟨r,Ev.step (fun k => ?_) h1,fun h => h2 (fun hm => h (List.mem_cons_of_mem _ hm)),fun h => ?_⟩
      · simp only [slices_Index_impl_Tile_impl_Tile.l0]
        rw [if_pos (by omega),if_pos (by omega),if_pos (by omega),hget,t_beq,if_neg (by simp [e]),t_wrap ((pre.length:Int) + 1) (by omega) (by omega)]
        simp
      · have hm:t ∈ xs:=by
          rcases List.mem_cons.1 h with e2 | e2
          · exact absurd e2 e
          · exact e2
        obtain ⟨i,hr,hi,he⟩:=h3 hm
        refine ⟨i + 1,by rw [hr]; simp; omega,by simp; omega,?_⟩
        rw [List.eraseIdx_cons_succ,he]
        unfold rem
        have:¬ x = t:=fun e2 => e e2.symm
        simp [this]
theorem own_f (p:List Int) (h:p.length ≤ 1000000):spec_l1Own.f p = some p:=by
  unfold spec_l1Own.f
  simp only [Option.bind_some,List.length_nil,List.nil_append]
  rw [if_pos (by omega)]
theorem sOf_has (x y:Int):(sOf x y).f0 = x ∨ (sOf x y).f1 = x:=by
  unfold sOf mn mx
  by_cases h:y < x
  · right
    have:¬ x < y:=by omega
    simp [this]
  · left
    simp [h]
theorem ev_up {α:Type} {g:Nat → Option α} {r:α} {K:Nat} (h:∀ k,K ≤ k → g (k + 1) = some r):Ev g r :=
  ⟨K + 1,fun k hk => by
    obtain ⟨m,rfl⟩ : ∃ m,k = m + 1:=⟨k - 1,by omega⟩
    exact h m (by omega)⟩
theorem rd_at' (A:List S39) (x:S39) (r:List S39):rd_T39 (A ++ x :: r) (A.length:Int) = x:=by
  unfold rd_T39
  exact t_mid A x r _
theorem rd_get (l:List Int) (j:Nat) (h:j < l.length):rd l (j:Int) = l[j]:=by
  unfold rd
  rw [show ((j:Int)).toNat = j from rfl,List.getD_eq_getElem?_getD,List.getElem?_eq_getElem h]
  rfl
theorem upf_mem:∀ (m:Nat) (n x:Int),x ∈ upf m n → n ≤ x ∧ x < n + m:=by
  intro m
  induction m with
  | zero => intro n x h; cases h
  | succ m ih =>
    intro n x h
    simp only [upf,List.mem_cons] at h
    rcases h with e | h
    · omega
    · have:=ih (n + 1) x h
      omega
theorem rd_set (c:List Int) (i j:Nat) (v:Int):rd (c.set i v) (j:Int) = if i = j ∧ i < c.length then v else rd c (j:Int):=by
  unfold rd
  simp only [Int.toNat_natCast,List.getD_eq_getElem?_getD,List.getElem?_set]
  by_cases h:i = j
  · subst h
    by_cases h2:i < c.length
    · simp [h2]
    · simp [h2]
  · simp [h]
theorem upf_mem2:∀ (m:Nat) (n x:Int),n ≤ x → x < n + m → x ∈ upf m n
  | 0,n,x,h,k => by omega
  | m + 1,n,x,h,k => by
    simp only [upf,List.mem_cons]
    by_cases e:x = n
    · exact .inl e
    · exact .inr (upf_mem2 m (n + 1) x (by omega) (by omega))
theorem last_app (p:List Int) (n:Int):last_ (p ++ [n]) = n:=by
  unfold last_
  rw [show ((p ++ [n]).length:Int) - 1 = (p.length:Int) from by simp]
  exact i_mid p n []
theorem rem_nodup {l:List S39} (h:l.Nodup) (t:S39):(rem l t).Nodup:=List.Pairwise.filter _ h
theorem len_sub {α:Type}:∀ (a b:List α),a.Nodup → (∀ x,x ∈ a → x ∈ b) → a.length ≤ b.length
  | [],_,_,_ => Nat.zero_le _
  | x :: a,b,h,k => by
    rw [List.nodup_cons] at h
    obtain ⟨s,t,rfl⟩:=List.append_of_mem (k x List.mem_cons_self)
    have:=len_sub a (s ++ t) h.2 (fun y hy => by
      have:=k y (List.mem_cons_of_mem _ hy)
      simp only [List.mem_append,List.mem_cons] at this ⊢
      rcases this with g | rfl | g
      · exact .inl g
      · exact absurd hy h.1
      · exact .inr g)
    simp at this ⊢
    omega
theorem same_ev:∀ (rest pre:List Int),(pre ++ rest).length ≤ 100000000 → Ev (fun k => laws_iSame.l0 k (pre ++ rest) (pre ++ rest) ((pre ++ rest).length:Int) (pre.length:Int)) true:=by
  intro rest
  induction rest with
  | nil =>
    intro pre h
    refine Ev.step (f:=fun _ => some true) (fun k => ?_) (Ev.now _)
    simp only [laws_iSame.l0,List.append_nil]
    rw [if_neg (by omega)]
  | cons x xs ih =>
    intro pre h
    have hlen:(pre ++ x :: xs).length = pre.length + xs.length + 1:=by simp; omega
    have e1:pre ++ [x] ++ xs = pre ++ x :: xs:=by simp
    have hi:=ih (pre ++ [x]) (by simpa using h)
    rw [e1] at hi
    refine Ev.step (fun k => ?_) hi
    simp only [laws_iSame.l0]
    rw [if_pos (by omega),if_pos (by omega),if_pos (by omega),if_pos (by omega),t_wrap ((pre.length:Int) + 1) (by omega) (by omega)]
    simp
theorem same_f (c:List Int) (h:c.length ≤ 100000000):Ev (fun k => laws_iSame.f k c c) true:=by
  unfold laws_iSame.f
  simp only [if_true]
  exact same_ev c [] h
theorem row_mid (pre:List (List Int)) (x:List Int) (xs:List (List Int)):rd_L4 (pre ++ x :: xs) (pre.length:Int) = x:=by
  unfold rd_L4
  simp [List.getD_eq_getElem?_getD]
theorem rows_ev:∀ (rest pre:List (List Int)),(pre ++ rest).length ≤ 100000000 → (∀ r ∈ rest,r.length ≤ 1000) → Ev (fun k => laws_iRows.l0 k (pre ++ rest) (pre ++ rest) ((pre ++ rest).length:Int) (pre.length:Int)) true:=by
  intro rest
  induction rest with
  | nil =>
    intro pre h _
    refine Ev.step (f:=fun _ => some true) (fun k => ?_) (Ev.now _)
    simp only [laws_iRows.l0,List.append_nil]
    rw [if_neg (by omega)]
  | cons x xs ih =>
    intro pre h hr
    have hlen:(pre ++ x :: xs).length = pre.length + xs.length + 1:=by simp; omega
    have e1:pre ++ [x] ++ xs = pre ++ x :: xs:=by simp
    have hi:=ih (pre ++ [x]) (by simpa using h) (fun r hr2 => hr r (List.mem_cons_of_mem _ hr2))
    rw [e1] at hi
    have st:∀ R,Ev (fun k => (laws_iSame.f k x x).bind fun t579 => (if t579 = true then (laws_iRows.l0 k (pre ++ x :: xs) (pre ++ x :: xs) ((pre ++ x :: xs).length:Int) ((pre ++ [x]).length:Int)) else (some false))) R → Ev (fun k => laws_iRows.l0 k (pre ++ x :: xs) (pre ++ x :: xs) ((pre ++ x :: xs).length:Int) (pre.length:Int)) R:=fun R h => by
      refine Ev.step (fun k => ?_) h
      simp only [laws_iRows.l0]
      rw [if_pos (by omega),if_pos (by omega),if_pos (by omega),if_pos (by omega),row_mid,t_wrap ((pre.length:Int) + 1) (by omega) (by omega)]
      simp
    exact st _ (Ev.bind (f:=fun k t => _) (same_f x (by have:=hr x List.mem_cons_self; omega)) (by simpa using hi))
theorem rows_f (l:List (List Int)) (h:l.length ≤ 100000) (hr:∀ r ∈ l,r.length ≤ 1000):Ev (fun k => laws_iRows.f k l l) true:=by
  unfold laws_iRows.f
  simp only [if_true]
  exact rows_ev l [] (by simpa using (by omega:l.length ≤ 100000000)) hr
def tm (l:List S39) (n:Int):Int:=(l.map fun t => (if t.f0 = n then (1:Int) else 0) + (if t.f1 = n then 1 else 0)).sum
theorem tm_cons (t:S39) (l:List S39) (n:Int):tm (t :: l) n = (if t.f0 = n then (1:Int) else 0) + (if t.f1 = n then 1 else 0) + tm l n:=by simp [tm]
theorem tm_small:∀ (l:List S39) (n:Int),0 ≤ tm l n ∧ tm l n ≤ 2 * l.length
  | [],n => by simp [tm]
  | t :: l,n => by
    have:=tm_small l n
    rw [tm_cons]
    simp only [List.length_cons]
    split <;> split <;> omega
theorem itm_ev (n:Int):∀ (rest pre:List S39) (acc:Int),(pre ++ rest).length ≤ 1000000 → 0 ≤ acc → acc ≤ 2 * pre.length → Ev (fun k => impl_times.l0 k n acc (pre ++ rest) ((pre ++ rest).length:Int) (pre.length:Int)) (acc + tm rest n):=by
  intro rest
  induction rest with
  | nil =>
    intro pre acc hl h0 h1
    refine Ev.step (f:=fun _ => some (acc + tm [] n)) (fun k => ?_) (Ev.now _)
    simp only [impl_times.l0,List.append_nil]
    rw [if_neg (by omega)]
    simp [tm]
  | cons x xs ih =>
    intro pre acc hl h0 h1
    have hlen:(pre ++ x :: xs).length = pre.length + xs.length + 1:=by simp; omega
    have hget:rd_T39 (pre ++ x :: xs) (pre.length:Int) = x:=rd_at' pre x xs
    have e1:pre ++ [x] ++ xs = pre ++ x :: xs:=by simp
    have hb:∀ a:Int,impl_bit.f (a == n) = some (if a = n then 1 else 0):=fun a => by
      unfold impl_bit.f
      by_cases e:a = n <;> simp [e]
    obtain ⟨v,hv⟩ : ∃ v:Int,v = (if x.f0 = n then (1:Int) else 0) + (if x.f1 = n then 1 else 0):=⟨_,rfl⟩
    have hv2:0 ≤ v ∧ v ≤ 2:=by rw [hv]; split <;> split <;> omega
    have:=ih (pre ++ [x]) (acc + v) (by rw [e1]; exact hl) (by omega) (by simp; omega)
    rw [e1,show acc + v + tm xs n = acc + tm (x :: xs) n by rw [tm_cons]; omega] at this
    refine Ev.step (fun k => ?_) this
    simp only [impl_times.l0]
    rw [if_pos (by omega),if_pos (by omega),if_pos (by omega),hget]
    simp only [hb,Option.bind_some,← hv]
    rw [t_wrap v (by omega) (by omega),t_wrap (acc + v) (by omega) (by omega),t_wrap ((pre.length:Int) + 1) (by omega) (by omega)]
    simp
theorem stm_ev (n:Int):∀ (rest pre:List S39) (acc:Int),(pre ++ rest).length ≤ 1000000 → 0 ≤ acc → acc ≤ 2 * pre.length → Ev (fun k => spec_tiTimes.l0 k n acc (pre ++ rest) ((pre ++ rest).length:Int) (pre.length:Int)) (acc + tm rest n):=by
  intro rest
  induction rest with
  | nil =>
    intro pre acc hl h0 h1
    refine Ev.step (f:=fun _ => some (acc + tm [] n)) (fun k => ?_) (Ev.now _)
    simp only [spec_tiTimes.l0,List.append_nil]
    rw [if_neg (by omega)]
    simp [tm]
  | cons x xs ih =>
    intro pre acc hl h0 h1
    have hlen:(pre ++ x :: xs).length = pre.length + xs.length + 1:=by simp; omega
    have hget:rd_T39 (pre ++ x :: xs) (pre.length:Int) = x:=rd_at' pre x xs
    have e1:pre ++ [x] ++ xs = pre ++ x :: xs:=by simp
    obtain ⟨v,hv⟩ : ∃ v:Int,v = (if x.f0 = n then (1:Int) else 0) + (if x.f1 = n then 1 else 0):=⟨_,rfl⟩
    have hv2:0 ≤ v ∧ v ≤ 2:=by rw [hv]; split <;> split <;> omega
    have:=ih (pre ++ [x]) (acc + v) (by rw [e1]; exact hl) (by omega) (by simp; omega)
    rw [e1,show acc + v + tm xs n = acc + tm (x :: xs) n by rw [tm_cons]; omega,show ((pre ++ [x]).length:Int) = (pre.length:Int) + 1 by simp] at this
    refine Ev.step (fun k => ?_) this
    simp only [spec_tiTimes.l0]
    rw [if_pos (by omega),if_pos (by omega),if_pos (by omega),hget,t_wrap ((pre.length:Int) + 1) (by omega) (by omega)]
    by_cases e0:x.f0 = n <;> by_cases e2:x.f1 = n
    · rw [if_pos e0,if_pos e2] at hv
      rw [if_pos e0,if_pos e2,t_wrap (acc + 1) (by omega) (by omega),t_wrap (acc + 1 + 1) (by omega) (by omega),show acc + 1 + 1 = acc + v by omega]
    · rw [if_pos e0,if_neg e2] at hv
      rw [if_pos e0,if_neg e2,t_wrap (acc + 1) (by omega) (by omega),show acc + 1 = acc + v by omega]
    · rw [if_neg e0,if_pos e2] at hv
      rw [if_neg e0,if_pos e2,t_wrap (acc + 1) (by omega) (by omega),show acc + 1 = acc + v by omega]
    · rw [if_neg e0,if_neg e2] at hv
      rw [if_neg e0,if_neg e2,show acc + v = acc by omega]
theorem times_i (l:List S39) (n:Int) (hl:l.length ≤ 1000000):Ev (fun k => impl_times.f k l n) (tm l n):=by
  have:=itm_ev n l [] 0 hl (Int.le_refl _) (by simp)
  simpa [impl_times.f] using this
theorem times_s (l:List S39) (n:Int) (hl:l.length ≤ 1000000):Ev (fun k => spec_tiTimes.f k l n) (tm l n):=by
  have:=stm_ev n l [] 0 hl (Int.le_refl _) (by simp)
  simpa [spec_tiTimes.f] using this
def nf (l:List S39):Nat → Nat → List Int
  | 0,_ => []
  | d + 1,i => if tm l (i:Int) > 0 then (i:Int) :: nf l d (i + 1) else nf l d (i + 1)
theorem nf_len (l:List S39):∀ d i,(nf l d i).length ≤ d
  | 0,i => by simp [nf]
  | d + 1,i => by
    unfold nf
    have:=nf_len l d (i + 1)
    split
    · simp only [List.length_cons]
      omega
    · omega
theorem inums_ev (l:List S39) (hl:l.length ≤ 1000000):∀ (d i:Nat) (o:List Int),i + d = 10 → o.length ≤ i → Ev (fun k => impl_numbers.l0 k l o (i:Int)) (o ++ nf l d i):=by
  intro d
  induction d with
  | zero =>
    intro i o h0 h1
    refine Ev.step (f:=fun _ => some (o ++ nf l 0 i)) (fun k => ?_) (Ev.now _)
    simp only [impl_numbers.l0]
    rw [if_neg (by omega)]
    simp [nf]
  | succ d ih =>
    intro i o h0 h1
    obtain ⟨K1,h2⟩:=times_i l i hl
    simp only at h2
    have hw:wrap64 ((i:Int) + 1) = ((i + 1:Nat):Int):=by rw [t_wrap _ (by omega) (by omega)]; rfl
    by_cases e:tm l (i:Int) > 0
    · obtain ⟨K2,h3⟩:=ih (i + 1) (o ++ [(i:Int)]) (by omega) (by simp; omega)
      refine ev_up (K:=K1 + K2) fun k hk => ?_
      simp only [impl_numbers.l0]
      rw [if_pos (by omega),h2 k (by omega)]
      simp only [Option.bind_some,hw]
      rw [if_pos e,if_pos (by omega),show nf l (d + 1) i = (i:Int) :: nf l d (i + 1) by simp [nf,e]]
      have:=h3 k (by omega)
      simpa using this
    · obtain ⟨K2,h3⟩:=ih (i + 1) o (by omega) (by omega)
      refine ev_up (K:=K1 + K2) fun k hk => ?_
      simp only [impl_numbers.l0]
      rw [if_pos (by omega),h2 k (by omega)]
      simp only [Option.bind_some,hw]
      rw [if_neg e,show nf l (d + 1) i = nf l d (i + 1) by simp [nf,e]]
      exact h3 k (by omega)
def lexL:List Int → List Int → Bool
  | x :: xs,y :: ys => if x = y then lexL xs ys else decide (x < y)
  | [],_ :: _ => true
  | _,[] => false
theorem lexL_app:∀ (p a b:List Int),lexL (p ++ a) (p ++ b) = lexL a b
  | [],_,_ => rfl
  | x :: p,a,b => by
    simp only [List.cons_append,lexL,if_true]
    exact lexL_app p a b
theorem upf_lt:∀ (m:Nat) (n:Int),(upf m n).Pairwise (· < ·)
  | 0,_ => .nil
  | m + 1,n => by
    refine List.pairwise_cons.2 ⟨fun x hx => ?_,upf_lt m (n + 1)⟩
    have:=upf_mem m (n + 1) x hx
    omega
theorem less_ev (a b:List Int) (hab:a.length = b.length) (hl:a.length ≤ 1000000):∀ (d i:Nat),i + d = a.length → Ev (fun k => laws_iLess.l0 k a b (i:Int)) (lexL (a.drop i) (b.drop i)):=by
  intro d
  induction d with
  | zero =>
    intro i hi
    rw [List.drop_of_length_le (by omega),List.drop_of_length_le (by omega)]
    refine ⟨2,fun k hk => ?_⟩
    obtain ⟨m,rfl⟩ : ∃ m,k = m + 2:=⟨k - 2,by omega⟩
    show laws_iLess.l0 (m + 1 + 1) a b (i:Int) = _
    simp only [laws_iLess.l0,laws_iLess.j1]
    rw [if_neg (by omega)]
    simp only [Bool.false_eq_true,if_false]
    rw [decide_eq_false (by omega)]
    rfl
  | succ d ih =>
    intro i hi
    obtain ⟨K,h⟩:=ih (i + 1) (by omega)
    simp only at h
    have hw:wrap64 ((i:Int) + 1) = ((i + 1:Nat):Int):=by rw [t_wrap _ (by omega) (by omega)]; rfl
    rw [List.drop_eq_getElem_cons (show i < a.length by omega),List.drop_eq_getElem_cons (show i < b.length by omega)]
    simp only [lexL]
    refine ⟨K + 2,fun k hk => ?_⟩
    obtain ⟨m,rfl⟩ : ∃ m,k = m + 2:=⟨k - 2,by omega⟩
    show laws_iLess.l0 (m + 1 + 1) a b (i:Int) = _
    simp only [laws_iLess.l0,laws_iLess.j1]
    rw [if_pos (by omega),decide_eq_true (show (i:Int) < (b.length:Int) by omega)]
    simp only [if_true]
    rw [if_pos (by omega),if_pos (by omega),if_pos (by omega),rd_get a i (by omega),rd_get b i (by omega),hw]
    by_cases e:a[i] = b[i]
    · rw [if_pos e,if_pos e]
      exact h m (by omega)
    · rw [if_neg e,if_neg e]
theorem less_f (a b:List Int) (hab:a.length = b.length) (hl:a.length ≤ 1000000):Ev (fun k => laws_iLess.f k a b) (lexL a b):=less_ev a b hab hl a.length 0 (by omega)
theorem wf_u8 (l:List Int) (h:∀ x_ ∈ l,(Lit.int .u8 x_).wf = true):∀ x ∈ l,0 ≤ x ∧ x ≤ 255:=by
  intro x hx
  have h1:(decide (IntKind.u8.min ≤ x) && decide (x ≤ IntKind.u8.max)) = true:=h x hx
  have h2:IntKind.u8.min = 0:=by decide
  have h3:IntKind.u8.max = 255:=by decide
  rw [h2,h3] at h1
  simpa using h1
def walks:Nat → List Int → List S39 → List (List Int)
  | 0,_,_ => []
  | d + 1,p,l => p :: (upf 10 0).flatMap fun n => if sOf (last_ p) n ∈ l then walks d (p ++ [n]) (rem l (sOf (last_ p) n)) else []
def subs (d:Nat) (p:List Int) (l:List S39) (m:Nat) (n:Int):List (List Int):=(upf m n).flatMap fun n => if sOf (last_ p) n ∈ l then walks d (p ++ [n]) (rem l (sOf (last_ p) n)) else []
theorem walks_succ (d:Nat) (p:List Int) (l:List S39):walks (d + 1) p l = p :: subs d p l 10 0:=rfl
theorem subs_succ (d:Nat) (p:List Int) (l:List S39) (m:Nat) (n:Int):subs d p l (m + 1) n = (if sOf (last_ p) n ∈ l then walks d (p ++ [n]) (rem l (sOf (last_ p) n)) else []) ++ subs d p l m (n + 1):=by simp [subs,upf]
def run {σ:Type} (v:σ → List Int → Bool × σ):σ → List (List Int) → Bool × σ
  | s,[] => (true,s)
  | s,c :: cs => if (v s c).1 = true then run v (v s c).2 cs else (false,(v s c).2)
theorem run_app {σ:Type} (v:σ → List Int → Bool × σ):∀ (a b:List (List Int)) (s:σ),run v s (a ++ b) = if (run v s a).1 = true then run v (run v s a).2 b else (false,(run v s a).2)
  | [],b,s => by simp [run]
  | c :: cs,b,s => by
    simp only [List.cons_append,run]
    split
    · exact run_app v cs b _
    · simp
theorem run_inv {σ:Type} (v:σ → List Int → Bool × σ) (I:σ → Prop) (hI:∀ s c,I s → (v s c).1 = true → I (v s c).2):∀ (L:List (List Int)) (s:σ),I s → (run v s L).1 = true → I (run v s L).2
  | [],s,h,_ => h
  | c :: cs,s,h,h2 => by
    simp only [run] at h2 ⊢
    split
    · rename_i e
      rw [if_pos e] at h2
      exact run_inv v I hI cs _ (hI s c h e) h2
    · rename_i e
      rw [if_neg e] at h2
      cases h2
theorem index_nd (t:S39) (l:List S39) (hl:l.length ≤ 2000000) (hn:l.Nodup):∃ r:Int,Ev (fun k => slices_Index_impl_Tile_impl_Tile.f k l t.f0 t.f1) r ∧ (t ∉ l → r = -1) ∧ (t ∈ l → 0 ≤ r ∧ r < l.length ∧ l.eraseIdx r.toNat = rem l t):=by
  obtain ⟨r,h1,h2,h3⟩:=index_at t l [] (by simpa using hl) hn
  refine ⟨r,h1,h2,fun h => ?_⟩
  obtain ⟨i,hr,hi,he⟩:=h3 h
  subst hr
  refine ⟨by omega,by simp; omega,by simpa using he⟩
theorem clone_i (p:List Int) (h:p.length ≤ 1000000):slices_Clone_int_int.f p = some p:=by unfold slices_Clone_int_int.f; rw [if_pos (by omega)]
theorem clone_t (l:List S39) (h:l.length ≤ 1000000):slices_Clone_impl_Tile_impl_Tile.f l = some l:=by unfold slices_Clone_impl_Tile_impl_Tile.f; rw [if_pos (by omega)]
theorem del_f (l:List S39) (r:Int) (h0:0 ≤ r) (h1:r < l.length) (hl:l.length ≤ 1000000):slices_Delete_impl_Tile.f l r (wrap64 (r + 1)) = some (l.eraseIdx r.toNat):=by
  unfold slices_Delete_impl_Tile.f
  rw [t_wrap _ (by omega) (by omega),if_pos ⟨h0,h1,rfl⟩]
def begs (X:List Int) (l:List S39):List (List Int):=X.flatMap fun n => subs (l.length + 1) [n] l 10 0
def allW (l:List S39):List (List Int):=begs (upf 10 0) l
theorem subs_none (d:Nat) (n:Int) (l:List S39) (h:¬ ∃ x ∈ l,x.f0 = n ∨ x.f1 = n):subs d [n] l 10 0 = []:=by
  unfold subs
  rw [List.flatMap_eq_nil_iff]
  intro m _
  rw [if_neg]
  intro hm
  exact h ⟨_,hm,sOf_has n m⟩
theorem tm_pos (l:List S39) (n:Int):tm l n > 0 ↔ ∃ x ∈ l,x.f0 = n ∨ x.f1 = n:=by
  induction l with
  | nil => simp [tm]
  | cons t l ih =>
    have h2:=tm_small l n
    rw [tm_cons]
    constructor
    · intro h
      by_cases e:t.f0 = n ∨ t.f1 = n
      · exact ⟨t,List.mem_cons_self,e⟩
      · rw [if_neg (fun q => e (.inl q)),if_neg (fun q => e (.inr q))] at h
        obtain ⟨x,hx,e2⟩:=ih.1 (by omega)
        exact ⟨x,List.mem_cons_of_mem _ hx,e2⟩
    · rintro ⟨x,hx,e⟩
      rcases List.mem_cons.1 hx with rfl | hx
      · rcases e with e | e
        · rw [if_pos e]
          split <;> omega
        · rw [if_pos e]
          split <;> omega
      · have:=ih.2 ⟨x,hx,e⟩
        split <;> split <;> omega
theorem begs_nf (l:List S39):∀ d i:Nat,begs (nf l d i) l = begs (upf d (i:Int)) l
  | 0,i => rfl
  | d + 1,i => by
    have ih:=begs_nf l d (i + 1)
    unfold begs at ih ⊢
    have e2:((i + 1:Nat):Int) = (i:Int) + 1:=rfl
    rw [e2] at ih
    unfold nf
    by_cases e:tm l (i:Int) > 0
    · rw [if_pos e,List.flatMap_cons,ih,upf,List.flatMap_cons]
    · rw [if_neg e,ih,upf,List.flatMap_cons,subs_none _ _ _ (fun h => e ((tm_pos l i).2 h)),List.nil_append]
def V0 (l:List S39) (s:List (List Int)) (c:List Int):Bool × List (List Int):=(decide (((if c.length = l.length + 1 then s ++ [c] else s).length:Int) ≤ 300),if c.length = l.length + 1 then s ++ [c] else s)
def V1 (s c:List Int):Bool × List Int:=(true,s.set (c.length - 2) (wrap64 (rd s ((c.length - 2:Nat):Int) + 1)))
def V2 (s c:List Int):Bool × List Int:=(true,if c.length > s.length then c else s)
def I0 (s:List (List Int)):Prop:=s.length ≤ 300
def I1 (l:List S39) (s:List Int):Prop:=s.length = l.length
def I2 (_:List Int):Prop:=True
theorem hI0 (l:List S39):∀ s c,I0 s → (V0 l s c).1 = true → I0 (V0 l s c).2:=fun s c _ h => by
  have:=of_decide_eq_true h
  show (if c.length = l.length + 1 then s ++ [c] else s).length ≤ 300
  omega
theorem hI1 (l:List S39):∀ s c,I1 l s → (V1 s c).1 = true → I1 l (V1 s c).2:=fun s c h _ => by
  unfold I1 V1 at *
  simpa using h
theorem hI2:∀ s c,I2 s → (V2 s c).1 = true → I2 (V2 s c).2:=fun _ _ _ _ => trivial
theorem vis0 (l:List S39) (s:List (List Int)) (c:List Int) (k:Nat) (h:I0 s) (hl:l.length ≤ 8) (h2:2 ≤ c.length) (hc:c.length ≤ l.length + 1):g25_impl_AllChains_1.f k c l s = some (V0 l s c):=by
  unfold I0 at h
  unfold g25_impl_AllChains_1.f V0
  rw [t_wrap _ (by omega) (by omega)]
  by_cases e:c.length = l.length + 1
  · rw [if_pos (by omega),if_pos (by omega),if_pos e]
  · rw [if_neg (by omega),if_neg e]
theorem vis1 (l:List S39) (s c:List Int) (k:Nat) (h:I1 l s) (hl:l.length ≤ 8) (h2:2 ≤ c.length) (hc:c.length ≤ l.length + 1):g28_impl_CountByTiles_1.f k c s = some (V1 s c):=by
  unfold I1 at h
  unfold g28_impl_CountByTiles_1.f V1
  have e:(c.length:Int) - 2 = ((c.length - 2:Nat):Int):=by omega
  rw [t_wrap _ (by omega) (by omega),e,if_pos (by omega),if_pos (by omega)]
  rfl
theorem vis2 (l:List S39) (s c:List Int) (k:Nat) (h:I2 s) (hl:l.length ≤ 8) (h2:2 ≤ c.length) (hc:c.length ≤ l.length + 1):g29_impl_LongestChain_1.f k c s = some (V2 s c):=by
  unfold g29_impl_LongestChain_1.f V2
  by_cases e:c.length > s.length
  · rw [if_pos (by omega),if_pos e]
  · rw [if_neg (by omega),if_neg e]
theorem walk0_loop (hand:List S39) (p:List Int) (l:List S39) (d:Nat) (hn:l.Nodup) (hl9:l.length ≤ 9) (hp:0 < p.length) (hp9:p.length ≤ 100)
    (hrec:∀ n s,0 ≤ n → n ≤ 9 → sOf (last_ p) n ∈ l → I0 s → Ev (fun k => g43_impl_chains_1.f k (p ++ [n]) (rem l (sOf (last_ p) n)) hand s) (run (V0 hand) s (walks d (p ++ [n]) (rem l (sOf (last_ p) n))))) :
    ∀ (m:Nat) (n:Int) s,n + m = 10 → 0 ≤ n → I0 s → Ev (fun k => g43_impl_chains_1.l0 k p l hand s n) (run (V0 hand) s (subs d p l m n)):=by
  intro m
  induction m with
  | zero =>
    intro n s h0 h1 hs
    refine ⟨1,fun k hk => ?_⟩
    obtain ⟨q,rfl⟩ : ∃ q,k = q + 1:=⟨k - 1,by omega⟩
    simp only [g43_impl_chains_1.l0]
    rw [if_neg (by omega)]
    rfl
  | succ m ih =>
    intro n s h0 h1 hs
    have hw:wrap64 ((p.length:Int) - 1) = (p.length:Int) - 1:=t_wrap _ (by omega) (by omega)
    have hw2:wrap64 (n + 1) = n + 1:=t_wrap _ (by omega) (by omega)
    have ht:impl_tile.f (rd p ((p.length:Int) - 1)) n = some ((sOf (last_ p) n).f0,(sOf (last_ p) n).f1):=rfl
    obtain ⟨r,⟨K1,hr⟩,r1,r2⟩:=index_nd (sOf (last_ p) n) l (by omega) hn
    simp only at hr
    rw [subs_succ]
    by_cases hm:sOf (last_ p) n ∈ l
    · obtain ⟨q0,q1,q2⟩:=r2 hm
      obtain ⟨K2,h2⟩:=hrec n s h1 (by omega) hm hs
      simp only at h2
      rw [if_pos hm,run_app]
      have g1:=clone_i p (by omega)
      have g2:=clone_t l (by omega)
      have g3:=del_f l r q0 q1 (by omega)
      by_cases e:(run (V0 hand) s (walks d (p ++ [n]) (rem l (sOf (last_ p) n)))).1 = true
      · obtain ⟨K3,h3⟩:=ih (n + 1) _ (by omega) (by omega) (run_inv _ (I0) (hI0 hand) _ s hs e)
        simp only at h3
        rw [if_pos e]
        refine ⟨K1 + K2 + K3 + 1,fun k hk => ?_⟩
        obtain ⟨q,rfl⟩ : ∃ q,k = q + 1:=⟨k - 1,by omega⟩
        simp only [g43_impl_chains_1.l0]
        rw [if_pos (by omega),hw,if_pos (by omega),if_pos (by omega),ht]
        simp only [Option.bind_some,hr q (by omega)]
        rw [if_pos q0,g1]
        simp only [Option.bind_some]
        rw [if_pos (by omega),g2]
        simp only [Option.bind_some,g3,q2,h2 q (by omega),hw2]
        rw [if_pos e,h3 q (by omega)]
      · rw [if_neg e]
        refine ⟨K1 + K2 + 1,fun k hk => ?_⟩
        obtain ⟨q,rfl⟩ : ∃ q,k = q + 1:=⟨k - 1,by omega⟩
        simp only [g43_impl_chains_1.l0]
        rw [if_pos (by omega),hw,if_pos (by omega),if_pos (by omega),ht]
        simp only [Option.bind_some,hr q (by omega)]
        rw [if_pos q0,g1]
        simp only [Option.bind_some]
        rw [if_pos (by omega),g2]
        simp only [Option.bind_some,g3,q2,h2 q (by omega),hw2]
        rw [if_neg e]
    · obtain ⟨K3,h3⟩:=ih (n + 1) s (by omega) (by omega) hs
      simp only at h3
      rw [if_neg hm,List.nil_append]
      have hr1:=r1 hm
      refine ⟨K1 + K3 + 1,fun k hk => ?_⟩
      obtain ⟨q,rfl⟩ : ∃ q,k = q + 1:=⟨k - 1,by omega⟩
      simp only [g43_impl_chains_1.l0]
      rw [if_pos (by omega),hw,if_pos (by omega),if_pos (by omega),ht]
      simp only [Option.bind_some,hr q (by omega)]
      rw [if_neg (by omega),hw2,h3 q (by omega)]
theorem walk0 (hand:List S39) (hh:hand.length ≤ 8):∀ (d:Nat) (p:List Int) (l:List S39) s,l.Nodup → 2 ≤ p.length → p.length + l.length = hand.length + 1 → l.length < d → I0 s →
    Ev (fun k => g43_impl_chains_1.f k p l hand s) (run (V0 hand) s (walks d p l)):=by
  intro d
  induction d with
  | zero => intro p l s _ _ _ h _; omega
  | succ d ih =>
    intro p l s hn hp hpl hd hs
    have hv:=fun k => vis0 hand s p k hs hh hp (by omega)
    rw [walks_succ]
    simp only [run]
    by_cases e:((V0 hand) s p).1 = true
    · rw [if_pos e]
      obtain ⟨K,h⟩:=walk0_loop hand p l d hn (by omega) (by omega) (by omega) (fun n s _ _ hm hs => by
        have:=rem_len hn _ hm
        exact ih (p ++ [n]) _ s (rem_nodup hn _) (by simp; omega) (by simp; omega) (by omega) hs) 10 0 _ (by omega) (by omega) (hI0 hand s p hs e)
      simp only at h
      refine ⟨K + 1,fun k hk => ?_⟩
      obtain ⟨q,rfl⟩ : ∃ q,k = q + 1:=⟨k - 1,by omega⟩
      simp only [g43_impl_chains_1.f]
      rw [if_pos (by omega),hv]
      simp only [Option.bind_some]
      rw [if_pos e,h q (by omega)]
    · rw [if_neg e]
      refine ⟨1,fun k hk => ?_⟩
      obtain ⟨q,rfl⟩ : ∃ q,k = q + 1:=⟨k - 1,by omega⟩
      simp only [g43_impl_chains_1.f]
      rw [if_pos (by omega),hv]
      simp only [Option.bind_some]
      rw [if_neg e]
theorem walk0_one (hand:List S39) (hh:hand.length ≤ 8) (hn:hand.Nodup) (n:Int) (s) (hs:I0 s):Ev (fun k => g43_impl_chains_1.f k [n] hand hand s) (run (V0 hand) s (subs (hand.length + 1) [n] hand 10 0)):=by
  obtain ⟨K,h⟩:=walk0_loop hand [n] hand (hand.length + 1) hn (by omega) (by simp) (by simp) (fun m s _ _ hm hs => by
    have:=rem_len hn _ hm
    exact walk0 hand hh _ ([n] ++ [m]) _ s (rem_nodup hn _) (by simp) (by simp; omega) (by omega) hs) 10 0 s (by omega) (by omega) hs
  simp only at h
  refine ⟨K + 1,fun k hk => ?_⟩
  obtain ⟨q,rfl⟩ : ∃ q,k = q + 1:=⟨k - 1,by omega⟩
  simp only [g43_impl_chains_1.f]
  rw [if_neg (by simp),h q (by omega)]
theorem walk0_all (hand:List S39) (hh:hand.length ≤ 8) (hn:hand.Nodup):∀ (rest pre:List Int) s,(pre ++ rest).length ≤ 10 → I0 s →
    Ev (fun k => g24_impl_chains.l0 k hand hand s (pre ++ rest) ((pre ++ rest).length:Int) (pre.length:Int)) (run (V0 hand) s (begs rest hand)):=by
  intro rest
  induction rest with
  | nil =>
    intro pre s hl hs
    refine ⟨1,fun k hk => ?_⟩
    obtain ⟨q,rfl⟩ : ∃ q,k = q + 1:=⟨k - 1,by omega⟩
    simp only [g24_impl_chains.l0,List.append_nil]
    rw [if_neg (by omega)]
    rfl
  | cons x xs ih =>
    intro pre s hl hs
    have hlen:(pre ++ x :: xs).length = pre.length + xs.length + 1:=by simp; omega
    have hw:wrap64 ((pre.length:Int) + 1) = ((pre ++ [x]).length:Int):=by rw [t_wrap _ (by omega) (by omega)]; simp
    have e1:pre ++ [x] ++ xs = pre ++ x :: xs:=by simp
    obtain ⟨K1,h1⟩:=walk0_one hand hh hn x s hs
    simp only at h1
    have hb:begs (x :: xs) hand = subs (hand.length + 1) [x] hand 10 0 ++ begs xs hand:=by simp [begs]
    rw [hb,run_app]
    by_cases e:(run (V0 hand) s (subs (hand.length + 1) [x] hand 10 0)).1 = true
    · obtain ⟨K2,h2⟩:=ih (pre ++ [x]) _ (by rw [e1]; exact hl) (run_inv _ (I0) (hI0 hand) _ s hs e)
      simp only [e1] at h2
      rw [if_pos e]
      refine ⟨K1 + K2 + 1,fun k hk => ?_⟩
      obtain ⟨q,rfl⟩ : ∃ q,k = q + 1:=⟨k - 1,by omega⟩
      simp only [g24_impl_chains.l0]
      rw [if_pos (by omega),if_pos (by omega),if_pos (by omega),i_mid,h1 q (by omega)]
      simp only [Option.bind_some]
      rw [if_pos e,hw,h2 q (by omega)]
    · rw [if_neg e]
      refine ⟨K1 + 1,fun k hk => ?_⟩
      obtain ⟨q,rfl⟩ : ∃ q,k = q + 1:=⟨k - 1,by omega⟩
      simp only [g24_impl_chains.l0]
      rw [if_pos (by omega),if_pos (by omega),if_pos (by omega),i_mid,h1 q (by omega)]
      simp only [Option.bind_some]
      rw [if_neg e]
theorem chains0 (hand:List S39) (hh:hand.length ≤ 8) (hn:hand.Nodup) (s) (hs:I0 s):Ev (fun k => g24_impl_chains.f k hand hand s) (run (V0 hand) s (allW hand)):=by
  obtain ⟨K1,h1⟩:=inums_ev hand (by omega) 10 0 [] (by omega) (by simp)
  obtain ⟨K2,h2⟩:=walk0_all hand hh hn (nf hand 10 0) [] s (by simpa using nf_len hand 10 0) hs
  simp only [List.nil_append] at h1 h2
  refine ⟨K1 + K2,fun k hk => ?_⟩
  have h1':impl_numbers.f k hand = some (nf hand 10 0):=h1 k (by omega)
  have e:begs (nf hand 10 0) hand = allW hand:=begs_nf hand 10 0
  simp only [g24_impl_chains.f]
  rw [h1']
  simp only [Option.bind_some]
  rw [← e]
  exact h2 k (by omega)
theorem walk1_loop (hand:List S39) (p:List Int) (l:List S39) (d:Nat) (hn:l.Nodup) (hl9:l.length ≤ 9) (hp:0 < p.length) (hp9:p.length ≤ 100)
    (hrec:∀ n s,0 ≤ n → n ≤ 9 → sOf (last_ p) n ∈ l → I1 hand s → Ev (fun k => g100043_impl_chains_1_v1.f k (p ++ [n]) (rem l (sOf (last_ p) n)) s) (run (V1) s (walks d (p ++ [n]) (rem l (sOf (last_ p) n))))) :
    ∀ (m:Nat) (n:Int) s,n + m = 10 → 0 ≤ n → I1 hand s → Ev (fun k => g100043_impl_chains_1_v1.l0 k p l s n) (run (V1) s (subs d p l m n)):=by
  intro m
  induction m with
  | zero =>
    intro n s h0 h1 hs
    refine ⟨1,fun k hk => ?_⟩
    obtain ⟨q,rfl⟩ : ∃ q,k = q + 1:=⟨k - 1,by omega⟩
    simp only [g100043_impl_chains_1_v1.l0]
    rw [if_neg (by omega)]
    rfl
  | succ m ih =>
    intro n s h0 h1 hs
    have hw:wrap64 ((p.length:Int) - 1) = (p.length:Int) - 1:=t_wrap _ (by omega) (by omega)
    have hw2:wrap64 (n + 1) = n + 1:=t_wrap _ (by omega) (by omega)
    have ht:impl_tile.f (rd p ((p.length:Int) - 1)) n = some ((sOf (last_ p) n).f0,(sOf (last_ p) n).f1):=rfl
    obtain ⟨r,⟨K1,hr⟩,r1,r2⟩:=index_nd (sOf (last_ p) n) l (by omega) hn
    simp only at hr
    rw [subs_succ]
    by_cases hm:sOf (last_ p) n ∈ l
    · obtain ⟨q0,q1,q2⟩:=r2 hm
      obtain ⟨K2,h2⟩:=hrec n s h1 (by omega) hm hs
      simp only at h2
      rw [if_pos hm,run_app]
      have g1:=clone_i p (by omega)
      have g2:=clone_t l (by omega)
      have g3:=del_f l r q0 q1 (by omega)
      by_cases e:(run (V1) s (walks d (p ++ [n]) (rem l (sOf (last_ p) n)))).1 = true
      · obtain ⟨K3,h3⟩:=ih (n + 1) _ (by omega) (by omega) (run_inv _ (I1 hand) (hI1 hand) _ s hs e)
        simp only at h3
        rw [if_pos e]
        refine ⟨K1 + K2 + K3 + 1,fun k hk => ?_⟩
        obtain ⟨q,rfl⟩ : ∃ q,k = q + 1:=⟨k - 1,by omega⟩
        simp only [g100043_impl_chains_1_v1.l0]
        rw [if_pos (by omega),hw,if_pos (by omega),if_pos (by omega),ht]
        simp only [Option.bind_some,hr q (by omega)]
        rw [if_pos q0,g1]
        simp only [Option.bind_some]
        rw [if_pos (by omega),g2]
        simp only [Option.bind_some,g3,q2,h2 q (by omega),hw2]
        rw [if_pos e,h3 q (by omega)]
      · rw [if_neg e]
        refine ⟨K1 + K2 + 1,fun k hk => ?_⟩
        obtain ⟨q,rfl⟩ : ∃ q,k = q + 1:=⟨k - 1,by omega⟩
        simp only [g100043_impl_chains_1_v1.l0]
        rw [if_pos (by omega),hw,if_pos (by omega),if_pos (by omega),ht]
        simp only [Option.bind_some,hr q (by omega)]
        rw [if_pos q0,g1]
        simp only [Option.bind_some]
        rw [if_pos (by omega),g2]
        simp only [Option.bind_some,g3,q2,h2 q (by omega),hw2]
        rw [if_neg e]
    · obtain ⟨K3,h3⟩:=ih (n + 1) s (by omega) (by omega) hs
      simp only at h3
      rw [if_neg hm,List.nil_append]
      have hr1:=r1 hm
      refine ⟨K1 + K3 + 1,fun k hk => ?_⟩
      obtain ⟨q,rfl⟩ : ∃ q,k = q + 1:=⟨k - 1,by omega⟩
      simp only [g100043_impl_chains_1_v1.l0]
      rw [if_pos (by omega),hw,if_pos (by omega),if_pos (by omega),ht]
      simp only [Option.bind_some,hr q (by omega)]
      rw [if_neg (by omega),hw2,h3 q (by omega)]
theorem walk1 (hand:List S39) (hh:hand.length ≤ 8):∀ (d:Nat) (p:List Int) (l:List S39) s,l.Nodup → 2 ≤ p.length → p.length + l.length = hand.length + 1 → l.length < d → I1 hand s →
    Ev (fun k => g100043_impl_chains_1_v1.f k p l s) (run (V1) s (walks d p l)):=by
  intro d
  induction d with
  | zero => intro p l s _ _ _ h _; omega
  | succ d ih =>
    intro p l s hn hp hpl hd hs
    have hv:=fun k => vis1 hand s p k hs hh hp (by omega)
    rw [walks_succ]
    simp only [run]
    by_cases e:((V1) s p).1 = true
    · rw [if_pos e]
      obtain ⟨K,h⟩:=walk1_loop hand p l d hn (by omega) (by omega) (by omega) (fun n s _ _ hm hs => by
        have:=rem_len hn _ hm
        exact ih (p ++ [n]) _ s (rem_nodup hn _) (by simp; omega) (by simp; omega) (by omega) hs) 10 0 _ (by omega) (by omega) (hI1 hand s p hs e)
      simp only at h
      refine ⟨K + 1,fun k hk => ?_⟩
      obtain ⟨q,rfl⟩ : ∃ q,k = q + 1:=⟨k - 1,by omega⟩
      simp only [g100043_impl_chains_1_v1.f]
      rw [if_pos (by omega),hv]
      simp only [Option.bind_some]
      rw [if_pos e,h q (by omega)]
    · rw [if_neg e]
      refine ⟨1,fun k hk => ?_⟩
      obtain ⟨q,rfl⟩ : ∃ q,k = q + 1:=⟨k - 1,by omega⟩
      simp only [g100043_impl_chains_1_v1.f]
      rw [if_pos (by omega),hv]
      simp only [Option.bind_some]
      rw [if_neg e]
theorem walk1_one (hand:List S39) (hh:hand.length ≤ 8) (hn:hand.Nodup) (n:Int) (s) (hs:I1 hand s):Ev (fun k => g100043_impl_chains_1_v1.f k [n] hand s) (run (V1) s (subs (hand.length + 1) [n] hand 10 0)):=by
  obtain ⟨K,h⟩:=walk1_loop hand [n] hand (hand.length + 1) hn (by omega) (by simp) (by simp) (fun m s _ _ hm hs => by
    have:=rem_len hn _ hm
    exact walk1 hand hh _ ([n] ++ [m]) _ s (rem_nodup hn _) (by simp) (by simp; omega) (by omega) hs) 10 0 s (by omega) (by omega) hs
  simp only at h
  refine ⟨K + 1,fun k hk => ?_⟩
  obtain ⟨q,rfl⟩ : ∃ q,k = q + 1:=⟨k - 1,by omega⟩
  simp only [g100043_impl_chains_1_v1.f]
  rw [if_neg (by simp),h q (by omega)]
theorem walk1_all (hand:List S39) (hh:hand.length ≤ 8) (hn:hand.Nodup):∀ (rest pre:List Int) s,(pre ++ rest).length ≤ 10 → I1 hand s →
    Ev (fun k => g100024_impl_chains_v1.l0 k hand s (pre ++ rest) ((pre ++ rest).length:Int) (pre.length:Int)) (run (V1) s (begs rest hand)):=by
  intro rest
  induction rest with
  | nil =>
    intro pre s hl hs
    refine ⟨1,fun k hk => ?_⟩
    obtain ⟨q,rfl⟩ : ∃ q,k = q + 1:=⟨k - 1,by omega⟩
    simp only [g100024_impl_chains_v1.l0,List.append_nil]
    rw [if_neg (by omega)]
    rfl
  | cons x xs ih =>
    intro pre s hl hs
    have hlen:(pre ++ x :: xs).length = pre.length + xs.length + 1:=by simp; omega
    have hw:wrap64 ((pre.length:Int) + 1) = ((pre ++ [x]).length:Int):=by rw [t_wrap _ (by omega) (by omega)]; simp
    have e1:pre ++ [x] ++ xs = pre ++ x :: xs:=by simp
    obtain ⟨K1,h1⟩:=walk1_one hand hh hn x s hs
    simp only at h1
    have hb:begs (x :: xs) hand = subs (hand.length + 1) [x] hand 10 0 ++ begs xs hand:=by simp [begs]
    rw [hb,run_app]
    by_cases e:(run (V1) s (subs (hand.length + 1) [x] hand 10 0)).1 = true
    · obtain ⟨K2,h2⟩:=ih (pre ++ [x]) _ (by rw [e1]; exact hl) (run_inv _ (I1 hand) (hI1 hand) _ s hs e)
      simp only [e1] at h2
      rw [if_pos e]
      refine ⟨K1 + K2 + 1,fun k hk => ?_⟩
      obtain ⟨q,rfl⟩ : ∃ q,k = q + 1:=⟨k - 1,by omega⟩
      simp only [g100024_impl_chains_v1.l0]
      rw [if_pos (by omega),if_pos (by omega),if_pos (by omega),i_mid,h1 q (by omega)]
      simp only [Option.bind_some]
      rw [if_pos e,hw,h2 q (by omega)]
    · rw [if_neg e]
      refine ⟨K1 + 1,fun k hk => ?_⟩
      obtain ⟨q,rfl⟩ : ∃ q,k = q + 1:=⟨k - 1,by omega⟩
      simp only [g100024_impl_chains_v1.l0]
      rw [if_pos (by omega),if_pos (by omega),if_pos (by omega),i_mid,h1 q (by omega)]
      simp only [Option.bind_some]
      rw [if_neg e]
theorem chains1 (hand:List S39) (hh:hand.length ≤ 8) (hn:hand.Nodup) (s) (hs:I1 hand s):Ev (fun k => g100024_impl_chains_v1.f k hand s) (run (V1) s (allW hand)):=by
  obtain ⟨K1,h1⟩:=inums_ev hand (by omega) 10 0 [] (by omega) (by simp)
  obtain ⟨K2,h2⟩:=walk1_all hand hh hn (nf hand 10 0) [] s (by simpa using nf_len hand 10 0) hs
  simp only [List.nil_append] at h1 h2
  refine ⟨K1 + K2,fun k hk => ?_⟩
  have h1':impl_numbers.f k hand = some (nf hand 10 0):=h1 k (by omega)
  have e:begs (nf hand 10 0) hand = allW hand:=begs_nf hand 10 0
  simp only [g100024_impl_chains_v1.f]
  rw [h1']
  simp only [Option.bind_some]
  rw [← e]
  exact h2 k (by omega)
theorem walk2_loop (hand:List S39) (p:List Int) (l:List S39) (d:Nat) (hn:l.Nodup) (hl9:l.length ≤ 9) (hp:0 < p.length) (hp9:p.length ≤ 100)
    (hrec:∀ n s,0 ≤ n → n ≤ 9 → sOf (last_ p) n ∈ l → I2 s → Ev (fun k => g200043_impl_chains_1_v2.f k (p ++ [n]) (rem l (sOf (last_ p) n)) s) (run (V2) s (walks d (p ++ [n]) (rem l (sOf (last_ p) n))))) :
    ∀ (m:Nat) (n:Int) s,n + m = 10 → 0 ≤ n → I2 s → Ev (fun k => g200043_impl_chains_1_v2.l0 k p l s n) (run (V2) s (subs d p l m n)):=by
  intro m
  induction m with
  | zero =>
    intro n s h0 h1 hs
    refine ⟨1,fun k hk => ?_⟩
    obtain ⟨q,rfl⟩ : ∃ q,k = q + 1:=⟨k - 1,by omega⟩
    simp only [g200043_impl_chains_1_v2.l0]
    rw [if_neg (by omega)]
    rfl
  | succ m ih =>
    intro n s h0 h1 hs
    have hw:wrap64 ((p.length:Int) - 1) = (p.length:Int) - 1:=t_wrap _ (by omega) (by omega)
    have hw2:wrap64 (n + 1) = n + 1:=t_wrap _ (by omega) (by omega)
    have ht:impl_tile.f (rd p ((p.length:Int) - 1)) n = some ((sOf (last_ p) n).f0,(sOf (last_ p) n).f1):=rfl
    obtain ⟨r,⟨K1,hr⟩,r1,r2⟩:=index_nd (sOf (last_ p) n) l (by omega) hn
    simp only at hr
    rw [subs_succ]
    by_cases hm:sOf (last_ p) n ∈ l
    · obtain ⟨q0,q1,q2⟩:=r2 hm
      obtain ⟨K2,h2⟩:=hrec n s h1 (by omega) hm hs
      simp only at h2
      rw [if_pos hm,run_app]
      have g1:=clone_i p (by omega)
      have g2:=clone_t l (by omega)
      have g3:=del_f l r q0 q1 (by omega)
      by_cases e:(run (V2) s (walks d (p ++ [n]) (rem l (sOf (last_ p) n)))).1 = true
      · obtain ⟨K3,h3⟩:=ih (n + 1) _ (by omega) (by omega) (run_inv _ (I2) (hI2) _ s hs e)
        simp only at h3
        rw [if_pos e]
        refine ⟨K1 + K2 + K3 + 1,fun k hk => ?_⟩
        obtain ⟨q,rfl⟩ : ∃ q,k = q + 1:=⟨k - 1,by omega⟩
        simp only [g200043_impl_chains_1_v2.l0]
        rw [if_pos (by omega),hw,if_pos (by omega),if_pos (by omega),ht]
        simp only [Option.bind_some,hr q (by omega)]
        rw [if_pos q0,g1]
        simp only [Option.bind_some]
        rw [if_pos (by omega),g2]
        simp only [Option.bind_some,g3,q2,h2 q (by omega),hw2]
        rw [if_pos e,h3 q (by omega)]
      · rw [if_neg e]
        refine ⟨K1 + K2 + 1,fun k hk => ?_⟩
        obtain ⟨q,rfl⟩ : ∃ q,k = q + 1:=⟨k - 1,by omega⟩
        simp only [g200043_impl_chains_1_v2.l0]
        rw [if_pos (by omega),hw,if_pos (by omega),if_pos (by omega),ht]
        simp only [Option.bind_some,hr q (by omega)]
        rw [if_pos q0,g1]
        simp only [Option.bind_some]
        rw [if_pos (by omega),g2]
        simp only [Option.bind_some,g3,q2,h2 q (by omega),hw2]
        rw [if_neg e]
    · obtain ⟨K3,h3⟩:=ih (n + 1) s (by omega) (by omega) hs
      simp only at h3
      rw [if_neg hm,List.nil_append]
      have hr1:=r1 hm
      refine ⟨K1 + K3 + 1,fun k hk => ?_⟩
      obtain ⟨q,rfl⟩ : ∃ q,k = q + 1:=⟨k - 1,by omega⟩
      simp only [g200043_impl_chains_1_v2.l0]
      rw [if_pos (by omega),hw,if_pos (by omega),if_pos (by omega),ht]
      simp only [Option.bind_some,hr q (by omega)]
      rw [if_neg (by omega),hw2,h3 q (by omega)]
theorem walk2 (hand:List S39) (hh:hand.length ≤ 8):∀ (d:Nat) (p:List Int) (l:List S39) s,l.Nodup → 2 ≤ p.length → p.length + l.length = hand.length + 1 → l.length < d → I2 s →
    Ev (fun k => g200043_impl_chains_1_v2.f k p l s) (run (V2) s (walks d p l)):=by
  intro d
  induction d with
  | zero => intro p l s _ _ _ h _; omega
  | succ d ih =>
    intro p l s hn hp hpl hd hs
    have hv:=fun k => vis2 hand s p k hs hh hp (by omega)
    rw [walks_succ]
    simp only [run]
    by_cases e:((V2) s p).1 = true
    · rw [if_pos e]
      obtain ⟨K,h⟩:=walk2_loop hand p l d hn (by omega) (by omega) (by omega) (fun n s _ _ hm hs => by
        have:=rem_len hn _ hm
        exact ih (p ++ [n]) _ s (rem_nodup hn _) (by simp; omega) (by simp; omega) (by omega) hs) 10 0 _ (by omega) (by omega) (hI2 s p hs e)
      simp only at h
      refine ⟨K + 1,fun k hk => ?_⟩
      obtain ⟨q,rfl⟩ : ∃ q,k = q + 1:=⟨k - 1,by omega⟩
      simp only [g200043_impl_chains_1_v2.f]
      rw [if_pos (by omega),hv]
      simp only [Option.bind_some]
      rw [if_pos e,h q (by omega)]
    · rw [if_neg e]
      refine ⟨1,fun k hk => ?_⟩
      obtain ⟨q,rfl⟩ : ∃ q,k = q + 1:=⟨k - 1,by omega⟩
      simp only [g200043_impl_chains_1_v2.f]
      rw [if_pos (by omega),hv]
      simp only [Option.bind_some]
      rw [if_neg e]
theorem walk2_one (hand:List S39) (hh:hand.length ≤ 8) (hn:hand.Nodup) (n:Int) (s) (hs:I2 s):Ev (fun k => g200043_impl_chains_1_v2.f k [n] hand s) (run (V2) s (subs (hand.length + 1) [n] hand 10 0)):=by
  obtain ⟨K,h⟩:=walk2_loop hand [n] hand (hand.length + 1) hn (by omega) (by simp) (by simp) (fun m s _ _ hm hs => by
    have:=rem_len hn _ hm
    exact walk2 hand hh _ ([n] ++ [m]) _ s (rem_nodup hn _) (by simp) (by simp; omega) (by omega) hs) 10 0 s (by omega) (by omega) hs
  simp only at h
  refine ⟨K + 1,fun k hk => ?_⟩
  obtain ⟨q,rfl⟩ : ∃ q,k = q + 1:=⟨k - 1,by omega⟩
  simp only [g200043_impl_chains_1_v2.f]
  rw [if_neg (by simp),h q (by omega)]
theorem walk2_all (hand:List S39) (hh:hand.length ≤ 8) (hn:hand.Nodup):∀ (rest pre:List Int) s,(pre ++ rest).length ≤ 10 → I2 s →
    Ev (fun k => g200024_impl_chains_v2.l0 k hand s (pre ++ rest) ((pre ++ rest).length:Int) (pre.length:Int)) (run (V2) s (begs rest hand)):=by
  intro rest
  induction rest with
  | nil =>
    intro pre s hl hs
    refine ⟨1,fun k hk => ?_⟩
    obtain ⟨q,rfl⟩ : ∃ q,k = q + 1:=⟨k - 1,by omega⟩
    simp only [g200024_impl_chains_v2.l0,List.append_nil]
    rw [if_neg (by omega)]
    rfl
  | cons x xs ih =>
    intro pre s hl hs
    have hlen:(pre ++ x :: xs).length = pre.length + xs.length + 1:=by simp; omega
    have hw:wrap64 ((pre.length:Int) + 1) = ((pre ++ [x]).length:Int):=by rw [t_wrap _ (by omega) (by omega)]; simp
    have e1:pre ++ [x] ++ xs = pre ++ x :: xs:=by simp
    obtain ⟨K1,h1⟩:=walk2_one hand hh hn x s hs
    simp only at h1
    have hb:begs (x :: xs) hand = subs (hand.length + 1) [x] hand 10 0 ++ begs xs hand:=by simp [begs]
    rw [hb,run_app]
    by_cases e:(run (V2) s (subs (hand.length + 1) [x] hand 10 0)).1 = true
    · obtain ⟨K2,h2⟩:=ih (pre ++ [x]) _ (by rw [e1]; exact hl) (run_inv _ (I2) (hI2) _ s hs e)
      simp only [e1] at h2
      rw [if_pos e]
      refine ⟨K1 + K2 + 1,fun k hk => ?_⟩
      obtain ⟨q,rfl⟩ : ∃ q,k = q + 1:=⟨k - 1,by omega⟩
      simp only [g200024_impl_chains_v2.l0]
      rw [if_pos (by omega),if_pos (by omega),if_pos (by omega),i_mid,h1 q (by omega)]
      simp only [Option.bind_some]
      rw [if_pos e,hw,h2 q (by omega)]
    · rw [if_neg e]
      refine ⟨K1 + 1,fun k hk => ?_⟩
      obtain ⟨q,rfl⟩ : ∃ q,k = q + 1:=⟨k - 1,by omega⟩
      simp only [g200024_impl_chains_v2.l0]
      rw [if_pos (by omega),if_pos (by omega),if_pos (by omega),i_mid,h1 q (by omega)]
      simp only [Option.bind_some]
      rw [if_neg e]
theorem chains2 (hand:List S39) (hh:hand.length ≤ 8) (hn:hand.Nodup) (s) (hs:I2 s):Ev (fun k => g200024_impl_chains_v2.f k hand s) (run (V2) s (allW hand)):=by
  obtain ⟨K1,h1⟩:=inums_ev hand (by omega) 10 0 [] (by omega) (by simp)
  obtain ⟨K2,h2⟩:=walk2_all hand hh hn (nf hand 10 0) [] s (by simpa using nf_len hand 10 0) hs
  simp only [List.nil_append] at h1 h2
  refine ⟨K1 + K2,fun k hk => ?_⟩
  have h1':impl_numbers.f k hand = some (nf hand 10 0):=h1 k (by omega)
  have e:begs (nf hand 10 0) hand = allW hand:=begs_nf hand 10 0
  simp only [g200024_impl_chains_v2.f]
  rw [h1']
  simp only [Option.bind_some]
  rw [← e]
  exact h2 k (by omega)
def left:List S39 → List Bool → List S39
  | t :: ts,u :: us => if u = true then left ts us else t :: left ts us
  | _,_ => []
theorem left_sub:∀ (h:List S39) (u:List Bool) (x:S39),x ∈ left h u → x ∈ h
  | [],_,x,hx => by simp [left] at hx
  | t :: ts,[],x,hx => by simp [left] at hx
  | t :: ts,b :: us,x,hx => by
    unfold left at hx
    split at hx
    · exact List.mem_cons_of_mem _ (left_sub ts us x hx)
    · rcases List.mem_cons.1 hx with rfl | hx
      · exact List.mem_cons_self
      · exact List.mem_cons_of_mem _ (left_sub ts us x hx)
theorem left_nodup:∀ (h:List S39) (u:List Bool),h.Nodup → (left h u).Nodup
  | [],_,_ => by simp [left]
  | t :: ts,[],_ => by simp [left]
  | t :: ts,b :: us,hn => by
    rw [List.nodup_cons] at hn
    unfold left
    split
    · exact left_nodup ts us hn.2
    · exact List.nodup_cons.2 ⟨fun hm => hn.1 (left_sub ts us t hm),left_nodup ts us hn.2⟩
theorem left_all:∀ (h:List S39),left h (List.replicate h.length false) = h
  | [] => rfl
  | t :: ts => by simp [left,List.replicate_succ,left_all ts]
theorem left_mem:∀ (h:List S39) (u:List Bool) (i:Nat) (hi:i < h.length) (hu:i < u.length),h.Nodup → (h[i] ∈ left h u ↔ u[i] = false)
  | t :: ts,b :: us,0,_,_,hn => by
    rw [List.nodup_cons] at hn
    simp only [List.getElem_cons_zero]
    unfold left
    cases b
    · simp
    · simp only [if_true]
      exact ⟨fun hm => absurd (left_sub ts us t hm) hn.1,fun h => by cases h⟩
  | t :: ts,b :: us,i + 1,hi,hu,hn => by
    rw [List.nodup_cons] at hn
    simp only [List.getElem_cons_succ]
    have ih:=left_mem ts us i (by simpa using hi) (by simpa using hu) hn.2
    rw [← ih,left]
    split
    · exact Iff.rfl
    · rw [List.mem_cons]
      refine ⟨fun h => h.resolve_left fun e => hn.1 (by rw [← e]; exact List.getElem_mem _),.inr⟩
theorem rem_not (l:List S39) (t:S39) (h:t ∉ l):rem l t = l:=by
  unfold rem
  rw [List.filter_eq_self]
  intro y hy
  have:y ≠ t:=fun e => h (by rw [← e]; exact hy)
  simp [this]
theorem left_set:∀ (h:List S39) (u:List Bool) (i:Nat) (hi:i < h.length) (hu:i < u.length),h.Nodup → u[i] = false → left h (u.set i true) = rem (left h u) h[i]
  | t :: ts,b :: us,0,_,_,hn,hb => by
    rw [List.nodup_cons] at hn
    simp only [List.getElem_cons_zero] at hb ⊢
    subst hb
    simp only [List.set_cons_zero,left,if_true]
    rw [if_neg (by simp)]
    have:t ∉ left ts us:=fun hm => hn.1 (left_sub ts us t hm)
    have e:=rem_not _ t this
    unfold rem at e ⊢
    simpa using e.symm
  | t :: ts,b :: us,i + 1,hi,hu,hn,hb => by
    rw [List.nodup_cons] at hn
    simp only [List.getElem_cons_succ] at hb ⊢
    have ih:=left_set ts us i (by simpa using hi) (by simpa using hu) hn.2 hb
    simp only [List.set_cons_succ,left]
    split
    · exact ih
    · rw [ih]
      have:¬ t = ts[i]'(by simpa using hi):=fun e => hn.1 (by rw [e]; exact List.getElem_mem _)
      unfold rem
      simp [this]
theorem set_back (u:List Bool) (i:Nat) (hi:i < u.length) (hb:u[i] = false):(u.set i true).set i false = u:=by
  rw [List.set_set,← hb,List.set_getElem_self]
theorem rdOf_nat (u:List Bool) (i:Nat) (hi:i < u.length):rdOf false u (i:Int) = u[i]:=by
  unfold rdOf
  rw [Int.toNat_natCast,List.getD_eq_getElem?_getD,List.getElem?_eq_getElem hi]
  rfl
theorem place_at (t:S39):∀ (rest pre:List S39),(pre ++ rest).length ≤ 2000000 → ∃ r:Int,Ev (fun k => spec_tiPlace.l0 k (pre ++ rest) ((pre ++ rest).length:Int) (pre.length:Int) t.f0 t.f1) r ∧
    (t ∉ rest → r = -1) ∧ (t ∈ rest → ∃ i:Nat,r = ((pre.length + i:Nat):Int) ∧ ∃ h:i < rest.length,rest[i] = t):=by
  intro rest
  induction rest with
  | nil =>
    intro pre hl
    refine ⟨-1,Ev.step (f:=fun _ => some (-1)) (fun k => ?_) (Ev.now _),fun _ => rfl,fun h => by cases h⟩
    simp only [spec_tiPlace.l0,List.append_nil]
    rw [if_neg (by omega)]
  | cons x xs ih =>
    intro pre hl
    have hlen:(pre ++ x :: xs).length = pre.length + xs.length + 1:=by simp; omega
    have hget:rd_T39 (pre ++ x :: xs) (pre.length:Int) = x:=rd_at' pre x xs
    by_cases e:x = t
    · subst e
      refine ⟨(pre.length:Int),Ev.step (f:=fun _ => some (pre.length:Int)) (fun k => ?_) (Ev.now _),fun h => absurd List.mem_cons_self h,fun _ => ⟨0,rfl,by simp,rfl⟩⟩
      simp only [spec_tiPlace.l0]
      rw [if_pos (by omega),if_pos (by omega),if_pos (by omega),hget,t_beq,if_pos (by simp)]
    · obtain ⟨r,h1,h2,h3⟩:=ih (pre ++ [x]) (by simpa using hl)
      have e1:pre ++ [x] ++ xs = pre ++ x :: xs:=by simp
      rw [e1] at h1
      refine ⟨r,Ev.step (fun k => ?_) h1,fun h => h2 (fun hm => h (List.mem_cons_of_mem _ hm)),fun h => ?_⟩
      · simp only [spec_tiPlace.l0]
        rw [if_pos (by omega),if_pos (by omega),if_pos (by omega),hget,t_beq,if_neg (by simp [e]),t_wrap ((pre.length:Int) + 1) (by omega) (by omega)]
        simp
      · have hm:t ∈ xs:=by
          rcases List.mem_cons.1 h with e2 | e2
          · exact absurd e2.symm e
          · exact e2
        obtain ⟨i,hr,hi,he⟩:=h3 hm
        exact ⟨i + 1,by rw [hr]; simp; omega,by simp; omega,by simpa using he⟩
abbrev St:=Int × List Int × List (List Int) × List Int
def VS (n:Nat) (most:Int) (st:St) (c:List Int):St :=
  (if c.length = n + 1 then wrap64 (st.1 + 1) else st.1,if 1 < c.length then (V1 st.2.1 c).2 else st.2.1,if c.length = n + 1 ∧ (st.2.2.1.length:Int) ≤ most then st.2.2.1 ++ [c] else st.2.2.1,(V2 st.2.2.2 c).2)
def IS (n:Nat) (st:St):Prop:=st.2.1.length = n ∧ st.2.2.1.length ≤ 301
theorem hIS (n:Nat) (most:Int) (hm:most ≤ 300) (st:St) (c:List Int) (h:IS n st):IS n (VS n most st c):=by
  obtain ⟨h1,h2⟩:=h
  unfold IS VS V1
  refine ⟨?_,?_⟩
  · show List.length (if _ then _ else _) = n
    split
    · simpa using h1
    · exact h1
  · show List.length (if _ then _ else _) ≤ 301
    split
    · rename_i e
      rw [List.length_append,List.length_singleton]
      omega
    · exact h2
theorem hIS_fold (n:Nat) (most:Int) (hm:most ≤ 300):∀ (L:List (List Int)) (st:St),IS n st → IS n (L.foldl (VS n most) st)
  | [],st,h => h
  | c :: cs,st,h => hIS_fold n most hm cs _ (hIS n most hm st c h)
def out (st:St) (u:List Bool):Int × List Int × List (List Int) × List Int × List Bool:=(st.1,st.2.1,st.2.2.1,st.2.2.2,u)
theorem look_head (hand:List S39) (most:Int) (st:St) (p:List Int) (u:List Bool) (k:Nat) (h1:1 ≤ p.length) (h2:p.length ≤ hand.length + 1) (hh:hand.length ≤ 8) (hs:IS hand.length st) :
    g52_spec_haLook_look.f (k + 1) hand most st.1 st.2.1 st.2.2.1 st.2.2.2 p u = g52_spec_haLook_look.j0 k hand most st.1 (if 1 < p.length then (V1 st.2.1 p).2 else st.2.1) st.2.2.1 (V2 st.2.2.2 p).2 p u:=by
  have hc:=hs.1
  have ho:=own_f p (by omega)
  simp only [g52_spec_haLook_look.f]
  unfold V2
  by_cases e:p.length > st.2.2.2.length
  · rw [if_pos (by omega),ho]
    simp only [Option.bind_some]
    rw [if_pos e]
    by_cases e2:1 < p.length
    · have e3:(p.length:Int) - 2 = ((p.length - 2:Nat):Int):=by omega
      rw [if_pos (by omega),t_wrap _ (by omega) (by omega),e3,if_pos (by omega),if_pos (by omega),if_pos e2]
      rfl
    · rw [if_neg (by omega),if_neg e2]
  · rw [if_neg (by omega),if_neg e]
    by_cases e2:1 < p.length
    · have e3:(p.length:Int) - 2 = ((p.length - 2:Nat):Int):=by omega
      rw [if_pos (by omega),t_wrap _ (by omega) (by omega),e3,if_pos (by omega),if_pos (by omega),if_pos e2]
      rfl
    · rw [if_neg (by omega),if_neg e2]
theorem look_loop (hand:List S39) (most:Int) (p:List Int) (u:List Bool) (d:Nat) (hm:most ≤ 300) (hn:hand.Nodup) (hh:hand.length ≤ 8) (hu:u.length = hand.length) (h1:1 ≤ p.length) (h2:p.length ≤ 20)
    (hrec:∀ n st (i:Nat) (hi:i < hand.length) (hi2:i < u.length),0 ≤ n → n ≤ 9 → hand[i] = sOf (last_ p) n → u[i] = false → IS hand.length st →
      Ev (fun k => g52_spec_haLook_look.f k hand most st.1 st.2.1 st.2.2.1 st.2.2.2 (p ++ [n]) (u.set i true)) (out ((walks d (p ++ [n]) (rem (left hand u) (sOf (last_ p) n))).foldl (VS hand.length most) st) (u.set i true))) :
    ∀ (m:Nat) (n:Int) (st:St),n + m = 10 → 0 ≤ n → IS hand.length st → Ev (fun k => g52_spec_haLook_look.l0 k hand most st.1 st.2.1 st.2.2.1 st.2.2.2 p u n) (out ((subs d p (left hand u) m n).foldl (VS hand.length most) st) u):=by
  intro m
  induction m with
  | zero =>
    intro n st h0 h3 hs
    refine ⟨1,fun k hk => ?_⟩
    obtain ⟨q,rfl⟩ : ∃ q,k = q + 1:=⟨k - 1,by omega⟩
    simp only [g52_spec_haLook_look.l0]
    rw [if_neg (by omega)]
    rfl
  | succ m ih =>
    intro n st h0 h3 hs
    have hw:wrap64 ((p.length:Int) - 1) = (p.length:Int) - 1:=t_wrap _ (by omega) (by omega)
    have hw2:wrap64 (n + 1) = n + 1:=t_wrap _ (by omega) (by omega)
    have ht:spec_tiOf.f (rd p ((p.length:Int) - 1)) n = some ((sOf (last_ p) n).f0,(sOf (last_ p) n).f1):=sOf_spec _ _
    obtain ⟨r,⟨K1,hr⟩,r1,r2⟩:=place_at (sOf (last_ p) n) hand [] (by simp; omega)
    simp only [List.nil_append,List.length_nil] at hr
    have hr:∀ k,K1 ≤ k → spec_tiPlace.f k hand (sOf (last_ p) n).f0 (sOf (last_ p) n).f1 = some r:=hr
    rw [subs_succ]
    have skip:∀ (hno:sOf (last_ p) n ∉ left hand u),(r < 0 ∨ ∃ i:Nat,r = (i:Int) ∧ ∃ hi:i < u.length,u[i] = true) → Ev (fun k => g52_spec_haLook_look.l0 k hand most st.1 st.2.1 st.2.2.1 st.2.2.2 p u n) (out (((if sOf (last_ p) n ∈ left hand u then walks d (p ++ [n]) (rem (left hand u) (sOf (last_ p) n)) else []) ++ subs d p (left hand u) m (n + 1)).foldl (VS hand.length most) st) u):=by
      intro hno hc
      obtain ⟨K3,g3⟩:=ih (n + 1) st (by omega) (by omega) hs
      simp only at g3
      rw [if_neg hno,List.nil_append]
      refine ⟨K1 + K3 + 1,fun k hk => ?_⟩
      obtain ⟨q,rfl⟩ : ∃ q,k = q + 1:=⟨k - 1,by omega⟩
      simp only [g52_spec_haLook_look.l0]
      rw [if_pos (by omega),hw,if_pos (by omega),if_pos (by omega),ht]
      simp only [Option.bind_some,hr q (by omega),hw2]
      rcases hc with hc | ⟨i,rfl,hi,hb⟩
      · rw [if_pos hc]
        exact g3 q (by omega)
      · rw [if_neg (by omega),if_pos (by omega),if_pos (by rw [rdOf_nat u i hi]; exact hb)]
        exact g3 q (by omega)
    by_cases hm':sOf (last_ p) n ∈ hand
    · obtain ⟨i,hri,hi,hg⟩:=r2 hm'
      have hri:r = (i:Int):=by rw [hri]; simp
      have hi2:i < u.length:=by omega
      have hmem:=left_mem hand u i hi hi2 hn
      rw [hg] at hmem
      cases hb:u[i] with
      | true =>
        exact skip (fun h => by rw [hmem.1 h] at hb; cases hb) (.inr ⟨i,hri,hi2,hb⟩)
      | false =>
        have hin:=hmem.2 hb
        obtain ⟨K2,g2⟩:=hrec n st i hi hi2 h3 (by omega) hg hb hs
        simp only at g2
        obtain ⟨K3,g3⟩:=ih (n + 1) _ (by omega) (by omega) (hIS_fold hand.length most hm (walks d (p ++ [n]) (rem (left hand u) (sOf (last_ p) n))) st hs)
        simp only at g3
        rw [if_pos hin,List.foldl_append]
        have ho:=own_f p (by omega)
        refine ⟨K1 + K2 + K3 + 1,fun k hk => ?_⟩
        obtain ⟨q,rfl⟩ : ∃ q,k = q + 1:=⟨k - 1,by omega⟩
        simp only [g52_spec_haLook_look.l0]
        rw [if_pos (by omega),hw,if_pos (by omega),if_pos (by omega),ht]
        simp only [Option.bind_some,hr q (by omega),hw2,hri]
        rw [if_neg (by omega),if_pos (by omega),if_neg (by rw [rdOf_nat u i hi2,hb]; simp),ho]
        simp only [Option.bind_some,Int.toNat_natCast]
        rw [if_pos (by omega),g2 q (by omega)]
        simp only [Option.bind_some,out]
        rw [if_pos (by rw [List.length_set]; omega),set_back u i hi2 hb]
        exact g3 q (by omega)
    · exact skip (fun h => hm' (left_sub hand u _ h)) (.inl (by rw [r1 hm']; omega))
theorem look_ev (hand:List S39) (most:Int) (hm:most ≤ 300) (hn:hand.Nodup) (hh:hand.length ≤ 8) (hpos:1 ≤ hand.length):∀ (d:Nat) (p:List Int) (u:List Bool) (st:St),u.length = hand.length → 1 ≤ p.length → p.length + (left hand u).length = hand.length + 1 → (left hand u).length < d → IS hand.length st →
    Ev (fun k => g52_spec_haLook_look.f k hand most st.1 st.2.1 st.2.2.1 st.2.2.2 p u) (out ((walks d p (left hand u)).foldl (VS hand.length most) st) u):=by
  intro d
  induction d with
  | zero => intro p u st _ _ _ h _; omega
  | succ d ih =>
    intro p u st hu h1 h2 hd hs
    have hhead:=fun k => look_head hand most st p u k h1 (by omega) hh hs
    have hs':=hIS hand.length most hm st p hs
    rw [walks_succ,List.foldl_cons]
    by_cases e:p.length = hand.length + 1
    · have hl0:left hand u = []:=List.length_eq_zero_iff.1 (by omega)
      have hsub:subs d p (left hand u) 10 0 = []:=by
        rw [hl0]
        unfold subs
        rw [List.flatMap_eq_nil_iff]
        intro m _
        rw [if_neg (by simp)]
      rw [hsub]
      refine ⟨2,fun k hk => ?_⟩
      obtain ⟨q,rfl⟩ : ∃ q,k = q + 2:=⟨k - 2,by omega⟩
      show g52_spec_haLook_look.f (q + 1 + 1) _ _ _ _ _ _ _ _ = _
      rw [hhead]
      simp only [g52_spec_haLook_look.j0,List.foldl_nil]
      have ho:=own_f p (by omega)
      rw [t_wrap _ (by omega) (by omega),if_pos (by omega)]
      unfold VS out
      have h301:=hs.2
      by_cases e2:(st.2.2.1.length:Int) ≤ most
      · rw [if_pos e2,ho]
        simp only [Option.bind_some]
        rw [if_pos (by omega),if_pos e,if_pos (show p.length = hand.length + 1 ∧ (st.2.2.1.length:Int) ≤ most from ⟨e,e2⟩)]
      · rw [if_neg e2,if_pos e,if_neg (show ¬ (p.length = hand.length + 1 ∧ (st.2.2.1.length:Int) ≤ most) from fun h => e2 h.2)]
    · obtain ⟨K,g⟩:=look_loop hand most p u d hm hn hh hu h1 (by omega) (fun n st i hi hi2 _ _ hg hb hs => by
        have hset:=left_set hand u i hi hi2 hn hb
        rw [hg] at hset
        have hin:=(left_mem hand u i hi hi2 hn).2 hb
        rw [hg] at hin
        have hrl:=rem_len (left_nodup hand u hn) _ hin
        have:=ih (p ++ [n]) (u.set i true) st (by simpa using hu) (by simp) (by rw [hset]; simp; omega) (by rw [hset]; omega) hs
        rw [hset] at this
        exact this) 10 0 (VS hand.length most st p) (by omega) (by omega) hs'
      simp only at g
      refine ⟨K + 2,fun k hk => ?_⟩
      obtain ⟨q,rfl⟩ : ∃ q,k = q + 2:=⟨k - 2,by omega⟩
      show g52_spec_haLook_look.f (q + 1 + 1) _ _ _ _ _ _ _ _ = _
      rw [hhead]
      simp only [g52_spec_haLook_look.j0]
      rw [t_wrap _ (by omega) (by omega),if_neg (by omega)]
      have:=g q (by omega)
      unfold VS at this ⊢
      simp only at this ⊢
      rw [if_neg e,if_neg (show ¬ (p.length = hand.length + 1 ∧ (st.2.2.1.length:Int) ≤ most) from fun h => e h.1)] at this
      rw [if_neg e,if_neg (show ¬ (p.length = hand.length + 1 ∧ (st.2.2.1.length:Int) ≤ most) from fun h => e h.1)]
      exact this
def begS (X:List Int) (l:List S39):List (List Int):=X.flatMap fun n => if tm l n > 0 then [n] :: subs (l.length + 1) [n] l 10 0 else []
theorem haAll_loop (hand:List S39) (most:Int) (hm:most ≤ 300) (hn:hand.Nodup) (hh:hand.length ≤ 8):∀ (m:Nat) (n:Int) (st:St),n + m = 10 → 0 ≤ n → IS hand.length st →
    Ev (fun k => g27_spec_haAll.l0 k hand hand most st.1 st.2.1 st.2.2.1 st.2.2.2 n) (hand,most,((begS (upf m n) hand).foldl (VS hand.length most) st)):=by
  intro m
  induction m with
  | zero =>
    intro n st h0 h3 hs
    refine ⟨1,fun k hk => ?_⟩
    obtain ⟨q,rfl⟩ : ∃ q,k = q + 1:=⟨k - 1,by omega⟩
    simp only [g27_spec_haAll.l0]
    rw [if_neg (by omega)]
    rfl
  | succ m ih =>
    intro n st h0 h3 hs
    have hw2:wrap64 (n + 1) = n + 1:=t_wrap _ (by omega) (by omega)
    obtain ⟨K1,g1⟩:=times_s hand n (by omega)
    simp only at g1
    have hb:begS (upf (m + 1) n) hand = (if tm hand n > 0 then [n] :: subs (hand.length + 1) [n] hand 10 0 else []) ++ begS (upf m (n + 1)) hand:=by simp [begS,upf]
    rw [hb]
    by_cases e:tm hand n > 0
    · have hpos:1 ≤ hand.length:=by
        have:=tm_small hand n
        omega
      have hla:=left_all hand
      have hrl:(List.replicate hand.length false).length = hand.length:=List.length_replicate
      obtain ⟨K2,g2⟩:=look_ev hand most hm hn hh hpos (hand.length + 2) [n] (List.replicate hand.length false) st hrl (by simp) (by rw [hla]; simp; omega) (by rw [hla]; omega) hs
      rw [hla] at g2
      simp only at g2
      rw [if_pos e,List.foldl_append]
      obtain ⟨K3,g3⟩:=ih (n + 1) _ (by omega) (by omega) (hIS_fold hand.length most hm (walks (hand.length + 2) [n] hand) st hs)
      simp only at g3
      refine ⟨K1 + K2 + K3 + 1,fun k hk => ?_⟩
      obtain ⟨q,rfl⟩ : ∃ q,k = q + 1:=⟨k - 1,by omega⟩
      simp only [g27_spec_haAll.l0]
      rw [if_pos (by omega),if_pos (by omega),g1 q (by omega)]
      simp only [Option.bind_some,hw2,Int.toNat_natCast]
      rw [if_pos e,if_pos (by omega),g2 q (by omega)]
      simp only [Option.bind_some,out]
      exact g3 q (by omega)
    · obtain ⟨K3,g3⟩:=ih (n + 1) st (by omega) (by omega) hs
      simp only at g3
      rw [if_neg e,List.nil_append]
      refine ⟨K1 + K3 + 1,fun k hk => ?_⟩
      obtain ⟨q,rfl⟩ : ∃ q,k = q + 1:=⟨k - 1,by omega⟩
      simp only [g27_spec_haAll.l0]
      rw [if_pos (by omega)]
      by_cases e0:(hand.length:Int) > 0
      · rw [if_pos e0,g1 q (by omega)]
        simp only [Option.bind_some,hw2]
        rw [if_neg e]
        exact g3 q (by omega)
      · rw [if_neg e0,hw2]
        exact g3 q (by omega)
theorem haAll_ev (hand:List S39) (most:Int) (hm:most ≤ 300) (hn:hand.Nodup) (hh:hand.length ≤ 8):Ev (fun k => g27_spec_haAll.f k hand most) (hand,most,((begS (upf 10 0) hand).foldl (VS hand.length most) (0,List.replicate hand.length 0,[],[]))):=by
  obtain ⟨K,h⟩:=haAll_loop hand most hm hn hh 10 0 (0,List.replicate hand.length 0,[],[]) (by omega) (by omega) ⟨by simp,by simp⟩
  simp only at h
  refine ⟨K,fun k hk => ?_⟩
  simp only [g27_spec_haAll.f,Int.toNat_natCast]
  rw [if_pos (by omega)]
  exact h k hk
theorem mem_rem (l:List S39) (t x:S39):x ∈ rem l t ↔ x ∈ l ∧ x ≠ t:=by
  unfold rem
  simp
def laid (x:Int) (q:List Int) (l:List S39):Prop:=(∀ y ∈ q,0 ≤ y ∧ y ≤ 9) ∧ (tilesL (x :: q)).Nodup ∧ ∀ t ∈ tilesL (x :: q),t ∈ l
theorem laid_cons (x n:Int) (q:List Int) (l:List S39):laid x (n :: q) l ↔ 0 ≤ n ∧ n ≤ 9 ∧ sOf x n ∈ l ∧ laid n q (rem l (sOf x n)):=by
  have e:sOf x n = tileOf x n:=rfl
  unfold laid
  rw [tilesL_two,e]
  simp only [List.nodup_cons,List.forall_mem_cons,mem_rem]
  constructor
  · rintro ⟨⟨⟨h0,h9⟩,h1⟩,⟨h2,h3⟩,h4,h5⟩
    exact ⟨h0,h9,h4,h1,h3,fun t ht => ⟨h5 t ht,fun e => h2 (e ▸ ht)⟩⟩
  · rintro ⟨h0,h9,h4,h1,h3,h5⟩
    exact ⟨⟨⟨h0,h9⟩,h1⟩,⟨fun h => (h5 _ h).2 rfl,h3⟩,h4,fun t ht => (h5 t ht).1⟩
theorem walks_iff:∀ (d:Nat) (p:List Int) (l:List S39),l.Nodup → l.length < d → ∀ r,r ∈ walks d p l ↔ ∃ q,r = p ++ q ∧ laid (last_ p) q l
  | 0,_,l,_,h,_ => by omega
  | d + 1,p,l,hn,hl,r => by
    rw [walks_succ,List.mem_cons]
    unfold subs
    simp only [List.mem_flatMap]
    constructor
    · rintro (rfl | ⟨n,hnn,hr⟩)
      · exact ⟨[],by simp,by simp,by simp [tilesL],by simp [tilesL]⟩
      · have hr9:=upf_mem 10 0 n hnn
        split at hr
        · rename_i g
          obtain ⟨q,rfl,hq⟩:=(walks_iff d (p ++ [n]) (rem l (sOf (last_ p) n)) (rem_nodup hn _) (by have:=rem_len hn _ g; omega) r).1 hr
          rw [last_app] at hq
          exact ⟨n :: q,by simp,(laid_cons _ _ _ _).2 ⟨by omega,by omega,g,hq⟩⟩
        · cases hr
    · rintro ⟨q,rfl,hq⟩
      cases q with
      | nil => exact .inl (by simp)
      | cons n q =>
        obtain ⟨h0,h9,g,hq⟩:=(laid_cons _ _ _ _).1 hq
        refine .inr ⟨n,upf_mem2 10 0 n h0 (by omega),?_⟩
        rw [if_pos g]
        refine (walks_iff d (p ++ [n]) (rem l (sOf (last_ p) n)) (rem_nodup hn _) (by have:=rem_len hn _ g; omega) _).2 ⟨q,by simp,?_⟩
        rw [last_app]
        exact hq
theorem subs_iff (p:List Int) (l:List S39) (d:Nat) (hn:l.Nodup) (hl:l.length ≤ d) (r:List Int):r ∈ subs d p l 10 0 ↔ ∃ n q,r = p ++ n :: q ∧ laid (last_ p) (n :: q) l:=by
  unfold subs
  simp only [List.mem_flatMap]
  constructor
  · rintro ⟨n,hnn,hr⟩
    have hr9:=upf_mem 10 0 n hnn
    split at hr
    · rename_i g
      obtain ⟨q,rfl,hq⟩:=(walks_iff d (p ++ [n]) (rem l (sOf (last_ p) n)) (rem_nodup hn _) (by have:=rem_len hn _ g; omega) r).1 hr
      rw [last_app] at hq
      exact ⟨n,q,by simp,(laid_cons _ _ _ _).2 ⟨by omega,by omega,g,hq⟩⟩
    · cases hr
  · rintro ⟨n,q,rfl,hq⟩
    obtain ⟨h0,h9,g,hq⟩:=(laid_cons _ _ _ _).1 hq
    refine ⟨n,upf_mem2 10 0 n h0 (by omega),?_⟩
    rw [if_pos g]
    refine (walks_iff d (p ++ [n]) (rem l (sOf (last_ p) n)) (rem_nodup hn _) (by have:=rem_len hn _ g; omega) _).2 ⟨q,by simp,?_⟩
    rw [last_app]
    exact hq
theorem allW_iff (l:List S39) (hn:l.Nodup) (r:List Int):r ∈ allW l ↔ 2 ≤ r.length ∧ (∀ x ∈ r,0 ≤ x ∧ x ≤ 9) ∧ (tilesL r).Nodup ∧ ∀ t ∈ tilesL r,t ∈ l:=by
  unfold allW begs
  simp only [List.mem_flatMap]
  constructor
  · rintro ⟨x,hx,hr⟩
    have hx9:=upf_mem 10 0 x hx
    obtain ⟨n,q,rfl,h1,h2,h3⟩:=(subs_iff [x] l _ hn (by omega) r).1 hr
    refine ⟨by simp,fun y hy => ?_,h2,h3⟩
    rcases List.mem_cons.1 (by simpa using hy:y ∈ x :: n :: q) with rfl | hy
    · omega
    · exact h1 y hy
  · rintro ⟨h0,h1,h2,h3⟩
    match r,h0 with
    | x :: n :: q,_ =>
      have hx:=h1 x List.mem_cons_self
      exact ⟨x,upf_mem2 10 0 x hx.1 (by omega),(subs_iff [x] l _ hn (by omega) _).2 ⟨n,q,by simp,fun y hy => h1 y (List.mem_cons_of_mem _ hy),h2,h3⟩⟩
theorem walks_pre:∀ (d:Nat) (p:List Int) (l:List S39) (r:List Int),r ∈ walks d p l → ∃ q,r = p ++ q
  | 0,_,_,_,h => by simp [walks] at h
  | d + 1,p,l,r,h => by
    rw [walks_succ,List.mem_cons] at h
    rcases h with rfl | h
    · exact ⟨[],by simp⟩
    · unfold subs at h
      obtain ⟨n,_,hr⟩:=List.mem_flatMap.1 h
      split at hr
      · obtain ⟨q,rfl⟩:=walks_pre d _ _ r hr
        exact ⟨n :: q,by simp⟩
      · cases hr
theorem subs_lex (d:Nat) (p:List Int) (l:List S39) (ih:∀ p l,(walks d p l).Pairwise fun a b => lexL a b = true):(subs d p l 10 0).Pairwise fun a b => lexL a b = true:=by
  unfold subs
  rw [List.pairwise_flatMap]
  refine ⟨fun n _ => ?_,(upf_lt 10 0).imp fun {a b} hab x hx y hy => ?_⟩
  · split
    · exact ih _ _
    · exact .nil
  · split at hx
    · split at hy
      · obtain ⟨q,rfl⟩:=walks_pre d _ _ x hx
        obtain ⟨q',rfl⟩:=walks_pre d _ _ y hy
        rw [List.append_assoc,List.append_assoc,lexL_app]
        simp only [List.cons_append,lexL]
        rw [if_neg (by omega)]
        exact decide_eq_true hab
      · cases hy
    · cases hx
theorem subs_pre (d:Nat) (p:List Int) (l:List S39) (r:List Int) (h:r ∈ subs d p l 10 0):∃ n q,r = p ++ n :: q:=by
  unfold subs at h
  obtain ⟨n,_,hr⟩:=List.mem_flatMap.1 h
  split at hr
  · obtain ⟨q,rfl⟩:=walks_pre d _ _ r hr
    exact ⟨n,q,by simp⟩
  · cases hr
theorem walks_lex:∀ (d:Nat) (p:List Int) (l:List S39),(walks d p l).Pairwise fun a b => lexL a b = true
  | 0,_,_ => .nil
  | d + 1,p,l => by
    rw [walks_succ]
    refine List.pairwise_cons.2 ⟨fun r hr => ?_,subs_lex d p l (walks_lex d)⟩
    obtain ⟨n,q,rfl⟩:=subs_pre d p l r hr
    have:=lexL_app p [] (n :: q)
    rw [List.append_nil] at this
    rw [this]
    rfl
theorem allW_lex (l:List S39):(allW l).Pairwise fun a b => lexL a b = true:=by
  unfold allW begs
  rw [List.pairwise_flatMap]
  refine ⟨fun n _ => subs_lex _ _ _ (walks_lex _),(upf_lt 10 0).imp fun {a b} hab x hx y hy => ?_⟩
  obtain ⟨n,q,rfl⟩:=subs_pre _ _ _ x hx
  obtain ⟨n',q',rfl⟩:=subs_pre _ _ _ y hy
  simp only [List.cons_append,List.nil_append,lexL]
  rw [if_neg (by omega)]
  exact decide_eq_true hab
theorem lexL_irr:∀ a:List Int,lexL a a = false
  | [] => rfl
  | x :: xs => by simp [lexL,lexL_irr xs]
theorem allW_nodup (l:List S39):(allW l).Nodup:=(allW_lex l).imp fun {a b} h e => by
  subst e
  rw [lexL_irr] at h
  cases h
theorem flat_len {α β:Type} (f:α → List β) (B:Nat) (hf:∀ x,(f x).length ≤ B):∀ L:List α,(L.flatMap f).length ≤ L.length * B
  | [] => by simp
  | x :: xs => by
    have:=flat_len f B hf xs
    have:=hf x
    rw [List.flatMap_cons,List.length_append,List.length_cons,Nat.add_mul]
    omega
theorem upf_len:∀ (m:Nat) (n:Int),(upf m n).length = m
  | 0,_ => rfl
  | m + 1,n => by rw [upf,List.length_cons,upf_len m]
theorem subs_len (d:Nat) (p:List Int) (l:List S39) (ih:∀ p l,(walks d p l).length ≤ 11 ^ d):(subs d p l 10 0).length ≤ 10 * 11 ^ d:=by
  have:=flat_len (fun n => if sOf (last_ p) n ∈ l then walks d (p ++ [n]) (rem l (sOf (last_ p) n)) else []) (11 ^ d) (fun n => by
    (try dsimp only)
    split
    · exact ih _ _
    · simp) (upf 10 0)
  rw [upf_len] at this
  exact this
theorem walks_len:∀ (d:Nat) (p:List Int) (l:List S39),(walks d p l).length ≤ 11 ^ d
  | 0,_,_ => by simp [walks]
  | d + 1,p,l => by
    have h:=subs_len d p l (walks_len d)
    have h1:0 < 11 ^ d:=Nat.pos_of_ne_zero fun h => by simp at h
    rw [walks_succ,List.length_cons,Nat.pow_succ]
    omega
theorem subs_len9 (l:List S39) (hl:l.length ≤ 8) (n:Int):(subs (l.length + 1) [n] l 10 0).length ≤ 10 * 11 ^ 9:=by
  have h:=subs_len (l.length + 1) [n] l (walks_len _)
  have:11 ^ (l.length + 1) ≤ 11 ^ 9:=Nat.pow_le_pow_right (by omega) (by omega)
  omega
theorem allW_len (l:List S39) (hl:l.length ≤ 8):(allW l).length ≤ 300000000000:=by
  have h:=flat_len (fun n => subs (l.length + 1) [n] l 10 0) (10 * 11 ^ 9) (subs_len9 l hl) (upf 10 0)
  rw [upf_len] at h
  unfold allW begs
  omega
theorem begS_len (l:List S39) (hl:l.length ≤ 8):(begS (upf 10 0) l).length ≤ 300000000000:=by
  have h:=flat_len (fun n => if tm l n > 0 then [n] :: subs (l.length + 1) [n] l 10 0 else []) (10 * 11 ^ 9 + 1) (fun n => by
    (try dsimp only)
    split
    · have:=subs_len9 l hl n
      rw [List.length_cons]
      omega
    · simp) (upf 10 0)
  rw [upf_len] at h
  unfold begS
  omega
def full (l:List S39):List (List Int):=(allW l).filter fun c => decide (c.length = l.length + 1)
theorem run0 (l:List S39):∀ (L s:List (List Int)),s.length ≤ 300 → if (s ++ L.filter fun c => decide (c.length = l.length + 1)).length ≤ 300 then run (V0 l) s L = (true,s ++ L.filter fun c => decide (c.length = l.length + 1)) else (run (V0 l) s L).1 = false
  | [],s,h => by simp [run,h]
  | c :: cs,s,h => by
    have ih:=run0 l cs
    by_cases e:c.length = l.length + 1
    · rw [List.filter_cons_of_pos (by simpa using e)]
      have hv:V0 l s c = (decide (((s ++ [c]).length:Int) ≤ 300),s ++ [c]):=by unfold V0; rw [if_pos e]
      simp only [run,hv]
      have ea:s ++ c :: cs.filter (fun c => decide (c.length = l.length + 1)) = (s ++ [c]) ++ cs.filter (fun c => decide (c.length = l.length + 1)):=by simp
      rw [ea]
      by_cases e2:(s ++ [c]).length ≤ 300
      · rw [if_pos (decide_eq_true (show ((s ++ [c]).length:Int) ≤ 300 by omega))]
        exact ih (s ++ [c]) e2
      · rw [if_neg (show ¬ (s ++ [c] ++ cs.filter (fun c => decide (c.length = l.length + 1))).length ≤ 300 by rw [List.length_append]; omega),if_neg (show ¬ decide (((s ++ [c]).length:Int) ≤ 300) = true by rw [decide_eq_true_eq]; omega)]
    · rw [List.filter_cons_of_neg (by simpa using e)]
      have hv:V0 l s c = (decide ((s.length:Int) ≤ 300),s):=by unfold V0; rw [if_neg e]
      simp only [run,hv]
      rw [if_pos (decide_eq_true (show (s.length:Int) ≤ 300 by omega))]
      exact ih s h
theorem run1_cons (c:List Int) (cs:List (List Int)) (s:List Int):run V1 s (c :: cs) = run V1 (V1 s c).2 cs:=by
  rw [run]
  exact if_pos rfl
theorem run1_len:∀ (L:List (List Int)) (s:List Int),(run V1 s L).2.length = s.length
  | [],_ => rfl
  | c :: cs,s => by
    rw [run1_cons,run1_len cs]
    simp [V1]
theorem run1_rd (n:Nat):∀ (L:List (List Int)) (s:List Int),(∀ c ∈ L,2 ≤ c.length ∧ c.length ≤ n + 1) → s.length = n → (∀ k:Nat,0 ≤ rd s (k:Int) ∧ rd s (k:Int) + L.length ≤ 1000000000000) →
    ∀ k:Nat,k < n → rd (run V1 s L).2 (k:Int) = rd s (k:Int) + ((L.filter fun c => decide (c.length = k + 2)).length:Int)
  | [],s,_,_,_,k,_ => by simp [run]
  | c :: cs,s,hL,hs,hb,k,hk => by
    have hc:=hL c List.mem_cons_self
    rw [run1_cons]
    have hj:=hb (c.length - 2)
    rw [List.length_cons] at hj
    have hw:wrap64 (rd s ((c.length - 2:Nat):Int) + 1) = rd s ((c.length - 2:Nat):Int) + 1:=t_wrap2 _ (by omega) (by omega)
    have hr:∀ i:Nat,rd (V1 s c).2 (i:Int) = if c.length - 2 = i then rd s (i:Int) + 1 else rd s (i:Int):=fun i => by
      unfold V1
      dsimp only
      rw [hw,rd_set]
      by_cases e:c.length - 2 = i
      · rw [if_pos ⟨e,by omega⟩,if_pos e,e]
      · rw [if_neg (fun h => e h.1),if_neg e]
    rw [run1_rd n cs _ (fun c hc => hL c (List.mem_cons_of_mem _ hc)) (by simpa [V1] using hs) (fun i => by
      have:=hb i
      rw [List.length_cons] at this
      rw [hr]
      split <;> omega) k hk,hr]
    by_cases e:c.length = k + 2
    · rw [if_pos (by omega),List.filter_cons_of_pos (by simpa using e),List.length_cons]
      omega
    · rw [if_neg (by omega),List.filter_cons_of_neg (by simpa using e)]
theorem run2_cons (c:List Int) (cs:List (List Int)) (s:List Int):run V2 s (c :: cs) = run V2 (if c.length > s.length then c else s) cs:=by
  rw [run]
  exact if_pos rfl
theorem run2_max:∀ (L:List (List Int)) (s:List Int),s.length ≤ (run V2 s L).2.length ∧ (∀ c ∈ L,c.length ≤ (run V2 s L).2.length) ∧ ((run V2 s L).2 = s ∨ (run V2 s L).2 ∈ L)
  | [],s => ⟨Nat.le_refl _,fun _ h => (by cases h),.inl rfl⟩
  | c :: cs,s => by
    rw [run2_cons]
    obtain ⟨h1,h2,h3⟩:=run2_max cs (if c.length > s.length then c else s)
    by_cases e:c.length > s.length
    · rw [if_pos e] at h1 h2 h3 ⊢
      refine ⟨by omega,fun x hx => ?_,?_⟩
      · rcases List.mem_cons.1 hx with rfl | hx
        · exact h1
        · exact h2 x hx
      · rcases h3 with h3 | h3
        · right; rw [h3]; exact List.mem_cons_self
        · exact .inr (List.mem_cons_of_mem _ h3)
    · rw [if_neg e] at h1 h2 h3 ⊢
      refine ⟨h1,fun x hx => ?_,?_⟩
      · rcases List.mem_cons.1 hx with rfl | hx
        · omega
        · exact h2 x hx
      · rcases h3 with h3 | h3
        · exact .inl h3
        · exact .inr (List.mem_cons_of_mem _ h3)
theorem run2_stay:∀ (L:List (List Int)) (s:List Int),(∀ c ∈ L,c.length ≤ s.length) → (run V2 s L).2 = s
  | [],_,_ => rfl
  | c :: cs,s,h => by
    have:=h c List.mem_cons_self
    rw [run2_cons,if_neg (by omega)]
    exact run2_stay cs s fun c hc => h c (List.mem_cons_of_mem _ hc)
theorem run2_first:∀ (L:List (List Int)) (s:List Int) (M:Nat),(∀ c ∈ L,c.length ≤ M) → s.length < M → ∀ a r,(L.filter fun c => decide (c.length = M)) = a :: r → (run V2 s L).2 = a
  | [],_,_,_,_,a,r,h => by simp at h
  | c :: cs,s,M,hL,hs,a,r,h => by
    have hc:=hL c List.mem_cons_self
    have ht:∀ x ∈ cs,x.length ≤ M:=fun c hc => hL c (List.mem_cons_of_mem _ hc)
    rw [run2_cons]
    by_cases e:c.length = M
    · rw [List.filter_cons_of_pos (by simpa using e)] at h
      obtain ⟨rfl,_⟩:=List.cons.inj h
      rw [if_pos (by omega)]
      exact run2_stay cs c fun x hx => by rw [e]; exact ht x hx
    · rw [List.filter_cons_of_neg (by simpa using e)] at h
      exact run2_first cs _ M ht (by split <;> omega) a r h
theorem fs_counts (n:Nat) (most:Int):∀ (A:List (List Int)) (st:St),(A.foldl (VS n most) st).2.1 = (run V1 st.2.1 (A.filter fun c => decide (1 < c.length))).2
  | [],st => rfl
  | c :: cs,st => by
    rw [List.foldl_cons,fs_counts n most cs]
    by_cases e:1 < c.length
    · rw [List.filter_cons_of_pos (by simpa using e)]
      rw [run1_cons]
      unfold VS
      dsimp only
      rw [if_pos e]
    · rw [List.filter_cons_of_neg (by simpa using e)]
      unfold VS
      dsimp only
      rw [if_neg e]
theorem fs_count (n:Nat) (most:Int):∀ (A:List (List Int)) (st:St),0 ≤ st.1 → st.1 + A.length ≤ 1000000000000 → (A.foldl (VS n most) st).1 = st.1 + ((A.filter fun c => decide (c.length = n + 1)).length:Int)
  | [],st,_,_ => by simp
  | c :: cs,st,h0,h1 => by
    rw [List.length_cons] at h1
    have hw:wrap64 (st.1 + 1) = st.1 + 1:=t_wrap2 _ (by omega) (by omega)
    have hv:(VS n most st c).1 = if c.length = n + 1 then st.1 + 1 else st.1:=by unfold VS; rw [hw]
    rw [List.foldl_cons,fs_count n most cs _ (by rw [hv]; split <;> omega) (by rw [hv]; split <;> omega),hv]
    by_cases e:c.length = n + 1
    · rw [if_pos e,List.filter_cons_of_pos (by simpa using e),List.length_cons]
      omega
    · rw [if_neg e,List.filter_cons_of_neg (by simpa using e)]
theorem fs_list (n:Nat):∀ (A:List (List Int)) (st:St),st.2.2.1.length ≤ 301 → (A.foldl (VS n 300) st).2.2.1 = (st.2.2.1 ++ A.filter fun c => decide (c.length = n + 1)).take 301
  | [],st,h => by simp [List.take_of_length_le h]
  | c :: cs,st,h => by
    rw [List.foldl_cons]
    by_cases e:c.length = n + 1
    · rw [List.filter_cons_of_pos (by simpa using e)]
      by_cases e2:(st.2.2.1.length:Int) ≤ 300
      · have hv:(VS n 300 st c).2.2.1 = st.2.2.1 ++ [c]:=by unfold VS; exact if_pos ⟨e,e2⟩
        rw [fs_list n cs _ (by rw [hv,List.length_append,List.length_singleton]; omega),hv]
        simp
      · have hv:(VS n 300 st c).2.2.1 = st.2.2.1:=by unfold VS; exact if_neg fun h => e2 h.2
        have hl:st.2.2.1.length = 301:=by omega
        rw [fs_list n cs _ (by rw [hv]; exact h),hv,← hl,List.take_left',List.take_left'] <;> rfl
    · rw [List.filter_cons_of_neg (by simpa using e)]
      have hv:(VS n 300 st c).2.2.1 = st.2.2.1:=by unfold VS; exact if_neg fun h => e h.1
      rw [fs_list n cs _ (by rw [hv]; exact h),hv]
theorem fs_long (n:Nat) (most:Int):∀ (A:List (List Int)) (st:St),(A.foldl (VS n most) st).2.2.2 = (run V2 st.2.2.2 A).2
  | [],st => rfl
  | c :: cs,st => by
    rw [List.foldl_cons,fs_long n most cs,run2_cons]
    rfl
theorem fl_rel:∀ (A:List (List Int)) (s s':List Int),1 ≤ s'.length ∧ (s = s' ∨ (s.length ≤ 1 ∧ s'.length = 1)) →
    1 ≤ (run V2 s' (A.filter fun c => decide (1 < c.length))).2.length ∧ ((run V2 s A).2 = (run V2 s' (A.filter fun c => decide (1 < c.length))).2 ∨ ((run V2 s A).2.length ≤ 1 ∧ (run V2 s' (A.filter fun c => decide (1 < c.length))).2.length = 1))
  | [],_,_,h => h
  | c :: cs,s,s',h => by
    rw [run2_cons]
    by_cases e:1 < c.length
    · rw [List.filter_cons_of_pos (by simpa using e),run2_cons]
      refine fl_rel cs _ _ ?_
      rcases h with ⟨h1,rfl | ⟨h2,h3⟩⟩
      · exact ⟨by split <;> omega,.inl rfl⟩
      · rw [if_pos (by omega),if_pos (by omega)]
        exact ⟨by omega,.inl rfl⟩
    · rw [List.filter_cons_of_neg (by simpa using e)]
      refine fl_rel cs _ _ ⟨h.1,?_⟩
      rcases h with ⟨h1,rfl | ⟨h2,h3⟩⟩
      · left
        rw [if_neg (by omega)]
      · right
        exact ⟨by split <;> omega,h3⟩
theorem begS_filter (l:List S39):∀ X:List Int,(begS X l).filter (fun c => decide (1 < c.length)) = begs X l
  | [] => rfl
  | x :: X => by
    have ih:=begS_filter l X
    have hb:begs (x :: X) l = subs (l.length + 1) [x] l 10 0 ++ begs X l:=by simp [begs]
    have hs:begS (x :: X) l = (if tm l x > 0 then [x] :: subs (l.length + 1) [x] l 10 0 else []) ++ begS X l:=by simp [begS]
    rw [hb,hs,List.filter_append,ih]
    congr 1
    have hf:(subs (l.length + 1) [x] l 10 0).filter (fun c => decide (1 < c.length)) = subs (l.length + 1) [x] l 10 0:=by
      rw [List.filter_eq_self]
      intro r hr
      obtain ⟨n,q,rfl⟩:=subs_pre _ _ _ r hr
      simp
    split
    · rw [List.filter_cons_of_neg (by simp),hf]
    · rename_i e
      rw [subs_none _ _ _ (fun h => e ((tm_pos l x).2 h))]
      rfl
theorem begS_full (l:List S39):(begS (upf 10 0) l).filter (fun c => decide (c.length = l.length + 1)) = full l:=by
  unfold full allW
  rw [← begS_filter,List.filter_filter]
  by_cases e:l = []
  · subst e
    decide
  · have:=List.length_pos_iff.2 e
    refine List.filter_congr fun c _ => ?_
    by_cases e2:c.length = l.length + 1
    · have e3:1 < c.length:=by omega
      rw [decide_eq_true e2,decide_eq_true e3]
      rfl
    · simp [e2]
def small (l:List S39):Bool:=isH l && decide ((l.length:Int) ≤ 8)
theorem small_true (l:List S39) (h:small l = true):isH l = true ∧ l.length ≤ 8 ∧ (∀ x ∈ l,good x = true) ∧ l.Nodup:=by
  unfold small at h
  rw [Bool.and_eq_true] at h
  have h2:=of_decide_eq_true h.2
  have h3:=isH_true l h.1
  exact ⟨h.1,by omega,h3.2.1,h3.2.2⟩
theorem small_i (l:List S39) (hl:l.length ≤ 1000):Ev (fun k => impl_isChained.f k l) (small l):=by
  obtain ⟨K,h⟩:=isH_impl l (by omega)
  simp only at h
  refine ⟨K,fun k hk => ?_⟩
  simp only [impl_isChained.f,h k hk,Option.bind_some]
  unfold small
  cases isH l <;> simp
theorem small_s (l:List S39) (hl:l.length ≤ 1000):Ev (fun k => spec_haSmall.f k l) (small l):=by
  obtain ⟨K,h⟩:=isH_spec l (by omega)
  simp only at h
  refine ⟨K,fun k hk => ?_⟩
  simp only [spec_haSmall.f,h k hk,Option.bind_some]
  unfold small
  cases isH l <;> simp
def allR (l:List S39):List (List Int) × Bool:=if small l = true ∧ (full l).length ≤ 300 then (full l,true) else ([],false)
def cts (l:List S39):List Int:=(run V1 (List.replicate l.length 0) (allW l)).2
def cntR (l:List S39):List Int × Bool:=if small l = true then (cts l,true) else ([],false)
def lng (l:List S39):List Int:=(run V2 [0] (allW l)).2
def lngR (l:List S39):List Int × Bool:=if small l = true then (lng l,true) else ([],false)
theorem all_i (l:List S39) (hl:l.length ≤ 1000):Ev (fun k => g6_impl_AllChains.f k l) (allR l):=by
  obtain ⟨K1,h1⟩:=small_i l hl
  simp only at h1
  unfold allR
  cases e:small l with
  | false =>
    refine ⟨K1,fun k hk => ?_⟩
    simp [g6_impl_AllChains.f,h1 k hk,e]
  | true =>
    obtain ⟨_,s1,s2,s3⟩:=small_true l e
    obtain ⟨K2,h2⟩:=chains0 l s1 s3 [] (by simp [I0])
    have h3:=run0 l (allW l) [] (by simp)
    simp only [List.nil_append] at h2 h3
    have hf:(allW l).filter (fun c => decide (c.length = l.length + 1)) = full l:=rfl
    rw [hf] at h3
    refine ⟨K1 + K2,fun k hk => ?_⟩
    simp only [g6_impl_AllChains.f,h1 k (by omega),e,Option.bind_some,if_true]
    rw [h2 k (by omega)]
    simp only [Option.bind_some]
    by_cases g:(full l).length ≤ 300
    · rw [if_pos g] at h3
      rw [h3]
      simp [g]
    · rw [if_neg g] at h3
      rw [if_neg (by rw [h3]; simp),if_neg (fun h => g h.2)]
theorem all_s (l:List S39) (hl:l.length ≤ 1000):Ev (fun k => g7_spec_AllChains.f k l) (allR l):=by
  obtain ⟨K1,h1⟩:=small_s l hl
  simp only at h1
  unfold allR
  cases e:small l with
  | false =>
    refine ⟨K1,fun k hk => ?_⟩
    simp [g7_spec_AllChains.f,h1 k hk,e]
  | true =>
    obtain ⟨_,s1,s2,s3⟩:=small_true l e
    obtain ⟨K2,h2⟩:=haAll_ev l 300 (by omega) s3 s1
    simp only at h2
    have hb:=begS_len l s1
    have q1:=fs_count l.length 300 (begS (upf 10 0) l) (0,List.replicate l.length 0,[],[]) (by simp) (by simp; omega)
    have q2:=fs_list l.length (begS (upf 10 0) l) (0,List.replicate l.length 0,[],[]) (by simp)
    rw [begS_full] at q1 q2
    simp only [List.nil_append] at q1 q2
    refine ⟨K1 + K2,fun k hk => ?_⟩
    simp only [g7_spec_AllChains.f,h1 k (by omega),e,Option.bind_some,if_true]
    rw [h2 k (by omega)]
    simp only [Option.bind_some]
    rw [q1,q2]
    by_cases g:(full l).length ≤ 300
    · rw [if_neg (by omega),if_pos ⟨trivial,g⟩,List.take_of_length_le (by omega)]
    · rw [if_pos (by omega),if_neg (fun h => g h.2)]
theorem cnt_i (l:List S39) (hl:l.length ≤ 1000):Ev (fun k => g8_impl_CountByTiles.f k l) (cntR l):=by
  obtain ⟨K1,h1⟩:=small_i l hl
  simp only at h1
  unfold cntR
  cases e:small l with
  | false =>
    refine ⟨K1,fun k hk => ?_⟩
    simp [g8_impl_CountByTiles.f,h1 k hk,e]
  | true =>
    obtain ⟨_,s1,s2,s3⟩:=small_true l e
    obtain ⟨K2,h2⟩:=chains1 l s1 s3 (List.replicate l.length 0) (by simp [I1])
    simp only at h2
    refine ⟨K1 + K2,fun k hk => ?_⟩
    simp only [g8_impl_CountByTiles.f,h1 k (by omega),e,Option.bind_some,if_true,Int.toNat_natCast]
    rw [if_pos (by omega),h2 k (by omega)]
    rfl
theorem cnt_s (l:List S39) (hl:l.length ≤ 1000):Ev (fun k => g9_spec_CountByTiles.f k l) (cntR l):=by
  obtain ⟨K1,h1⟩:=small_s l hl
  simp only at h1
  unfold cntR
  cases e:small l with
  | false =>
    refine ⟨K1,fun k hk => ?_⟩
    simp [g9_spec_CountByTiles.f,h1 k hk,e]
  | true =>
    obtain ⟨_,s1,s2,s3⟩:=small_true l e
    obtain ⟨K2,h2⟩:=haAll_ev l 0 (by omega) s3 s1
    simp only at h2
    have q1:=fs_counts l.length 0 (begS (upf 10 0) l) (0,List.replicate l.length 0,[],[])
    rw [begS_filter] at q1
    refine ⟨K1 + K2,fun k hk => ?_⟩
    simp only [g9_spec_CountByTiles.f,h1 k (by omega),e,Option.bind_some,if_true]
    rw [h2 k (by omega)]
    simp only [Option.bind_some]
    rw [q1]
    rfl
theorem lng_i (l:List S39) (hl:l.length ≤ 1000):Ev (fun k => g10_impl_LongestChain.f k l) (lngR l):=by
  obtain ⟨K1,h1⟩:=small_i l hl
  simp only at h1
  unfold lngR
  cases e:small l with
  | false =>
    refine ⟨K1,fun k hk => ?_⟩
    simp [g10_impl_LongestChain.f,h1 k hk,e]
  | true =>
    obtain ⟨_,s1,s2,s3⟩:=small_true l e
    obtain ⟨K2,h2⟩:=chains2 l s1 s3 [0] trivial
    simp only at h2
    refine ⟨K1 + K2,fun k hk => ?_⟩
    simp only [g10_impl_LongestChain.f,h1 k (by omega),e,Option.bind_some,if_true]
    rw [h2 k (by omega)]
    rfl
theorem tileOf_self (t:S39) (h:good t = true):tileOf t.f0 t.f1 = t:=by
  have:=(good_iff t).1 h
  unfold tileOf mn mx
  apply t_ext <;> (dsimp only; omega)
theorem one_in (l:List S39) (hn:l.Nodup) (t:S39) (ht:t ∈ l) (hg:good t = true):[t.f0,t.f1] ∈ allW l:=by
  have g:=(good_iff t).1 hg
  refine (allW_iff l hn _).2 ⟨by simp,fun x hx => ?_,?_,?_⟩
  · simp only [List.mem_cons,List.not_mem_nil,or_false] at hx
    omega
  · rw [tilesL_two]
    simp [tilesL]
  · rw [tilesL_two,tileOf_self t hg]
    simp [tilesL,ht]
theorem lng_s (l:List S39) (hl:l.length ≤ 1000):Ev (fun k => g11_spec_LongestChain.f k l) (lngR l):=by
  obtain ⟨K1,h1⟩:=small_s l hl
  simp only at h1
  unfold lngR
  cases e:small l with
  | false =>
    refine ⟨K1,fun k hk => ?_⟩
    simp [g11_spec_LongestChain.f,h1 k hk,e]
  | true =>
    obtain ⟨_,s1,s2,s3⟩:=small_true l e
    obtain ⟨K2,h2⟩:=haAll_ev l 0 (by omega) s3 s1
    simp only at h2
    have q1:=fs_long l.length 0 (begS (upf 10 0) l) (0,List.replicate l.length 0,[],[])
    have q2:=fl_rel (begS (upf 10 0) l) [] [0] ⟨by simp,.inr ⟨by simp,by simp⟩⟩
    rw [begS_filter] at q2
    have q2:1 ≤ (lng l).length ∧ ((run V2 [] (begS (upf 10 0) l)).2 = lng l ∨ ((run V2 [] (begS (upf 10 0) l)).2.length ≤ 1 ∧ (lng l).length = 1)):=q2
    refine ⟨K1 + K2,fun k hk => ?_⟩
    simp only [g11_spec_LongestChain.f,h1 k (by omega),e,Option.bind_some,if_true]
    rw [h2 k (by omega)]
    simp only [Option.bind_some]
    rw [q1]
    rcases q2 with ⟨q2,q3 | ⟨q3,q4⟩⟩
    · rw [q3,if_neg (by omega)]
    · by_cases hl0:l = []
      · subst hl0
        have:begS (upf 10 0) ([] : List S39) = []:=by decide
        rw [this]
        rfl
      · obtain ⟨t,ht⟩:=List.exists_mem_of_ne_nil l hl0
        have h8:=(run2_max (allW l) [0]).2.1 _ (one_in l s3 t ht (s2 t ht))
        have h8:2 ≤ (lng l).length:=h8
        omega
theorem tiles_len_le (l:List S39) (r:List Int) (h2:(tilesL r).Nodup) (h3:∀ t ∈ tilesL r,t ∈ l):r.length ≤ l.length + 1:=by
  have:=len_le (tilesL r) l h2 h3
  rw [tilesL_len] at this
  omega
theorem allW_lens (l:List S39) (hn:l.Nodup):∀ c ∈ allW l,2 ≤ c.length ∧ c.length ≤ l.length + 1:=fun c hc => by
  obtain ⟨h0,h1,h2,h3⟩:=(allW_iff l hn c).1 hc
  exact ⟨h0,tiles_len_le l c h2 h3⟩
theorem cts_len (l:List S39):(cts l).length = l.length:=by
  unfold cts
  rw [run1_len,List.length_replicate]
theorem cts_rd (l:List S39) (hn:l.Nodup) (hl:l.length ≤ 8) (k:Nat) (hk:k < l.length):rd (cts l) (k:Int) = (((allW l).filter fun c => decide (c.length = k + 2)).length:Int):=by
  have hr:∀ k:Nat,rd (List.replicate l.length (0:Int)) (k:Int) = 0:=fun k => by
    unfold rd
    rw [Int.toNat_natCast,List.getD_eq_getElem?_getD,List.getElem?_replicate]
    split <;> rfl
  have hlen:=allW_len l hl
  have:=run1_rd l.length (allW l) (List.replicate l.length 0) (allW_lens l hn) (by simp) (fun k => by rw [hr]; omega) k hk
  rw [hr] at this
  unfold cts
  omega
theorem lng_ch (l:List S39) (hn:l.Nodup):ch (lng l) = true ∧ (∀ t ∈ tilesL (lng l),t ∈ l) ∧ 1 ≤ (lng l).length ∧ (lng l).length ≤ l.length + 1:=by
  have h:=run2_max (allW l) [0]
  have h1:1 ≤ (lng l).length:=h.1
  rcases h.2.2 with e | e
  · have e:lng l = [0]:=e
    rw [e]
    exact ⟨ch_one 0 (by omega),by simp [tilesL],by simp,by simp⟩
  · have e:lng l ∈ allW l:=e
    obtain ⟨g0,g1,g2,g3⟩:=(allW_iff l hn _).1 e
    exact ⟨(ch_iff _).2 ⟨h1,g1,g2⟩,g3,h1,tiles_len_le l _ g2 g3⟩
theorem cts_pos (l:List S39) (hn:l.Nodup) (hl:l.length ≤ 8) (k:Nat) (hk:k < l.length):rd (cts l) (k:Int) > 0 ↔ k + 2 ≤ (lng l).length:=by
  rw [cts_rd l hn hl k hk]
  have h:=run2_max (allW l) [0]
  constructor
  · intro h0
    have:(allW l).filter (fun c => decide (c.length = k + 2)) ≠ []:=fun e => by rw [e] at h0; simp at h0
    obtain ⟨c,hc⟩:=List.exists_mem_of_ne_nil _ this
    rw [List.mem_filter] at hc
    have h2:c.length ≤ (lng l).length:=h.2.1 c hc.1
    have:=of_decide_eq_true hc.2
    omega
  · intro h0
    obtain ⟨c1,c2,c3,c4⟩:=lng_ch l hn
    have hm:lng l ∈ allW l:=by
      rcases h.2.2 with e | e
      · have e:lng l = [0]:=e
        rw [e] at h0
        simp at h0
      · exact e
    obtain ⟨g0,g1,g2,g3⟩:=(allW_iff l hn _).1 hm
    have:(lng l).take (k + 2) ∈ (allW l).filter (fun c => decide (c.length = k + 2)):=by
      rw [List.mem_filter]
      have hlen:((lng l).take (k + 2)).length = k + 2:=by rw [List.length_take]; omega
      refine ⟨(allW_iff l hn _).2 ⟨by omega,fun x hx => g1 x (List.mem_of_mem_take hx),?_,?_⟩,decide_eq_true hlen⟩
      · rw [tilesL_take]
        exact g2.sublist (List.take_sublist _ _)
      · rw [tilesL_take]
        exact fun t ht => g3 t (List.mem_of_mem_take ht)
    have:=List.length_pos_of_mem this
    omega
theorem full_cts (l:List S39) (hn:l.Nodup) (hl:l.length ≤ 8) (h0:0 < l.length):rd (cts l) ((l.length:Int) - 1) = ((full l).length:Int):=by
  have:=cts_rd l hn hl (l.length - 1) (by omega)
  rw [show ((l.length:Int) - 1) = ((l.length - 1:Nat):Int) by omega,this]
  unfold full
  rw [show l.length - 1 + 2 = l.length + 1 by omega]
theorem full_nil:full ([] : List S39) = []:=by decide
theorem full_iff (l:List S39) (hn:l.Nodup) (c:List Int) (hc:c ∈ full l):ch c = true ∧ (tilesL c).length = l.length ∧ (∀ t ∈ tilesL c,t ∈ l) ∧ c.reverse ∈ full l ∧ c.length = l.length + 1:=by
  unfold full at hc ⊢
  rw [List.mem_filter] at hc
  have hlen:=of_decide_eq_true hc.2
  obtain ⟨g0,g1,g2,g3⟩:=(allW_iff l hn _).1 hc.1
  refine ⟨(ch_iff _).2 ⟨by omega,g1,g2⟩,by rw [tilesL_len]; omega,g3,?_,hlen⟩
  rw [List.mem_filter]
  refine ⟨(allW_iff l hn _).2 ⟨by simpa using g0,fun x hx => g1 x (List.mem_reverse.1 hx),?_,?_⟩,by simpa using hlen⟩
  · rw [tilesL_rev]
    exact ((List.reverse_perm _).nodup_iff).2 g2
  · rw [tilesL_rev]
    exact fun t ht => g3 t (List.mem_reverse.1 ht)
theorem full_lex (l:List S39):(full l).Pairwise fun a b => lexL a b = true:=List.Pairwise.filter _ (allW_lex l)
theorem full_first (l:List S39) (hn:l.Nodup) (a:List Int) (r:List (List Int)) (h:full l = a :: r):lng l = a:=by
  have hlens:=allW_lens l hn
  have ha:a ∈ full l:=by rw [h]; exact List.mem_cons_self
  have h2:=(hlens a (List.mem_filter.1 ha).1)
  have hl:=(full_iff l hn a ha).2.2.2.2
  exact run2_first (allW l) [0] (l.length + 1) (fun c hc => (hlens c hc).2) (by simp; omega) a r h
def sgl (l:List S39):Nat:=(l.map fun t => if t.f0 = t.f1 then 1 else 2).sum
def prs (l:List S39):List (List Int):=l.flatMap fun t => if t.f0 = t.f1 then [[t.f0,t.f1]] else [[t.f0,t.f1],[t.f1,t.f0]]
theorem prs_len:∀ l:List S39,(prs l).length = sgl l
  | [] => rfl
  | t :: ts => by
    have ih:=prs_len ts
    unfold prs sgl at *
    rw [List.flatMap_cons,List.length_append,ih,List.map_cons,List.sum_cons]
    split <;> rfl
theorem prs_mem (l:List S39) (hg:∀ x ∈ l,good x = true) (c:List Int):c ∈ prs l ↔ ∃ x y,c = [x,y] ∧ tileOf x y ∈ l ∧ 0 ≤ x ∧ x ≤ 9 ∧ 0 ≤ y ∧ y ≤ 9:=by
  unfold prs
  rw [List.mem_flatMap]
  constructor
  · rintro ⟨t,ht,hc⟩
    have g:=(good_iff t).1 (hg t ht)
    have hs:=tileOf_self t (hg t ht)
    split at hc
    · rw [List.mem_singleton] at hc
      exact ⟨t.f0,t.f1,hc,by rw [hs]; exact ht,by omega⟩
    · simp only [List.mem_cons,List.not_mem_nil,or_false] at hc
      rcases hc with rfl | rfl
      · exact ⟨t.f0,t.f1,rfl,by rw [hs]; exact ht,by omega⟩
      · exact ⟨t.f1,t.f0,rfl,by rw [tileOf_comm,hs]; exact ht,by omega⟩
  · rintro ⟨x,y,rfl,ht,_⟩
    refine ⟨tileOf x y,ht,?_⟩
    unfold tileOf mn mx
    dsimp only
    by_cases e:x = y
    · subst e
      simp
    · by_cases e2:x < y
      · have:¬ y < x:=by omega
        simp [e,e2,this]
      · have e3:y < x:=by omega
        have:¬ y = x:=by omega
        simp [e2,e3,this]
theorem prs_nodup (l:List S39) (hn:l.Nodup) (hg:∀ x ∈ l,good x = true):(prs l).Nodup:=by
  unfold prs List.Nodup
  rw [List.pairwise_flatMap]
  have key:∀ t ∈ l,∀ c ∈ (if t.f0 = t.f1 then [[t.f0,t.f1]] else [[t.f0,t.f1],[t.f1,t.f0]]),tileOf (rd c 0) (rd c 1) = t:=fun t ht c hc => by
    have hs:=tileOf_self t (hg t ht)
    split at hc
    · rw [List.mem_singleton] at hc
      subst hc
      exact hs
    · simp only [List.mem_cons,List.not_mem_nil,or_false] at hc
      rcases hc with rfl | rfl
      · exact hs
      · exact (tileOf_comm _ _).trans hs
  refine ⟨fun t _ => ?_,?_⟩
  · split
    · simp
    · rename_i e
      simp
      intro h
      exact absurd h e
  · refine (hn.imp_of_mem ?_)
    intro a b ha hb hab x hx y hy e
    subst e
    exact hab ((key a ha x hx).symm.trans (key b hb x hy))
theorem cts_one (l:List S39) (hn:l.Nodup) (hl:l.length ≤ 8) (hg:∀ x ∈ l,good x = true) (h0:0 < l.length):rd (cts l) 0 = (sgl l:Int):=by
  have h:=cts_rd l hn hl 0 h0
  have e:∀ c,c ∈ (allW l).filter (fun c => decide (c.length = 0 + 2)) ↔ c ∈ prs l:=fun c => by
    rw [List.mem_filter,prs_mem l hg,allW_iff l hn]
    constructor
    · rintro ⟨⟨g0,g1,g2,g3⟩,hc⟩
      have hc:=of_decide_eq_true hc
      match c,hc with
      | [x,y],_ =>
        have hx:=g1 x (by simp)
        have hy:=g1 y (by simp)
        exact ⟨x,y,rfl,g3 _ (by rw [tilesL_two]; exact List.mem_cons_self),hx.1,hx.2,hy.1,hy.2⟩
    · rintro ⟨x,y,rfl,ht,x0,x9,y0,y9⟩
      refine ⟨⟨by simp,fun z hz => ?_,by rw [tilesL_two]; simp [tilesL],fun t ht2 => ?_⟩,by simp⟩
      · simp only [List.mem_cons,List.not_mem_nil,or_false] at hz
        omega
      · rw [tilesL_two] at ht2
        simp only [tilesL,List.append_nil,List.mem_cons,List.not_mem_nil,or_false] at ht2
        rw [ht2]
        exact ht
  have n1:((allW l).filter (fun c => decide (c.length = 0 + 2))).Nodup:=List.Pairwise.filter _ (allW_nodup l)
  have l1:=len_sub _ (prs l) n1 fun x hx => (e x).1 hx
  have l2:=len_sub _ _ (prs_nodup l hn hg) fun x hx => (e x).2 hx
  rw [prs_len] at l1 l2
  have h:rd (cts l) 0 = _:=h
  omega
theorem sgl_le (l:List S39):sgl l ≤ 2 * l.length:=by
  unfold sgl
  induction l with
  | nil => simp
  | cons t ts ih =>
    rw [List.map_cons,List.sum_cons,List.length_cons]
    split <;> omega
theorem d_hocLoop (l:List Int) (hl:∀ x ∈ l,0 ≤ x ∧ x ≤ 255):∀ (m:Nat) (h:List S39) (p s:Int),m ≤ h.length → h.length ≤ 1000 → 0 ≤ p → p + 2 * m ≤ 20000 →
    ∃ h' p' s',Ev (fun k => spec_l1Cur_handOfChain.l0 k h (m:Int) l p s) (h',p',s') ∧ h'.length = h.length:=by
  intro m
  induction m with
  | zero =>
    intro h p s _ _ _ _
    refine ⟨h,p,s,⟨1,fun k hk => ?_⟩,rfl⟩
    obtain ⟨q,rfl⟩ : ∃ q,k = q + 1:=⟨k - 1,by omega⟩
    simp only [spec_l1Cur_handOfChain.l0]
    rw [if_neg (by omega)]
  | succ m ih =>
    intro h p s hm hh hp hp2
    by_cases e:m = 0
    · subst e
      refine ⟨h,p,s,⟨1,fun k hk => ?_⟩,rfl⟩
      obtain ⟨q,rfl⟩ : ∃ q,k = q + 1:=⟨k - 1,by omega⟩
      simp only [spec_l1Cur_handOfChain.l0]
      rw [if_neg (by omega)]
    · obtain ⟨v,p',s',e1,v0,v1,q0,q1⟩:=d_pick l hl p s (by omega) (h.length:Int) (by omega)
      obtain ⟨h',p2,s2,⟨K,hK⟩,hlen⟩:=ih ((h.set (v:Int).toNat (⟨(rd_T39 h 0).f0,(rd_T39 h 0).f1⟩ : S39)).set (0:Int).toNat (⟨(rd_T39 h v).f0,(rd_T39 h v).f1⟩ : S39)) p' s' (by simp; omega) (by simpa using hh) q0 (by omega)
      refine ⟨h',p2,s2,⟨K + 1,fun k hk => ?_⟩,by rw [hlen]; simp⟩
      obtain ⟨q,rfl⟩ : ∃ q,k = q + 1:=⟨k - 1,by omega⟩
      have hw:wrap64 (((m + 1:Nat):Int) - 1) = (m:Int):=by rw [t_wrap _ (by omega) (by omega)]; omega
      simp only [spec_l1Cur_handOfChain.l0]
      rw [if_pos (by omega),e1]
      simp only [Option.bind_some]
      rw [if_pos v0,if_pos v1,if_pos (by omega),hw]
      exact hK q (by omega)
theorem d_hoc (l:List Int) (hl:∀ x ∈ l,0 ≤ x ∧ x ≤ 255) (a m:Int) (ha:0 ≤ a ∧ a ≤ 20) (hm:0 ≤ m ∧ m ≤ 9) (p s:Int) (hp:0 ≤ p ∧ p ≤ 8000) :
    ∃ h p' s',Ev (fun k => spec_l1Cur_handOfChain.f k l p s a m) (h,p',s') ∧ h.length ≤ 100:=by
  obtain ⟨b,q,s1,e1,q0,q1⟩:=d_one l hl p s (by omega) 3 (by omega)
  cases b with
  | true =>
    obtain ⟨c',p',s',⟨K,h1⟩,h2,h3⟩:=d_hand l hl a m ha hm q s1 (by omega)
    simp only at h1
    refine ⟨c',p',s',⟨K,fun k hk => ?_⟩,h2⟩
    simp only [spec_l1Cur_handOfChain.f,e1,Option.bind_some,if_true,h1 k hk]
  | false =>
    obtain ⟨c,q2,s2,⟨K1,g1⟩,g2,g3,g4,g5⟩:=d_sureChain l hl a m ha hm q s1 (by omega)
    simp only at g1
    obtain ⟨c1,c2,c3,c4⟩:=ch_true c g2
    obtain ⟨K2,g6⟩:=(haTiles_f c (by omega)).1
    simp only at g6
    have hlen:=tilesL_len c
    obtain ⟨h',p',s',⟨K3,g7⟩,g8⟩:=d_hocLoop l hl (tilesL c).length (tilesL c) q2 s2 (by omega) (by omega) (by omega) (by omega)
    simp only at g7
    refine ⟨h',p',s',⟨K1 + K2 + K3,fun k hk => ?_⟩,by omega⟩
    simp only [spec_l1Cur_handOfChain.f,e1,Option.bind_some,Bool.false_eq_true,if_false,g1 k (by omega),g6 k (by omega),g7 k (by omega)]
theorem d_all (l:List Int) (hl:∀ x ∈ l,0 ≤ x ∧ x ≤ 255):∃ h,Ev (fun k => spec_DrawAllChains.f k l) h ∧ h.length ≤ 100:=by
  obtain ⟨b,q,s1,e1,q0,q1⟩:=d_one l hl 0 0 (by omega) 10 (by omega)
  cases b with
  | true =>
    obtain ⟨c',p',s',⟨K,h1⟩,h2,h3⟩:=d_hand l hl 9 9 (by omega) (by omega) q s1 (by omega)
    simp only at h1
    refine ⟨c',⟨K,fun k hk => ?_⟩,h2⟩
    simp only [spec_DrawAllChains.f,e1,Option.bind_some,if_true,h1 k hk]
  | false =>
    obtain ⟨c',p',s',⟨K,h1⟩,h2⟩:=d_hoc l hl 7 4 (by omega) (by omega) q s1 (by omega)
    simp only at h1
    refine ⟨c',⟨K,fun k hk => ?_⟩,h2⟩
    simp only [spec_DrawAllChains.f,e1,Option.bind_some,Bool.false_eq_true,if_false,h1 k hk]
theorem isame_ev (a b:List Int) (hab:a.length = b.length) (hl:a.length ≤ 1000000):∀ (d i:Nat),i + d = a.length → ∃ r,Ev (fun k => laws_iSame.l0 k a b (a.length:Int) (i:Int)) r:=by
  intro d
  induction d with
  | zero =>
    intro i hi
    refine ⟨true,1,fun k hk => ?_⟩
    obtain ⟨q,rfl⟩ : ∃ q,k = q + 1:=⟨k - 1,by omega⟩
    simp only [laws_iSame.l0]
    rw [if_neg (by omega)]
  | succ d ih =>
    intro i hi
    have hw:wrap64 ((i:Int) + 1) = ((i + 1:Nat):Int):=by rw [t_wrap _ (by omega) (by omega)]; rfl
    obtain ⟨r,K,h⟩:=ih (i + 1) (by omega)
    simp only at h
    by_cases e:rd a (i:Int) = rd b (i:Int)
    · refine ⟨r,K + 1,fun k hk => ?_⟩
      obtain ⟨q,rfl⟩ : ∃ q,k = q + 1:=⟨k - 1,by omega⟩
      simp only [laws_iSame.l0]
      rw [if_pos (by omega),if_pos (by omega),if_pos (by omega),if_pos (by omega),if_pos e,hw]
      exact h q (by omega)
    · refine ⟨false,1,fun k hk => ?_⟩
      obtain ⟨q,rfl⟩ : ∃ q,k = q + 1:=⟨k - 1,by omega⟩
      simp only [laws_iSame.l0]
      rw [if_pos (by omega),if_pos (by omega),if_pos (by omega),if_pos (by omega),if_neg e]
theorem isame_any (a b:List Int) (hl:a.length ≤ 1000000):∃ r,Ev (fun k => laws_iSame.f k a b) r ∧ (a = b → r = true):=by
  by_cases e:a = b
  · subst e
    exact ⟨true,same_f a (by omega),fun _ => rfl⟩
  · by_cases e2:a.length = b.length
    · obtain ⟨r,K,h⟩:=isame_ev a b e2 hl a.length 0 (by omega)
      refine ⟨r,⟨K,fun k hk => ?_⟩,fun h => absurd h e⟩
      simp only [laws_iSame.f]
      rw [if_pos (by omega)]
      exact h k hk
    · refine ⟨false,⟨0,fun k _ => ?_⟩,fun h => absurd h e⟩
      simp only [laws_iSame.f]
      rw [if_neg (by omega)]
theorem rdL_get (L:List (List Int)) (i:Nat) (h:i < L.length):rd_L4 L (i:Int) = L[i]:=by
  unfold rd_L4
  rw [Int.toNat_natCast,List.getD_eq_getElem?_getD,List.getElem?_eq_getElem h]
  rfl
theorem rdT_at (l:List S39) (i:Nat) (h:i < l.length):rd_T39 l (i:Int) = l[i]:=by
  unfold rd_T39
  rw [Int.toNat_natCast,List.getD_eq_getElem?_getD,List.getElem?_eq_getElem h]
  rfl
theorem l5_ev (h:List S39) (A:List (List Int)) (lo cur:List Int) (i:Nat) (hA:A.length ≤ 300) (hlens:∀ c ∈ A,c.length ≤ 100)
    (hnext:Ev (fun k => laws_FnChainsListed.l3 k h A lo A (A.length:Int) ((i + 1:Nat):Int)) true) (hi:i < A.length) :
    ∀ (d j:Nat) (fd:Bool),j + d = A.length → (fd = true ∨ cur ∈ A.drop j) → Ev (fun k => laws_FnChainsListed.l5 k h A lo cur true fd A (A.length:Int) (i:Int) A (A.length:Int) (j:Int)) true:=by
  intro d
  induction d with
  | zero =>
    intro j fd hj hf
    obtain ⟨K,g⟩:=hnext
    simp only at g
    have hw:wrap64 ((i:Int) + 1) = ((i + 1:Nat):Int):=by rw [t_wrap _ (by omega) (by omega)]; rfl
    have hf:fd = true:=by
      rcases hf with hf | hf
      · exact hf
      · rw [List.drop_of_length_le (by omega)] at hf
        cases hf
    refine ⟨K + 1,fun k hk => ?_⟩
    obtain ⟨q,rfl⟩ : ∃ q,k = q + 1:=⟨k - 1,by omega⟩
    simp only [laws_FnChainsListed.l5]
    rw [if_neg (by omega),if_pos trivial,if_pos hf,hw]
    exact g q (by omega)
  | succ d ih =>
    intro j fd hj hf
    have hw:wrap64 ((j:Int) + 1) = ((j + 1:Nat):Int):=by rw [t_wrap _ (by omega) (by omega)]; rfl
    have hjl:j < A.length:=by omega
    rw [List.drop_eq_getElem_cons hjl] at hf
    cases fd with
    | true =>
      obtain ⟨K,g⟩:=ih (j + 1) true (by omega) (.inl rfl)
      simp only at g
      refine ⟨K + 1,fun k hk => ?_⟩
      obtain ⟨q,rfl⟩ : ∃ q,k = q + 1:=⟨k - 1,by omega⟩
      simp only [laws_FnChainsListed.l5]
      rw [if_pos (by omega),if_pos (by omega),if_pos (by omega),if_pos trivial,hw]
      exact g q (by omega)
    | false =>
      have hlen:=hlens A[j] (List.getElem_mem _)
      obtain ⟨r,⟨K1,g1⟩,g2⟩:=isame_any A[j] cur (by omega)
      simp only at g1
      obtain ⟨K,g⟩:=ih (j + 1) r (by omega) (by
        rcases hf with hf | hf
        · cases hf
        · rcases List.mem_cons.1 hf with e | hf
          · exact .inl (g2 e.symm)
          · exact .inr hf)
      simp only at g
      refine ⟨K + K1 + 1,fun k hk => ?_⟩
      obtain ⟨q,rfl⟩ : ∃ q,k = q + 1:=⟨k - 1,by omega⟩
      simp only [laws_FnChainsListed.l5]
      rw [if_pos (by omega),if_pos (by omega),if_pos (by omega),if_neg (by simp),rdL_get A j hjl,g1 q (by omega),hw]
      simp only [Option.bind_some]
      exact g q (by omega)
theorem l4_ev (h:List S39) (A:List (List Int)) (lo c:List Int) (i:Nat) (hh:h.length ≤ 1000) (hA:A.length ≤ 300) (hlens:∀ c ∈ A,c.length ≤ 100)
    (hnext:Ev (fun k => laws_FnChainsListed.l3 k h A lo A (A.length:Int) ((i + 1:Nat):Int)) true) (hi:i < A.length) (hc:ch c = true) (hr:c.reverse ∈ A) (T:List S39) (hT:T.length ≤ 1000) (hin:∀ t ∈ T,t ∈ h) :
    ∀ (d j:Nat),j + d = T.length → Ev (fun k => laws_FnChainsListed.l4 k h A lo c A (A.length:Int) (i:Int) T (T.length:Int) (j:Int)) true:=by
  intro d
  induction d with
  | zero =>
    intro j hj
    obtain ⟨c1,c2,c3,c4⟩:=ch_true c hc
    obtain ⟨K1,g1⟩:=turn_i c (by omega)
    rw [if_pos hc] at g1
    simp only at g1
    obtain ⟨K2,g2⟩:=l5_ev h A lo c.reverse i hA hlens hnext hi A.length 0 false (by omega) (.inr hr)
    simp only at g2
    refine ⟨K1 + K2 + 1,fun k hk => ?_⟩
    obtain ⟨q,rfl⟩ : ∃ q,k = q + 1:=⟨k - 1,by omega⟩
    simp only [laws_FnChainsListed.l4]
    rw [if_neg (by omega),g1 q (by omega)]
    simp only [Option.bind_some]
    exact g2 q (by omega)
  | succ d ih =>
    intro j hj
    have hw:wrap64 ((j:Int) + 1) = ((j + 1:Nat):Int):=by rw [t_wrap _ (by omega) (by omega)]; rfl
    have hjl:j < T.length:=by omega
    obtain ⟨K1,g1⟩:=iIn_f h T[j] (by omega) (hin _ (List.getElem_mem _))
    simp only at g1
    obtain ⟨K,g⟩:=ih (j + 1) (by omega)
    simp only at g
    refine ⟨K + K1 + 1,fun k hk => ?_⟩
    obtain ⟨q,rfl⟩ : ∃ q,k = q + 1:=⟨k - 1,by omega⟩
    simp only [laws_FnChainsListed.l4]
    rw [if_pos (by omega),if_pos (by omega),if_pos (by omega),rdT_at T j hjl,g1 q (by omega)]
    simp only [Option.bind_some]
    rw [if_pos trivial,hw]
    exact g q (by omega)
theorem l3_ev (h:List S39) (hn:h.Nodup) (hh:h.length ≤ 8) (hf:(full h).length ≤ 300):∀ (d i:Nat),i + d = (full h).length → Ev (fun k => laws_FnChainsListed.l3 k h (full h) (lng h) (full h) ((full h).length:Int) (i:Int)) true:=by
  have hlens:∀ c ∈ full h,c.length ≤ 100:=fun c hc => by
    have:=(full_iff h hn c hc).2.2.2.2
    omega
  intro d
  induction d with
  | zero =>
    intro i hi
    by_cases e:(full h).length = 0
    · refine ⟨2,fun k hk => ?_⟩
      obtain ⟨q,rfl⟩ : ∃ q,k = q + 2:=⟨k - 2,by omega⟩
      show laws_FnChainsListed.l3 (q + 1 + 1) _ _ _ _ _ _ = _
      simp only [laws_FnChainsListed.l3]
      rw [if_neg (by omega),if_neg (by omega)]
      rfl
    · have hpos:0 < (full h).length:=by omega
      obtain ⟨a,r,hfh⟩:=List.exists_cons_of_length_pos hpos
      have h0:rd_L4 (full h) 0 = lng h:=by
        rw [full_first h hn a r hfh,hfh]
        rfl
      obtain ⟨K,g⟩:=same_f (lng h) (by have:=(lng_ch h hn).2.2.2; omega)
      simp only at g
      refine ⟨K + 2,fun k hk => ?_⟩
      obtain ⟨q,rfl⟩ : ∃ q,k = q + 2:=⟨k - 2,by omega⟩
      show laws_FnChainsListed.l3 (q + 1 + 1) _ _ _ _ _ _ = _
      simp only [laws_FnChainsListed.l3]
      rw [if_neg (by omega),if_pos (by omega)]
      rw [h0,g (q + 1) (by omega)]
      simp only [Option.bind_some,if_true]
      rfl
  | succ d ih =>
    intro i hi
    have hil:i < (full h).length:=by omega
    obtain ⟨c,hcd⟩ : ∃ c,c = (full h)[i]:=⟨_,rfl⟩
    have hcm:c ∈ full h:=by rw [hcd]; exact List.getElem_mem _
    obtain ⟨c1,c2,c3,c4,c5⟩:=full_iff h hn c hcm
    obtain ⟨K1,g1⟩:=tiles_i c (by omega)
    rw [if_pos c1] at g1
    simp only at g1
    obtain ⟨K2,g2⟩:=l4_ev h (full h) (lng h) c i (by omega) hf hlens (ih (i + 1) (by omega)) hil c1 c4 (tilesL c) (by omega) c3 (tilesL c).length 0 (by omega)
    simp only at g2
    have hrd:rd_L4 (full h) (i:Int) = c:=by rw [rdL_get _ i hil,hcd]
    by_cases e:i = 0
    · refine ⟨K1 + K2 + 1,fun k hk => ?_⟩
      obtain ⟨q,rfl⟩ : ∃ q,k = q + 1:=⟨k - 1,by omega⟩
      simp only [laws_FnChainsListed.l3]
      rw [if_pos (by omega),if_pos (by omega),if_pos (by omega),hrd,g1 q (by omega)]
      simp only [Option.bind_some,if_true]
      rw [if_pos (by omega),if_neg (by omega)]
      exact g2 q (by omega)
    · have hw:wrap64 ((i:Int) - 1) = ((i - 1:Nat):Int):=by rw [t_wrap _ (by omega) (by omega)]; omega
      have hrd2:rd_L4 (full h) ((i - 1:Nat):Int) = (full h)[i - 1]:=rdL_get _ _ (by omega)
      have hlx:lexL (full h)[i - 1] c = true:=by
        rw [hcd]
        exact (List.pairwise_iff_getElem.1 (full_lex h)) (i - 1) i (by omega) hil (by omega)
      have hl5:=(full_iff h hn (full h)[i - 1] (List.getElem_mem _)).2.2.2.2
      obtain ⟨K3,g3⟩:=less_f (full h)[i - 1] c (by omega) (by omega)
      rw [hlx] at g3
      simp only at g3
      refine ⟨K1 + K2 + K3 + 1,fun k hk => ?_⟩
      obtain ⟨q,rfl⟩ : ∃ q,k = q + 1:=⟨k - 1,by omega⟩
      simp only [laws_FnChainsListed.l3]
      rw [if_pos (by omega),if_pos (by omega),if_pos (by omega),hrd,g1 q (by omega)]
      simp only [Option.bind_some,if_true]
      rw [if_pos (by omega),if_pos (by omega),hw,if_pos (by omega),if_pos (by omega),hrd2,g3 q (by omega)]
      simp only [Option.bind_some,if_true]
      exact g2 q (by omega)
theorem j5_ev (h:List S39) (A:List (List Int)) (ok:Bool) (lo:List Int) (hok:ok = true → small h = true ∧ (full h).length ≤ 300 ∧ A = full h ∧ lo = lng h):Ev (fun k => laws_FnChainsListed.j5 k h A ok lo) true:=by
  cases ok with
  | false =>
    refine ⟨2,fun k hk => ?_⟩
    obtain ⟨q,rfl⟩ : ∃ q,k = q + 2:=⟨k - 2,by omega⟩
    show laws_FnChainsListed.j5 (q + 1 + 1) _ _ _ _ = _
    simp only [laws_FnChainsListed.j5]
    rfl
  | true =>
    obtain ⟨h1,h2,rfl,rfl⟩:=hok rfl
    obtain ⟨_,s1,s2,s3⟩:=small_true h h1
    obtain ⟨K,g⟩:=l3_ev h s3 s1 h2 (full h).length 0 (by omega)
    simp only at g
    refine ⟨K + 1,fun k hk => ?_⟩
    obtain ⟨q,rfl⟩ : ∃ q,k = q + 1:=⟨k - 1,by omega⟩
    simp only [laws_FnChainsListed.j5]
    rw [if_pos trivial]
    exact g q (by omega)
theorem l2_ev (h:List S39) (A:List (List Int)) (ok:Bool) (hs:small h = true) (hok:ok = true → small h = true ∧ (full h).length ≤ 300 ∧ A = full h ∧ lng h = lng h) :
    ∀ (d i:Nat) (acc:Nat),i + d = h.length → acc + sgl (h.drop i) = sgl h → Ev (fun k => laws_FnChainsListed.l2 k h A ok (cts h) (lng h) (h.length:Int) (acc:Int) h (h.length:Int) (i:Int)) true:=by
  obtain ⟨_,s1,s2,s3⟩:=small_true h hs
  have hsg:=sgl_le h
  intro d
  induction d with
  | zero =>
    intro i acc hi hacc
    rw [List.drop_of_length_le (by omega)] at hacc
    obtain ⟨K,g⟩:=j5_ev h A ok (lng h) hok
    simp only at g
    refine ⟨K + 1,fun k hk => ?_⟩
    obtain ⟨q,rfl⟩ : ∃ q,k = q + 1:=⟨k - 1,by omega⟩
    simp only [laws_FnChainsListed.l2]
    rw [if_neg (by omega)]
    by_cases e:(h.length:Int) > 0
    · have:=cts_one h s3 s1 s2 (by omega)
      have hc:=cts_len h
      have hz:sgl ([] : List S39) = 0:=rfl
      rw [if_pos e,if_pos (by omega),if_pos (by omega)]
      exact g q (by omega)
    · rw [if_neg e]
      exact g q (by omega)
  | succ d ih =>
    intro i acc hi hacc
    have hil:i < h.length:=by omega
    have hw:wrap64 ((i:Int) + 1) = ((i + 1:Nat):Int):=by rw [t_wrap _ (by omega) (by omega)]; rfl
    rw [List.drop_eq_getElem_cons hil] at hacc
    have hsc:sgl (h[i] :: h.drop (i + 1)) = (if h[i].f0 = h[i].f1 then 1 else 2) + sgl (h.drop (i + 1)):=by unfold sgl; rw [List.map_cons,List.sum_cons]
    rw [hsc] at hacc
    by_cases e:h[i].f0 = h[i].f1
    · rw [if_pos e] at hacc
      obtain ⟨K,g⟩:=ih (i + 1) (acc + 1) (by omega) (by omega)
      simp only at g
      refine ⟨K + 1,fun k hk => ?_⟩
      obtain ⟨q,rfl⟩ : ∃ q,k = q + 1:=⟨k - 1,by omega⟩
      simp only [laws_FnChainsListed.l2]
      rw [if_pos (by omega),if_pos (by omega),if_pos (by omega),rdT_at h i hil,if_pos e,hw,t_wrap ((acc:Int) + 2) (by omega) (by omega),t_wrap _ (by omega) (by omega),show (acc:Int) + 2 - 1 = ((acc + 1:Nat):Int) by omega]
      exact g q (by omega)
    · rw [if_neg e] at hacc
      obtain ⟨K,g⟩:=ih (i + 1) (acc + 2) (by omega) (by omega)
      simp only at g
      refine ⟨K + 1,fun k hk => ?_⟩
      obtain ⟨q,rfl⟩ : ∃ q,k = q + 1:=⟨k - 1,by omega⟩
      simp only [laws_FnChainsListed.l2]
      rw [if_pos (by omega),if_pos (by omega),if_pos (by omega),rdT_at h i hil,if_neg e,hw,t_wrap ((acc:Int) + 2) (by omega) (by omega),show (acc:Int) + 2 = ((acc + 2:Nat):Int) by omega]
      exact g q (by omega)
theorem l1_ev (h:List S39) (A:List (List Int)) (ok:Bool) (hs:small h = true) (hok:ok = true → small h = true ∧ (full h).length ≤ 300 ∧ A = full h ∧ lng h = lng h) (T:List S39) (hT:T.length ≤ 1000) (hin:∀ t ∈ T,t ∈ h) :
    ∀ (d i:Nat),i + d = T.length → Ev (fun k => laws_FnChainsListed.l1 k h A ok (cts h) (lng h) (h.length:Int) T (T.length:Int) (i:Int)) true:=by
  obtain ⟨_,s1,s2,s3⟩:=small_true h hs
  intro d
  induction d with
  | zero =>
    intro i hi
    obtain ⟨K,g⟩:=l2_ev h A ok hs hok h.length 0 0 (by omega) (by simp)
    simp only at g
    refine ⟨K + 1,fun k hk => ?_⟩
    obtain ⟨q,rfl⟩ : ∃ q,k = q + 1:=⟨k - 1,by omega⟩
    simp only [laws_FnChainsListed.l1]
    rw [if_neg (by omega)]
    exact g q (by omega)
  | succ d ih =>
    intro j hj
    have hw:wrap64 ((j:Int) + 1) = ((j + 1:Nat):Int):=by rw [t_wrap _ (by omega) (by omega)]; rfl
    have hjl:j < T.length:=by omega
    obtain ⟨K1,g1⟩:=iIn_f h T[j] (by omega) (hin _ (List.getElem_mem _))
    simp only at g1
    obtain ⟨K,g⟩:=ih (j + 1) (by omega)
    simp only at g
    refine ⟨K + K1 + 1,fun k hk => ?_⟩
    obtain ⟨q,rfl⟩ : ∃ q,k = q + 1:=⟨k - 1,by omega⟩
    simp only [laws_FnChainsListed.l1]
    rw [if_pos (by omega),if_pos (by omega),if_pos (by omega),rdT_at T j hjl,g1 q (by omega)]
    simp only [Option.bind_some]
    rw [if_pos trivial,hw]
    exact g q (by omega)
theorem l0_ev (h:List S39) (A:List (List Int)) (ok:Bool) (hs:small h = true) (hok:ok = true → small h = true ∧ (full h).length ≤ 300 ∧ A = full h ∧ lng h = lng h) :
    ∀ (d i:Nat),i + d = (cts h).length → Ev (fun k => laws_FnChainsListed.l0 k h A ok (cts h) (lng h) (h.length:Int) (cts h) ((cts h).length:Int) (i:Int)) true:=by
  obtain ⟨_,s1,s2,s3⟩:=small_true h hs
  have hc:=cts_len h
  obtain ⟨q1,q2,q3,q4⟩:=lng_ch h s3
  intro d
  induction d with
  | zero =>
    intro i hi
    obtain ⟨K1,g1⟩:=tiles_i (lng h) (by omega)
    rw [if_pos q1] at g1
    simp only at g1
    obtain ⟨K,g⟩:=l1_ev h A ok hs hok (tilesL (lng h)) (by rw [tilesL_len]; omega) q2 (tilesL (lng h)).length 0 (by omega)
    simp only at g
    refine ⟨K + K1 + 1,fun k hk => ?_⟩
    obtain ⟨q,rfl⟩ : ∃ q,k = q + 1:=⟨k - 1,by omega⟩
    simp only [laws_FnChainsListed.l0]
    rw [if_neg (by omega),g1 q (by omega)]
    simp only [Option.bind_some,if_true]
    exact g q (by omega)
  | succ d ih =>
    intro j hj
    have hw:wrap64 ((j:Int) + 1) = ((j + 1:Nat):Int):=by rw [t_wrap _ (by omega) (by omega)]; rfl
    have hw2:wrap64 (((lng h).length:Int) - 1) = ((lng h).length:Int) - 1:=t_wrap _ (by omega) (by omega)
    have hp:=cts_pos h s3 s1 j (by omega)
    obtain ⟨K,g⟩:=ih (j + 1) (by omega)
    simp only at g
    refine ⟨K + 1,fun k hk => ?_⟩
    obtain ⟨q,rfl⟩ : ∃ q,k = q + 1:=⟨k - 1,by omega⟩
    simp only [laws_FnChainsListed.l0]
    rw [if_pos (by omega),if_pos (by omega),if_pos (by omega),hw,hw2,if_pos (by
      rw [decide_eq_decide,hp]
      omega)]
    exact g q (by omega)
theorem j0_small (h:List S39) (A:List (List Int)) (ok:Bool) (hs:small h = true) (hok:ok = decide ((full h).length ≤ 300)) (hA:ok = true → A = full h):Ev (fun k => laws_FnChainsListed.j0 k h A ok (cts h) true (lng h) false) true:=by
  obtain ⟨_,s1,s2,s3⟩:=small_true h hs
  have hc:=cts_len h
  obtain ⟨q1,q2,q3,q4⟩:=lng_ch h s3
  have hok2:ok = true → small h = true ∧ (full h).length ≤ 300 ∧ A = full h ∧ lng h = lng h:=fun e => ⟨hs,of_decide_eq_true (hok.symm.trans e),hA e,rfl⟩
  obtain ⟨K,g⟩:=l0_ev h A ok hs hok2 (cts h).length 0 (by omega)
  obtain ⟨K1,g1⟩:=ch_impl (lng h) (by omega)
  rw [q1] at g1
  simp only at g g1
  have hw2:wrap64 (((lng h).length:Int) - 1) = ((lng h).length:Int) - 1:=t_wrap _ (by omega) (by omega)
  have hj3:∀ k,K ≤ k → laws_FnChainsListed.j3 (k + 2) h A ok (cts h) (lng h) (h.length:Int) (decide (wrap64 (((lng h).length:Int) - 1) > (h.length:Int))) = some true:=fun k hk => by
    show laws_FnChainsListed.j3 (k + 1 + 1) _ _ _ _ _ _ _ = _
    rw [hw2,decide_eq_false (by omega)]
    simp only [laws_FnChainsListed.j3,Bool.false_eq_true,if_false]
    show laws_FnChainsListed.j4 (k + 1) _ _ _ _ _ _ = _
    simp only [laws_FnChainsListed.j4]
    exact g k hk
  have hj2:∀ k,K + K1 ≤ k → laws_FnChainsListed.j2 (k + 3) h A ok (cts h) (lng h) (h.length:Int) ((full h).length:Int) = some true:=fun k hk => by
    show laws_FnChainsListed.j2 (k + 2 + 1) _ _ _ _ _ _ _ = _
    simp only [laws_FnChainsListed.j2]
    rw [if_pos (by omega),if_pos (by
      rw [hok,decide_eq_decide]
      omega)]
    cases ok with
    | true =>
      rw [if_pos rfl,if_pos (by rw [hA rfl]),g1 (k + 2) (by omega)]
      simp only [Option.bind_some,if_true]
      exact hj3 k (by omega)
    | false =>
      rw [if_neg (by simp),g1 (k + 2) (by omega)]
      simp only [Option.bind_some,if_true]
      exact hj3 k (by omega)
  refine ⟨K + K1 + 5,fun k hk => ?_⟩
  obtain ⟨q,rfl⟩ : ∃ q,k = q + 5:=⟨k - 5,by omega⟩
  show laws_FnChainsListed.j0 (q + 4 + 1) _ _ _ _ _ _ _ = _
  simp only [laws_FnChainsListed.j0,Bool.false_eq_true,if_false]
  show laws_FnChainsListed.j1 (q + 3 + 1) _ _ _ _ _ _ = _
  simp only [laws_FnChainsListed.j1,if_true]
  by_cases e:(h.length:Int) > 0
  · have hw:wrap64 ((h.length:Int) - 1) = (h.length:Int) - 1:=t_wrap _ (by omega) (by omega)
    rw [if_pos e,hw,if_pos (by omega),if_pos (by omega),full_cts h s3 s1 (by omega)]
    exact hj2 q (by omega)
  · have hz:h = []:=List.length_eq_zero_iff.1 (by omega)
    rw [if_neg e]
    have hf0:(full h).length = 0:=by rw [hz,full_nil]; rfl
    have:=hj2 q (by omega)
    rw [hf0] at this
    exact this
theorem j0_not (h:List S39):Ev (fun k => laws_FnChainsListed.j0 k h [] false [] false [] false) true:=by
  obtain ⟨K,g⟩:=j5_ev h [] false [] (fun e => by cases e)
  simp only at g
  refine ⟨K + 2,fun k hk => ?_⟩
  obtain ⟨q,rfl⟩ : ∃ q,k = q + 2:=⟨k - 2,by omega⟩
  show laws_FnChainsListed.j0 (q + 1 + 1) _ _ _ _ _ _ _ = _
  simp only [laws_FnChainsListed.j0,Bool.false_eq_true,if_false]
  show laws_FnChainsListed.j1 (q + 1) _ _ _ _ _ _ = _
  simp only [laws_FnChainsListed.j1,Bool.false_eq_true,if_false]
  exact g q (by omega)
theorem FnChainsListed (l0:List Int) (l1:List Int) (_h0:(l0.length ≤ 9223372036854775807 ∧ ∀ x_ ∈ l0,(Lit.int .u8 x_).wf = true)) (_h1:(l1.length ≤ 9223372036854775807 ∧ ∀ x_ ∈ l1,(Lit.int .u8 x_).wf = true)):∃ k,laws_FnChainsListed.f k l0 l1 = some true:=by
  have u0:=wf_u8 l0 _h0.2
  refine Ev.rounds (g:=fun k => laws_FnChainsListed.f k l0 l1) ?_
  cases hbig:laws_big.f l0 l1 with
  | none =>
    exfalso
    unfold laws_big.f at hbig
    split at hbig <;> cases hbig
  | some u =>
    cases u
    · obtain ⟨h,⟨K0,e0⟩,a1⟩:=d_all l0 u0
      obtain ⟨K1,e1⟩:=all_i h (by omega)
      obtain ⟨K2,e2⟩:=all_s h (by omega)
      obtain ⟨K3,e3⟩:=cnt_i h (by omega)
      obtain ⟨K4,e4⟩:=cnt_s h (by omega)
      obtain ⟨K5,e5⟩:=lng_i h (by omega)
      obtain ⟨K6,e6⟩:=lng_s h (by omega)
      obtain ⟨K7,e7⟩:=isH_impl h (by omega)
      simp only at e0 e1 e2 e3 e4 e5 e6 e7
      have hrows:∀ (A:List (List Int)) (b:Bool),allR h = (A,b) → A.length ≤ 300 ∧ ∀ c ∈ A,c.length ≤ 1000:=fun A b hA => by
        unfold allR at hA
        split at hA
        · rename_i g
          obtain ⟨rfl,_⟩:=Prod.mk.inj hA
          obtain ⟨_,s1,s2,s3⟩:=small_true h g.1
          refine ⟨g.2,fun c hc => ?_⟩
          have:=(full_iff h s3 c hc).2.2.2.2
          omega
        · obtain ⟨rfl,_⟩:=Prod.mk.inj hA
          exact ⟨by simp,by simp⟩
      have hr2:=hrows (allR h).1 (allR h).2 rfl
      obtain ⟨K8,e8⟩:=rows_f (allR h).1 (by omega) hr2.2
      simp only at e8
      cases hs:small h with
      | false =>
        have ea:allR h = ([],false):=by unfold allR; rw [hs]; simp
        have ec:cntR h = ([],false):=by unfold cntR; rw [hs]; simp
        have el:lngR h = ([],false):=by unfold lngR; rw [hs]; simp
        rw [ea] at e1 e2 e8
        rw [ec] at e3 e4
        rw [el] at e5 e6
        obtain ⟨K9,e9⟩:=same_f [] (by simp)
        simp only at e9
        obtain ⟨K10,e10⟩:=j0_not h
        simp only at e10
        refine ⟨K0 + K1 + K2 + K3 + K4 + K5 + K6 + K7 + K8 + K9 + K10,fun k hk => ?_⟩
        simp only [laws_FnChainsListed.f,hbig,Option.bind_some,Bool.false_eq_true,if_false,e0 k (by omega),e1 k (by omega),e2 k (by omega),e3 k (by omega),e4 k (by omega),e5 k (by omega),e6 k (by omega),e8 k (by omega),e9 k (by omega),e7 k (by omega),if_true]
        cases hi:isH h with
        | true =>
          have h9:¬ (h.length:Int) ≤ 8:=fun g => by
            unfold small at hs
            rw [hi,decide_eq_true g] at hs
            cases hs
          rw [if_pos rfl,decide_eq_false h9]
          exact e10 k (by omega)
        | false =>
          rw [if_neg (by simp)]
          exact e10 k (by omega)
      | true =>
        obtain ⟨hi,s1,s2,s3⟩:=small_true h hs
        have ec:cntR h = (cts h,true):=by unfold cntR; rw [if_pos hs]
        have el:lngR h = (lng h,true):=by unfold lngR; rw [if_pos hs]
        rw [ec] at e3 e4
        rw [el] at e5 e6
        have hcl:=cts_len h
        have hll:=(lng_ch h s3).2.2.2
        obtain ⟨K9,e9⟩:=same_f (cts h) (by omega)
        obtain ⟨K11,e11⟩:=same_f (lng h) (by omega)
        simp only at e9 e11
        have hd:decide ((h.length:Int) ≤ 8) = true:=decide_eq_true (by omega)
        rw [hi] at e7
        by_cases hf:(full h).length ≤ 300
        · have ea:allR h = (full h,true):=if_pos ⟨hs,hf⟩
          rw [ea] at e1 e2 e8
          obtain ⟨K10,e10⟩:=j0_small h (full h) true hs (decide_eq_true hf).symm (fun _ => rfl)
          simp only at e10
          refine ⟨K0 + K1 + K2 + K3 + K4 + K5 + K6 + K7 + K8 + K9 + K10 + K11,fun k hk => ?_⟩
          simp only [laws_FnChainsListed.f,hbig,Option.bind_some,Bool.false_eq_true,if_false,e0 k (by omega),e1 k (by omega),e2 k (by omega),e3 k (by omega),e4 k (by omega),e5 k (by omega),e6 k (by omega),e8 k (by omega),e9 k (by omega),e11 k (by omega),e7 k (by omega),if_true,hd]
          exact e10 k (by omega)
        · have ea:allR h = ([],false):=if_neg fun g => hf g.2
          rw [ea] at e1 e2 e8
          obtain ⟨K10,e10⟩:=j0_small h [] false hs (decide_eq_false hf).symm (fun e => by cases e)
          simp only at e10
          refine ⟨K0 + K1 + K2 + K3 + K4 + K5 + K6 + K7 + K8 + K9 + K10 + K11,fun k hk => ?_⟩
          simp only [laws_FnChainsListed.f,hbig,Option.bind_some,Bool.false_eq_true,if_false,e0 k (by omega),e1 k (by omega),e2 k (by omega),e3 k (by omega),e4 k (by omega),e5 k (by omega),e6 k (by omega),e8 k (by omega),e9 k (by omega),e11 k (by omega),e7 k (by omega),if_true,hd]
          exact e10 k (by omega)
    · exact ⟨0,fun k _ => by simp [laws_FnChainsListed.f,hbig]⟩

end Go.Proofs.Ytkofmaeffgbelaa.QPure
