/- An interpreter over plain values, with a heap of keys, for the functions of this model, proved sound for every order that a region's edges allow. No conditions. -/
import Derived.Orders
import Derived.Below
import Derived.WalkKit
import Derived.Laws.BytesArg
import Derived.Laws.Cells
import Derived.Laws.Tables
import Derived.Laws.Rows
import Derived.Laws.CopyOwn
import Derived.Maps.AppendAt
import Derived.Laws.OwnMore
import Derived.Laws.MakeOwn
set_option linter.unusedVariables false
set_option linter.unusedSimpArgs false
set_option linter.unusedSectionVars false
namespace Go.Rh
open Go.RowKit

inductive AV where
 | val (v:Value)
 | sl (l:List AV)
 | agg (l:List AV)
 | tup (l:List AV)
 | ptr (x:AV)
 | fn (f:FuncId) (c:List AV)
 | loc (k i:Nat)
 | row (k:Nat)
 | el (k i sz j:Nat)
 | tl (k i sz:Nat)
 | box (x:AV)
 | ow (m:Bool) (T:Nat) (l:List AV)
 | fz (x:AV)
 | dead
 deriving Inhabited

def flat:Value → Bool
 | .bool _ => true
 | .int _ _ => true
 | .string _ => true
 | .slice none 0 0 => true
 | .pointer none => true
 | .nilFunc => true
 | _ => false
def AV.one:AV → Bool
 | .val _ => true
 | .sl _ => true
 | .ptr _ => true
 | .fn _ _ => true
 | .loc _ _ => true
 | .row _ => true
 | _ => false
def AV.cnt:AV → Nat
 | .agg l => l.length
 | _ => 1
mutual
/-- The keys that a value names. -/
def AV.keys:AV → List Nat
 | .agg l => keysL l
 | .tup l => keysL l
 | .fn _ c => keysL c
 | .loc k _ => [k]
 | .row k => [k]
 | .el k _ _ _ => [k]
 | .tl k _ _ => [k]
 | .box x => x.keys
 | .val _ => []
 | .sl _ => []
 | .ptr _ => []
 | .ow _ _ _ => []
 | .fz _ => []
 | .dead => []
def keysL:List AV → List Nat
 | [] => []
 | x :: l => x.keys ++ keysL l
end
mutual
/-- Other keys. -/
def AV.ren (ρ:Nat → Nat):AV → AV
 | .agg l => .agg (renL ρ l)
 | .tup l => .tup (renL ρ l)
 | .fn f c => .fn f (renL ρ c)
 | .loc k i => .loc (ρ k) i
 | .row k => .row (ρ k)
 | .el k i s j => .el (ρ k) i s j
 | .tl k i s => .tl (ρ k) i s
 | .box x => .box (x.ren ρ)
 | .val v => .val v
 | .sl l => .sl l
 | .ptr x => .ptr x
 | .ow m T l => .ow m T l
 | .fz x => .fz x
 | .dead => .dead
def renL (ρ:Nat → Nat):List AV → List AV
 | [] => []
 | x :: l => x.ren ρ :: renL ρ l
end
theorem renL_get {ρ:Nat → Nat}:∀ {l:List AV} {i:Nat},(renL ρ l)[i]? = (l[i]?).map (·.ren ρ)
 | [],i => by simp [renL]
 | x :: l,0 => by simp [renL]
 | x :: l,i + 1 => by simp [renL,renL_get (l:=l)]
theorem renL_len {ρ:Nat → Nat}:∀ {l:List AV},(renL ρ l).length = l.length
 | [] => rfl
 | x :: l => by simp [renL,renL_len (l:=l)]
theorem ren_one {ρ:Nat → Nat}:∀ {x:AV},(x.ren ρ).one = x.one:=by
 intro x
 cases x <;> rfl
theorem renL_one {ρ:Nat → Nat}:∀ {l:List AV},(∀ x ∈ renL ρ l,x.one = true) → ∀ x ∈ l,x.one = true
 | [],_,x,hx => by cases hx
 | y :: l,h,x,hx => by
  rcases List.mem_cons.1 hx with rfl | hx
  ·rw [← ren_one (ρ:=ρ)]
   exact h _ (show x.ren ρ ∈ x.ren ρ :: renL ρ l from List.mem_cons_self)
  ·exact renL_one (fun z hz => h z (show z ∈ y.ren ρ :: renL ρ l from List.mem_cons_of_mem _ hz)) x hx
theorem mem_keysL {k:Nat}:∀ {l:List AV},k ∈ keysL l ↔ ∃ x ∈ l,k ∈ x.keys
 | [] => by simp [keysL]
 | x :: l => by simp [keysL,mem_keysL (l:=l)]
/-- Where the k-th cell from an address on lies. -/
def cellAt (a:Addr) (k:Nat):Addr:=⟨a.block,a.off + k,none⟩
theorem add_eq {a:Addr} (h:a.spot = none) (k:Nat):a.add k = cellAt a k:=by
 unfold Addr.add cellAt
 by_cases hk:k = 0
 ·subst hk
  simp
  cases a
  simp_all
 ·simp [hk]

mutual
/-- A value in a world is this plain value; the cells that it reads are ok. -/
inductive Rep (w : World) (ok : Nat → Nat → Prop) : AV → Value → Prop
 | val (v:Value) (h:flat v = true):Rep w ok (.val v) v
 | sl (l:List AV) (A:Option Addr) (n c sz:Nat) (ad:Addr) (cs:Nat → List Value) (hn:l.length = n) (hc:n ≤ c ∧ n ≤ 9223372036854775807) (hA:0 < n → A = some ad ∧ ad.spot = none ∧ ∀ k,k < n * sz → ok ad.block (ad.off + k))
   (h:∀ (i:Nat) (x:AV),l[i]? = some x → Cs w ok x (cs i)) (hs:∀ i,i < n → (cs i).length = sz)
   (hm:∀ i,i < n → ∀ j u,(cs i)[j]? = some u → w.cell? (cellAt ad (i * sz + j)) = some u):Rep w ok (.sl l) (.slice A n c)
 | agg (l:List AV) (cs:List Value) (h:Cs w ok (.agg l) cs):Rep w ok (.agg l) (.agg cs.toArray)
 | tup (l:List AV) (vs:List Value) (hl:vs.length = l.length) (h:∀ (i:Nat) (x:AV) (v:Value),l[i]? = some x → vs[i]? = some v → Rep w ok x v):Rep w ok (.tup l) (.tuple vs.toArray)
 | ptr (x:AV) (ad:Addr) (cs:List Value) (hs:ad.spot = none) (h:Cs w ok x cs) (hk:∀ k,k < cs.length → ok ad.block (ad.off + k)) (hm:∀ j u,cs[j]? = some u → w.cell? (cellAt ad j) = some u):Rep w ok (.ptr x) (.pointer (some ad))
 | fn (f:FuncId) (c:List AV) (vs:List Value) (hl:vs.length = c.length) (h:∀ (i:Nat) (x:AV) (v:Value),c[i]? = some x → vs[i]? = some v → Rep w ok x v):Rep w ok (.fn f c) (.func (.func f) #[] vs.toArray)
/-- Cells that are a plain value. -/
inductive Cs (w : World) (ok : Nat → Nat → Prop) : AV → List Value → Prop
 | one (x:AV) (v:Value) (hx:x.one = true) (h:Rep w ok x v):Cs w ok x [v]
 | agg (l:List AV) (vs:List Value) (hl:vs.length = l.length) (ho:∀ x,x ∈ l → x.one = true) (h:∀ (i:Nat) (x:AV) (v:Value),l[i]? = some x → vs[i]? = some v → Rep w ok x v):Cs w ok (.agg l) vs
end

mutual
theorem Rep.mono {w w':World} {ok ok':Nat → Nat → Prop} (hm:∀ b o,ok b o → w'.cell? ⟨b,o,none⟩ = w.cell? ⟨b,o,none⟩) (hok:∀ b o,ok b o → ok' b o):∀ {x:AV} {v:Value},Rep w ok x v → Rep w' ok' x v
 | _,_,.val v h => .val v h
 | _,_,.sl l A n c sz ad cs hn hc hA h hs hm2 =>
  .sl l A n c sz ad cs hn hc (fun h0 => ⟨(hA h0).1,(hA h0).2.1,fun k hk => hok _ _ ((hA h0).2.2 k hk)⟩) (fun i x hx => Cs.mono hm hok (h i x hx)) hs
   (fun i hi j u hu => by
    have hj:j < sz:=by rw [← hs i hi]; exact (List.getElem?_eq_some_iff.1 hu).1
    have hlt:i * sz + j < n * sz:=by
     have h1:(i + 1) * sz ≤ n * sz:=Nat.mul_le_mul_right sz hi
     rw [Nat.add_mul,Nat.one_mul] at h1
     exact Nat.lt_of_lt_of_le (Nat.add_lt_add_left hj _) h1
    exact (hm _ _ ((hA (Nat.lt_of_le_of_lt (Nat.zero_le _) hi)).2.2 _ hlt)).trans (hm2 i hi j u hu))
 | _,_,.agg l cs h => .agg l cs (Cs.mono hm hok h)
 | _,_,.tup l vs hl h => .tup l vs hl (fun i x v hx hv => Rep.mono hm hok (h i x v hx hv))
 | _,_,.ptr x ad cs hs h hk hm2 => .ptr x ad cs hs (Cs.mono hm hok h) (fun k hlt => hok _ _ (hk k hlt)) (fun j u hu => (hm _ _ (hk j (List.getElem?_eq_some_iff.1 hu).1)).trans (hm2 j u hu))
 | _,_,.fn f c vs hl h => .fn f c vs hl (fun i x v hx hv => Rep.mono hm hok (h i x v hx hv))
theorem Cs.mono {w w':World} {ok ok':Nat → Nat → Prop} (hm:∀ b o,ok b o → w'.cell? ⟨b,o,none⟩ = w.cell? ⟨b,o,none⟩) (hok:∀ b o,ok b o → ok' b o):∀ {x:AV} {cs:List Value},Cs w ok x cs → Cs w' ok' x cs
 | _,_,.one x v hx h => .one x v hx (Rep.mono hm hok h)
 | _,_,.agg l vs hl ho h => .agg l vs hl ho (fun i x v hx hv => Rep.mono hm hok (h i x v hx hv))
end
theorem Cs.len {w:World} {ok:Nat → Nat → Prop} {x:AV} {cs:List Value} (h:Cs w ok x cs):cs.length = x.cnt:=by
 cases h with
 | one x v hx h => cases x <;> simp_all [AV.one,AV.cnt]
 | agg l vs hl ho h => exact hl
theorem one_cell {w:World} {ok:Nat → Nat → Prop} {x:AV} {v:Value} (hx:x.one = true) (h:Rep w ok x v):v.oneCell' = true:=by
 cases h with
 | val v h => unfold flat at h; split at h <;> first | rfl | cases h
 | sl => rfl
 | agg => cases hx
 | tup => cases hx
 | ptr => rfl
 | fn => rfl

/-! ### Values that name keys -/
inductive RepK (w : World) (ok : Nat → Nat → Prop) (ν : Nat → Value) : AV → Value → Prop
 | imm {x:AV} {v:Value} (h:Rep w ok x v):RepK w ok ν x v
 | loc (k i b:Nat) (h:ν k = .pointer (some ⟨b,0,none⟩)):RepK w ok ν (.loc k i) (.pointer (some ⟨b,i,none⟩))
 | row (k:Nat) (A:Option Addr) (n c:Nat) (h:ν k = .slice A n c):RepK w ok ν (.row k) (.slice A n c)
 | el (k i sz j g n c:Nat) (h:ν k = .slice (some ⟨g,0,none⟩) n c):RepK w ok ν (.el k i sz j) (.pointer (some ⟨g,i * sz + j,none⟩))
 | tl (k i sz g n c:Nat) (h:ν k = .slice (some ⟨g,0,none⟩) n c):RepK w ok ν (.tl k i sz) (.slice (some ⟨g,i * sz,none⟩) (n - i) (c - i))
 | agg (l:List AV) (vs:List Value) (hl:vs.length = l.length) (ho:∀ x,x ∈ l → x.one = true) (h:∀ (i:Nat) (x:AV) (v:Value),l[i]? = some x → vs[i]? = some v → RepK w ok ν x v):RepK w ok ν (.agg l) (.agg vs.toArray)
 | tup (l:List AV) (vs:List Value) (hl:vs.length = l.length) (h:∀ (i:Nat) (x:AV) (v:Value),l[i]? = some x → vs[i]? = some v → RepK w ok ν x v):RepK w ok ν (.tup l) (.tuple vs.toArray)
 | fn (f:FuncId) (c:List AV) (vs:List Value) (hl:vs.length = c.length) (h:∀ (i:Nat) (x:AV) (v:Value),c[i]? = some x → vs[i]? = some v → RepK w ok ν x v):RepK w ok ν (.fn f c) (.func (.func f) #[] vs.toArray)
section
variable {w w':World} {ok ok':Nat → Nat → Prop} {ν ν':Nat → Value}
theorem RepK.mono (hm:∀ b o,ok b o → w'.cell? ⟨b,o,none⟩ = w.cell? ⟨b,o,none⟩) (hok:∀ b o,ok b o → ok' b o) {x:AV} {v:Value} (h:RepK w ok ν x v):RepK w' ok' ν x v:=by
 induction h with
 | imm h => exact .imm (Rep.mono hm hok h)
 | loc k i b h => exact .loc k i b h
 | row k A n c h => exact .row k A n c h
 | el k i sz j g n c h => exact .el k i sz j g n c h
 | tl k i sz g n c h => exact .tl k i sz g n c h
 | agg l vs hl ho h ih => exact .agg l vs hl ho ih
 | tup l vs hl h ih => exact .tup l vs hl ih
 | fn f c vs hl h ih => exact .fn f c vs hl ih
theorem RepK.congr {x:AV} {v:Value} (h:RepK w ok ν x v) (hk:∀ k ∈ x.keys,ν' k = ν k):RepK w ok ν' x v:=by
 induction h with
 | imm h => exact .imm h
 | loc k i b h => exact .loc k i b ((hk k (by simp [AV.keys])).trans h)
 | row k A n c h => exact .row k A n c ((hk k (by simp [AV.keys])).trans h)
 | el k i sz j g n c h => exact .el k i sz j g n c ((hk k (by simp [AV.keys])).trans h)
 | tl k i sz g n c h => exact .tl k i sz g n c ((hk k (by simp [AV.keys])).trans h)
 | agg l vs hl ho h ih => exact .agg l vs hl ho fun i x v hx hv => ih i x v hx hv fun k hq => hk k (by simp only [AV.keys]; exact mem_keysL.2 ⟨x,List.mem_of_getElem? hx,hq⟩)
 | tup l vs hl h ih => exact .tup l vs hl fun i x v hx hv => ih i x v hx hv fun k hq => hk k (by simp only [AV.keys]; exact mem_keysL.2 ⟨x,List.mem_of_getElem? hx,hq⟩)
 | fn f c vs hl h ih => exact .fn f c vs hl fun i x v hx hv => ih i x v hx hv fun k hq => hk k (by simp only [AV.keys]; exact mem_keysL.2 ⟨x,List.mem_of_getElem? hx,hq⟩)
theorem agg_inv {l:List AV} {v:Value} (h:RepK w ok ν (.agg l) v):∃ vs:List Value,v = .agg vs.toArray ∧ vs.length = l.length ∧ (∀ x ∈ l,x.one = true) ∧ ∀ (i:Nat) (x:AV) (u:Value),l[i]? = some x → vs[i]? = some u → RepK w ok ν x u:=by
 cases h with
 | imm h =>
  cases h with
  | agg _ cs h =>
   cases h with
   | one _ _ hx _ => cases hx
   | agg _ _ hl ho h => exact ⟨cs,rfl,hl,ho,fun i x u hx hu => .imm (h i x u hx hu)⟩
 | agg _ vs hl ho h => exact ⟨vs,rfl,hl,ho,h⟩
theorem tup_inv {l:List AV} {v:Value} (h:RepK w ok ν (.tup l) v):∃ vs:List Value,v = .tuple vs.toArray ∧ vs.length = l.length ∧ ∀ (i:Nat) (x:AV) (u:Value),l[i]? = some x → vs[i]? = some u → RepK w ok ν x u:=by
 cases h with
 | imm h =>
  cases h with
  | tup _ cs hl h => exact ⟨cs,rfl,hl,fun i x u hx hu => .imm (h i x u hx hu)⟩
 | tup _ vs hl h => exact ⟨vs,rfl,hl,h⟩
theorem fn_inv {f:FuncId} {l:List AV} {v:Value} (h:RepK w ok ν (.fn f l) v):∃ vs:List Value,v = .func (.func f) #[] vs.toArray ∧ vs.length = l.length ∧ ∀ (i:Nat) (x:AV) (u:Value),l[i]? = some x → vs[i]? = some u → RepK w ok ν x u:=by
 cases h with
 | imm h =>
  cases h with
  | fn _ _ cs hl h => exact ⟨cs,rfl,hl,fun i x u hx hu => .imm (h i x u hx hu)⟩
 | fn _ _ vs hl h => exact ⟨vs,rfl,hl,h⟩
theorem loc_inv {k i:Nat} {v:Value} (h:RepK w ok ν (.loc k i) v):∃ b,ν k = .pointer (some ⟨b,0,none⟩) ∧ v = .pointer (some ⟨b,i,none⟩):=by
 cases h with
 | imm h => cases h
 | loc _ _ b h => exact ⟨b,h,rfl⟩
theorem row_inv {k:Nat} {v:Value} (h:RepK w ok ν (.row k) v):v = ν k ∧ ∃ A n c,ν k = .slice A n c:=by
 cases h with
 | imm h => cases h
 | row _ A n c h => exact ⟨h.symm,A,n,c,h⟩
theorem el_inv {k i sz j:Nat} {v:Value} (h:RepK w ok ν (.el k i sz j) v):∃ g n c,ν k = .slice (some ⟨g,0,none⟩) n c ∧ v = .pointer (some ⟨g,i * sz + j,none⟩):=by
 cases h with
 | imm h => cases h
 | el _ _ _ _ g n c h => exact ⟨g,n,c,h,rfl⟩
theorem tl_inv {k i sz:Nat} {v:Value} (h:RepK w ok ν (.tl k i sz) v):∃ g n c,ν k = .slice (some ⟨g,0,none⟩) n c ∧ v = .slice (some ⟨g,i * sz,none⟩) (n - i) (c - i):=by
 cases h with
 | imm h => cases h
 | tl _ _ _ g n c h => exact ⟨g,n,c,h,rfl⟩
theorem val_inv {u v:Value} (h:RepK w ok ν (.val u) v):Rep w ok (.val u) v:=by
 cases h with
 | imm h => exact h
theorem sl_inv {l:List AV} {v:Value} (h:RepK w ok ν (.sl l) v):Rep w ok (.sl l) v:=by
 cases h with
 | imm h => exact h
theorem ptr_inv {x:AV} {v:Value} (h:RepK w ok ν (.ptr x) v):Rep w ok (.ptr x) v:=by
 cases h with
 | imm h => exact h
theorem RepK.one_cell {x:AV} {v:Value} (hx:x.one = true) (h:RepK w ok ν x v):v.oneCell' = true:=by
 cases h with
 | imm h => exact Rh.one_cell hx h
 | loc => rfl
 | row => rfl
 | el => cases hx
 | tl => cases hx
 | agg => cases hx
 | tup => cases hx
 | fn => rfl
mutual
theorem RepK.unren {ρ:Nat → Nat}:∀ {x:AV} {v:Value},RepK w ok ν (x.ren ρ) v → RepK w ok (fun k => ν (ρ k)) x v
 | .agg l,v,h => by
  obtain ⟨vs,rfl,hl,ho,h1⟩:=agg_inv h
  rw [renL_len] at hl
  exact .agg l vs hl (renL_one ho) fun i x v hx hv => unrenL (fun j y u hy hu => h1 j _ u (by rw [renL_get,hy]; rfl) hu) i x v hx hv
 | .tup l,v,h => by
  obtain ⟨vs,rfl,hl,h1⟩:=tup_inv h
  rw [renL_len] at hl
  exact .tup l vs hl fun i x v hx hv => unrenL (fun j y u hy hu => h1 j _ u (by rw [renL_get,hy]; rfl) hu) i x v hx hv
 | .fn f l,v,h => by
  obtain ⟨vs,rfl,hl,h1⟩:=fn_inv h
  rw [renL_len] at hl
  exact .fn f l vs hl fun i x v hx hv => unrenL (fun j y u hy hu => h1 j _ u (by rw [renL_get,hy]; rfl) hu) i x v hx hv
 | .loc k i,v,h => by
  obtain ⟨b,h1,rfl⟩:=loc_inv h
  exact .loc k i b h1
 | .row k,v,h => by
  obtain ⟨rfl,A,n,c,h1⟩:=row_inv h
  have h1:ν (ρ k) = .slice A n c:=h1
  rw [h1]
  exact .row k A n c h1
 | .el k i s j,v,h => by
  obtain ⟨g,n,c,h1,rfl⟩:=el_inv h
  exact .el k i s j g n c h1
 | .tl k i s,v,h => by
  obtain ⟨g,n,c,h1,rfl⟩:=tl_inv h
  exact .tl k i s g n c h1
 | .val u,v,h => .imm (val_inv h)
 | .sl u,v,h => .imm (sl_inv h)
 | .ptr u,v,h => .imm (ptr_inv h)
 | .box x,v,h => by
  cases h with
  | imm h => cases h
 | .ow m T l,v,h => by
  cases h with
  | imm h => cases h
 | .fz x,v,h => by
  cases h with
  | imm h => cases h
 | .dead,v,h => by
  cases h with
  | imm h => cases h
theorem unrenL {ρ:Nat → Nat}:∀ {l:List AV} {vs:List Value},(∀ (i:Nat) (x:AV) (v:Value),l[i]? = some x → vs[i]? = some v → RepK w ok ν (x.ren ρ) v) → ∀ (i:Nat) (x:AV) (v:Value),l[i]? = some x → vs[i]? = some v → RepK w ok (fun k => ν (ρ k)) x v
 | [],vs,h,i,x,v,hx,hv => by simp at hx
 | y :: l,vs,h,0,x,v,hx,hv => by
  have:=h 0 y v rfl hv
  simp only [List.getElem?_cons_zero,Option.some.injEq] at hx
  subst hx
  exact RepK.unren this
 | y :: l,[],h,i + 1,x,v,hx,hv => by simp at hv
 | y :: l,u :: vs,h,i + 1,x,v,hx,hv => unrenL (l:=l) (vs:=vs) (fun j z r hz hr => h (j + 1) z r (by simpa using hz) (by simpa using hr)) i x v (by simpa using hx) (by simpa using hv)
end
mutual
theorem ren_keys {ρ:Nat → Nat}:∀ {x:AV} {k:Nat},k ∈ (x.ren ρ).keys ↔ ∃ q ∈ x.keys,ρ q = k
 | .agg l,k => by simp only [AV.ren,AV.keys]; exact renL_keys
 | .tup l,k => by simp only [AV.ren,AV.keys]; exact renL_keys
 | .fn f l,k => by simp only [AV.ren,AV.keys]; exact renL_keys
 | .loc q i,k => by simp [AV.ren,AV.keys,eq_comm]
 | .row q,k => by simp [AV.ren,AV.keys,eq_comm]
 | .el q i s j,k => by simp [AV.ren,AV.keys,eq_comm]
 | .tl q i s,k => by simp [AV.ren,AV.keys,eq_comm]
 | .box x,k => by simp only [AV.ren,AV.keys]; exact ren_keys
 | .val _,k => by simp [AV.ren,AV.keys]
 | .sl _,k => by simp [AV.ren,AV.keys]
 | .ptr _,k => by simp [AV.ren,AV.keys]
 | .ow _ _ _,k => by simp [AV.ren,AV.keys]
 | .fz _,k => by simp [AV.ren,AV.keys]
 | .dead,k => by simp [AV.ren,AV.keys]
theorem renL_keys {ρ:Nat → Nat}:∀ {l:List AV} {k:Nat},k ∈ keysL (renL ρ l) ↔ ∃ q ∈ keysL l,ρ q = k
 | [],k => by simp [renL,keysL]
 | x :: l,k => by
  simp only [renL,keysL,List.mem_append,ren_keys (x:=x),renL_keys (l:=l)]
  constructor
  ·rintro (⟨q,h,e⟩ | ⟨q,h,e⟩)
   ·exact ⟨q,.inl h,e⟩
   ·exact ⟨q,.inr h,e⟩
  ·rintro ⟨q,h | h,e⟩
   ·exact .inl ⟨q,h,e⟩
   ·exact .inr ⟨q,h,e⟩
end
/-- Cells that are a plain value with keys. -/
def CsK (w:World) (ok:Nat → Nat → Prop) (ν:Nat → Value) (x:AV) (cs:List Value):Prop :=
 match x with
 | .agg l => cs.length = l.length ∧ (∀ x ∈ l,x.one = true) ∧ ∀ (i:Nat) (x:AV) (v:Value),l[i]? = some x → cs[i]? = some v → RepK w ok ν x v
 | x => x.one = true ∧ ∃ v,cs = [v] ∧ RepK w ok ν x v
theorem CsK.mono (hm:∀ b o,ok b o → w'.cell? ⟨b,o,none⟩ = w.cell? ⟨b,o,none⟩) (hok:∀ b o,ok b o → ok' b o) {x:AV} {cs:List Value} (h:CsK w ok ν x cs):CsK w' ok' ν x cs:=by
 unfold CsK at h ⊢
 split at h
 ·exact ⟨h.1,h.2.1,fun i x v hx hv => (h.2.2 i x v hx hv).mono hm hok⟩
 ·obtain ⟨h1,v,rfl,h2⟩:=h
  exact ⟨h1,v,rfl,h2.mono hm hok⟩
theorem CsK.congr {x:AV} {cs:List Value} (h:CsK w ok ν x cs) (hk:∀ k ∈ x.keys,ν' k = ν k):CsK w ok ν' x cs:=by
 unfold CsK at h ⊢
 split at h
 ·exact ⟨h.1,h.2.1,fun i x v hx hv => (h.2.2 i x v hx hv).congr fun k hq => hk k (by simp only [AV.keys]; exact mem_keysL.2 ⟨x,List.mem_of_getElem? hx,hq⟩)⟩
 ·obtain ⟨h1,v,rfl,h2⟩:=h
  exact ⟨h1,v,rfl,h2.congr hk⟩
theorem CsK.unren {ρ:Nat → Nat} {x:AV} {cs:List Value} (h:CsK w ok ν (x.ren ρ) cs):CsK w ok (fun k => ν (ρ k)) x cs:=by
 cases x with
 | agg l =>
  obtain ⟨h1,h2,h3⟩:=h
  rw [renL_len] at h1
  exact ⟨h1,renL_one h2,fun i x v hx hv => RepK.unren (h3 i _ v (by rw [renL_get,hx]; rfl) hv)⟩
 | _ =>
  obtain ⟨h1,v,rfl,h2⟩:=h
  exact ⟨by rw [ren_one] at h1; exact h1,v,rfl,RepK.unren h2⟩
theorem CsK.one {x:AV} {v:Value} (hx:x.one = true) (h:RepK w ok ν x v):CsK w ok ν x [v]:=by
 cases x <;> first | exact ⟨hx,v,rfl,h⟩ | cases hx
theorem CsK.len {x:AV} {cs:List Value} (h:CsK w ok ν x cs):cs.length = x.cnt:=by
 cases x with
 | agg l => exact h.1
 | _ =>
  obtain ⟨h1,v,rfl,h2⟩:=h
  rfl
theorem Cs.toK {x:AV} {cs:List Value} (h:Cs w ok x cs):CsK w ok ν x cs:=by
 cases h with
 | one x v hx h => exact CsK.one hx (.imm h)
 | agg l vs hl ho h => exact ⟨hl,ho,fun i x v hx hv => .imm (h i x v hx hv)⟩
mutual
/-- No keys are named. -/
def AV.kf:AV → Bool
 | .agg l => kfL l
 | .tup l => kfL l
 | .fn _ c => kfL c
 | .val _ => true
 | .sl _ => true
 | .ptr _ => true
 | .loc _ _ => false
 | .row _ => false
 | .el _ _ _ _ => false
 | .tl _ _ _ => false
 | .box _ => false
 | .ow _ _ _ => false
 | .fz _ => false
 | .dead => false
def kfL:List AV → Bool
 | [] => true
 | x :: l => x.kf && kfL l
end
theorem kfL_mem:∀ {l:List AV},kfL l = true → ∀ x ∈ l,x.kf = true
 | [],_,x,hx => by cases hx
 | y :: l,h,x,hx => by
  simp only [kfL,Bool.and_eq_true] at h
  rcases List.mem_cons.1 hx with rfl | hx
  ·exact h.1
  ·exact kfL_mem h.2 x hx
theorem RepK.rep {x:AV} {v:Value} (h:RepK w ok ν x v) (hk:x.kf = true):Rep w ok x v:=by
 induction h with
 | imm h => exact h
 | loc k i b h => cases hk
 | row k A n c h => cases hk
 | el k i sz j g n c h => cases hk
 | tl k i sz g n c h => cases hk
 | agg l vs hl ho h ih =>
  simp only [AV.kf] at hk
  exact .agg l vs (.agg l vs hl ho fun i x v hx hv => ih i x v hx hv (kfL_mem hk x (List.mem_of_getElem? hx)))
 | tup l vs hl h ih =>
  simp only [AV.kf] at hk
  exact .tup l vs hl fun i x v hx hv => ih i x v hx hv (kfL_mem hk x (List.mem_of_getElem? hx))
 | fn f c vs hl h ih =>
  simp only [AV.kf] at hk
  exact .fn f c vs hl fun i x v hx hv => ih i x v hx hv (kfL_mem hk x (List.mem_of_getElem? hx))
theorem CsK.cs {x:AV} {cs:List Value} (h:CsK w ok ν x cs) (hk:x.kf = true):Cs w ok x cs:=by
 cases x with
 | agg l =>
  simp only [AV.kf] at hk
  exact .agg l cs h.1 h.2.1 fun i x v hx hv => (h.2.2 i x v hx hv).rep (kfL_mem hk x (List.mem_of_getElem? hx))
 | _ =>
  obtain ⟨h1,v,rfl,h2⟩:=h
  exact .one _ v h1 (h2.rep hk)
end
theorem kfL_of:∀ {l:List AV},(∀ x ∈ l,x.kf = true) → kfL l = true
 | [],_ => by simp [kfL]
 | x :: l,h => by
  simp only [kfL,Bool.and_eq_true]
  exact ⟨h x List.mem_cons_self,kfL_of fun y hy => h y (List.mem_cons_of_mem _ hy)⟩
theorem kfL_get {l:List AV} {α:Type} {vs:List α} (hl:vs.length = l.length) (h:∀ (i:Nat) (x:AV) (v:α),l[i]? = some x → vs[i]? = some v → x.kf = true):kfL l = true :=
 kfL_of fun x hx => by
  obtain ⟨i,hi⟩:=List.mem_iff_getElem?.1 hx
  have hlt:=(List.getElem?_eq_some_iff.1 hi).1
  exact h i x _ hi (List.getElem?_eq_getElem (by omega))
mutual
theorem Rep.kfx {w:World} {ok:Nat → Nat → Prop}:∀ {x:AV} {v:Value},Rep w ok x v → x.kf = true
 | _,_,.val v h => rfl
 | _,_,.sl l A n c sz ad cs hn hc hA h hs hm2 => rfl
 | _,_,.agg l cs h => Cs.kfx h
 | _,_,.tup l vs hl h => kfL_get hl (fun i x v hx hv => Rep.kfx (h i x v hx hv))
 | _,_,.ptr x ad cs hs h hk hm2 => rfl
 | _,_,.fn f c vs hl h => kfL_get hl (fun i x v hx hv => Rep.kfx (h i x v hx hv))
theorem Cs.kfx {w:World} {ok:Nat → Nat → Prop}:∀ {x:AV} {cs:List Value},Cs w ok x cs → x.kf = true
 | _,_,.one x v hx h => Rep.kfx h
 | _,_,.agg l vs hl ho h => kfL_get hl (fun i x v hx hv => Rep.kfx (h i x v hx hv))
end
end Go.Rh

namespace Go.Rh
open Go.RowKit

/-! ### Operations that look at their operands alone -/
def pureRun {α:Type} (P:Program):Sem α → Option α
 | .pure a => some a
 | .program k => pureRun P (k P)
 | _ => none
theorem pureRun_run {α:Type} {P:Program}:∀ {s:Sem α} {a:α},pureRun P s = some a → ∀ w,s.run P w = .ok a w
 | .pure b,a,h,w => by
  simp only [pureRun,Option.some.injEq] at h
  subst h
  rfl
 | .program k,a,h,w => by
  simp only [pureRun] at h
  exact pureRun_run h w
 | .load ..,_,h,_ => by simp [pureRun] at h
 | .store ..,_,h,_ => by simp [pureRun] at h
 | .new ..,_,h,_ => by simp [pureRun] at h
 | .shape ..,_,h,_ => by simp [pureRun] at h
 | .freeze ..,_,h,_ => by simp [pureRun] at h
 | .frozen ..,_,h,_ => by simp [pureRun] at h
 | .getObj ..,_,h,_ => by simp [pureRun] at h
 | .setObj ..,_,h,_ => by simp [pureRun] at h
 | .choose ..,_,h,_ => by simp [pureRun] at h
 | .sys ..,_,h,_ => by simp [pureRun] at h
 | .mark ..,_,h,_ => by simp [pureRun] at h
 | .halt ..,_,h,_ => by simp [pureRun] at h

/-! ### Slots and keys -/
abbrev Env:=Nat → Option AV
def Env.put (e:Env) (d:Nat) (x:Option AV):Env:=fun t => bif Nat.beq t d then x else e t
theorem Env.put_same (e:Env) (d:Nat) (x:Option AV):e.put d x d = x:=by
 unfold Env.put
 rw [Nat.beq_refl]
 rfl
theorem Env.put_ne (e:Env) {d t:Nat} (x:Option AV) (h:t ≠ d):e.put d x t = e t:=by
 unfold Env.put
 have:Nat.beq t d = false:=by
  cases hb:Nat.beq t d
  ·rfl
  ·exact absurd (Nat.eq_of_beq_eq_true hb) h
 rw [this]
 rfl
def mem (k:Nat):List Nat → Bool
 | [] => false
 | q :: l => Nat.beq k q || mem k l
theorem mem_iff {k:Nat}:∀ {l:List Nat},mem k l = true ↔ k ∈ l
 | [] => by simp [mem]
 | q :: l => by
  simp only [mem,Bool.or_eq_true,mem_iff (l:=l),List.mem_cons]
  exact Iff.intro (fun h => h.imp Nat.eq_of_beq_eq_true id) (fun h => h.imp (fun (h:k = q) => by rw [h]; exact Nat.beq_refl _) id)
def nodup:List Nat → Bool
 | [] => true
 | k :: l => !mem k l && nodup l
def valsOf:List AV → Option (List Value)
 | [] => some []
 | .val v :: l => (valsOf l).map (v :: ·)
 | _ => none
def AV.toV:AV → Option Value
 | .val v => some v
 | .agg l => (valsOf l).map fun vs => .agg vs.toArray
 | _ => none
def ofVs:List Value → Option (List AV)
 | [] => some []
 | v :: l => bif flat v then (ofVs l).map (.val v :: ·) else none
def ofV (v:Value):Option AV :=
 match v with
 | .agg cs => (ofVs cs.toList).map .agg
 | v => bif flat v then some (.val v) else none
/-- Is it what a key holds? -/
def AV.isC:AV → Bool
 | .box _ => true
 | .ow _ _ _ => true
 | .fz _ => true
 | .dead => true
 | _ => false
def opd (e:Env):Operand → Option AV
 | .tmp t => (e t).bind fun x => bif x.isC then none else some x
 | .const v => ofV v
 | .func f => some (.fn f [])
 | _ => none
def opv (e:Env) (x:Operand):Value:=((opd e x).bind AV.toV).getD undef
def known (e:Env) (x:Operand):Bool:=((opd e x).bind AV.toV).isSome

/-! ### What is answered from outside -/
inductive Ex where
 | normal
 | exit (id:Nat)
 | ret
inductive Ans where
 | call (r:AV)
 | callT (r:AV)
 | callH (ks:List Nat) (r:AV) (post:List (Nat × AV))
 | elem (x:AV)
 | val (v:Value)
 | go
 | goT
 | mut
 | nil (m:Bool) (T:Nat)
 | fz (k:Nat)
 | vw (t:Nat)
 | nl (k i:Nat) (m:Bool) (T K:Nat)
 | vc (k i:Nat)
abbrev Own:=Nat → Option Nat
/-- Where a call began: the world, which of its cells may be told of, which blocks the call may change, and which values the keys stood for. -/
structure Cx where
 w:World
 G:Nat → Nat → Prop
 X:Nat → Prop
 V:Nat → Value
/-- Keys from here on are those that the caller has handed in. -/
abbrev keyB:Nat:=1000000
/-- What a call must leave as it was. -/
def Cx.old (c:Cx) (b:Nat):Prop:=b < c.w.heap.size ∧ ¬ c.X b
structure Keeps (c : Cx) (w : World) : Prop where
 os:w.os = c.w.os
 tape:w.tape = c.w.tape
 output:w.output = c.w.output
 size:c.w.heap.size ≤ w.heap.size
 block:∀ b,c.old b → w.heap[b]? = c.w.heap[b]?
theorem Keeps.refl (c:Cx):Keeps c c.w:=⟨rfl,rfl,rfl,Nat.le_refl _,fun _ _ => rfl⟩
theorem Keeps.trans {c:Cx} {w w':World} (h:Keeps c w) (k:Below w.heap.size w w'):Keeps c w' :=
 ⟨k.os.trans h.os,k.tape.trans h.tape,k.output.trans h.output,Nat.le_trans h.size k.size,fun b hb => (k.block b (Nat.lt_of_lt_of_le hb.1 h.size)).trans (h.block b hb)⟩
theorem Keeps.alloc {c:Cx} {w:World} (h:Keeps c w) (o:Obj):Keeps c (w.alloc o):=h.trans ((Below.refl _ _).alloc (Nat.le_refl _) o)
theorem Keeps.below {c:Cx} {w:World} (h:Keeps c w) (hx:∀ b,¬ c.X b):Below c.w.heap.size c.w w:=⟨h.os,h.tape,h.output,h.size,fun b hb => h.block b ⟨hb,hx b⟩⟩
/-- Which cells stay: of a block of the call's own only the first ones. -/
def okO (w0:Cx) (w:World) (O:Own) (b off:Nat):Prop:=b < w.heap.size ∧ (∀ m,O b = some m → off < m) ∧ (w0.old b → w0.G b off)

section
variable (P:Program)
/-- The block that a key's content has for itself. -/
def hold (x:AV) (v:Value):Option Nat :=
 match x,v with
 | .box _,.pointer (some a) => some a.block
 | .ow _ _ _,v => v.ownBlock
 | _,_ => none
/-- A row of the call's own; m: its elements may be written, else only more may be appended. -/
def OwRep (w:World) (ok:Nat → Nat → Prop) (O:Own) (m:Bool) (T:Nat) (l:List AV) (v:Value):Prop :=
 ∃ sz xs,w.ownsRow 0 T sz v l.length xs ∧ 0 < sz ∧ (P.info? T).map (·.size) = some sz ∧ (∀ (i:Nat) (x:AV),l[i]? = some x → Cs w ok x ((xs.drop (i * sz)).take sz)) ∧ ∀ b,v.ownBlock = some b → O b = some (bif m then 0 else l.length * sz)
/-- What a key holds. -/
def KeyRep (w:World) (ok:Nat → Nat → Prop) (O:Own) (ν:Nat → Value):AV → Value → Prop
 | .box x,v => ∃ b T cs,v = .pointer (some ⟨b,0,none⟩) ∧ O b = some 0 ∧ w.heap[b]? = some (.cells (List.toArray cs) T (0,0)) ∧ CsK w ok ν x cs
 | .ow m T l,v => OwRep P w ok O m T l v
 | .fz x,v => Rep w ok x v
 | .dead,_ => True
 | _,_ => False
/-- What keys hold, each of them apart from the others. -/
structure Heap (w : World) (ok : Nat → Nat → Prop) (O : Own) (ν : Nat → Value) (H : List (Nat × AV)) : Prop where
 rep:∀ k x,(k,x) ∈ H → KeyRep P w ok O ν x (ν k)
 far:∀ k k' x x',(k,x) ∈ H → (k',x') ∈ H → k ≠ k' → ∀ b,hold x (ν k) = some b → hold x' (ν k') ≠ some b
/-- What a call gives back. -/
structure Post (c : Cx) (w' : World) (ν' : Nat → Value) (O' : Own) (pre : List (Nat × AV)) (r : AV) (post : List (Nat × AV)) (v : Value) : Prop where
 keeps:Keeps c w'
 own:∀ b m,O' b = some m → ¬ c.old b ∧ b < w'.heap.size
 st:∀ b off,c.G b off → w'.cell? ⟨b,off,none⟩ = c.w.cell? ⟨b,off,none⟩ ∧ okO c w' O' b off
 same:∀ k x,(k,x) ∈ pre → ν' k = c.V k
 rep:RepK w' (okO c w' O') ν' r v
 heap:Heap P w' (okO c w' O') O' ν' post
/-- A cell of a package's variable that is read, and what it holds all the while. -/
class MemFact where
 fact:Option (Nat × (Value → Prop))
variable [F:MemFact]
def MG (c:Cx):Prop:=∀ g q,F.fact = some (g,q) → c.G g 0 ∧ ¬ c.X g ∧ g < c.w.heap.size ∧ ∃ v,c.w.cell? ⟨g,0,none⟩ = some v ∧ q v
/-- A call, with whatever arguments that are these plain values, and with these contents of keys, answers r and leaves these contents; it changes nothing else that was there. -/
structure CallH (f : FuncId) (args : List AV) (pre : List (Nat × AV)) (r : AV) (post : List (Nat × AV)) : Prop where
 enter:∀ (args:Array Value) (w:World),(callFunc f args).run P w = .ok (.enter f args) w
 calls:∀ (c:Cx) (O:Own) (vs:List Value),(∀ b off,c.G b off → okO c c.w O b off) → (∀ b m,O b = some m → c.X b ∧ b < c.w.heap.size) → (∀ b,c.X b → ∃ m,O b = some m) → vs.length = args.length →
  (∀ (i:Nat) (x:AV) (v:Value),args[i]? = some x → vs[i]? = some v → RepK c.w c.G c.V x v) → Heap P c.w c.G O c.V pre → MG c →
  Calls P f vs.toArray c.w fun e w' => ∃ v ν' O',e = .returned v ∧ Post P c w' ν' O' pre r post v
abbrev CallOk (f:FuncId) (args:List AV) (r:AV):Prop:=CallH P f args [] r []
def aggD:TypeDesc → Bool
 | .struct _ => true
 | .array _ _ => true
 | _ => false
/-- Does a variable of this type take a row of cells, and how many? -/
def tyK (t:TypeId):Option (Bool × Nat):=(P.underlying t).bind fun d => (P.info? t).map fun i => (aggD d,i.size)
def fits (t:TypeId) (x:AV):Bool :=
 match x with
 | .agg l => (tyK P t == some (true,l.length)) && l.all AV.one
 | x => x.one && ((tyK P t).map (·.1) == some false)
def fitsK (t:TypeId) (x:AV):Bool:=fits P t x && ((P.info? t).map (·.size) == some x.cnt)
def fitsE (t:TypeId) (x:AV):Bool :=
 match P.underlying t with
 | some (.slice e) => fits P e x && ((P.info? e).map (·.size) == some x.cnt)
 | _ => false
def isSlice:TypeDesc → Bool
 | .slice _ => true
 | _ => false
/-- The slots and keys that are written, with what; what has to hold; the answers that are left. -/
abbrev Out:=Option (List (Nat × Option AV) × Option Prop × List Ans)
def holds:Option Prop → Prop
 | some p => p
 | none => True
def both:Option Prop → Option Prop → Option Prop
 | none,q => q
 | some p,none => some p
 | some p,some q => some (p ∧ q)
theorem holds_both {p q:Option Prop} (h:holds (both p q)):holds p ∧ holds q:=by
 cases p <;> cases q
 ·exact ⟨trivial,trivial⟩
 ·exact ⟨trivial,h⟩
 ·exact ⟨h,trivial⟩
 ·exact h
def w1 (d:Option Nat) (y:AV):List (Nat × Option AV) :=
 match d with
 | some d => [(d,some y)]
 | none => []
/-- Which keys a slot leads to. -/
structure Hint where
 pt:List (Nat × List Nat)
 cut:List Nat
def ptL:List (Nat × List Nat) → Nat → List Nat
 | [],_ => []
 | (r,l) :: m,t => bif Nat.beq t r then l else ptL m t
def pts (h:Hint):Operand → List Nat
 | .tmp r => ptL h.pt r
 | _ => []
/-- What a key holds to which this operand leads. -/
def cont (h:Hint) (e:Env) (x:Operand) (k:Nat):Option AV:=bif mem k (pts h x) then e k else none
mutual
/-- A value told without keys, but for those of ks; tv: for a while only. -/
def deep (c:Nat → Option AV) (tv:Bool) (ks:List Nat):AV → Option AV
 | .row k => bif mem k ks then some (.row k) else
  match c k with
  | some (.ow m _ l) => bif !m || tv then some (.sl l) else none
  | some (.fz (.sl l)) => some (.sl l)
  | _ => none
 | .loc k i => bif mem k ks then some (.loc k i) else
  match c k with
  | some (.fz (.ptr x)) => bif Nat.beq i 0 then some (.ptr x) else none
  | some (.box x) => bif tv && (Nat.beq i 0 && x.kf) then some (.ptr x) else none
  | _ => none
 | .agg l => (deepL c tv ks l).map .agg
 | .tup l => (deepL c tv ks l).map .tup
 | .fn f l => (deepL c tv ks l).map (.fn f)
 | .val v =>
  match v with
  | .slice none 0 0 => some (.sl [])
  | v => some (.val v)
 | .sl l => some (.sl l)
 | .ptr x => some (.ptr x)
 | .el _ _ _ _ => none
 | .tl _ _ _ => none
 | .box _ => none
 | .ow _ _ _ => none
 | .fz _ => none
 | .dead => none
def deepL (c:Nat → Option AV) (tv:Bool) (ks:List Nat):List AV → Option (List AV)
 | [] => some []
 | x :: l => (deep c tv ks x).bind fun y => (deepL c tv ks l).map (y :: ·)
end
def vw (h:Hint) (e:Env) (x:Operand):Option AV:=(opd e x).bind (deep (cont h e x) false [])
def vwT (h:Hint) (e:Env) (x:Operand):Option AV:=(opd e x).bind (deep (cont h e x) true [])
def args? (h:Hint) (e:Env) (tv:Bool) (ks:List Nat):List Operand → Option (List AV)
 | [] => some []
 | x :: xs => (opd e x).bind fun y => (deep (cont h e x) tv ks y).bind fun z => (args? h e tv ks xs).map (z :: ·)
/-- An operation that looks at known operands alone. -/
def pureOp (e:Env) (s:List Ans) (o:Oper):Out :=
 bif o.op.operands.toList.all (known e) then
  match pureRun P (execOp (opv e) o) with
  | some (.value v) => (ofV v).map fun y => (w1 o.dst y,none,s)
  | _ => none
 else none
def okFlat:AV → Bool
 | .val v => flat v
 | .agg l => l.all fun | .val v => flat v | _ => false
 | _ => false
/-- A result that has no memory. -/
def flatR:AV → Bool
 | .tup l => l.all okFlat
 | x => okFlat x
def BuildIs (t:TypeId) (ps:Array (Nat × Value)) (v:Value):Prop:=∀ w,(Instr.build t ps).run P w = .ok v w
/-- An operator on these values gives that one. -/
def BinIs (op:BinOp) (t:TypeId) (x y:Operand) (vx vy v:Value):Prop:=∀ w,(do eqGuard op t x y vx vy; binOp op t vx vy:Sem Value).run P w = .ok v w
def cmpOp (e:Env) (s:List Ans) (d:Option Nat) (op:BinOp) (t:TypeId) (x y:Operand):Out :=
 bif known e x && known e y then
  match s with
  | .val v :: s => bif flat v then some (w1 d (.val v),some (BinIs P op t x y (opv e x) (opv e y) v),s) else none
  | _ => none
 else none
/-- The length of a list. -/
def lenArg (h:Hint) (e:Env) (c:Call):Option Nat :=
 match c.args.toList with
 | [x] =>
  match vwT h e x with
  | some (.sl l) => bif ((c.argTypes[0]?).bind P.underlying).any isSlice then some l.length else none
  | _ =>
   match opd e x with
   | some (.tl k i sz) =>
    match cont h e x k with
    | some (.ow _ _ l) => bif ((c.argTypes[0]?).bind P.underlying).any isSlice then some (l.length - i) else none
    | _ => none
   | _ => none
 | _ => none
/-- At which cell of a struct a field lies, how many it has, and whether it is a row of cells. -/
def fieldOf (t:TypeId) (i:Nat):Option (Nat × Nat × Bool) :=
 match P.underlying t with
 | some (.struct fs) => (fs[i]?).bind fun f => (tyK P f.type).bind fun q => bif Nat.beq q.2 0 then none else some (f.offset,q.2,q.1)
 | _ => none
/-- A part of a struct. -/
def part? (l:List AV) (j s:Nat) (b:Bool):Option AV :=
 bif b then (let q:=(l.drop j).take s; bif Nat.beq q.length s then some (.agg q) else none) else (l[j]?).bind fun y => bif y.one then some y else none
/-- What a variable of this type at cell i is. -/
def sub (t:TypeId) (z:AV) (i:Nat):Option AV :=
 match z with
 | .agg l => (tyK P t).bind fun q => part? l i q.2 q.1
 | z => bif Nat.beq i 0 && fits P t z then some z else none
def setM {α:Type}:List α → Nat → List α → List α
 | l,_,[] => l
 | l,i,y :: ys => setM (l.set i y) (i + 1) ys
def AV.parts:AV → List AV
 | .agg l => l
 | x => [x]
/-- A variable of this type at cell i is written. -/
def upd (t:TypeId) (z:AV) (i:Nat) (y:AV):Option AV :=
 bif fitsK P t y then
  match z with
  | .agg l => bif Nat.ble (i + y.parts.length) l.length then some (.agg (setM l i y.parts)) else none
  | z => bif Nat.beq i 0 && (z.one && y.one) then some y else none
 else none
/-- A bound of a cut list. -/
def bnd (e:Env):Option Operand → Int → Option Int
 | none,d => some d
 | some o,_ =>
  match opd e o with
  | some (.val (.int _ n)) => some n
  | _ => none
/-- A list's part; its elements take k cells each. -/
def SubIs (k:Nat) (l:List AV) (lo hi:Int) (l':List AV):Prop:=0 ≤ lo ∧ lo ≤ hi ∧ hi ≤ l.length ∧ l' = (l.take hi.toNat).drop lo.toNat ∧ ∀ x ∈ l,x.cnt = k
def elemK (t:TypeId):Option Nat :=
 match P.underlying t with
 | some (.slice el) => (P.info? el).map (·.size)
 | _ => none
/-- An operation on known operands gives that value. -/
def IdxIs (t:TypeId) (x i v:Value):Prop:=∀ w,(Instr.index t x i).run P w = .ok v w
def ConvIs (t u:TypeId) (x v:Value):Prop:=∀ w,(convert t u x).run P w = .ok v w
def CalIs (b:Builtin) (ts:Array TypeId) (t:TypeId) (cs:Array Bool) (xs:Array Value) (v:Value):Prop:=∀ w,(builtin b ts t cs xs).run P w = .ok (.value v) w
def CutIs (t:TypeId) (x:Value) (lo hi mx:Option Value) (v:Value):Prop:=∀ w,(Instr.sliceAt t x lo hi mx).run P w = .ok v w
/-- What has to hold for an asked operation. -/
def OpP (f:Operand → Value) (o:Oper) (v:Value):Prop :=
 match o.op with
 | .index t x i => IdxIs P t (f x) (f i) v
 | .convert t u x => ConvIs P t u (f x) v
 | .slice t x lo hi mx => CutIs P t (f x) (lo.map f) (hi.map f) (mx.map f) v
 | .call ⟨.builtin b,as,ts⟩ => CalIs P b ts o.type (as.map fun | .const _ => true | _ => false) (as.map f) v
 | _ => ∀ w,(execOp f o).run P w = .ok (.value v) w
theorem OpP.ok {P:Program} {f:Operand → Value} {o:Oper} {v:Value} (h:OpP P f o v) (w:World):(execOp f o).run P w = .ok (.value v) w:=by
 unfold OpP at h
 split at h
 ·rename_i t x i ho
  unfold execOp
  rw [ho]
  simp only [Sem.run_bind,h w]
  rfl
 ·rename_i t u x ho
  unfold execOp
  rw [ho]
  simp only [Sem.run_bind,h w]
  rfl
 ·rename_i t x lo hi mx ho
  unfold execOp
  rw [ho]
  simp only [Sem.run_bind,h w]
  rfl
 ·rename_i b as ts ho
  unfold execOp
  rw [ho]
  simp only [resolve,Sem.run_bind,Sem.run_pure,Result.andThen_ok,invoke]
  exact h w
 ·exact h w
theorem OpP.congr {P:Program} {f g:Operand → Value} {o:Oper} (hs:∀ cs b,o.op ≠ .select cs b) (he:execOp f o = execOp g o) (h:∀ x ∈ o.op.operands,f x = g x):OpP P f o = OpP P g o:=by
 funext v
 unfold OpP
 split
 ·rename_i t x i ho
  rw [h x (by simp [ho,Op.operands]),h i (by simp [ho,Op.operands])]
 ·rename_i t u x ho
  rw [h x (by simp [ho,Op.operands])]
 ·rename_i t x lo hi mx ho
  have hm:∀ q:Option Operand,(∀ y,q = some y → y ∈ o.op.operands) → q.map f = q.map g:=by
   intro q hq
   cases q with
   | none => rfl
   | some y => simp only [Option.map_some,h y (hq y rfl)]
  rw [h x (by simp [ho,Op.operands]),hm lo (by rintro y rfl; simp [ho,Op.operands]),hm hi (by rintro y rfl; simp [ho,Op.operands]),hm mx (by rintro y rfl; simp [ho,Op.operands])]
 ·rename_i b as ts ho
  rw [show as.map f = as.map g from Array.map_congr_left fun x hx => h x (by simp [ho,Op.operands,Call.operands,hx])]
 ·rw [he]
def askOp (e:Env) (s:List Ans) (o:Oper):Out :=
 bif o.op.operands.toList.all (known e) then
  match s with
  | .val v :: s => bif flat v then some (w1 o.dst (.val v),some (OpP P (opv e) o v),s) else none
  | _ => none
 else none
variable (h:Hint) (n:Nat)
/-- The number by which an operation's new keys go. -/
def lastTmp:List Operand → Nat
 | [] => 0
 | .tmp r :: l => match l with | [] => r | l => lastTmp l
 | _ :: l => lastTmp l
def opId (o:Oper):Nat :=
 match o.dst with
 | some d => d
 | none => lastTmp o.op.operands.toList
def newK (o:Oper):List Nat:=[n + opId o,2 * n + opId o,3 * n + opId o,4 * n + opId o,5 * n + opId o,6 * n + opId o]
def fresh (e:Env) (k:Nat):Bool:=(e k).isNone
/-- A variable of this type where an address leads. -/
def loadOp (e:Env) (s:List Ans) (d:Option Nat) (t:TypeId) (x:Operand):Out :=
 match opd e x with
 | some (.ptr z) => (sub P t z 0).map fun y => (w1 d y,none,s)
 | some (.loc k i) =>
  match cont h e x k with
  | some (.box z) => (sub P t z i).map fun y => (w1 d y,none,s)
  | some (.fz (.ptr z)) => (sub P t z i).map fun y => (w1 d y,none,s)
  | _ => none
 | some (.el k i sz j) =>
  match cont h e x k,s with
  | some (.ow m T l),.elem z :: s => bif ((P.info? T).map (·.size) == some sz) && Nat.beq z.cnt sz then (sub P t z j).map fun y => (w1 d y,some (l[i]? = some z),s) else none
  | _,_ => none
 | _ => none
def storeOp (e:Env) (s:List Ans) (d:Option Nat) (t:TypeId) (x v:Operand):Out :=
 match opd e x with
 | some (.loc k i) =>
  match cont h e x k,opd e v with
  | some (.box z),some y => (upd P t z i y).bind fun z' => bif d.isNone then some ([(k,some (.box z'))],none,s) else none
  | _,_ => none
 | some (.el k i sz j) =>
  match cont h e x k,vw h e v,s with
  | some (.ow true T l),some y,.elem z :: .elem (.ow m' T' l') :: s =>
   (upd P t z j y).bind fun z' => bif ((P.info? T).map (·.size) == some sz) && (Nat.beq z.cnt sz && (d.isNone && (z.kf && (z.one || z.parts.all AV.one)))) then some ([(k,some (.ow true T l'))],some (l[i]? = some z ∧ l' = l.set i z'),s) else none
  | _,_,_ => none
 | _ => none
/-- Elements that are told one by one, in order. -/
def elems (T:Nat) (e:Env) (k:Nat):List (Nat × Operand) → Option (List AV)
 | [] => some []
 | (i,x) :: l => bif Nat.beq i k then (vw h e x).bind fun y => bif fitsK P T y then (elems T e (k + 1) l).map (y :: ·) else none else none
/-- A kind of element: how many cells, how many bytes; the zero has as many cells. -/
def kindOf (T:Nat):Option (Nat × Nat) :=
 (P.info? T).bind fun i => i.zero.bind fun z => bif Nat.blt 0 i.size && (Nat.blt 0 i.bytes && Nat.beq z.cells.toList.length i.size) then some (i.size,i.bytes) else none
/-- What is captured. -/
def caps (e:Env):List Operand → Option (List AV)
 | [] => some []
 | x :: xs => (opd e x).bind fun y => (caps e xs).map (y :: ·)
def isNil:Operand → Bool
 | .const (.slice none 0 0) => true
 | _ => false
def moveOp (e:Env) (s:List Ans) (d:Option Nat) (x:Operand):Out :=
 bif isNil x then
  match s with
  | .nil m T :: s =>
   match d with
   | some d => bif fresh e (n + d) then (kindOf P T).map fun _ => ([(n + d,some (.ow m T [])),(d,some (.row (n + d)))],none,s) else none
   | none => none
  | .goT :: s => some (w1 d (.sl []),none,s)
  | .go :: s => some (w1 d (.val (.slice none 0 0)),none,s)
  | _ => none
 else (opd e x).map fun y => (w1 d y,none,s)
def AppIs (k bytes:Nat) (l m l':List AV):Prop:=l' = l ++ m ∧ (∀ x ∈ m,x.cnt = k) ∧ l'.length * bytes ≤ 140737488355328
/-- The row to which is appended: its elements, whether they may be written, and what becomes of its key. -/
def appTo (e:Env) (x:Operand) (T:Nat):Option (List AV × Bool × List (Nat × Option AV)) :=
 match opd e x with
 | some (.row k) =>
  match cont h e x k with
  | some (.ow m T' l) => bif Nat.beq T T' then some (l,m,[(k,some (bif m then .dead else .fz (.sl l)))]) else none
  | _ => none
 | some (.val (.slice none 0 0)) => some ([],true,[])
 | _ => none
def lookC:List (Nat × AV) → Nat → Option AV
 | [],_ => none
 | (q,x) :: l,k => bif Nat.beq k q then some x else lookC l k
def keysOf:List (Nat × AV) → List Nat
 | [] => []
 | (k,_) :: l => k :: keysOf l
def keysIn:List (Nat × AV) → List Nat
 | [] => []
 | (_,x) :: l => x.keys ++ keysIn l
/-- The contents of keys, before a call. -/
def preOf (e:Env):List Nat → Option (List (Nat × AV))
 | [] => some []
 | k :: ks => (e k).bind fun x => bif x.isC then (preOf e ks).map ((k,x) :: ·) else none
/-- And what is written of them behind it. -/
def oldW (post:List (Nat × AV)):List Nat → List (Nat × Option AV)
 | [] => []
 | k :: ks => (k,some ((lookC post k).getD .dead)) :: oldW post ks
def newW (ks:List Nat):List (Nat × AV) → List (Nat × Option AV)
 | [] => []
 | (k,x) :: l => bif mem k ks then newW ks l else (k,some x) :: newW ks l
def allPts (h:Hint):List Operand → List Nat
 | [] => []
 | x :: l => pts h x ++ allPts h l
def callKs (e:Env) (s:List Ans) (o:Oper) (xs:List Operand) (f:FuncId) (l:List AV) (ks:List Nat) (r:AV) (post:List (Nat × AV)):Out :=
 (preOf e ks).bind fun pre =>
  bif ks.all (fun k => mem k (allPts h xs)) && (nodup ks && (nodup (keysOf post) && (post.all (fun p => p.2.isC && (mem p.1 ks || (mem p.1 (newK n o) && (Nat.blt p.1 keyB && fresh e p.1)))) && (r.keys ++ keysIn post).all (fun k => mem k (keysOf post))))) then
   some (oldW post ks ++ (newW ks post ++ w1 o.dst r),some (CallH P f l pre r post),s)
  else none
/-- A call of this function; xs: the operands that lead to keys; cs: what is captured. -/
def callOp (e:Env) (s:List Ans) (o:Oper) (xs:List Operand) (f:FuncId) (l:Bool → List Nat → Option (List AV)):Out :=
 match s with
 | .call r :: s => (l false []).bind fun l => callKs P h n e s o xs f l [] r []
 | .callT r :: s => bif flatR r then (l true []).bind fun l => some (w1 o.dst r,some (CallOk P f l r),s) else none
 | .callH ks r post :: s => (l false ks).bind fun l => callKs P h n e s o xs f l ks r post
 | _ => none
/-- Where a struct's or an array's parts lie. -/
def places (t:TypeId):Option (Nat → Option (Nat × Nat)) :=
 match P.info? t,P.underlying t with
 | some _,some (.array _ e) => (P.info? e).map fun ie i => some (i * ie.size,ie.size)
 | some _,some (.struct fs) => (fs.toList.mapM (fun f => (P.info? f.type).map fun i => (f.offset,i.size))).map fun pl i => pl.toArray[i]?
 | _,_ => none
/-- The parts of a struct. -/
def partsOf (pl:Nat → Option (Nat × Nat)) (e:Env):List (Nat × Operand) → List AV → Option (List AV)
 | [],zl => some zl
 | (i,x) :: l,zl => (pl i).bind fun q => (opd e x).bind fun y => bif Nat.beq y.parts.length q.2 && (y.parts.all AV.one && Nat.ble (q.1 + y.parts.length) zl.length) then partsOf pl e l (setM zl q.1 y.parts) else none
def zeroAV (t:TypeId):Option AV:=((P.info? t).bind (·.zero)).bind ofV
/-- The tail of a row that may be written; or its first part, as a row that takes its place. -/
def tailOp (h:Hint) (n:Nat) (e:Env) (s:List Ans) (o:Oper) (t:TypeId) (x:Operand) (lo hi:Option Operand):Out :=
 match opd e x with
 | some (.row k) =>
  match cont h e x k with
  | some (.ow true T l) =>
   match hi with
   | none => (elemK P t).bind fun sz => (bnd e lo 0).bind fun a => some (w1 o.dst (.tl k a.toNat sz),some (0 ≤ a ∧ a.toNat < l.length),s)
   | some hi =>
    match lo,s with
    | none,.elem (.ow m' T' l') :: s => (elemK P t).bind fun sz => (bnd e (some hi) 0).bind fun a => o.dst.bind fun d => bif mem d h.cut && fresh e (n + d) then some ([(k,some .dead),(n + d,some (.ow true T l')),(d,some (.row (n + d)))],some (0 ≤ a ∧ a.toNat ≤ l.length ∧ l' = l.take a.toNat),s) else none
    | _,_ => none
  | _ => none
 | _ => none
/-- A text's bytes; the text of bytes. -/
def BytesIs (t u:TypeId) (b:ByteArray) (l':List AV):Prop:=(∃ d el,P.underlying t = some d ∧ P.underlying u = some (.slice el) ∧ P.underlying el = some (.int .u8)) ∧ b.size ≤ 9223372036854775807 ∧ l' = b.data.toList.map fun c => .val (.int .u8 c.toNat)
def StrIs (t u:TypeId) (l:List AV) (v:Value):Prop:=(∃ el,P.underlying t = some (.slice el) ∧ P.underlying el = some (.int .u8) ∧ P.underlying u = some .string) ∧ ∃ xs:List Int,l = xs.map (fun z => .val (.int .u8 z)) ∧ v = .string (strOfNums xs)
def convOp (h:Hint) (e:Env) (s:List Ans) (o:Oper) (t u:TypeId) (x:Operand):Out :=
 match s with
 | .elem (.sl l') :: s =>
  match opd e x with
  | some (.val (.string b)) => some (w1 o.dst (.sl l'),some (BytesIs P t u b l'),s)
  | _ => none
 | .elem (.val v) :: s =>
  match vwT h e x with
  | some (.sl l) => bif flat v then some (w1 o.dst (.val v),some (StrIs P t u l v),s) else none
  | _ => none
 | s => askOp P e s o
/-- What lies behind is made zero. -/
def clearOp (h:Hint) (e:Env) (s:List Ans) (o:Oper) (c:Call):Out :=
 match c.args.toList,c.argTypes.toList with
 | [x],[t] =>
  match opd e x,P.underlying t,s with
  | some (.tl k i sz),some (.slice T),.elem (.ow m' T' l') :: s =>
   match cont h e x k with
   | some (.ow true T2 l) => (kindOf P T).bind fun q => (zeroAV P T).bind fun z => bif Nat.beq q.1 sz && (Nat.beq T T2 && fitsK P T z) then some ((k,some (.ow true T2 l')) :: w1 o.dst (.tup []),some (i < l.length ∧ l' = l.take i ++ List.replicate (l.length - i) z),s) else none
   | _ => none
  | _,_,_ => none
 | _,_ => none
def evalOp (e:Env) (s:List Ans) (o:Oper):Out :=
 match o.op with
 | .move x => moveOp P n e s o.dst x
 | .assign x => moveOp P n e s o.dst x
 | .pick c a b =>
  match opd e c with
  | some (.val (.bool u)) => (opd e (bif u then a else b)).map fun y => (w1 o.dst y,none,s)
  | _ => none
 | .alloc t => (zeroAV P t).bind fun y => bif fits P t y then o.dst.bind fun d => bif fresh e (n + d) then some ([(n + d,some (.box y)),(d,some (.loc (n + d) 0))],none,s) else none else none
 | .load t x => loadOp P h e s o.dst t x
 | .box t x => (opd e x).bind fun y => bif fits P t y then o.dst.bind fun d => bif fresh e (n + d) then some ([(n + d,some (.box y)),(d,some (.loc (n + d) 0))],none,s) else none else none
 | .nilCheck x =>
  match opd e x with
  | some (.ptr y) => some (w1 o.dst (.ptr y),none,s)
  | some (.fn f c) => some (w1 o.dst (.fn f c),none,s)
  | some (.loc k i) => some (w1 o.dst (.loc k i),none,s)
  | some (.el k i sz j) => some (w1 o.dst (.el k i sz j),none,s)
  | _ => none
 | .store t x v => storeOp P h e s o.dst t x v
 | .indexAddr t x i =>
  match s with
  | .go :: s =>
   match opd e x,opd e i with
   | some (.row k),some (.val (.int _ m)) =>
    match cont h e x k,P.underlying t with
    | some (.ow _ T l),some (.slice T') => bif Nat.beq T T' then (kindOf P T).bind fun q => some (w1 o.dst (.el k m.toNat q.1 0),some (0 ≤ m ∧ m.toNat < l.length),s) else none
    | _,_ => none
   | some (.tl k i0 sz),some (.val (.int _ m)) =>
    match cont h e x k,P.underlying t with
    | some (.ow _ T l),some (.slice T') => bif Nat.beq T T' then (kindOf P T).bind fun q => bif Nat.beq q.1 sz then some (w1 o.dst (.el k (i0 + m.toNat) sz 0),some (0 ≤ m ∧ i0 + m.toNat < l.length),s) else none else none
    | _,_ => none
   | _,_ => none
  | .elem y :: s =>
   match vw h e x,opd e i with
   | some (.sl l),some (.val (.int _ m)) => bif fitsE P t y then some (w1 o.dst (.ptr y),some (0 ≤ m ∧ l[m.toNat]? = some y),s) else none
   | _,_ => none
  | _ => none
 | .slice t x lo hi mx =>
  match mx with
  | none =>
   match s with
   | .elem (.sl l') :: s =>
    match vw h e x with
    | some (.sl l) => (elemK P t).bind fun k => (bnd e lo 0).bind fun a => (bnd e hi l.length).bind fun b => some (w1 o.dst (.sl l'),some (SubIs k l a b l'),s)
    | _ => none
   | .mut :: s => tailOp P h n e s o t x lo hi
   | s => askOp P e s o
  | some m =>
   match s with
   | .goT :: s =>
    match vwT h e x with
    | some (.sl l) => (elemK P t).bind fun _ => (bnd e lo 0).bind fun a => (bnd e hi 0).bind fun b => (bnd e (some m) 0).bind fun c => o.dst.bind fun d => bif hi.isSome then some ([(d,some .dead)],some (0 ≤ a ∧ a ≤ b ∧ b ≤ c ∧ c ≤ l.length),s) else none
    | _ => none
   | s => askOp P e s o
 | .fieldAddr t x i =>
  match opd e x,fieldOf P t i with
  | some (.loc k j),some q => some (w1 o.dst (.loc k (j + q.1)),none,s)
  | some (.el k m sz j),some q => some (w1 o.dst (.el k m sz (j + q.1)),none,s)
  | some (.ptr (.agg l)),some q => (part? l q.1 q.2.1 q.2.2).map fun y => (w1 o.dst (.ptr y),none,s)
  | _,_ => none
 | .field t x i =>
  match opd e x,fieldOf P t i with
  | some (.agg l),some q => (part? l q.1 q.2.1 q.2.2).map fun y => (w1 o.dst y,none,s)
  | _,_ => none
 | .extract x i =>
  match opd e x with
  | some (.tup l) => (l[i]?).map fun y => (w1 o.dst y,none,s)
  | _ => none
 | .buildSlice t len ps =>
  match P.underlying t with
  | some (.slice T) =>
   (kindOf P T).bind fun k => bif Nat.ble (len * k.1) 16777216 && Nat.beq ps.toList.length len then (elems P h T e 0 ps.toList).bind fun l => o.dst.bind fun d => bif fresh e (n + d) then
    match s with
    | .mut :: s => some ([(n + d,some (.ow true T l)),(d,some (.row (n + d)))],none,s)
    | .go :: s => some ([(n + d,some (.ow false T l)),(d,some (.row (n + d)))],none,s)
    | _ => none
   else none else none
  | _ => none
 | .makeSlice t x y =>
  match P.underlying t,opd e x,opd e y,s with
  | some (.slice T),some (.val (.int _ a)),some (.val (.int _ b)),.elem (.ow m T' l) :: s =>
   (kindOf P T).bind fun q => (zeroAV P T).bind fun z => o.dst.bind fun d => bif fresh e (n + d) && (fitsK P T z && Nat.beq T T') then some ([(n + d,some (.ow m T l)),(d,some (.row (n + d)))],some (0 ≤ a ∧ a = b ∧ a * q.2 ≤ 140737488355328 ∧ l = List.replicate a.toNat z),s) else none
  | _,_,_,_ => none
 | .makeFunc (.func f) first cs => bif Nat.beq first.toList.length 0 then (caps e cs.toList).map fun l => (w1 o.dst (.fn f l),none,s) else none
 | .call c =>
  match c.callee with
  | .value (.func f) => callOp P h n e s o c.args.toList f (fun tv ks => args? h e tv ks c.args.toList)
  | .value (.tmp t) =>
   match e t with
   | some (.fn f cs) => callOp P h n e s o (.tmp t :: c.args.toList) f (fun tv ks => (args? h e tv ks c.args.toList).bind fun l => (deepL (cont h e (.tmp t)) tv ks cs).map (l ++ ·))
   | _ => none
  | .builtin .append =>
   match c.args.toList,c.argTypes.toList with
   | [x,y],[t,t'] =>
    match P.underlying t with
    | some (.slice T) =>
     (appTo h e x T).bind fun q =>
      match vw h e y,s with
      | some (.sl m),.elem (.ow u T' l') :: s =>
       bif Nat.beq t t' && (Nat.beq T T' && (!u || q.2.1)) then (kindOf P T).bind fun k => o.dst.bind fun d => bif fresh e (n + d) then some (q.2.2 ++ [(n + d,some (.ow u T l')),(d,some (.row (n + d)))],some (AppIs k.1 k.2 q.1 m l'),s) else none else none
      | _,_ => none
    | _ => none
   | _,_ => none
  | .builtin .len =>
   match lenArg P h e c with
   | some m =>
    match s with
    | .val (.int .i64 m') :: s => some (w1 o.dst (.val (.int .i64 m')),some ((m:Int) = m'),s)
    | _ => none
   | none => pureOp P e s o
  | .builtin .clear => clearOp P h e s o c
  | .builtin .min => askOp P e s o
  | .builtin .max => askOp P e s o
  | .builtin b => pureOp P e s o
  | _ => none
 | .binOp op t x y _ => cmpOp P e s o.dst op t x y
 | .unOp .. => pureOp P e s o
 | .convert t u x => convOp P h e s o t u x
 | .index .. => askOp P e s o
 | .build t ps =>
  match s with
  | .elem y :: s =>
   bif ps.toList.all (fun p => known e p.2) && okFlat y then y.toV.map fun v => (w1 o.dst y,some (BuildIs P t (ps.toList.map fun p => (p.1,opv e p.2)).toArray v),s) else none
  | .go :: s =>
   match zeroAV P t with
   | some (.agg zl) => (places P t).bind fun pl => (partsOf pl e ps.toList zl).map fun l => (w1 o.dst (.agg l),none,s)
   | _ => none
  | _ => none
 | _ => none
def okDst:Option Nat → Bool
 | some d => Nat.blt d n
 | none => true
/-- An operation of a region. -/
def evalG (ops:Array Oper) (e:Env) (s:List Ans) (o:Oper):Out :=
 bif okDst n o.dst then
  match o.guard with
  | none => evalOp P h n e s o
  | some (g,u) =>
   match (ops[g]?).bind (·.dst) with
   | none => none
   | some t =>
    match e t with
    | some (.val (.bool b)) => bif b == u then evalOp P h n e s o else some (w1 o.dst (.tup []),none,s)
    | some (.tup []) => some (w1 o.dst (.tup []),none,s)
    | _ => none
 else none
end
end Go.Rh

namespace Go.Rh
open Go.RowKit
variable [MemFact]

theorem cell_same {w w':World} {b o:Nat} (h:w'.heap[b]? = w.heap[b]?):w'.cell? ⟨b,o,none⟩ = w.cell? ⟨b,o,none⟩:=by
 unfold World.cell?
 rw [h]
theorem RepK.notC {w:World} {ok:Nat → Nat → Prop} {ν:Nat → Value} {x:AV} {v:Value} (h:RepK w ok ν x v):x.isC = false:=by
 cases h with
 | imm h => cases h <;> rfl
 | _ => rfl
def Val (ν:Nat → Value) (k:Nat) (v:Value):Nat → Value:=fun q => if q = k then v else ν q
theorem Val.same (ν:Nat → Value) (k:Nat) (v:Value):Val ν k v k = v:=by simp [Val]
theorem Val.ne (ν:Nat → Value) {k q:Nat} (v:Value) (h:q ≠ k):Val ν k v q = ν q:=by simp [Val,h]
section
variable {P:Program} {w w':World} {ok ok':Nat → Nat → Prop} {ν ν':Nat → Value} {O O':Own}
theorem hold_own {x:AV} {v:Value} {b:Nat} (hr:KeyRep P w ok O ν x v) (hb:hold x v = some b):∃ m,O b = some m:=by
 cases x with
 | box y =>
  obtain ⟨b',T,cs,rfl,h1,h2,h3⟩:=hr
  simp only [hold,Option.some.injEq] at hb
  subst hb
  exact ⟨0,h1⟩
 | ow m T l =>
  obtain ⟨sz,xs,h1,h2,h3,h4,h5⟩:=hr
  exact ⟨_,h5 b hb⟩
 | _ => simp [hold] at hb
theorem hold_notC {x:AV} {v:Value} (h:x.isC = false):hold x v = none:=by
 cases x <;> first | rfl | cases h
theorem KeyRep.isC {x:AV} {v:Value} (h:KeyRep P w ok O ν x v):x.isC = true:=by
 cases x <;> first | rfl | exact h.elim
theorem KeyRep.congr {x:AV} {v:Value} (h:KeyRep P w ok O ν x v) (hk:∀ k ∈ x.keys,ν' k = ν k):KeyRep P w ok O ν' x v:=by
 cases x with
 | box y =>
  obtain ⟨b,T,cs,h1,h2,h3,h4⟩:=h
  exact ⟨b,T,cs,h1,h2,h3,h4.congr hk⟩
 | _ => exact h
theorem KeyRep.unren {ρ:Nat → Nat} {x:AV} {v:Value} (h:KeyRep P w ok O ν (x.ren ρ) v):KeyRep P w ok O (fun k => ν (ρ k)) x v:=by
 cases x with
 | box y =>
  obtain ⟨b,T,cs,h1,h2,h3,h4⟩:=h
  exact ⟨b,T,cs,h1,h2,h3,h4.unren⟩
 | _ => exact h
theorem KeyRep.world {x:AV} {v:Value} (hm:∀ b o,ok b o → w'.cell? ⟨b,o,none⟩ = w.cell? ⟨b,o,none⟩) (hok:∀ b o,ok b o → ok' b o) (hx2:∀ b,hold x v = some b → w'.heap[b]? = w.heap[b]? ∧ O' b = O b) (hr:KeyRep P w ok O ν x v):KeyRep P w' ok' O' ν x v:=by
 cases x with
 | box y =>
  obtain ⟨b,T,cs,rfl,h1,h2,h3⟩:=hr
  obtain ⟨g1,g2⟩:=hx2 b rfl
  exact ⟨b,T,cs,rfl,g2.trans h1,g1.trans h2,h3.mono hm hok⟩
 | ow m T l =>
  obtain ⟨sz,xs,⟨hl,ho2⟩,hsz,hi,hc,hO⟩:=hr
  refine ⟨sz,xs,⟨hl,?_⟩,hsz,hi,fun i x hx => Cs.mono hm hok (hc i x hx),fun b hb2 => ((hx2 b hb2).2).trans (hO b hb2)⟩
  rcases ho2 with hn | ⟨g,cap,cur,rfl,hbg,hg,rest⟩
  ·exact .inl hn
  ·exact .inr ⟨g,cap,cur,rfl,hbg,(hx2 g rfl).1.trans hg,rest⟩
 | fz y => exact Rep.mono hm hok hr
 | dead => exact trivial
 | _ => exact hr.elim
/-- A row of the call's own, told as a list; where its elements may be written, for a while only. -/
theorem ow_view {m:Bool} {T:Nat} {l:List AV} {v:Value} (hr:OwRep P w ok O m T l v) (hok:∀ b off,v.ownBlock = some b → b < w.heap.size → (∀ q,O b = some q → off < (bif m then off + 1 else q)) → ok b off):Rep w ok (.sl l) v:=by
 obtain ⟨sz,xs,⟨hl,ho⟩,hsz,hi,hc,hO⟩:=hr
 rcases ho with ⟨rfl,hn⟩ | ⟨g,cap,cur,rfl,hb,hg,hnc,hcm,hcs,ht⟩
 ·have:l = []:=List.length_eq_zero_iff.1 hn
  subst this
  exact .sl [] none 0 0 0 ⟨0,0,none⟩ (fun _ => []) rfl ⟨Nat.le_refl _,Nat.zero_le _⟩ (fun h => absurd h (Nat.lt_irrefl _)) (fun i x hx => by simp at hx) (fun i hi => absurd hi (Nat.not_lt_zero _)) (fun i hi => absurd hi (Nat.not_lt_zero _))
 ·have hgs:g < w.heap.size:=(Array.getElem?_eq_some_iff.1 hg).1
  have hO:=hO g rfl
  refine .sl l _ l.length cap sz ⟨g,0,none⟩ (fun i => (xs.drop (i * sz)).take sz) rfl ⟨hnc,?_⟩ (fun _ => ⟨rfl,rfl,fun k hk => hok _ _ rfl hgs (fun q hq => ?_)⟩) hc (fun i hi => ?_) (fun i hi j u hu => ?_)
  ·simp only [maxLen] at hcm
   omega
  ·simp only at hq ⊢
   rw [hO] at hq
   obtain rfl:=Option.some.inj hq
   cases m
   ·simp only [cond_false]
    omega
   ·simp only [cond_true]
    omega
  ·have h1:(i + 1) * sz ≤ l.length * sz:=Nat.mul_le_mul_right sz hi
   rw [Nat.add_mul,Nat.one_mul] at h1
   simp only [List.length_take,List.length_drop]
   omega
  ·rw [List.getElem?_take] at hu
   split at hu
   ·rename_i hj
    rw [List.getElem?_drop,← ht,List.getElem?_take] at hu
    split at hu
    ·show w.cell? ⟨g,0 + (i * sz + j),none⟩ = some u
     rw [Nat.zero_add,cell_of_row w g _ cur T (0,0) hg]
     simpa using hu
    ·cases hu
   ·cases hu
end
section
variable (P:Program)
structure Inv (w0 : Cx) (ν : Nat → Value) (O : Own) (n : Nat) (e : Env) (a : Act) (w : World) : Prop where
 bel:Keeps w0 w
 own:∀ b m,O b = some m → ¬ w0.old b ∧ b < w.heap.size
 st:∀ b off,w0.G b off → w.cell? ⟨b,off,none⟩ = w0.w.cell? ⟨b,off,none⟩ ∧ okO w0 w O b off
 rep:∀ t x,e t = some x → x.isC = false → RepK w (okO w0 w O) ν x (a.tmps.getD t undef)
 key:∀ k x,e k = some x → x.isC = true → KeyRep P w (okO w0 w O) O ν x (ν k)
 far:∀ k k' x x',k ≠ k' → e k = some x → e k' = some x' → ∀ b,hold x (ν k) = some b → hold x' (ν k') ≠ some b
 cl:∀ t x,e t = some x → ∀ k ∈ x.keys,e k ≠ none
 size:a.tmps.size = n
 def0:a.defers = []
 fix:∀ k,keyB ≤ k → ν k = w0.V k
 small:n ≤ 100000
 mg:MG w0
end
theorem put_same (a:Act) (d:Nat) (v:Value) (h:d < a.tmps.size):(a.put (some d) v).tmps.getD d undef = v:=by
 simp [Act.put,Array.getD,h]
theorem put_ne (a:Act) {d t:Nat} (v:Value) (h:t ≠ d):(a.put (some d) v).tmps.getD t undef = a.tmps.getD t undef:=by
 simp only [Act.put,Array.getD_eq_getD_getElem?]
 rw [Array.getElem?_setIfInBounds_ne (by omega)]
theorem put_size (a:Act) (d:Option Nat) (v:Value):(a.put d v).tmps.size = a.tmps.size:=by
 cases d <;> simp [Act.put]
theorem put_def (a:Act) (d:Option Nat) (v:Value):(a.put d v).defers = a.defers:=by
 cases d <;> rfl
def Env.puts (e:Env):List (Nat × Option AV) → Env
 | [] => e
 | (d,x) :: l => Env.puts (e.put d x) l
theorem puts_append (e:Env):∀ (l m:List (Nat × Option AV)),e.puts (l ++ m) = (e.puts l).puts m
 | [],m => rfl
 | (d,x) :: l,m => puts_append (e.put d x) l m
theorem put_cases {e:Env} {d t:Nat} {y x:AV} (h:(e.put d (some y)) t = some x):(t = d ∧ x = y) ∨ (t ≠ d ∧ e t = some x):=by
 by_cases ht:t = d
 ·subst ht
  rw [Env.put_same] at h
  exact .inl ⟨rfl,(Option.some.inj h).symm⟩
 ·rw [Env.put_ne _ _ ht] at h
  exact .inr ⟨ht,h⟩
theorem put_dom {e:Env} {d k:Nat} {y:AV} (h:e k ≠ none):(e.put d (some y)) k ≠ none:=by
 by_cases hk:k = d
 ·subst hk
  rw [Env.put_same]
  nofun
 ·rw [Env.put_ne _ _ hk]
  exact h
section
variable {P:Program} {w0:Cx} {ν ν':Nat → Value} {w w':World} {O O':Own} {n:Nat} {e:Env} {a:Act}
/-- Something is put into a slot. -/
theorem Inv.put (I:Inv P w0 ν O n e a w) {y:AV} {v:Value} {d:Nat} (hr:RepK w (okO w0 w O) ν y v) (hk:∀ k ∈ y.keys,e k ≠ none) (hd:d < n) :
  Inv P w0 ν O n (e.put d (some y)) (a.put (some d) v) w:=by
 have hsame:=put_same a d v (by rw [I.size]; exact hd)
 refine ⟨I.bel,I.own,I.st,fun t x hx hc => ?_,fun t x hx hc => ?_,fun t t' x x' hne h1 h2 b hb => ?_,fun t x hx k hq => ?_,by rw [put_size]; exact I.size,by rw [put_def]; exact I.def0,I.fix,I.small,I.mg⟩
 ·rcases put_cases hx with ⟨rfl,rfl⟩ | ⟨ht,hx⟩
  ·rw [hsame]
   exact hr
  ·rw [put_ne a v ht]
   exact I.rep t x hx hc
 ·rcases put_cases hx with ⟨rfl,rfl⟩ | ⟨ht,hx⟩
  ·rw [hr.notC] at hc
   cases hc
  ·exact I.key t x hx hc
 ·rcases put_cases h1 with ⟨rfl,rfl⟩ | ⟨n1,g1⟩
  ·rw [hold_notC hr.notC] at hb
   cases hb
  ·rcases put_cases h2 with ⟨rfl,rfl⟩ | ⟨n2,g2⟩
   ·rw [hold_notC hr.notC]
    nofun
   ·exact I.far t t' x x' hne g1 g2 b hb
 ·rcases put_cases hx with ⟨rfl,rfl⟩ | ⟨ht,hx⟩
  ·exact put_dom (hk k hq)
  ·exact put_dom (I.cl t x hx k hq)
/-- A slot of which nothing is told. -/
theorem Inv.putDead (I:Inv P w0 ν O n e a w) {v:Value} {d:Nat} (hd:d < n):Inv P w0 ν O n (e.put d (some .dead)) (a.put (some d) v) w:=by
 refine ⟨I.bel,I.own,I.st,fun t x hx hc => ?_,fun t x hx hc => ?_,fun t t' x x' hne h1 h2 b hb => ?_,fun t x hx k hq => ?_,by rw [put_size]; exact I.size,by rw [put_def]; exact I.def0,I.fix,I.small,I.mg⟩
 ·rcases put_cases hx with ⟨rfl,rfl⟩ | ⟨ht,hx⟩
  ·cases hc
  ·rw [put_ne a v ht]
   exact I.rep t x hx hc
 ·rcases put_cases hx with ⟨rfl,rfl⟩ | ⟨ht,hx⟩
  ·exact trivial
  ·exact I.key t x hx hc
 ·rcases put_cases h1 with ⟨rfl,rfl⟩ | ⟨n1,g1⟩
  ·simp [hold] at hb
  ·rcases put_cases h2 with ⟨rfl,rfl⟩ | ⟨n2,g2⟩
   ·simp [hold]
   ·exact I.far t t' x x' hne g1 g2 b hb
 ·rcases put_cases hx with ⟨rfl,rfl⟩ | ⟨ht,hx⟩
  ·cases hq
  ·exact put_dom (I.cl t x hx k hq)
theorem Inv.put1 (I:Inv P w0 ν O n e a w) {y:AV} {v:Value} (d:Option Nat) (hr:RepK w (okO w0 w O) ν y v) (hk:∀ k ∈ y.keys,e k ≠ none) (hd:∀ t,d = some t → t < n) :
  Inv P w0 ν O n (e.puts (w1 d y)) (a.put d v) w:=by
 cases d with
 | none => exact ⟨I.bel,I.own,I.st,I.rep,I.key,I.far,I.cl,I.size,I.def0,I.fix,I.small,I.mg⟩
 | some d => exact I.put hr hk (hd d rfl)
/-- The world has changed; what stays stays, and what keys have for themselves is as it was. -/
theorem Inv.world (I:Inv P w0 ν O n e a w) (hb:Keeps w0 w') (ho:∀ b m,O' b = some m → ¬ w0.old b ∧ b < w'.heap.size)
  (hst:∀ b off,okO w0 w O b off → w'.cell? ⟨b,off,none⟩ = w.cell? ⟨b,off,none⟩ ∧ okO w0 w' O' b off)
  (hex:∀ k x,e k = some x → ∀ b,hold x (ν k) = some b → w'.heap[b]? = w.heap[b]? ∧ O' b = O b):Inv P w0 ν O' n e a w':=by
 have hm:=fun b o hk => (hst b o hk).1
 have hok:=fun b o hk => (hst b o hk).2
 exact ⟨hb,ho,fun b off hg => ⟨(hm b off (I.st b off hg).2).trans (I.st b off hg).1,hok b off (I.st b off hg).2⟩,fun t x hx hc => (I.rep t x hx hc).mono hm hok,fun k x hx hc => (I.key k x hx hc).world hm hok (hex k x hx),I.far,I.cl,I.size,I.def0,I.fix,I.small,I.mg⟩
/-- A new key. -/
theorem Inv.addKey (I:Inv P w0 ν O n e a w) {k:Nat} {x:AV} {v:Value} (hkB:k < keyB) (hf:e k = none) (hr:KeyRep P w (okO w0 w O) O (Val ν k v) x v) (hfar:∀ b,hold x v = some b → ∀ k' x',e k' = some x' → hold x' (ν k') ≠ some b) (hk:∀ q ∈ x.keys,q = k ∨ e q ≠ none) :
  Inv P w0 (Val ν k v) O n (e.put k (some x)) a w:=by
 have hne:∀ {t y},e t = some y → ∀ q ∈ y.keys,Val ν k v q = ν q:=fun {t y} hy q hq => Val.ne _ _ (fun hqk => I.cl t y hy q hq (hqk ▸ hf))
 have hnk:∀ {t y},e t = some y → t ≠ k:=fun {t y} hy ht => by rw [ht,hf] at hy; cases hy
 refine ⟨I.bel,I.own,I.st,fun t y hx hc => ?_,fun t y hx hc => ?_,fun t t' y y' ht h1 h2 b hb => ?_,fun t y hx q hq => ?_,I.size,I.def0,fun q hq => (Val.ne _ _ (by omega)).trans (I.fix q hq),I.small,I.mg⟩
 ·rcases put_cases hx with ⟨rfl,rfl⟩ | ⟨ht,hx⟩
  ·rw [hr.isC] at hc
   cases hc
  ·exact (I.rep t y hx hc).congr (hne hx)
 ·rcases put_cases hx with ⟨rfl,rfl⟩ | ⟨ht,hx⟩
  ·rw [Val.same]
   exact hr
  ·rw [Val.ne _ _ ht]
   exact (I.key t y hx hc).congr (hne hx)
 ·rcases put_cases h1 with ⟨rfl,rfl⟩ | ⟨n1,g1⟩
  ·rcases put_cases h2 with ⟨rfl,rfl⟩ | ⟨n2,g2⟩
   ·exact absurd rfl ht
   ·rw [Val.same] at hb
    rw [Val.ne _ _ n2]
    exact hfar b hb t' y' g2
  ·rw [Val.ne _ _ n1] at hb
   rcases put_cases h2 with ⟨rfl,rfl⟩ | ⟨n2,g2⟩
   ·rw [Val.same]
    exact fun hb2 => hfar b hb2 t y g1 hb
   ·rw [Val.ne _ _ n2]
    exact I.far t t' y y' ht g1 g2 b hb
 ·rcases put_cases hx with ⟨rfl,rfl⟩ | ⟨ht,hx⟩
  ·rcases hk q hq with rfl | h
   ·rw [Env.put_same]
    nofun
   ·exact put_dom h
  ·exact put_dom (I.cl t y hx q hq)
/-- What a key holds is changed. -/
theorem Inv.setKey (I:Inv P w0 ν O n e a w) {k:Nat} {z x:AV} (hz:e k = some z) (hzC:z.isC = true) (hb:Keeps w0 w') (ho:∀ b m,O' b = some m → ¬ w0.old b ∧ b < w'.heap.size)
  (hst:∀ b off,okO w0 w O b off → w'.cell? ⟨b,off,none⟩ = w.cell? ⟨b,off,none⟩ ∧ okO w0 w' O' b off)
  (hex:∀ k' x',k' ≠ k → e k' = some x' → ∀ b,hold x' (ν k') = some b → w'.heap[b]? = w.heap[b]? ∧ O' b = O b)
  (hr:KeyRep P w' (okO w0 w' O') O' ν x (ν k)) (hh:∀ b,hold x (ν k) = some b → hold z (ν k) = some b) (hk:∀ q ∈ x.keys,e q ≠ none) :
  Inv P w0 ν O' n (e.put k (some x)) a w':=by
 have hm:=fun b o hk => (hst b o hk).1
 have hok:=fun b o hk => (hst b o hk).2
 refine ⟨hb,ho,fun b off hg => ⟨(hm b off (I.st b off hg).2).trans (I.st b off hg).1,hok b off (I.st b off hg).2⟩,fun t y hx hc => ?_,fun t y hx hc => ?_,fun t t' y y' ht h1 h2 b hb2 => ?_,fun t y hx q hq => ?_,I.size,I.def0,I.fix,I.small,I.mg⟩
 ·rcases put_cases hx with ⟨rfl,rfl⟩ | ⟨ht,hx⟩
  ·rw [hr.isC] at hc
   cases hc
  ·exact (I.rep t y hx hc).mono hm hok
 ·rcases put_cases hx with ⟨rfl,rfl⟩ | ⟨ht,hx⟩
  ·exact hr
  ·exact (I.key t y hx hc).world hm hok (hex t y ht hx)
 ·rcases put_cases h1 with ⟨rfl,rfl⟩ | ⟨n1,g1⟩
  ·rcases put_cases h2 with ⟨rfl,rfl⟩ | ⟨n2,g2⟩
   ·exact absurd rfl ht
   ·exact I.far t t' z y' ht hz g2 b (hh b hb2)
  ·rcases put_cases h2 with ⟨rfl,rfl⟩ | ⟨n2,g2⟩
   ·exact fun hb3 => I.far t t' y z ht g1 hz b hb2 (hh b hb3)
   ·exact I.far t t' y y' ht g1 g2 b hb2
 ·rcases put_cases hx with ⟨rfl,rfl⟩ | ⟨ht,hx⟩
  ·exact put_dom (hk q hq)
  ·exact put_dom (I.cl t y hx q hq)
/-- A key holds less. -/
theorem Inv.tell (I:Inv P w0 ν O n e a w) {k:Nat} {z x:AV} (hz:e k = some z) (hzC:z.isC = true) (hr:KeyRep P w (okO w0 w O) O ν x (ν k)) (hh:∀ b,hold x (ν k) = some b → hold z (ν k) = some b) (hk:∀ q ∈ x.keys,e q ≠ none) :
  Inv P w0 ν O n (e.put k (some x)) a w :=
 I.setKey hz hzC I.bel I.own (fun b off h => ⟨rfl,h⟩) (fun _ _ _ _ _ _ => ⟨rfl,rfl⟩) hr hh hk
def Own.set (O:Own) (g m:Nat):Own:=fun b => if b = g then some m else O b
theorem Own.set_same (O:Own) (g m:Nat):O.set g m g = some m:=by simp [Own.set]
theorem Own.set_ne (O:Own) {g m b:Nat} (h:b ≠ g):O.set g m b = O b:=by simp [Own.set,h]
theorem Inv.fresh (I:Inv P w0 ν O n e a w):O w.heap.size = none:=by
 cases hO:O w.heap.size with
 | none => rfl
 | some m => exact absurd (I.own _ _ hO).2 (Nat.lt_irrefl _)
theorem alloc_size (w:World) (o:Obj):(w.alloc o).heap.size = w.heap.size + 1:=Array.size_push _
theorem alloc_new (w:World) (o:Obj):(w.alloc o).heap[w.heap.size]? = some o:=Array.getElem?_push_size
theorem stay_alloc (o:Obj) (m:Nat):∀ b off,okO w0 w O b off → (w.alloc o).cell? ⟨b,off,none⟩ = w.cell? ⟨b,off,none⟩ ∧ okO w0 (w.alloc o) (O.set w.heap.size m) b off:=by
 intro b off hb
 have hne:b ≠ w.heap.size:=by have:=hb.1; omega
 exact ⟨cell_same (Below.heap_alloc w o b hb.1),by rw [alloc_size]; have:=hb.1; omega,fun k hk => hb.2.1 k (by rwa [Own.set_ne _ hne] at hk),hb.2.2⟩
theorem Inv.holdlt (I:Inv P w0 ν O n e a w) {k:Nat} {x:AV} (hx:e k = some x) {b:Nat} (hb:hold x (ν k) = some b):(∃ m,O b = some m) ∧ b < w.heap.size:=by
 cases hc:x.isC
 ·rw [hold_notC hc] at hb
  cases hb
 ·obtain ⟨m,hm⟩:=hold_own (I.key k x hx hc) hb
  exact ⟨⟨m,hm⟩,(I.own b m hm).2⟩
theorem Inv.keyLt (I:Inv P w0 ν O n e a w) {d:Nat} (hd:d < n):n + d < keyB:=by
 have:=I.small
 show n + d < 1000000
 omega
/-- A new block of the call's own. -/
theorem Inv.newOwn (I:Inv P w0 ν O n e a w) (o:Obj) (m:Nat):Inv P w0 ν (O.set w.heap.size m) n e a (w.alloc o):=by
 refine I.world (I.bel.alloc o) (fun b k hb => ?_) (stay_alloc o m) (fun t x hx b hb => ?_)
 ·by_cases hbs:b = w.heap.size
  ·subst hbs
   rw [alloc_size]
   exact ⟨fun h => absurd h.1 (Nat.not_lt_of_le I.bel.size),Nat.lt_succ_self _⟩
  ·rw [Own.set_ne _ hbs] at hb
   have:=I.own b k hb
   rw [alloc_size]
   exact ⟨this.1,Nat.lt_succ_of_lt this.2⟩
 ·have hlt:=(I.holdlt hx hb).2
  exact ⟨Below.heap_alloc w o b hlt,Own.set_ne _ (by omega)⟩
/-- A new block, at a new key. -/
theorem Inv.newKey (I:Inv P w0 ν O n e a w) {o:Obj} {m k:Nat} {x:AV} {v:Value} (hkB:k < keyB) (hf:e k = none) (hr:KeyRep P (w.alloc o) (okO w0 (w.alloc o) (O.set w.heap.size m)) (O.set w.heap.size m) (Val ν k v) x v) (hh:∀ b,hold x v = some b → b = w.heap.size) (hk:∀ q ∈ x.keys,q = k ∨ e q ≠ none) :
  Inv P w0 (Val ν k v) (O.set w.heap.size m) n (e.put k (some x)) a (w.alloc o) :=
 (I.newOwn o m).addKey hkB hf hr (fun b hb k' x' hx' hb' => by
  have:=hh b hb
  have:=(I.holdlt hx' hb').2
  omega) hk
/-- A new box. -/
theorem Inv.newBox (I:Inv P w0 ν O n e a w) {T k:Nat} {x:AV} {cs:List Value} (hkB:k < keyB) (hf:e k = none) (hc:CsK w (okO w0 w O) ν x cs) (hk:∀ q ∈ x.keys,e q ≠ none) {d:Nat} (hd:d < n) :
  Inv P w0 (Val ν k (.pointer (some ⟨w.heap.size,0,none⟩))) (O.set w.heap.size 0) n ((e.put k (some (.box x))).put d (some (.loc k 0))) (a.put (some d) (.pointer (some ⟨w.heap.size,0,none⟩))) (w.alloc (.cells cs.toArray T)):=by
 have hst:=stay_alloc (w0:=w0) (w:=w) (O:=O) (.cells cs.toArray T) 0
 have hnk:∀ q ∈ x.keys,q ≠ k:=fun q hq hqk => hk q hq (hqk ▸ hf)
 have I1:=I.newKey (o:=.cells cs.toArray T) (m:=0) (k:=k) (x:=.box x) (v:=.pointer (some ⟨w.heap.size,0,none⟩)) hkB hf
  ⟨w.heap.size,T,cs,rfl,Own.set_same _ _ _,alloc_new w _,(hc.mono (fun b o hk => (hst b o hk).1) (fun b o hk => (hst b o hk).2)).congr fun q hq => Val.ne _ _ (hnk q hq)⟩
  (fun b hb => by simp only [hold,Option.some.injEq] at hb; exact hb.symm) (fun q hq => .inr (hk q hq))
 exact I1.put (.loc k 0 w.heap.size (Val.same _ _ _)) (fun q hq => by
  simp only [AV.keys,List.mem_singleton] at hq
  subst hq
  rw [Env.put_same]
  nofun) hd
/-- A new row. -/
theorem Inv.newRow (I:Inv P w0 ν O n e a w) {T k m key:Nat} {u:Bool} {l:List AV} {cs:Array Value} (hkB:key < keyB) (hf:e key = none) (hi:(P.info? T).map (·.size) = some k) (hk:0 < k) (hm:l.length = m) (hm2:m ≤ maxLen) (hs:cs.size = m * k)
  (hc:∀ (i:Nat) (x:AV),l[i]? = some x → Cs w (okO w0 w O) x ((cs.toList.drop (i * k)).take k)) {d:Nat} (hd:d < n) :
  ∃ ν' O',Inv P w0 ν' O' n ((e.put key (some (.ow u T l))).put d (some (.row key))) (a.put (some d) (.slice (some ⟨w.heap.size,0,none⟩) m m)) (w.alloc (.cells cs T)):=by
 let q:=bif u then 0 else m * k
 have hst:=stay_alloc (w0:=w0) (w:=w) (O:=O) (.cells cs T) q
 subst hm
 have I1:=I.newKey (o:=.cells cs T) (m:=q) (k:=key) (x:=.ow u T l) (v:=.slice (some ⟨w.heap.size,0,none⟩) l.length l.length) hkB hf
  ⟨k,cs.toList,World.ownsRow_lit w cs l.length (Nat.zero_le _) hm2 hs,hk,hi,fun i x hx => Cs.mono (fun b o hk => (hst b o hk).1) (fun b o hk => (hst b o hk).2) (hc i x hx),fun b hb => by
   simp only [Value.ownBlock,Option.some.injEq] at hb
   subst hb
   exact Own.set_same _ _ _⟩
  (fun b hb => by simp only [hold,Value.ownBlock,Option.some.injEq] at hb; exact hb.symm) (fun q hq => by cases hq)
 exact ⟨_,_,I1.put (.row key _ _ _ (Val.same _ _ _)) (fun q hq => by
  simp only [AV.keys,List.mem_singleton] at hq
  subst hq
  rw [Env.put_same]
  nofun) hd⟩
end
end Go.Rh

namespace Go.Rh
open Go.RowKit
variable [MemFact]

mutual
theorem kf_keys:∀ {x:AV},x.kf = true → x.keys = []
 | .agg l,h => by simp only [AV.keys]; exact kfL_keys (by simpa only [AV.kf] using h)
 | .tup l,h => by simp only [AV.keys]; exact kfL_keys (by simpa only [AV.kf] using h)
 | .fn f l,h => by simp only [AV.keys]; exact kfL_keys (by simpa only [AV.kf] using h)
 | .val _,h => by simp only [AV.keys]
 | .sl _,h => by simp only [AV.keys]
 | .ptr _,h => by simp only [AV.keys]
 | .loc _ _,h => by simp [AV.kf] at h
 | .row _,h => by simp [AV.kf] at h
 | .el _ _ _ _,h => by simp [AV.kf] at h
 | .tl _ _ _,h => by simp [AV.kf] at h
 | .box _,h => by simp [AV.kf] at h
 | .ow _ _ _,h => by simp [AV.kf] at h
 | .fz _,h => by simp [AV.kf] at h
 | .dead,h => by simp [AV.kf] at h
theorem kfL_keys:∀ {l:List AV},kfL l = true → keysL l = []
 | [],_ => by simp only [keysL]
 | x :: l,h => by
  simp only [kfL,Bool.and_eq_true] at h
  simp only [keysL,kf_keys h.1,kfL_keys h.2,List.append_nil]
end
theorem Rep.kf {w:World} {ok:Nat → Nat → Prop} {x:AV} {v:Value} (h:Rep w ok x v):x.isC = false:=by
 cases h <;> rfl
section
variable {P:Program} {w0:Cx} {ν:Nat → Value} {w:World} {O:Own} {h:Hint} {n:Nat} {e:Env} {a:Act}
theorem allFlat_cs (ok:Nat → Nat → Prop) (w:World) (l:List Value) (h:∀ v ∈ l,flat v = true):Cs w ok (.agg (l.map .val)) l:=by
 refine .agg _ l (by simp) (fun x hx => ?_) (fun i x v hx hv => ?_)
 ·obtain ⟨v,_,rfl⟩:=List.mem_map.1 hx
  rfl
 ·rw [List.getElem?_map,hv] at hx
  obtain rfl:=Option.some.inj hx
  exact .val v (h v (List.mem_of_getElem? hv))
theorem ofVs_eq:∀ {l:List Value} {ys:List AV},ofVs l = some ys → ys = l.map .val ∧ ∀ v ∈ l,flat v = true
 | [],ys,h => by
  simp only [ofVs,Option.some.injEq] at h
  subst h
  exact ⟨rfl,fun v hv => by cases hv⟩
 | u :: l,ys,h => by
  simp only [ofVs] at h
  cases hf:flat u
  ·rw [hf] at h
   cases h
  ·rw [hf] at h
   simp only [cond_true] at h
   obtain ⟨zs,h3,rfl⟩:=Option.map_eq_some_iff.1 h
   obtain ⟨rfl,k2⟩:=ofVs_eq h3
   refine ⟨rfl,fun v hv => ?_⟩
   rcases List.mem_cons.1 hv with rfl | hv
   ·exact hf
   ·exact k2 v hv
theorem kfL_vals:∀ {l:List Value},kfL (l.map .val) = true
 | [] => by simp [kfL]
 | v :: l => by simp [kfL,AV.kf,kfL_vals (l:=l)]
theorem ofV_rep (ok:Nat → Nat → Prop) {v:Value} {y:AV} (h:ofV v = some y):Rep w ok y v ∧ y.kf = true:=by
 unfold ofV at h
 split at h
 ·rename_i cs
  obtain ⟨ys,h1,rfl⟩:=Option.map_eq_some_iff.1 h
  obtain ⟨rfl,k2⟩:=ofVs_eq h1
  have:=Rep.agg (w:=w) (ok:=ok) _ _ (allFlat_cs ok w cs.toList k2)
  exact ⟨by simpa using this,by simp [AV.kf,kfL_vals]⟩
 ·cases hf:flat v
  ·rw [hf] at h
   cases h
  ·rw [hf] at h
   obtain rfl:=Option.some.inj h
   exact ⟨.val v hf,rfl⟩
theorem opd_rep (I:Inv P w0 ν O n e a w) {x:Operand} {y:AV} (h:opd e x = some y):RepK w (okO w0 w O) ν y (a.eval x) ∧ ∀ k ∈ y.keys,e k ≠ none:=by
 cases x with
 | tmp t =>
  simp only [opd] at h
  obtain ⟨z,hz,h2⟩:=Option.bind_eq_some_iff.1 h
  cases hc:z.isC
  ·rw [hc] at h2
   obtain rfl:=Option.some.inj h2
   exact ⟨I.rep t z hz hc,I.cl t z hz⟩
  ·rw [hc] at h2
   cases h2
 | const v =>
  obtain ⟨h1,h2⟩:=ofV_rep (w:=w) (okO w0 w O) (show ofV v = some y from h)
  exact ⟨.imm h1,fun k hk => by rw [kf_keys h2] at hk; cases hk⟩
 | global g => cases h
 | func f =>
  obtain rfl:=Option.some.inj h
  exact ⟨.fn f [] [] rfl (fun i x v hx => by simp at hx),fun k hk => by simp [AV.keys,keysL] at hk⟩
theorem rep_val {ok:Nat → Nat → Prop} {v u:Value} (h:Rep w ok (.val v) u):u = v ∧ flat v = true:=by
 cases h with
 | val _ h => exact ⟨rfl,h⟩
theorem valsOf_eq:∀ {l:List AV} {vs:List Value},valsOf l = some vs → l = vs.map .val
 | [],vs,h => by
  simp only [valsOf,Option.some.injEq] at h
  subst h
  rfl
 | .val v :: l,vs,h => by
  simp only [valsOf,Option.map_eq_some_iff] at h
  obtain ⟨ws,h1,rfl⟩:=h
  rw [valsOf_eq h1]
  rfl
 | .sl _ :: _,_,h => by simp [valsOf] at h
 | .agg _ :: _,_,h => by simp [valsOf] at h
 | .tup _ :: _,_,h => by simp [valsOf] at h
 | .ptr _ :: _,_,h => by simp [valsOf] at h
 | .fn _ _ :: _,_,h => by simp [valsOf] at h
 | .loc _ _ :: _,_,h => by simp [valsOf] at h
 | .row _ :: _,_,h => by simp [valsOf] at h
 | .el _ _ _ _ :: _,_,h => by simp [valsOf] at h
 | .tl _ _ _ :: _,_,h => by simp [valsOf] at h
 | .ow _ _ _ :: _,_,h => by simp [valsOf] at h
 | .box _ :: _,_,h => by simp [valsOf] at h
 | .fz _ :: _,_,h => by simp [valsOf] at h
 | .dead :: _,_,h => by simp [valsOf] at h
theorem vals_rep {ok:Nat → Nat → Prop}:∀ {vs us:List Value},us.length = vs.length → (∀ (i:Nat) (x:AV) (v:Value),(vs.map AV.val)[i]? = some x → us[i]? = some v → Rep w ok x v) → us = vs
 | [],us,hl,_ => List.length_eq_zero_iff.1 hl
 | v :: vs,[],hl,_ => by simp at hl
 | v :: vs,u :: us,hl,hr => by
  have hu:=(rep_val (hr 0 (.val v) u rfl rfl)).1
  rw [hu,vals_rep (us:=us) (vs:=vs) (by simpa using hl) fun i x q hx hq => hr (i + 1) x q (by simpa using hx) (by simpa using hq)]
theorem toV_kf {y:AV} {v:Value} (h:y.toV = some v):y.kf = true:=by
 cases y with
 | val z => rfl
 | agg l =>
  simp only [AV.toV,Option.map_eq_some_iff] at h
  obtain ⟨vs,h1,rfl⟩:=h
  rw [valsOf_eq h1]
  simp only [AV.kf]
  exact kfL_vals
 | _ => cases h
theorem toV_rep {ok:Nat → Nat → Prop} {y:AV} {v u:Value} (h:y.toV = some v) (hr:Rep w ok y u):u = v:=by
 cases y with
 | val z =>
  simp only [AV.toV,Option.some.injEq] at h
  rw [(rep_val hr).1,h]
 | agg l =>
  simp only [AV.toV,Option.map_eq_some_iff] at h
  obtain ⟨vs,h1,rfl⟩:=h
  have:=valsOf_eq h1
  subst this
  cases hr with
  | agg _ cs hc =>
   cases hc with
   | one _ _ hx _ => cases hx
   | agg _ _ hl ho h2 => rw [vals_rep (by simpa using hl) h2]
 | _ => cases h
/-- An operand whose value is known. -/
theorem opv_eq (I:Inv P w0 ν O n e a w) {x:Operand} (h:known e x = true):a.eval x = opv e x:=by
 unfold known at h
 unfold opv
 cases ho:opd e x with
 | none => rw [ho] at h; cases h
 | some y =>
  rw [ho] at h
  simp only [Option.bind_some] at h ⊢
  cases ht:y.toV with
  | none => rw [ht] at h; cases h
  | some v => exact toV_rep ht ((opd_rep I ho).1.rep (toV_kf ht))
theorem plain_of {α:Type} {b:Bool} {x:Option α} {y:α} (h:(bif b then x else none) = some y):b = true ∧ x = some y:=by
 cases b
 ·cases h
 ·exact ⟨rfl,h⟩
theorem nil_sl (ok:Nat → Nat → Prop):Rep w ok (.sl []) (.slice none 0 0):=.sl [] none 0 0 0 ⟨0,0,none⟩ (fun _ => []) rfl ⟨Nat.le_refl _,Nat.zero_le _⟩ (fun h => absurd h (Nat.lt_irrefl _)) (fun i x hx => by simp at hx) (fun i hi => absurd hi (Nat.not_lt_zero _)) (fun i hi => absurd hi (Nat.not_lt_zero _))
/-- Which cells may be told of, for how long. -/
def okT (w0:Cx) (w:World) (O:Own) (tv:Bool) (b off:Nat):Prop:=bif tv then b < w.heap.size else okO w0 w O b off
theorem okT_of {tv:Bool} {b off:Nat} (h:okO w0 w O b off):okT w0 w O tv b off:=by
 cases tv
 ·exact h
 ·exact h.1
theorem okT_own (I:Inv P w0 ν O n e a w) {tv:Bool} {b off m:Nat} (hO:O b = some m) (h:off < m ∨ tv = true):okT w0 w O tv b off:=by
 have hb:=I.own b m hO
 cases tv
 ·refine ⟨hb.2,fun q hq => ?_,fun ho => absurd ho hb.1⟩
  rw [hO] at hq
  obtain rfl:=Option.some.inj hq
  rcases h with h | h
  ·exact h
  ·cases h
 ·exact hb.2
theorem row_view (I:Inv P w0 ν O n e a w) {tv m:Bool} {T:Nat} {l:List AV} {v:Value} (hr:OwRep P w (okO w0 w O) O m T l v) (hm:(!m || tv) = true):Rep w (okT w0 w O tv) (.sl l) v:=by
 have hr':OwRep P w (okT w0 w O tv) O m T l v:=by
  obtain ⟨sz,xs,h1,h2,h3,h4,h5⟩:=hr
  exact ⟨sz,xs,h1,h2,h3,fun i x hx => Cs.mono (fun _ _ _ => rfl) (fun _ _ h => okT_of h) (h4 i x hx),h5⟩
 refine ow_view hr' fun b off hb hlt hq => ?_
 obtain ⟨sz,xs,h1,h2,h3,h4,h5⟩:=hr
 have hO:=h5 b hb
 cases m
 ·exact okT_own I hO (.inl (hq _ hO))
 ·exact okT_own I hO (.inr (by simpa using hm))
theorem cont_some {x:Operand} {k:Nat} {y:AV} (h:cont h e x k = some y):e k = some y:=(plain_of h).2
mutual
theorem deep_rep (I:Inv P w0 ν O n e a w) {c:Nat → Option AV} (hc:∀ k y,c k = some y → e k = some y) {tv:Bool} {ks:List Nat}:∀ {x y:AV} {v:Value},deep c tv ks x = some y → RepK w (okO w0 w O) ν x v → RepK w (okT w0 w O tv) ν y v
 | .row k,y,v,h,hr => by
  simp only [deep] at h
  cases hk:mem k ks
  ·rw [hk] at h
   simp only [cond_false] at h
   obtain ⟨rfl,hA⟩:=row_inv hr
   split at h
   ·rename_i m T l hq
    obtain ⟨hm,h⟩:=plain_of h
    obtain rfl:=Option.some.inj h
    exact .imm (row_view I (I.key k _ (hc k _ hq) rfl) hm)
   ·rename_i l hq
    obtain rfl:=Option.some.inj h
    have:Rep w (okO w0 w O) (.sl l) (ν k):=I.key k _ (hc k _ hq) rfl
    exact .imm (Rep.mono (fun _ _ _ => rfl) (fun _ _ h => okT_of h) this)
   ·cases h
  ·rw [hk] at h
   obtain rfl:=Option.some.inj h
   exact hr.mono (fun _ _ _ => rfl) (fun _ _ h => okT_of h)
 | .loc k i,y,v,h,hr => by
  simp only [deep] at h
  cases hk:mem k ks
  ·rw [hk] at h
   simp only [cond_false] at h
   obtain ⟨b,hb,rfl⟩:=loc_inv hr
   split at h
   ·rename_i z hq
    obtain ⟨hi,h9⟩:=plain_of h
    obtain rfl:=Nat.eq_of_beq_eq_true hi
    obtain rfl:=Option.some.inj h9
    have:Rep w (okO w0 w O) (.ptr z) (ν k):=I.key k _ (hc k _ hq) rfl
    rw [hb] at this
    exact .imm (Rep.mono (fun _ _ _ => rfl) (fun _ _ h => okT_of h) this)
   ·rename_i z hq
    obtain ⟨hi,h9⟩:=plain_of h
    simp only [Bool.and_eq_true] at hi
    obtain ⟨htv,hi,hkf⟩:=hi
    obtain rfl:=Nat.eq_of_beq_eq_true hi
    obtain rfl:=Option.some.inj h9
    obtain ⟨b',T,cs,h1,h2,h3,h4⟩:=I.key k _ (hc k _ hq) rfl
    rw [hb] at h1
    simp only [Value.pointer.injEq,Option.some.injEq,Addr.mk.injEq,and_true] at h1
    subst h1
    refine .imm (.ptr z ⟨b,0,none⟩ cs rfl ((Cs.mono (fun _ _ _ => rfl) (fun _ _ h => okT_of h) (h4.cs hkf))) (fun q hq => okT_own I h2 (.inr htv)) (fun j u hu => ?_))
    show w.cell? ⟨b,0 + j,none⟩ = some u
    rw [Nat.zero_add,cell_of_row w b j cs.toArray T (0,0) h3]
    simpa using hu
   ·cases h
  ·rw [hk] at h
   obtain rfl:=Option.some.inj h
   exact hr.mono (fun _ _ _ => rfl) (fun _ _ h => okT_of h)
 | .agg l,y,v,h,hr => by
  simp only [deep] at h
  obtain ⟨ys,h1,rfl⟩:=Option.map_eq_some_iff.1 h
  obtain ⟨vs,rfl,hl,ho,hh⟩:=agg_inv hr
  obtain ⟨k1,k2,k3⟩:=deepL_rep I hc h1 hh
  exact .agg ys vs (hl.trans k1.symm) (k3 ho) k2
 | .tup l,y,v,h,hr => by
  simp only [deep] at h
  obtain ⟨ys,h1,rfl⟩:=Option.map_eq_some_iff.1 h
  obtain ⟨vs,rfl,hl,hh⟩:=tup_inv hr
  obtain ⟨k1,k2,k3⟩:=deepL_rep I hc h1 hh
  exact .tup ys vs (hl.trans k1.symm) k2
 | .fn f l,y,v,h,hr => by
  simp only [deep] at h
  obtain ⟨ys,h1,rfl⟩:=Option.map_eq_some_iff.1 h
  obtain ⟨vs,rfl,hl,hh⟩:=fn_inv hr
  obtain ⟨k1,k2,k3⟩:=deepL_rep I hc h1 hh
  exact .fn f ys vs (hl.trans k1.symm) k2
 | .val u,y,v,h,hr => by
  simp only [deep] at h
  obtain ⟨rfl,hf⟩:=rep_val (val_inv hr)
  split at h
  ·obtain rfl:=Option.some.inj h
   exact .imm (nil_sl _)
  ·obtain rfl:=Option.some.inj h
   exact .imm (.val _ hf)
 | .sl u,y,v,h,hr => by
  simp only [deep] at h
  obtain rfl:=Option.some.inj h
  exact hr.mono (fun _ _ _ => rfl) (fun _ _ h => okT_of h)
 | .ptr u,y,v,h,hr => by
  simp only [deep] at h
  obtain rfl:=Option.some.inj h
  exact hr.mono (fun _ _ _ => rfl) (fun _ _ h => okT_of h)
 | .el _ _ _ _,y,v,h,hr => by simp [deep] at h
 | .tl _ _ _,y,v,h,hr => by simp [deep] at h
 | .box _,y,v,h,hr => by simp [deep] at h
 | .ow _ _ _,y,v,h,hr => by simp [deep] at h
 | .fz _,y,v,h,hr => by simp [deep] at h
 | .dead,y,v,h,hr => by simp [deep] at h
theorem deepL_rep (I:Inv P w0 ν O n e a w) {c:Nat → Option AV} (hc:∀ k y,c k = some y → e k = some y) {tv:Bool} {ks:List Nat}:∀ {l ys:List AV} {vs:List Value},deepL c tv ks l = some ys → (∀ (i:Nat) (x:AV) (v:Value),l[i]? = some x → vs[i]? = some v → RepK w (okO w0 w O) ν x v) →
  ys.length = l.length ∧ (∀ (i:Nat) (x:AV) (v:Value),ys[i]? = some x → vs[i]? = some v → RepK w (okT w0 w O tv) ν x v) ∧ ((∀ x ∈ l,x.one = true) → ∀ x ∈ ys,x.one = true)
 | [],ys,vs,h,hr => by
  simp only [deepL,Option.some.injEq] at h
  subst h
  exact ⟨rfl,fun i x v hx => by simp at hx,fun _ => by simp⟩
 | x :: l,ys,vs,h,hr => by
  simp only [deepL] at h
  obtain ⟨y,h1,h2⟩:=Option.bind_eq_some_iff.1 h
  obtain ⟨zs,h3,rfl⟩:=Option.map_eq_some_iff.1 h2
  obtain ⟨k1,k2,k3⟩:=deepL_rep I hc (vs:=vs.drop 1) h3 (fun i x v hx hv => hr (i + 1) x v (by simpa using hx) (by simpa [Nat.add_comm] using hv))
  refine ⟨by simp [k1],fun i z v hz hv => ?_,fun ho z hz => ?_⟩
  ·cases i with
   | zero =>
    simp only [List.getElem?_cons_zero,Option.some.injEq] at hz
    subst hz
    exact deep_rep I hc h1 (hr 0 x v rfl hv)
   | succ i => exact k2 i z v (by simpa using hz) (by simpa [Nat.add_comm] using hv)
  ·rcases List.mem_cons.1 hz with rfl | hz
   ·exact deep_one h1 (ho x List.mem_cons_self)
   ·exact k3 (fun q hq => ho q (List.mem_cons_of_mem _ hq)) z hz
theorem deep_one {c:Nat → Option AV} {tv:Bool} {ks:List Nat}:∀ {x y:AV},deep c tv ks x = some y → x.one = true → y.one = true
 | .row k,y,h,hr => by
  simp only [deep] at h
  cases hk:mem k ks
  ·rw [hk] at h
   simp only [cond_false] at h
   split at h
   ·obtain ⟨hm,h⟩:=plain_of h
    obtain rfl:=Option.some.inj h
    rfl
   ·obtain rfl:=Option.some.inj h
    rfl
   ·cases h
  ·rw [hk] at h
   obtain rfl:=Option.some.inj h
   rfl
 | .loc k i,y,h,hr => by
  simp only [deep] at h
  cases hk:mem k ks
  ·rw [hk] at h
   simp only [cond_false] at h
   split at h
   ·obtain ⟨hi,h⟩:=plain_of h
    obtain rfl:=Option.some.inj h
    rfl
   ·obtain ⟨hi,h⟩:=plain_of h
    obtain rfl:=Option.some.inj h
    rfl
   ·cases h
  ·rw [hk] at h
   obtain rfl:=Option.some.inj h
   rfl
 | .agg l,y,h,hr => by cases hr
 | .tup l,y,h,hr => by cases hr
 | .fn f l,y,h,hr => by
  simp only [deep] at h
  obtain ⟨ys,h1,rfl⟩:=Option.map_eq_some_iff.1 h
  rfl
 | .val u,y,h,hr => by
  simp only [deep] at h
  split at h
  ·obtain rfl:=Option.some.inj h
   rfl
  ·obtain rfl:=Option.some.inj h
   rfl
 | .sl u,y,h,hr => by
  simp only [deep] at h
  obtain rfl:=Option.some.inj h
  rfl
 | .ptr u,y,h,hr => by
  simp only [deep] at h
  obtain rfl:=Option.some.inj h
  rfl
 | .el _ _ _ _,y,h,hr => by simp [deep] at h
 | .tl _ _ _,y,h,hr => by simp [deep] at h
 | .box _,y,h,hr => by simp [deep] at h
 | .ow _ _ _,y,h,hr => by simp [deep] at h
 | .fz _,y,h,hr => by simp [deep] at h
 | .dead,y,h,hr => by simp [deep] at h
end
mutual
theorem deep_kf {c:Nat → Option AV} {tv:Bool}:∀ {x y:AV},deep c tv [] x = some y → y.kf = true
 | .row k,y,h => by
  simp only [deep,mem,cond_false] at h
  split at h
  ·obtain ⟨hm,h⟩:=plain_of h
   obtain rfl:=Option.some.inj h
   rfl
  ·obtain rfl:=Option.some.inj h
   rfl
  ·cases h
 | .loc k i,y,h => by
  simp only [deep,mem,cond_false] at h
  split at h
  ·obtain ⟨hi,h⟩:=plain_of h
   obtain rfl:=Option.some.inj h
   rfl
  ·obtain ⟨hi,h⟩:=plain_of h
   obtain rfl:=Option.some.inj h
   rfl
  ·cases h
 | .agg l,y,h => by
  simp only [deep] at h
  obtain ⟨ys,h1,rfl⟩:=Option.map_eq_some_iff.1 h
  simp only [AV.kf]
  exact deepL_kf h1
 | .tup l,y,h => by
  simp only [deep] at h
  obtain ⟨ys,h1,rfl⟩:=Option.map_eq_some_iff.1 h
  simp only [AV.kf]
  exact deepL_kf h1
 | .fn f l,y,h => by
  simp only [deep] at h
  obtain ⟨ys,h1,rfl⟩:=Option.map_eq_some_iff.1 h
  simp only [AV.kf]
  exact deepL_kf h1
 | .val u,y,h => by
  simp only [deep] at h
  split at h
  ·obtain rfl:=Option.some.inj h
   rfl
  ·obtain rfl:=Option.some.inj h
   rfl
 | .sl u,y,h => by
  simp only [deep] at h
  obtain rfl:=Option.some.inj h
  rfl
 | .ptr u,y,h => by
  simp only [deep] at h
  obtain rfl:=Option.some.inj h
  rfl
 | .el _ _ _ _,y,h => by simp [deep] at h
 | .tl _ _ _,y,h => by simp [deep] at h
 | .box _,y,h => by simp [deep] at h
 | .ow _ _ _,y,h => by simp [deep] at h
 | .fz _,y,h => by simp [deep] at h
 | .dead,y,h => by simp [deep] at h
theorem deepL_kf {c:Nat → Option AV} {tv:Bool}:∀ {l ys:List AV},deepL c tv [] l = some ys → kfL ys = true
 | [],ys,h => by
  simp only [deepL,Option.some.injEq] at h
  subst h
  rfl
 | x :: l,ys,h => by
  simp only [deepL] at h
  obtain ⟨y,h1,h2⟩:=Option.bind_eq_some_iff.1 h
  obtain ⟨zs,h3,rfl⟩:=Option.map_eq_some_iff.1 h2
  simp only [kfL,deep_kf h1,deepL_kf h3,Bool.and_self]
end
theorem vw_rep (I:Inv P w0 ν O n e a w) {x:Operand} {y:AV} (hv:vw h e x = some y):Rep w (okO w0 w O) y (a.eval x) ∧ y.kf = true:=by
 unfold vw at hv
 obtain ⟨z,h1,h2⟩:=Option.bind_eq_some_iff.1 hv
 exact ⟨(deep_rep I (fun k y hk => cont_some hk) h2 (opd_rep I h1).1).rep (deep_kf h2),deep_kf h2⟩
theorem vwT_rep (I:Inv P w0 ν O n e a w) {x:Operand} {y:AV} (hv:vwT h e x = some y):Rep w (okT w0 w O true) y (a.eval x) ∧ y.kf = true:=by
 unfold vwT at hv
 obtain ⟨z,h1,h2⟩:=Option.bind_eq_some_iff.1 hv
 exact ⟨(deep_rep I (fun k y hk => cont_some hk) h2 (opd_rep I h1).1).rep (deep_kf h2),deep_kf h2⟩
theorem args_rep (I:Inv P w0 ν O n e a w) {tv:Bool} {ks:List Nat}:∀ {xs:List Operand} {l:List AV},args? h e tv ks xs = some l → (xs.map a.eval).length = l.length ∧ ∀ (i:Nat) (x:AV) (v:Value),l[i]? = some x → (xs.map a.eval)[i]? = some v → RepK w (okT w0 w O tv) ν x v
 | [],l,h => by
  simp only [args?,Option.some.injEq] at h
  subst h
  exact ⟨rfl,fun i x v hx => by simp at hx⟩
 | y :: xs,l,h => by
  simp only [args?] at h
  obtain ⟨z,h1,h2⟩:=Option.bind_eq_some_iff.1 h
  obtain ⟨q,h3,h2⟩:=Option.bind_eq_some_iff.1 h2
  obtain ⟨l',h4,rfl⟩:=Option.map_eq_some_iff.1 h2
  obtain ⟨k1,k2⟩:=args_rep I h4
  refine ⟨by simpa using k1,fun i x v hx hv => ?_⟩
  cases i with
  | zero =>
   simp only [List.getElem?_cons_zero,Option.some.injEq,List.map_cons] at hx hv
   subst hx hv
   exact deep_rep I (fun k y hk => cont_some hk) h3 (opd_rep I h1).1
  | succ i =>
   simp only [List.getElem?_cons_succ,List.map_cons] at hx hv
   exact k2 i x v hx hv
/-- Behind an operation: the invariant of what the interpreter says holds of what comes. -/
def Next (P:Program) (w0:Cx) (n:Nat) (e':Env) (K:Act → World → Prop):Prop:=∀ ν' O' a' w',Inv P w0 ν' O' n e' a' w' → K a' w'

theorem op_value {Q:Exit → Act → World → Prop} {K:Act → World → Prop} {o:Oper} {v:Value} {w':World} (h:(execOp a.eval o).run P w = .ok (.value v) w') (k:K (a.put o.dst v) w'):o.wp P a w K Q:=by
 unfold Oper.wp
 rw [h]
 exact k
theorem op_skip {Q:Exit → Act → World → Prop} {K:Act → World → Prop} {o:Oper} {w':World} (h:(execOp a.eval o).run P w = .ok .skip w') (hd:o.dst = none) (k:K a w'):o.wp P a w K Q:=by
 unfold Oper.wp
 rw [h]
 show K (a.put o.dst undef) _
 rw [hd]
 exact k
/-- A value at a slot. -/
theorem op_put (I:Inv P w0 ν O n e a w) {Q:Exit → Act → World → Prop} {K:Act → World → Prop} {o:Oper} {v:Value} {y:AV} (hx:(execOp a.eval o).run P w = .ok (.value v) w) (hr:RepK w (okO w0 w O) ν y v) (hk:∀ k ∈ y.keys,e k ≠ none)
  (hd:∀ t,o.dst = some t → t < n) (k:Next P w0 n (e.puts (w1 o.dst y)) K):o.wp P a w K Q :=
 op_value hx (k ν O _ _ (I.put1 o.dst hr hk hd))
theorem op_imm (I:Inv P w0 ν O n e a w) {Q:Exit → Act → World → Prop} {K:Act → World → Prop} {o:Oper} {v:Value} {y:AV} (hx:(execOp a.eval o).run P w = .ok (.value v) w) (hr:Rep w (okO w0 w O) y v) (hk:y.kf = true)
  (hd:∀ t,o.dst = some t → t < n) (k:Next P w0 n (e.puts (w1 o.dst y)) K):o.wp P a w K Q :=
 op_put I hx (.imm hr) (fun q hq => by rw [kf_keys hk] at hq; cases hq) hd k
theorem ex_move (ρ:Operand → Value) (o:Oper) (x:Operand) (ho:o.op = .move x ∨ o.op = .assign x) (w:World):(execOp ρ o).run P w = .ok (.value (ρ x)) w:=by
 unfold execOp
 rcases ho with ho | ho <;> rw [ho] <;> rfl
theorem ex_pick (ρ:Operand → Value) (o:Oper) (c x y:Operand) (t:Bool) (ho:o.op = .pick c x y) (hc:ρ c = .bool t) (w:World):(execOp ρ o).run P w = .ok (.value (if t then ρ x else ρ y)) w:=by
 unfold execOp
 rw [ho]
 simp only [hc,asBool]
 rfl
theorem ex_extract (ρ:Operand → Value) (o:Oper) (x:Operand) (i:Nat) (vs:Array Value) (v:Value) (ho:o.op = .extract x i) (hc:ρ x = .tuple vs) (hv:vs[i]? = some v) (w:World):(execOp ρ o).run P w = .ok (.value v) w:=by
 unfold execOp
 rw [ho]
 simp only [hc,Instr.extract,hv]
 rfl
end
end Go.Rh

namespace Go.Rh
open Go.RowKit
variable [MemFact]

section
variable {P:Program} {w0:Cx} {ν:Nat → Value} {w:World} {O:Own} {h:Hint} {n:Nat} {e:Env} {a:Act} {ok:Nat → Nat → Prop}
theorem tyK_some {t:TypeId} {b:Bool} {k:Nat} (h:tyK P t = some (b,k)) (w:World):(isAgg t).run P w = .ok b w ∧ (sizeOf t).run P w = .ok k w ∧ (P.info? t).map (·.size) = some k:=by
 unfold tyK at h
 cases hu:P.underlying t with
 | none => rw [hu] at h; cases h
 | some d =>
  rw [hu] at h
  simp only [Option.bind_some,Option.map_eq_some_iff,Prod.mk.injEq] at h
  obtain ⟨i,hi,rfl,rfl⟩:=h
  refine ⟨?_,?_,by rw [hi]; rfl⟩
  ·simp only [isAgg,Sem.run_bind,run_underlying hu,Result.andThen_ok]
   cases d <;> rfl
  ·simp only [sizeOf,typeInfo,Sem.run_bind]
   show Result.andThen (Result.andThen (Sem.run P program w) _) _ = _
   rw [show Sem.run P program w = .ok P w from rfl]
   simp only [Result.andThen_ok,hi]
   rfl
theorem run_sizeOf_of {t:TypeId} {k:Nat} (hi:(P.info? t).map (·.size) = some k) (w:World):(sizeOf t).run P w = .ok k w:=by
 obtain ⟨i,h1,rfl⟩:=Option.map_eq_some_iff.1 hi
 simp only [sizeOf,typeInfo,Sem.run_bind]
 show Result.andThen (Result.andThen (Sem.run P program w) _) _ = _
 rw [show Sem.run P program w = .ok P w from rfl]
 simp only [Result.andThen_ok,h1]
 rfl
theorem add_add (a:Addr) (i j:Nat):(a.add i).add j = a.add (i + j):=by
 unfold Addr.add
 by_cases hi:i = 0
 ·subst hi
  simp
 ·by_cases hj:j = 0
  ·subst hj
   simp
  ·rw [if_neg hi,if_neg hj,if_neg (by omega)]
   simp [Nat.add_assoc]
theorem base_add (b j:Nat):(⟨b,0,none⟩ : Addr).add j = ⟨b,j,none⟩:=by
 unfold Addr.add
 by_cases hj:j = 0
 ·subst hj
  rfl
 ·simp [hj]
theorem off_add (b i j:Nat):(⟨b,i,none⟩ : Addr).add j = ⟨b,i + j,none⟩:=by
 unfold Addr.add
 by_cases hj:j = 0
 ·subst hj
  rfl
 ·simp [hj]
theorem CsK.at {z:AV} {cs:List Value} (h:CsK w ok ν z cs):(∃ l,z = .agg l ∧ cs.length = l.length ∧ (∀ x ∈ l,x.one = true) ∧ ∀ (i:Nat) (x:AV) (v:Value),l[i]? = some x → cs[i]? = some v → RepK w ok ν x v) ∨ (z.one = true ∧ ∃ v,cs = [v] ∧ RepK w ok ν z v):=by
 cases z with
 | agg l => exact .inl ⟨l,rfl,h⟩
 | _ => exact .inr h
theorem part_sub {l:List AV} {j s:Nat} {b:Bool} {y:AV} (h:part? l j s b = some y):(b = true ∧ y = .agg ((l.drop j).take s) ∧ ((l.drop j).take s).length = s) ∨ (b = false ∧ l[j]? = some y ∧ y.one = true):=by
 unfold part? at h
 cases b
 ·obtain ⟨z,h1,h2⟩:=Option.bind_eq_some_iff.1 h
  obtain ⟨h3,h4⟩:=plain_of h2
  obtain rfl:=Option.some.inj h4
  exact .inr ⟨rfl,h1,h3⟩
 ·obtain ⟨h3,h4⟩:=plain_of (show (bif Nat.beq ((l.drop j).take s).length s then some (AV.agg ((l.drop j).take s)) else none) = some y from h)
  obtain rfl:=Option.some.inj h4
  exact .inl ⟨rfl,rfl,Nat.eq_of_beq_eq_true h3⟩
theorem part_keys {l:List AV} {j s:Nat} {b:Bool} {y:AV} (h:part? l j s b = some y):∀ k ∈ y.keys,k ∈ keysL l:=by
 intro k hk
 rcases part_sub h with ⟨_,rfl,_⟩ | ⟨_,h1,_⟩
 ·simp only [AV.keys] at hk
  obtain ⟨x,hx,hkx⟩:=mem_keysL.1 hk
  exact mem_keysL.2 ⟨x,List.mem_of_mem_drop (List.mem_of_mem_take hx),hkx⟩
 ·exact mem_keysL.2 ⟨y,List.mem_of_getElem? h1,hk⟩
/-- A part of a struct's cells. -/
theorem part_cs {l:List AV} {cs:List Value} {j s:Nat} {b:Bool} {y:AV} (hl:cs.length = l.length) (ho:∀ x ∈ l,x.one = true) (hr:∀ (i:Nat) (x:AV) (v:Value),l[i]? = some x → cs[i]? = some v → RepK w ok ν x v) (h:part? l j s b = some y):CsK w ok ν y ((cs.drop j).take (bif b then s else 1)):=by
 rcases part_sub h with ⟨rfl,rfl,h3⟩ | ⟨rfl,h1,h2⟩
 ·refine ⟨?_,fun x hx => ho x (List.mem_of_mem_drop (List.mem_of_mem_take hx)),fun i x v hx hv => ?_⟩
  ·simp only [cond_true,List.length_take,List.length_drop,hl]
  ·simp only [cond_true,List.getElem?_take,List.getElem?_drop] at hx hv
   split at hx
   ·rw [if_pos (by assumption)] at hv
    exact hr _ x v hx hv
   ·cases hx
 ·have hlt:=(List.getElem?_eq_some_iff.1 h1).1
  have hc:(cs.drop j).take 1 = [cs[j]'(by omega)]:=by
   rw [List.drop_eq_getElem_cons (by omega)]
   rfl
  simp only [cond_false]
  rw [hc]
  exact CsK.one h2 (hr j y _ h1 (List.getElem?_eq_getElem (by omega)))
theorem sub_keys {t:TypeId} {z y:AV} {i:Nat} (h:sub P t z i = some y):∀ k ∈ y.keys,k ∈ z.keys:=by
 unfold sub at h
 split at h
 ·obtain ⟨q,h1,h2⟩:=Option.bind_eq_some_iff.1 h
  intro k hk
  simp only [AV.keys]
  exact part_keys h2 k hk
 ·obtain ⟨_,h2⟩:=plain_of h
  obtain rfl:=Option.some.inj h2
  exact fun k hk => hk
theorem isAgg_cells {y:AV} {s:Nat} {b:Bool} {cs:List Value} (hc:CsK w ok ν y cs) (hb:b = true → ∃ l,y = .agg l ∧ l.length = s) (hb2:b = false → y.one = true) {t:TypeId} (ht:tyK P t = some (b,s)) {ad:Addr} (hm:∀ (j:Nat) (u:Value),cs[j]? = some u → w.cell? (ad.add j) = some u) :
  ∃ v,(loadVar t ad).run P w = .ok v w ∧ RepK w ok ν y v:=by
 obtain ⟨k1,k2,k3⟩:=tyK_some ht w
 cases b
 ·have h1:=hb2 rfl
  rcases hc.at with ⟨l,rfl,_⟩ | ⟨_,v,rfl,hv⟩
  ·cases h1
  ·refine ⟨v,?_,hv⟩
   have hcell:w.cell? ad = some v:=by
    have:=hm 0 v rfl
    rwa [show ad.add 0 = ad from by simp [Addr.add]] at this
   simp only [loadVar,Sem.run_bind,k1,Result.andThen_ok,Bool.false_eq_true,if_false]
   simp only [load,Sem.run,hcell]
 ·obtain ⟨l,rfl,hl⟩:=hb rfl
  obtain ⟨c1,c2,c3⟩:=hc
  refine ⟨.agg cs.toArray,?_,.agg l cs c1 c2 c3⟩
  simp only [loadVar,Sem.run_bind,k1,Result.andThen_ok,if_true,k2]
  rw [← hl,← c1,run_loadCells_list w ad cs hm]
  rfl
/-- What is loaded out of a variable. -/
theorem sub_load {t:TypeId} {z y:AV} {i:Nat} {cs:List Value} {ad:Addr} (h:sub P t z i = some y) (hc:CsK w ok ν z cs) (hm:∀ (j:Nat) (u:Value),cs[j]? = some u → w.cell? (ad.add j) = some u) :
  ∃ v,(loadVar t (ad.add i)).run P w = .ok v w ∧ RepK w ok ν y v:=by
 unfold sub at h
 split at h
 ·rename_i l
  obtain ⟨⟨b,s⟩,h1,h2⟩:=Option.bind_eq_some_iff.1 h
  obtain ⟨c1,c2,c3⟩:=hc
  have hp:=part_cs c1 c2 c3 h2
  refine isAgg_cells (ok:=ok) (ν:=ν) hp (fun hb => ?_) (fun hb => ?_) h1 (fun j u hu => ?_)
  ·rcases part_sub h2 with ⟨_,rfl,h3⟩ | ⟨h3,_,_⟩
   ·exact ⟨_,rfl,h3⟩
   ·rw [hb] at h3; cases h3
  ·rcases part_sub h2 with ⟨h3,_,_⟩ | ⟨_,_,h3⟩
   ·rw [hb] at h3; cases h3
   ·exact h3
  ·rw [add_add]
   rw [List.getElem?_take] at hu
   split at hu
   ·rw [List.getElem?_drop] at hu
    exact hm _ _ hu
   ·cases hu
 ·rename_i hz
  obtain ⟨h1,h2⟩:=plain_of h
  simp only [Bool.and_eq_true] at h1
  obtain ⟨h1,hf⟩:=h1
  obtain rfl:=Nat.eq_of_beq_eq_true h1
  obtain ⟨h3,s,h4⟩ : z.one = true ∧ ∃ s,tyK P t = some (false,s):=by
   unfold fits at hf
   split at hf
   ·exact absurd rfl (hz _)
   ·simp only [Bool.and_eq_true,beq_iff_eq,Option.map_eq_some_iff] at hf
    obtain ⟨h1,⟨b,s⟩,h5,h3⟩:=hf
    simp only at h3
    subst h3
    exact ⟨h1,s,h5⟩
  rw [show ad.add 0 = ad from by simp [Addr.add],← Option.some.inj h2]
  exact isAgg_cells hc (fun hb => by cases hb) (fun _ => h3) h4 hm
theorem ex_load (ρ:Operand → Value) (o:Oper) (t:TypeId) (x:Operand) (ad:Addr) (v:Value) (ho:o.op = .load t x) (hx:ρ x = .pointer (some ad)) (h:(loadVar t ad).run P w = .ok v w):(execOp ρ o).run P w = .ok (.value v) w:=by
 unfold execOp
 rw [ho]
 simp only [hx,Instr.loadAt,Instr.sureAddr,Sem.run_bind]
 show Result.andThen (Result.andThen (Sem.run P (pure ad) w) _) _ = _
 rw [show Sem.run P (pure ad:Sem Addr) w = .ok ad w from rfl]
 simp only [Result.andThen_ok,h]
 rfl

/-! ### Cells that are written -/
theorem setM_len {α:Type}:∀ {ys l:List α} {i:Nat},(setM l i ys).length = l.length
 | [],l,i => rfl
 | y :: ys,l,i => by
  rw [setM,setM_len]
  simp
theorem setM_get {α:Type}:∀ {ys l:List α} {i j:Nat},i + ys.length ≤ l.length → (setM l i ys)[j]? = if i ≤ j ∧ j < i + ys.length then ys[j - i]? else l[j]?
 | [],l,i,j,h => by
  rw [if_neg (by simp only [List.length_nil]; omega)]
  rfl
 | y :: ys,l,i,j,h => by
  simp only [List.length_cons] at h
  rw [setM,setM_get (ys:=ys) (by simp; omega)]
  simp only [List.length_cons]
  by_cases h1:j = i
  ·subst h1
   rw [if_neg (by omega),if_pos (by omega),List.getElem?_set_self (by omega),Nat.sub_self]
   rfl
  ·by_cases h2:i + 1 ≤ j ∧ j < i + 1 + ys.length
   ·rw [if_pos h2,if_pos (by omega),show j - i = (j - (i + 1)) + 1 by omega]
    simp
   ·rw [if_neg h2,if_neg (by omega),List.getElem?_set_ne (by omega)]
theorem setM_mem {α:Type}:∀ {ys l:List α} {i:Nat} {x:α},x ∈ setM l i ys → x ∈ l ∨ x ∈ ys
 | [],l,i,x,h => .inl h
 | y :: ys,l,i,x,h => by
  rcases setM_mem (ys:=ys) h with h | h
  ·rcases List.mem_or_eq_of_mem_set h with h | rfl
   ·exact .inl h
   ·exact .inr List.mem_cons_self
  ·exact .inr (List.mem_cons_of_mem _ h)
/-- A value's cells. -/
theorem rep_cells {y:AV} {v:Value} (h1:y.parts.all AV.one = true) (hr:RepK w ok ν y v):∃ cs:List Value,v.cells = cs.toArray ∧ cs.length = y.parts.length ∧ (∀ (i:Nat) (x:AV) (u:Value),y.parts[i]? = some x → cs[i]? = some u → RepK w ok ν x u) ∧ (∀ u ∈ cs,u.oneCell' = true) ∧ CsK w ok ν y cs:=by
 have single:y.one = true → (y.parts = [y]) → v.oneCell' = true → v.cells = [v].toArray → ∃ cs:List Value,v.cells = cs.toArray ∧ cs.length = y.parts.length ∧ (∀ (i:Nat) (x:AV) (u:Value),y.parts[i]? = some x → cs[i]? = some u → RepK w ok ν x u) ∧ (∀ u ∈ cs,u.oneCell' = true) ∧ CsK w ok ν y cs:=by
  intro h2 h3 h4 h5
  refine ⟨[v],h5,by rw [h3]; rfl,fun i x u hx hu => ?_,fun u hu => by rw [List.mem_singleton.1 hu]; exact h4,CsK.one h2 hr⟩
  rw [h3] at hx
  cases i with
  | zero =>
   simp only [List.getElem?_cons_zero,Option.some.injEq] at hx hu
   subst hx hu
   exact hr
  | succ i => simp at hx
 cases y with
 | agg l =>
  obtain ⟨vs,rfl,k1,k2,k3⟩:=agg_inv hr
  refine ⟨vs,rfl,k1,k3,fun u hu => ?_,⟨k1,k2,k3⟩⟩
  obtain ⟨i,hi⟩:=List.mem_iff_getElem?.1 hu
  have hil:i < l.length:=by
   have:=(List.getElem?_eq_some_iff.1 hi).1
   omega
  exact (k3 i _ u (List.getElem?_eq_getElem hil) hi).one_cell (k2 _ (List.getElem_mem hil))
 | val u =>
  have hv:=RepK.one_cell rfl hr
  exact single rfl rfl hv (by cases v <;> first | rfl | cases hv)
 | sl u =>
  have hv:=RepK.one_cell rfl hr
  exact single rfl rfl hv (by cases v <;> first | rfl | cases hv)
 | ptr u =>
  have hv:=RepK.one_cell rfl hr
  exact single rfl rfl hv (by cases v <;> first | rfl | cases hv)
 | fn f c =>
  have hv:=RepK.one_cell rfl hr
  exact single rfl rfl hv (by cases v <;> first | rfl | cases hv)
 | loc k i =>
  have hv:=RepK.one_cell rfl hr
  exact single rfl rfl hv (by cases v <;> first | rfl | cases hv)
 | row k =>
  have hv:=RepK.one_cell rfl hr
  exact single rfl rfl hv (by cases v <;> first | rfl | cases hv)
 | tup l => simp [AV.parts,AV.one] at h1
 | el k i s j => simp [AV.parts,AV.one] at h1
 | tl k i s => simp [AV.parts,AV.one] at h1
 | box x => simp [AV.parts,AV.one] at h1
 | ow m T l => simp [AV.parts,AV.one] at h1
 | fz x => simp [AV.parts,AV.one] at h1
 | dead => simp [AV.parts,AV.one] at h1
theorem fits_parts {t:TypeId} {y:AV} (h:fits P t y = true):y.parts.all AV.one = true:=by
 unfold fits at h
 split at h
 ·simp only [Bool.and_eq_true] at h
  exact h.2
 ·rename_i hz
  simp only [Bool.and_eq_true] at h
  cases y <;> first | (simp [AV.parts]; exact h.1) | exact absurd rfl (hz _)
theorem parts_keys {y:AV}:∀ {k:Nat},k ∈ keysL y.parts ↔ k ∈ y.keys:=by
 intro k
 cases y <;> simp [AV.parts,keysL,AV.keys]
theorem parts_len {y:AV}:y.parts.length = y.cnt:=by cases y <;> rfl
/-- A variable's cells behind a store. -/
theorem upd_cs {t:TypeId} {z y z':AV} {i:Nat} {cs ds:List Value} (h:upd P t z i y = some z') (hc:CsK w ok ν z cs) (hd1:ds.length = y.parts.length) (hd2:∀ (i:Nat) (x:AV) (u:Value),y.parts[i]? = some x → ds[i]? = some u → RepK w ok ν x u) :
  CsK w ok ν z' (setM cs i ds) ∧ i + ds.length ≤ cs.length ∧ (∀ k ∈ z'.keys,k ∈ z.keys ∨ k ∈ y.keys) ∧ fitsK P t y = true ∧ z'.cnt = z.cnt:=by
 unfold upd at h
 obtain ⟨hf,h⟩:=plain_of h
 have hone:y.parts.all AV.one = true:=by
  simp only [fitsK,Bool.and_eq_true] at hf
  exact fits_parts hf.1
 split at h
 ·rename_i l
  obtain ⟨hle,h⟩:=plain_of h
  obtain rfl:=Option.some.inj h
  have hle:=Nat.le_of_ble_eq_true hle
  obtain ⟨c1,c2,c3⟩:=hc
  refine ⟨⟨by rw [setM_len,setM_len]; exact c1,fun x hx => ?_,fun j x v hx hv => ?_⟩,by omega,fun k hk => ?_,hf,by simp [AV.cnt,setM_len]⟩
  ·rcases setM_mem hx with hx | hx
   ·exact c2 x hx
   ·exact List.all_eq_true.1 hone x hx
  ·rw [setM_get hle] at hx
   rw [setM_get (by omega)] at hv
   by_cases hj:i ≤ j ∧ j < i + y.parts.length
   ·rw [if_pos hj] at hx
    rw [if_pos (by omega)] at hv
    exact hd2 _ x v hx hv
   ·rw [if_neg hj] at hx
    rw [if_neg (by omega)] at hv
    exact c3 j x v hx hv
  ·simp only [AV.keys] at hk ⊢
   obtain ⟨x,hx,hkx⟩:=mem_keysL.1 hk
   rcases setM_mem hx with hx | hx
   ·exact .inl (mem_keysL.2 ⟨x,hx,hkx⟩)
   ·exact .inr (parts_keys.1 (mem_keysL.2 ⟨x,hx,hkx⟩))
 ·rename_i hz
  obtain ⟨hi,h⟩:=plain_of h
  obtain rfl:=Option.some.inj h
  simp only [Bool.and_eq_true] at hi
  obtain ⟨hi,hz1,hy1⟩:=hi
  obtain rfl:=Nat.eq_of_beq_eq_true hi
  have hp:y.parts = [y]:=by cases y <;> first | rfl | cases hy1
  rcases hc.at with ⟨l,rfl,_⟩ | ⟨_,v,rfl,hv⟩
  ·exact absurd rfl (hz l)
  ·rw [hp] at hd1 hd2
   obtain ⟨u,rfl⟩ : ∃ u,ds = [u]:=List.length_eq_one_iff.1 (by simpa using hd1)
   refine ⟨CsK.one hy1 (hd2 0 y u rfl rfl),by simp,fun k hk => .inr hk,hf,?_⟩
   have e1:y.cnt = 1:=by rw [← parts_len,hp]; rfl
   have e2:z.cnt = 1:=by cases z <;> first | rfl | cases hz1
   rw [e1,e2]
theorem storeCells_shift (g off:Nat):∀ (vs:List Value) (i:Nat),storeCells ⟨g,off,none⟩ vs i = storeCells ⟨g,0,none⟩ vs (off + i)
 | [],i => rfl
 | v :: vs,i => by
  simp only [storeCells]
  rw [storeCells_shift g off vs (i + 1),off_add,base_add,show off + (i + 1) = off + i + 1 by omega]
theorem run_storeCells_at (g:Nat) (t:TypeId):∀ (vs:List Value) (i:Nat) (cur:Array Value) (w:World),w.heap[g]? = some (.cells cur t (0,0)) → i + vs.length ≤ cur.size → (∀ v ∈ vs,v.oneCell' = true) →
  (storeCells ⟨g,0,none⟩ vs i).run P w = .ok () (w.setRow g (setM cur.toList i vs).toArray)
 | [],i,cur,w,hg,hl,_ => by
  have hlt:g < w.heap.size:=(Array.getElem?_eq_some_iff.1 hg).1
  have hv:w.heap[g] = .cells cur t (0,0):=(Array.getElem?_eq_some_iff.1 hg).2
  simp only [storeCells,setM,Array.toArray_toList]
  show Result.ok () w = _
  congr 1
  unfold World.setRow
  cases w with
  | mk heap tape drawn os output =>
   congr 1
   apply Array.ext
   ·simp
   ·intro k h1 h2
    simp only [Array.getElem_modify]
    split
    ·rename_i hk; subst hk; simp at hv; simp [hv]
    ·rfl
 | v :: rest,i,cur,w,hg,hl,h1 => by
  have hi:i < cur.size:=by simp at hl; omega
  have hadd:(⟨g,0,none⟩ : Addr).add i = ⟨g,i,none⟩:=base_add g i
  have hcell:w.cell? ⟨g,i,none⟩ = some cur[i]:=by simp [World.cell?,hg,hi]
  have hfro:w.frozen? ⟨g,i,none⟩ = false:=by simp [World.frozen?,hg]
  have hst:(store ((⟨g,0,none⟩ : Addr).add i) v).run P w = .ok () (w.setRow g (cur.setIfInBounds i v)):=by
   rw [hadd,run_store P w _ v _ (h1 v (by simp)),hcell]
   simp [hfro,setCell_eq_setRow w g i cur t (0,0) v hg]
  have ih:=run_storeCells_at g t rest (i + 1) (cur.setIfInBounds i v) (w.setRow g (cur.setIfInBounds i v)) (setRow_heap w g cur _ t _ hg) (by simp at hl ⊢; omega) (fun x hx => h1 x (by simp [hx]))
  simp only [storeCells,Sem.run_bind,hst,Result.andThen_ok,ih,setRow_setRow,setM,Array.toList_setIfInBounds]
theorem ex_store (ρ:Operand → Value) (o:Oper) (t:TypeId) (x y:Operand) (b off T:Nat) (old new:List Value) (v:Value) (ho:o.op = .store t x y) (hx:ρ x = .pointer (some ⟨b,off,none⟩)) (hy:ρ y = v) (hv:v.cells = new.toArray)
  (hb:w.heap[b]? = some (.cells old.toArray T (0,0))) (hl:off + new.length ≤ old.length) (hi:(P.info? t).map (·.size) = some new.length) (h1:∀ u ∈ new,u.oneCell' = true) :
  (execOp ρ o).run P w = .ok .skip (w.setRow b (setM old off new).toArray):=by
 have hs:(storeVar t ⟨b,off,none⟩ v).run P w = .ok () (w.setRow b (setM old off new).toArray):=by
  have h2:=run_storeCells_at (P:=P) b T new off old.toArray w hb (by simpa using hl) h1
  simp only [storeVar,Sem.run_bind,run_sizeOf_of hi,Result.andThen_ok,hv]
  have:¬ (new.toArray.size ≠ new.length):=by simp
  rw [if_neg this,storeCells_shift,Nat.add_zero]
  simpa using h2
 unfold execOp
 rw [ho]
 simp only [hx,hy,Instr.storeAt,Instr.sureAddr,Sem.run_bind]
 show Result.andThen (Result.andThen (Sem.run P (pure (⟨b,off,none⟩ : Addr)) w) _) _ = _
 rw [show Sem.run P (pure (⟨b,off,none⟩ : Addr):Sem Addr) w = .ok ⟨b,off,none⟩ w from rfl]
 simp only [Result.andThen_ok,hs]
 rfl
end
end Go.Rh

namespace Go.Rh
open Go.RowKit
variable [MemFact]

section
variable {P:Program} {w0:Cx} {ν:Nat → Value} {w:World} {O:Own} {h:Hint} {n:Nat} {e:Env} {a:Act} {ok:Nat → Nat → Prop}
theorem ex_alloc (ρ:Operand → Value) (o:Oper) (t:TypeId) (inf:TypeInfo) (z:Value) (ho:o.op = .alloc t) (hi:P.info? t = some inf) (hz:inf.zero = some z) :
  (execOp ρ o).run P w = .ok (.value (.pointer (some ⟨w.heap.size,0,none⟩))) (w.alloc (.cells z.cells t)):=by
 have h1:(zeroValue t).run P w = .ok z w:=by
  simp only [zeroValue,typeInfo,Sem.run_bind]
  show Result.andThen (Result.andThen (Sem.run P program w) _) _ = _
  rw [show Sem.run P program w = .ok P w from rfl]
  simp only [Result.andThen_ok,hi]
  show Result.andThen (.ok inf w) _ = _
  simp only [Result.andThen_ok,hz]
  rfl
 unfold execOp
 rw [ho]
 simp only [Instr.alloc,Sem.run_bind,h1,Result.andThen_ok]
 rfl
theorem ex_box (ρ:Operand → Value) (o:Oper) (t:TypeId) (x:Operand) (v:Value) (ho:o.op = .box t x) (hx:ρ x = v):(execOp ρ o).run P w = .ok (.value (.pointer (some ⟨w.heap.size,0,none⟩))) (w.alloc (.cells v.cells t)):=by
 unfold execOp
 rw [ho]
 simp only [hx]
 rfl
theorem ex_index (ρ:Operand → Value) (o:Oper) (t el:TypeId) (x y:Operand) (ad:Addr) (k:IntKind) (i:Int) (n c sz:Nat) (ho:o.op = .indexAddr t x y) (hu:P.underlying t = some (.slice el)) (hs:(P.info? el).map (·.size) = some sz)
  (hx:ρ x = .slice (some ad) n c) (hy:ρ y = .int k i) (h0:0 ≤ i) (h1:i < n):(execOp ρ o).run P w = .ok (.value (.pointer (some (ad.add (i.toNat * sz))))) w:=by
 have hsz:(sizeOf el).run P w = .ok sz w:=by
  obtain ⟨inf,hi,rfl⟩:=Option.map_eq_some_iff.1 hs
  simp only [sizeOf,typeInfo,Sem.run_bind]
  show Result.andThen (Result.andThen (Sem.run P program w) _) _ = _
  rw [show Sem.run P program w = .ok P w from rfl]
  simp only [Result.andThen_ok,hi]
  rfl
 unfold execOp
 rw [ho]
 simp only [hx,hy,Instr.indexAt,asIntOf,Sem.run_bind]
 simp only [Sem.run_pure,Result.andThen_ok,run_underlying hu,Sem.run_bind]
 simp [h0,h1,hsz,Sem.run_bind,run_underlying hu]
theorem ex_len (ρ:Operand → Value) (o:Oper) (c:Call) (x:Operand) (A:Option Addr) (m cap:Nat) (t el:TypeId) (ho:o.op = .call c) (hc:c.callee = .builtin .len) (ha:c.args = #[x]) (ht:c.argTypes[0]? = some t) (hu:P.underlying t = some (.slice el))
  (hx:ρ x = .slice A m cap):(execOp ρ o).run P w = .ok (.value (.int .i64 m)) w:=by
 unfold execOp
 rw [ho]
 simp only [resolve,hc,ha,Sem.run_bind]
 simp [Sem.run_bind,Result.andThen_ok,invoke,builtin,Builtin.len_,ht,hx,run_underlying hu,goInt]
theorem ex_func (ρ:Operand → Value) (o:Oper) (c:Call) (f:FuncId) (ho:o.op = .call c) (hc:c.callee = .value (.func f)) (hf:ρ (.func f) = .func (.func f) #[] #[]) (hcf:∀ args w,(callFunc f args).run P w = .ok (.enter f args) w) :
  (execOp ρ o).run P w = .ok (.enter f (c.args.map ρ)) w:=by
 unfold execOp
 rw [ho]
 simp only [resolve,hc,hf,Deferred.ofValue,Sem.run_bind]
 show Result.andThen (Sem.run P (pure ({ target:=.fn (.func f) #[],args:=#[] ++ c.args.map ρ }:Deferred)) w) _ = _
 rw [show ∀ d:Deferred,Sem.run P (pure d:Sem Deferred) w = .ok d w from fun _ => rfl]
 simp only [Result.andThen_ok,invoke,Array.append_empty,Array.empty_append,hcf]
theorem ex_clo (ρ:Operand → Value) (o:Oper) (c:Call) (f:FuncId) (x:Operand) (vs:Array Value) (ho:o.op = .call c) (hc:c.callee = .value x) (hf:ρ x = .func (.func f) #[] vs) (hcf:∀ args w,(callFunc f args).run P w = .ok (.enter f args) w) :
  (execOp ρ o).run P w = .ok (.enter f (c.args.map ρ ++ vs)) w:=by
 unfold execOp
 rw [ho]
 simp only [resolve,hc,hf,Deferred.ofValue,Sem.run_bind]
 show Result.andThen (Sem.run P (pure ({ target:=.fn (.func f) vs,args:=#[] ++ c.args.map ρ }:Deferred)) w) _ = _
 rw [show ∀ d:Deferred,Sem.run P (pure d:Sem Deferred) w = .ok d w from fun _ => rfl]
 simp only [Result.andThen_ok,invoke,Array.empty_append,hcf]
theorem fold_set (off:Nat):∀ (l:List Value) (j:Nat) (A:Array Value),off + j + l.length ≤ A.size → ((l.zipIdx j).foldl (fun cs p => cs.setIfInBounds (off + p.2) p.1) A).toList = A.toList.take (off + j) ++ l ++ A.toList.drop (off + j + l.length)
 | [],j,A,h => by simp
 | x :: l,j,A,h => by
  simp only [List.length_cons] at h
  simp only [List.zipIdx_cons,List.foldl_cons]
  rw [fold_set off l (j + 1) _ (by simp; omega)]
  simp only [Array.toList_setIfInBounds,List.length_cons]
  have hlt:off + j < A.toList.length:=by simp; omega
  have e1:(A.toList.set (off + j) x).take (off + (j + 1)) = A.toList.take (off + j) ++ [x]:=by
   rw [show off + (j + 1) = off + j + 1 by omega,List.take_add_one,List.take_set_of_le (by omega),List.getElem?_set_self hlt]
   rfl
  have e2:(A.toList.set (off + j) x).drop (off + (j + 1) + l.length) = A.toList.drop (off + j + (l.length + 1)):=by
   rw [List.drop_set_of_lt (by omega)]
   congr 1
   omega
  rw [e1,e2]
  simp
theorem fill_set {k:Nat}:∀ (vs:List Value) (q:Nat) (A:Array Value),(∀ v ∈ vs,v.cells.size = k) → q * k + vs.length * k ≤ A.size →
  ∃ A',Instr.fill (fun i => some (i * k,k)) A ((vs.zipIdx q).map fun p => (p.2,p.1)) = some A' ∧ A'.toList = A.toList.take (q * k) ++ (vs.flatMap fun v => v.cells.toList) ++ A.toList.drop (q * k + vs.length * k)
 | [],q,A,_,_ => ⟨A,rfl,by simp⟩
 | v :: vs,q,A,hv,hl => by
  have hv0:=hv v List.mem_cons_self
  simp only [List.length_cons] at hl
  rw [Nat.succ_mul] at hl
  have hf:=fold_set (q * k) v.cells.toList 0 A (by simp [hv0]; omega)
  have hz:v.cells.zipIdx.foldl (fun cs (p:Value × Nat) => cs.setIfInBounds (q * k + p.2) p.1) A = (v.cells.toList.zipIdx 0).foldl (fun cs p => cs.setIfInBounds (q * k + p.2) p.1) A:=by
   rw [← Array.foldl_toList,Array.toList_zipIdx]
  have hsz:(v.cells.zipIdx.foldl (fun cs (p:Value × Nat) => cs.setIfInBounds (q * k + p.2) p.1) A).size = A.size:=by
   rw [hz]
   have:=congrArg List.length hf
   simp only [List.length_append,List.length_take,List.length_drop,Array.length_toList,hv0] at this
   omega
  obtain ⟨A',h1,h2⟩:=fill_set vs (q + 1) (v.cells.zipIdx.foldl (fun cs (p:Value × Nat) => cs.setIfInBounds (q * k + p.2) p.1) A) (fun u hu => hv u (List.mem_cons_of_mem _ hu)) (by rw [hsz,Nat.add_mul,Nat.one_mul]; omega)
  refine ⟨A',?_,?_⟩
  ·simp only [List.zipIdx_cons,List.map_cons,Instr.fill]
   rw [if_neg (by rw [hv0]; simp; omega)]
   exact h1
  ·rw [h2,hz,hf]
   simp only [Nat.add_zero,Array.length_toList,hv0,List.flatMap_cons,List.length_cons]
   have e0:(A.toList.take (q * k) ++ v.cells.toList).length = (q + 1) * k:=by
    simp only [List.length_append,List.length_take,Array.length_toList,hv0,Nat.add_mul,Nat.one_mul]
    omega
   rw [← e0,List.take_left]
   have e1:(A.toList.take (q * k) ++ v.cells.toList ++ A.toList.drop (q * k + k)).drop ((A.toList.take (q * k) ++ v.cells.toList).length + vs.length * k) = A.toList.drop (q * k + (vs.length + 1) * k):=by
    rw [List.drop_append,List.drop_of_length_le (by omega),List.nil_append,List.drop_drop]
    congr 1
    rw [Nat.add_mul,Nat.one_mul]
    omega
   rw [e1]
   simp [List.append_assoc]
theorem kindOf_some {T k by_:Nat} (hk:kindOf P T = some (k,by_)):∃ i z,P.info? T = some i ∧ i.zero = some z ∧ i.size = k ∧ i.bytes = by_ ∧ 0 < k ∧ 0 < by_ ∧ z.cells.size = k:=by
 unfold kindOf at hk
 obtain ⟨i,h1,h2⟩:=Option.bind_eq_some_iff.1 hk
 obtain ⟨z,h3,h4⟩:=Option.bind_eq_some_iff.1 h2
 cases hb:Nat.blt 0 i.size && (Nat.blt 0 i.bytes && Nat.beq z.cells.toList.length i.size)
 ·rw [hb] at h4; cases h4
 ·rw [hb] at h4
  simp only [cond_true,Option.some.injEq,Prod.mk.injEq] at h4
  simp only [Bool.and_eq_true] at hb
  obtain ⟨rfl,rfl⟩:=h4
  exact ⟨i,z,h1,h3,rfl,rfl,Nat.le_of_ble_eq_true hb.1,Nat.le_of_ble_eq_true hb.2.1,by have:=Nat.eq_of_beq_eq_true hb.2.2; simpa using this⟩
/-- A literal of a slice. -/
theorem run_buildSlice {t:TypeId} {T k by_ len:Nat} {vs:List Value} (hu:P.underlying t = some (.slice T)) (hk:kindOf P T = some (k,by_)) (hl:vs.length = len) (hv:∀ v ∈ vs,v.cells.size = k) (hb:len * k ≤ 16777216) :
  ∃ cells:Array Value,cells.toList = (vs.flatMap fun v => v.cells.toList) ∧ (Instr.buildSlice t len ((vs.zipIdx 0).map fun p => (p.2,p.1)).toArray).run P w = .ok (.slice (some ⟨w.heap.size,0,none⟩) len len) (w.alloc (.cells cells T)):=by
 obtain ⟨i,z,hi,hz,hsize,hby,hk0,hby0,hzs⟩:=kindOf_some hk
 subst hl
 have hsz:=run_sizeOf_of (P:=P) (t:=T) (k:=k) (by rw [hi,Option.map_some,hsize]) w
 have hzero:(zeroValue T).run P w = .ok z w:=by
  simp only [zeroValue,typeInfo,Sem.run_bind]
  show Result.andThen (Result.andThen (Sem.run P program w) _) _ = _
  rw [show Sem.run P program w = .ok P w from rfl]
  simp only [Result.andThen_ok,hi]
  show Result.andThen (.ok i w) _ = _
  simp only [Result.andThen_ok,hz]
  rfl
 have key:∀ A:Array Value,A.size = vs.length * k → ∃ cells:Array Value,cells.toList = (vs.flatMap fun v => v.cells.toList) ∧ Instr.fill (fun i => some (i * k,k)) A ((vs.zipIdx 0).map fun p => (p.2,p.1)) = some cells:=by
  intro A hA
  obtain ⟨A',h1,h2⟩:=fill_set vs 0 A hv (by omega)
  refine ⟨A',?_,h1⟩
  rw [h2]
  simp only [Nat.zero_mul,List.take_zero,List.nil_append,Nat.zero_add]
  rw [List.drop_of_length_le (by simp; omega),List.append_nil]
 by_cases h0:vs.length * k = 0
 ·obtain ⟨cells,c1,c2⟩:=key ((Array.range (vs.length * k)).map ((#[] : Array Value)[· % (#[] : Array Value).size]!)) (by simp)
  refine ⟨cells,c1,?_⟩
  simp only [Instr.buildSlice,Sem.run_bind,run_underlying hu,Result.andThen_ok,hsz]
  rw [if_neg (by omega),if_pos h0]
  simp only [Sem.run_pure,Sem.run_bind,Result.andThen_ok,c2]
  rfl
 ·obtain ⟨cells,c1,c2⟩:=key ((Array.range (vs.length * k)).map (z.cells[· % z.cells.size]!)) (by simp)
  refine ⟨cells,c1,?_⟩
  simp only [Instr.buildSlice,Sem.run_bind,run_underlying hu,Result.andThen_ok,hsz]
  rw [if_neg (by omega),if_neg h0]
  simp only [Sem.run_pure,Sem.run_bind,Result.andThen_ok,hzero,c2]
  rfl
theorem ex_build (ρ:Operand → Value) (o:Oper) (t:TypeId) (ps:Array (Nat × Operand)) (v:Value) (ho:o.op = .build t ps) (h:BuildIs P t (ps.toList.map fun p => (p.1,ρ p.2)).toArray v) (w:World):(execOp ρ o).run P w = .ok (.value v) w:=by
 have h:=h w
 have he:(ps.toList.map fun p => (p.1,ρ p.2)).toArray = ps.map fun (i,x) => (i,ρ x):=by
  apply Array.toList_inj.1
  simp
 rw [he] at h
 unfold execOp
 rw [ho]
 simp only [Sem.run_bind,h]
 rfl
theorem ex_bin (ρ:Operand → Value) (o:Oper) (op:BinOp) (t:TypeId) (x y:Operand) (u:TypeId) (v:Value) (ho:o.op = .binOp op t x y u) (h:BinIs P op t x y (ρ x) (ρ y) v) (w:World):(execOp ρ o).run P w = .ok (.value v) w:=by
 have h:=h w
 unfold execOp
 rw [ho]
 simp only []
 rw [Sem.run_bind,h]
 rfl
theorem run_bound (k:IntKind) (i:Int) (y:Nat) (code:BoundsCode) (h0:0 ≤ i) (h1:i ≤ y):(Instr.sliceBound (.int k i) y code).run P w = .ok i.toNat w:=by
 rw [run_sliceBound_if,if_pos ⟨h0,h1⟩]
theorem bnd_eval (I:Inv P w0 ν O n e a w) {lo:Option Operand} {d i:Int} (h:bnd e lo d = some i):(lo = none ∧ i = d) ∨ ∃ o k,lo = some o ∧ a.eval o = .int k i:=by
 cases lo with
 | none =>
  simp only [bnd,Option.some.injEq] at h
  exact .inl ⟨rfl,h.symm⟩
 | some o =>
  simp only [bnd] at h
  split at h
  ·rename_i k m hm
   obtain rfl:=Option.some.inj h
   exact .inr ⟨o,k,rfl,(rep_val (val_inv (opd_rep I hm).1)).1⟩
  ·cases h
theorem ex_slice3 (o:Oper) (t el:TypeId) (x:Operand) (lo:Option Operand) (y z:Operand) (A:Option Addr) (m c sz:Nat) (i j q:Int) (ho:o.op = .slice t x lo (some y) (some z)) (hu:P.underlying t = some (.slice el)) (hs:(P.info? el).map (·.size) = some sz) (hx:a.eval x = .slice A m c)
  (hlo:(lo = none ∧ i = 0) ∨ ∃ q k,lo = some q ∧ a.eval q = .int k i) (hhi:∃ k,a.eval y = .int k j) (hmx:∃ k,a.eval z = .int k q) (h0:0 ≤ i) (h1:i ≤ j) (h2:j ≤ q) (h3:q ≤ m) (hc:m ≤ c) :
  ∃ v,(execOp a.eval o).run P w = .ok (.value v) w:=by
 have hsz:(sizeOf el).run P w = .ok sz w:=by
  obtain ⟨inf,hi,rfl⟩:=Option.map_eq_some_iff.1 hs
  simp only [sizeOf,typeInfo,Sem.run_bind]
  show Result.andThen (Result.andThen (Sem.run P program w) _) _ = _
  rw [show Sem.run P program w = .ok P w from rfl]
  simp only [Result.andThen_ok,hi]
  rfl
 have hel:P.elem t = el:=by simp [Program.elem,hu]
 have hu':P.underlying t = some (.slice (P.elem t)):=by rw [hel]; exact hu
 obtain ⟨k1,hy⟩:=hhi
 obtain ⟨k2,hz⟩:=hmx
 have hb:(Instr.sliceBounds true m c (lo.map a.eval) (some (a.eval y)) (some (a.eval z))).run P w = .ok (i.toNat,j.toNat,q.toNat) w:=by
  have hj:(j.toNat:Int) = j:=Int.toNat_of_nonneg (by omega)
  have hq:(q.toNat:Int) = q:=Int.toNat_of_nonneg (by omega)
  rcases hlo with ⟨rfl,rfl⟩ | ⟨q',k,rfl,hq'⟩
  ·simp only [Instr.sliceBounds,Option.map_none,hy,hz,Sem.run_bind]
   simp [Sem.run_bind,Result.andThen_ok,run_bound k2 q c _ (by omega) (by omega),run_bound k1 j q.toNat _ (by omega) (by omega)]
  ·simp only [Instr.sliceBounds,Option.map_some,hq',hy,hz,Sem.run_bind]
   simp [Sem.run_bind,Result.andThen_ok,run_bound k2 q c _ (by omega) (by omega),run_bound k1 j q.toNat _ (by omega) (by omega),run_bound k i j.toNat _ h0 (by omega)]
 unfold execOp
 rw [ho]
 simp only [hx,Sem.run_bind,run_sliceAt_slice _ _ _ _ _ _ hu',Option.map_some,run_slice_any _ t A m c hu',hb,Result.andThen_ok,hel,hsz]
 exact ⟨_,rfl⟩
theorem ex_slice (o:Oper) (t el:TypeId) (x:Operand) (lo hi:Option Operand) (A:Option Addr) (m c sz:Nat) (i j:Int) (ho:o.op = .slice t x lo hi none) (hu:P.underlying t = some (.slice el)) (hs:(P.info? el).map (·.size) = some sz) (hx:a.eval x = .slice A m c)
  (hlo:(lo = none ∧ i = 0) ∨ ∃ q k,lo = some q ∧ a.eval q = .int k i) (hhi:(hi = none ∧ j = m) ∨ ∃ q k,hi = some q ∧ a.eval q = .int k j) (h0:0 ≤ i) (h1:i ≤ j) (h2:j ≤ m) (hc:m ≤ c) :
  (execOp a.eval o).run P w = .ok (.value (.slice (if c = i.toNat then A else A.map (·.add (i.toNat * sz))) (j.toNat - i.toNat) (c - i.toNat))) w:=by
 have hsz:(sizeOf el).run P w = .ok sz w:=by
  obtain ⟨inf,hi,rfl⟩:=Option.map_eq_some_iff.1 hs
  simp only [sizeOf,typeInfo,Sem.run_bind]
  show Result.andThen (Result.andThen (Sem.run P program w) _) _ = _
  rw [show Sem.run P program w = .ok P w from rfl]
  simp only [Result.andThen_ok,hi]
  rfl
 have hel:P.elem t = el:=by simp [Program.elem,hu]
 have hu':P.underlying t = some (.slice (P.elem t)):=by rw [hel]; exact hu
 have hb:(Instr.sliceBounds true m c (lo.map a.eval) (hi.map a.eval) none).run P w = .ok (i.toNat,j.toNat,c) w:=by
  have hj:(j.toNat:Int) = j:=Int.toNat_of_nonneg (by omega)
  rcases hlo with ⟨rfl,rfl⟩ | ⟨q,k,rfl,hq⟩ <;> rcases hhi with ⟨rfl,rfl⟩ | ⟨q2,k2,rfl,hq2⟩
  ·simp [Instr.sliceBounds]
  ·simp only [Instr.sliceBounds,Option.map_none,Option.map_some,hq2,Sem.run_bind]
   simp [Sem.run_bind,Result.andThen_ok,run_bound k2 j c _ (by omega) (by omega)]
  ·simp only [Instr.sliceBounds,Option.map_none,Option.map_some,hq,Sem.run_bind]
   simp [Sem.run_bind,Result.andThen_ok,run_bound k i m _ h0 (by omega)]
  ·simp only [Instr.sliceBounds,Option.map_some,hq,hq2,Sem.run_bind]
   simp [Sem.run_bind,Result.andThen_ok,run_bound k2 j c _ (by omega) (by omega),run_bound k i j.toNat _ h0 (by omega)]
 unfold execOp
 rw [ho]
 simp only [hx,Sem.run_bind,run_sliceAt_slice _ _ _ _ _ _ hu',Option.map_none,run_slice_any _ t A m c hu',hb,Result.andThen_ok,hel,hsz]
 rfl
theorem flat_take {k:Nat}:∀ (vs:List Value) (i:Nat) (v:Value),(∀ v ∈ vs,v.cells.size = k) → vs[i]? = some v → ((vs.flatMap fun v => v.cells.toList).drop (i * k)).take k = v.cells.toList
 | [],i,v,_,h => by simp at h
 | u :: vs,i,v,hs,h => by
  have hu:=hs u List.mem_cons_self
  cases i with
  | zero =>
   simp only [List.getElem?_cons_zero,Option.some.injEq] at h
   subst h
   simp only [Nat.zero_mul,List.drop_zero,List.flatMap_cons]
   rw [← hu,← Array.length_toList,List.take_left]
  | succ i =>
   simp only [List.flatMap_cons]
   rw [show (i + 1) * k = u.cells.toList.length + i * k by rw [Array.length_toList,hu,Nat.add_mul,Nat.one_mul,Nat.add_comm],List.drop_append,List.drop_of_length_le (Nat.le_add_right _ _),List.nil_append,Nat.add_sub_cancel_left]
   exact flat_take vs i v (fun w hw => hs w (List.mem_cons_of_mem _ hw)) (by simpa using h)
theorem flat_len {k:Nat}:∀ (vs:List Value),(∀ v ∈ vs,v.cells.size = k) → (vs.flatMap fun v => v.cells.toList).length = vs.length * k
 | [],_ => by simp
 | u :: vs,hs => by
  simp only [List.flatMap_cons,List.length_append,List.length_cons,Array.length_toList]
  rw [hs u List.mem_cons_self,flat_len vs fun w hw => hs w (List.mem_cons_of_mem _ hw),Nat.add_mul,Nat.one_mul,Nat.add_comm]
/-- Where a row is made anew the old one is as it was. -/
theorem append_new_row {t ty T:TypeId} {i:TypeInfo} {z:Value} {size by_ base n m c:Nat} {v v':Value} {w':World} {xs news:List Value} {ad:Addr} (hu:P.underlying t = some (.slice T)) (hi:P.info? T = some i) (hz:i.zero = some z) (hsize:i.size = size) (hby:i.bytes = by_)
  (hown:w.ownsRow base T size v n xs) (hl:news.length = m * size) (hnews:∀ j u,news[j]? = some u → w.cell? (ad.add j) = some u) (h1:∀ u ∈ news,u.oneCell' = true) (h63:n + m ≤ maxLen) (hbytes:(n + m) * by_ ≤ 140737488355328)
  (hrun:(Builtin.append_ #[t,t] ty #[v,.slice (some ad) m c]).run P w = .ok v' w') (hg:v'.ownBlock = some w.heap.size) {b:Nat} (hb:v.ownBlock = some b):w'.heap[b]? = w.heap[b]?:=by
 subst hsize hby
 have hsmall:n + m ≤ 9223372036854775807:=by simp only [maxLen] at h63; omega
 have hlt:=(hown.lt b hb).2
 rcases hown.2 with ⟨rfl,_⟩ | ⟨g,cap,cur,rfl,_,hgc,hnc,_,hcs,_⟩
 ·simp [Value.ownBlock] at hb
 ·simp only [Value.ownBlock,Option.some.injEq] at hb
  subst hb
  by_cases hroom:n + m ≤ cap
  ·have hfit:n * i.size + news.length ≤ cur.size:=by rw [hl,hcs,← Nat.add_mul]; exact Nat.mul_le_mul_right _ hroom
   have hr:=run_append_room (P:=P) w t ty T i hu hi g n cap cur hgc ad m c news hl hnews h1 hroom hfit
   rw [hr] at hrun
   injection hrun with e1 e2
   subst e1
   simp only [Value.ownBlock,Option.some.injEq] at hg
   omega
  ·have holds:∀ j u,xs[j]? = some u → w.cell? ((⟨g,0,none⟩ : Addr).add j) = some u:=hown.cells (g:=g) rfl
   have hr:=run_append_grow (P:=P) w t ty T i z hu hi hz ⟨g,0,none⟩ n cap xs hown.1 holds ad m c news hl hnews (by omega) (by omega) (growslice_fits (by omega) hbytes)
   rw [hr] at hrun
   injection hrun with e1 e2
   subst e2
   exact Below.heap_alloc w.drew _ g hlt

theorem rep_sl {ok:Nat → Nat → Prop} {l:List AV} {v:Value} (h:Rep w ok (.sl l) v):∃ (A:Option Addr) (c sz:Nat) (ad:Addr) (cs:Nat → List Value),v = .slice A l.length c ∧ (l.length ≤ c ∧ l.length ≤ 9223372036854775807) ∧ (0 < l.length → A = some ad ∧ ad.spot = none ∧ ∀ k,k < l.length * sz → ok ad.block (ad.off + k)) ∧
  (∀ (i:Nat) (x:AV),l[i]? = some x → Cs w ok x (cs i)) ∧ (∀ i,i < l.length → (cs i).length = sz) ∧ (∀ i,i < l.length → ∀ (j:Nat) (u:Value),(cs i)[j]? = some u → w.cell? (cellAt ad (i * sz + j)) = some u):=by
 cases h with
 | sl _ A n c sz ad cs hn hc hA h hs hm =>
  subst hn
  exact ⟨A,c,sz,ad,cs,rfl,hc,hA,h,hs,hm⟩
theorem rep_ptr {ok:Nat → Nat → Prop} {x:AV} {v:Value} (h:Rep w ok (.ptr x) v):∃ (ad:Addr) (cs:List Value),v = .pointer (some ad) ∧ ad.spot = none ∧ Cs w ok x cs ∧ (∀ k,k < cs.length → ok ad.block (ad.off + k)) ∧ ∀ (j:Nat) (u:Value),cs[j]? = some u → w.cell? (cellAt ad j) = some u:=by
 cases h with
 | ptr _ ad cs hs h hk hm => exact ⟨ad,cs,rfl,hs,h,hk,hm⟩
theorem cellAt_cellAt (a:Addr) (i j:Nat):cellAt (cellAt a i) j = cellAt a (i + j):=by
 unfold cellAt
 simp [Nat.add_assoc]
theorem nil_own (m:Bool) {T k b:Nat} (hk:kindOf P T = some (k,b)):OwRep P w ok O m T [] (.slice none 0 0):=by
 obtain ⟨i,z,hi,hz,hsize,hby,hk0,hby0,hzs⟩:=kindOf_some hk
 exact ⟨k,[],World.ownsRow_nil _ _ _ _,hk0,by rw [hi,Option.map_some,hsize],fun i x hx => by simp at hx,fun b hb => by simp [Value.ownBlock] at hb⟩
/-- Appended to a row. -/
theorem Inv.append (I:Inv P w0 ν O n e a w) {d T k by_ t K:Nat} {ty:TypeId} {u m:Bool} {l ml l':List AV} {v x:Value} (hr:OwRep P w (okO w0 w O) O m T l v) (hno:∀ b,v.ownBlock = some b → ∀ k x,e k = some x → hold x (ν k) ≠ some b) (hu:P.underlying t = some (.slice T)) (hk:kindOf P T = some (k,by_)) (ha:AppIs k by_ l ml l')
  (hx:Rep w (okO w0 w O) (.sl ml) x) (hum:(!u || m) = true) (hkB:K < keyB) (hf:e K = none) (hd:d < n) :
  ∃ v' w' ν' O',(Builtin.append_ #[t,t] ty #[v,x]).run P w = .ok v' w' ∧ Inv P w0 ν' O' n ((e.put K (some (.ow u T l'))).put d (some (.row K))) (a.put (some d) v') w':=by
 obtain ⟨rfl,hcnt,hbytes⟩:=ha
 obtain ⟨i,z,hi,hz,hsize,hby,hk0,hby0,hzs⟩:=kindOf_some hk
 obtain ⟨sz,xs,hown,hsz,hinf,hcs,hO⟩:=hr
 have hks:sz = k:=by
  rw [hi] at hinf
  simp only [Option.map_some,Option.some.injEq] at hinf
  omega
 subst hks
 obtain ⟨A,c,sz2,ad,cs,rfl,hc2,hA,hcs2,hs2,hm2⟩:=rep_sl hx
 have hlen:(l ++ ml).length = l.length + ml.length:=List.length_append
 rw [hlen] at hbytes
 have h63:l.length + ml.length ≤ maxLen:=by
  have:l.length + ml.length ≤ (l.length + ml.length) * by_:=Nat.le_mul_of_pos_right _ hby0
  simp only [maxLen]
  omega
 have hxl:=hown.1
 -- what the machine does
 have key:∃ v' w' news,(Builtin.append_ #[t,t] ty #[v,.slice A ml.length c]).run P w = .ok v' w' ∧ w'.ownsRow 0 T sz v' (l.length + ml.length) (xs ++ news) ∧ news.length = ml.length * sz ∧ w.grownBy w' v.ownBlock ∧ (v'.ownBlock = v.ownBlock ∨ v'.ownBlock = some w.heap.size) ∧
   (v'.ownBlock = some w.heap.size → ∀ b,v.ownBlock = some b → w'.heap[b]? = w.heap[b]?) ∧ ∀ (q:Nat) (y:AV),ml[q]? = some y → Cs w (okO w0 w O) y ((news.drop (q * sz)).take sz):=by
  by_cases hm0:ml.length = 0
  ·have hm:ml = []:=List.length_eq_zero_iff.1 hm0
   subst hm
   have hrun:(Builtin.append_ #[t,t] ty #[v,.slice A 0 c]).run P w = .ok v w:=by
    rcases hown.2 with ⟨rfl,h0⟩ | ⟨g,cap,cur,rfl,_,_,hnc,_⟩
    ·simp [Builtin.append_,run_underlying hu,sizeOf,typeInfo,hi,Builtin.lenOf,Builtin.firstCells,loadCells,loadCellsFrom,h0]
     cases A <;> simp [Builtin.firstCells,loadCells,loadCellsFrom]
    ·simp [Builtin.append_,run_underlying hu,sizeOf,typeInfo,hi,Builtin.lenOf,hnc]
     cases A <;> simp [Builtin.firstCells,loadCells,loadCellsFrom,storeCells]
   exact ⟨v,w,[],hrun,by simpa using hown,by simp,⟨rfl,rfl,rfl,Nat.le_refl _,fun _ _ _ => rfl⟩,.inl rfl,fun _ _ _ => rfl,fun q y hq => by simp at hq⟩
  ·have hmp:0 < ml.length:=by omega
   obtain ⟨rfl,hsp,hokA⟩:=hA hmp
   have hsz2:sz2 = sz:=by
    have h1:=Cs.len (hcs2 0 ml[0] (List.getElem?_eq_getElem hmp))
    rw [hs2 0 hmp,hcnt _ (List.getElem_mem hmp)] at h1
    exact h1
   subst hsz2
   let news:=(List.range ml.length).flatMap fun q => cs q
   have hlenf:∀ j,j ≤ ml.length → ((List.range j).flatMap fun q => cs q).length = j * sz2:=by
    intro j
    induction j with
    | zero => intro _; simp
    | succ j ih =>
     intro hj
     rw [List.range_succ,List.flatMap_append,List.length_append,ih (by omega)]
     simp only [List.flatMap_cons,List.flatMap_nil,List.append_nil,hs2 j (by omega)]
     rw [Nat.add_mul,Nat.one_mul]
   have hnl:news.length = ml.length * sz2:=hlenf _ (Nat.le_refl _)
   have hget:∀ j,j ≤ ml.length → ∀ q u,((List.range j).flatMap fun q => cs q)[q]? = some u → ∃ i r,i < j ∧ q = i * sz2 + r ∧ (cs i)[r]? = some u:=by
    intro j
    induction j with
    | zero => intro _ q u hq; simp at hq
    | succ j ih =>
     intro hj q u hq
     rw [List.range_succ,List.flatMap_append,List.getElem?_append] at hq
     rw [hlenf j (by omega)] at hq
     split at hq
     ·obtain ⟨i,r,h1,h2,h3⟩:=ih (by omega) q u hq
      exact ⟨i,r,by omega,h2,h3⟩
     ·simp only [List.flatMap_cons,List.flatMap_nil,List.append_nil] at hq
      exact ⟨j,q - j * sz2,by omega,by omega,hq⟩
   have hnews:∀ j u,news[j]? = some u → w.cell? (ad.add j) = some u:=by
    intro j u hu
    obtain ⟨i,r,h1,h2,h3⟩:=hget _ (Nat.le_refl _) j u hu
    rw [add_eq hsp,h2]
    exact hm2 i h1 r u h3
   have hone:∀ u ∈ news,u.oneCell' = true:=by
    intro u hu
    obtain ⟨q,hq⟩:=List.mem_iff_getElem?.1 hu
    obtain ⟨i,r,h1,h2,h3⟩:=hget _ (Nat.le_refl _) q u hq
    have hthis:=hcs2 i ml[i] (List.getElem?_eq_getElem h1)
    generalize ml[i] = mi at hthis
    generalize cs i = ci at hthis h3
    cases hthis with
    | one _ v1 hx1 hr1 =>
     cases r with
     | zero =>
      simp only [List.getElem?_cons_zero,Option.some.injEq] at h3
      subst h3
      exact one_cell hx1 hr1
     | succ r => simp at h3
    | agg li _ hl2 ho2 hh2 =>
     have hr:=(List.getElem?_eq_some_iff.1 h3).1
     have hil:r < li.length:=by omega
     exact one_cell (ho2 _ (List.getElem_mem hil)) (hh2 r _ u (List.getElem?_eq_getElem hil) h3)
   obtain ⟨v',w',hrun,hown',hgr,_,hat⟩:=run_append_own_at w 0 t ty T i z sz2 by_ hu hi hz hsize hby hzs hk0 v l.length xs hown ad ml.length c news hnl hnews hone h63 hbytes (Nat.zero_le _)
   refine ⟨v',w',news,hrun,hown',hnl,hgr,hat,fun hg b hb => append_new_row hu hi hz hsize hby hown hnl hnews hone h63 hbytes hrun hg hb,fun q y hq => ?_⟩
   have hqm:=(List.getElem?_eq_some_iff.1 hq).1
   have h2:((news.drop (q * sz2)).take sz2) = cs q:=by
    have e2:news = ((List.range q).flatMap fun q => cs q) ++ (cs q ++ ((List.range' (q + 1) (ml.length - q - 1)).flatMap fun q => cs q)):=by
     show (List.range ml.length).flatMap _ = _
     have e3:List.range ml.length = List.range q ++ (q :: List.range' (q + 1) (ml.length - q - 1)):=by
      have e4:=List.range'_append_1 (s:=0) (m:=q) (n:=ml.length - q - 1 + 1)
      rw [Nat.zero_add,List.range'_succ] at e4
      rw [List.range_eq_range',List.range_eq_range',e4]
      congr 1
      omega
     rw [e3,List.flatMap_append,List.flatMap_cons]
    rw [e2,← hlenf q (by omega),List.drop_left,← hs2 q hqm,List.take_left]
   rw [h2]
   exact hcs2 q y hq
 obtain ⟨v',w',news,hrun,hown',hnl,hgr,hat,hnb,hnews⟩:=key
 have hbel:Keeps w0 w':=⟨hgr.os.trans I.bel.os,hgr.tape.trans I.bel.tape,hgr.output.trans I.bel.output,Nat.le_trans I.bel.size hgr.size,fun b hb => (hgr.block b (Nat.lt_of_lt_of_le hb.1 I.bel.size) (fun hq => (I.own b _ (hO b hq.symm)).1 hb)).trans (I.bel.block b hb)⟩
 have hstay:∀ b off,okO w0 w O b off → w'.cell? ⟨b,off,none⟩ = w.cell? ⟨b,off,none⟩:=by
  intro b off hb
  by_cases hbv:some b = v.ownBlock
  ·have hOb:=hO b hbv.symm
   have hoff:=hb.2.1 _ hOb
   cases m with
   | true => exact absurd hoff (Nat.not_lt_zero _)
   | false =>
    simp only [cond_false] at hoff
    have h1:=hown.cells hbv.symm off
    have hxo:xs[off]? = some xs[off]:=List.getElem?_eq_getElem (by omega)
    have h2:=h1 _ hxo
    rw [base_add] at h2
    rcases hat with hgo | hgo
    ·have h3:=hown'.cells (hgo.trans hbv.symm) off (xs[off]) (by rw [List.getElem?_append_left (by omega)]; exact hxo)
     rw [base_add] at h3
     rw [h2,h3]
    ·rw [cell_same (hnb hgo b hbv.symm)]
  ·exact cell_same (hgr.block b hb.1 (fun hq => hbv hq))
 -- the new book of what is the call's own
 let q:=bif u then 0 else (l.length + ml.length) * sz
 let O':Own:=match v'.ownBlock with | some g => O.set g q | none => O
 have hO1:∀ g,v'.ownBlock = some g → O' = O.set g q:=fun g hg => by simp only [O',hg]
 have hO2:∀ b,v'.ownBlock ≠ some b → O' b = O b:=by
  intro b hb
  cases hg:v'.ownBlock with
  | none => simp only [O',hg]
  | some g =>
   rw [hO1 g hg,Own.set_ne]
   rintro rfl
   exact hb hg
 have hst:∀ b off,okO w0 w O b off → w'.cell? ⟨b,off,none⟩ = w.cell? ⟨b,off,none⟩ ∧ okO w0 w' O' b off:=by
  intro b off hb
  refine ⟨hstay b off hb,Nat.lt_of_lt_of_le hb.1 hgr.size,fun r hr => ?_,hb.2.2⟩
  by_cases hbg:v'.ownBlock = some b
  ·rw [hO1 b hbg,Own.set_same] at hr
   obtain rfl:=Option.some.inj hr
   rcases hat with hgo | hgo
   ·have:=hb.2.1 _ (hO b (hgo.symm.trans hbg))
    cases m with
    | true => exact absurd this (Nat.not_lt_zero _)
    | false =>
     cases u with
     | true => cases hum
     | false =>
      simp only [cond_false,q] at this ⊢
      rw [Nat.add_mul]
      omega
   ·have:=hb.1
    rw [hgo] at hbg
    have:=Option.some.inj hbg
    omega
  ·rw [hO2 b hbg] at hr
   exact hb.2.1 r hr
 have I2:Inv P w0 ν O' n e a w':=by
  refine I.world hbel (fun b r hr => ?_) hst (fun t y hy b hb => ?_)
  ·by_cases hbg:v'.ownBlock = some b
   ·refine ⟨?_,(hown'.lt b hbg).2⟩
    rcases hat with hgo | hgo
    ·exact (I.own b _ (hO b (hgo.symm.trans hbg))).1
    ·rw [hgo] at hbg
     have:=Option.some.inj hbg
     exact fun ho => absurd ho.1 (Nat.not_lt_of_le (by have:=I.bel.size; omega))
   ·rw [hO2 b hbg] at hr
    have:=I.own b r hr
    exact ⟨this.1,Nat.lt_of_lt_of_le this.2 hgr.size⟩
  ·have hlt:=(I.holdlt hy hb).2
   have hnv:some b ≠ v.ownBlock:=fun hq2 => hno b hq2.symm t y hy hb
   refine ⟨hgr.block b hlt hnv,hO2 b ?_⟩
   intro hbg
   rcases hat with hgo | hgo
   ·exact hnv (hgo.symm.trans hbg).symm
   ·rw [hgo] at hbg
    have:=Option.some.inj hbg
    omega
 have I3:=I2.addKey (k:=K) (x:=.ow u T (l ++ ml)) (v:=v') hkB hf
  ⟨sz,xs ++ news,by rw [hlen]; exact hown',hsz,hinf,fun q y hq => by
   by_cases hql:q < l.length
   ·rw [List.getElem?_append_left hql] at hq
    have h1:=hcs q y hq
    have h2:q * sz + sz ≤ xs.length:=by
     rw [hxl]
     have:=Nat.mul_le_mul_right sz hql
     rw [Nat.succ_mul] at this
     exact this
    rw [List.drop_append_of_le_length (by omega),List.take_append_of_le_length (by rw [List.length_drop]; omega)]
    exact Cs.mono (fun b o hk => (hst b o hk).1) (fun b o hk => (hst b o hk).2) h1
   ·rw [List.getElem?_append_right (by omega)] at hq
    have h1:=hnews (q - l.length) y hq
    have e1:q * sz = xs.length + (q - l.length) * sz:=by
     rw [hxl,← Nat.add_mul]
     congr 1
     omega
    rw [e1,List.drop_append,List.drop_of_length_le (by omega),List.nil_append,Nat.add_sub_cancel_left]
    exact Cs.mono (fun b o hk => (hst b o hk).1) (fun b o hk => (hst b o hk).2) h1,fun b hb => by
   rw [hO1 b hb,Own.set_same,hlen]⟩
  (fun b hb k' x' hx' hh => by
   have hb:v'.ownBlock = some b:=hb
   rcases hat with hgo | hgo
   ·exact hno b (hgo.symm.trans hb) k' x' hx' hh
   ·rw [hgo] at hb
    have:=(I.holdlt hx' hh).2
    have:=Option.some.inj hb
    omega) (fun q hq => by cases hq)
 have hsl:∃ A n c,v' = .slice A n c:=by
  rcases hown'.2 with ⟨rfl,_⟩ | ⟨g,cap,cur,rfl,_⟩
  ·exact ⟨_,_,_,rfl⟩
  ·exact ⟨_,_,_,rfl⟩
 obtain ⟨A',n',c',rfl⟩:=hsl
 exact ⟨_,w',_,O',hrun,I3.put (.row K _ _ _ (Val.same _ _ _)) (fun q hq => by
  simp only [AV.keys,List.mem_singleton] at hq
  subst hq
  rw [Env.put_same]
  nofun) hd⟩
end
end Go.Rh

namespace Go.Rh
open Go.RowKit
variable [MemFact]

section
variable {P:Program} {w0:Cx} {ν:Nat → Value} {w:World} {O:Own} {h:Hint} {n:Nat} {e:Env} {a:Act}
theorem parts_kf {y:AV} (h:y.kf = true):∀ x ∈ y.parts,x.kf = true:=by
 intro x hx
 cases y with
 | agg l =>
  simp only [AV.kf] at h
  exact kfL_mem h x hx
 | _ =>
  simp only [AV.parts,List.mem_singleton] at hx
  subst hx
  exact h
theorem upd_kf {t:TypeId} {z y z':AV} {i:Nat} (h:upd P t z i y = some z') (hz:z.kf = true) (hy:y.kf = true):z'.kf = true:=by
 unfold upd at h
 obtain ⟨hf,h⟩:=plain_of h
 split at h
 ·rename_i l
  obtain ⟨hle,h⟩:=plain_of h
  obtain rfl:=Option.some.inj h
  simp only [AV.kf] at hz ⊢
  refine kfL_of fun x hx => ?_
  rcases setM_mem hx with hx | hx
  ·exact kfL_mem hz x hx
  ·exact parts_kf hy x hx
 ·obtain ⟨hi,h⟩:=plain_of h
  obtain rfl:=Option.some.inj h
  exact hy
theorem load_sound {Q:Exit → Act → World → Prop} {K:Act → World → Prop} {o:Oper} {t:TypeId} {x:Operand} {s s':List Ans} {ws:List (Nat × Option AV)} {p:Option Prop} (I:Inv P w0 ν O n e a w) (ho:o.op = .load t x) (h1:loadOp P h e s o.dst t x = some (ws,p,s')) (hp:holds p)
  (hd:∀ t,o.dst = some t → t < n) (k:Next P w0 n (e.puts ws) K):o.wp P a w K Q:=by
 -- out of a pointer that is known for good
 have imm:∀ {z:AV} {i:Nat} {y:AV} {ad:Addr},Rep w (okO w0 w O) (.ptr z) (.pointer (some ad)) → a.eval x = .pointer (some (ad.add i)) → sub P t z i = some y → Next P w0 n (e.puts (w1 o.dst y)) K → o.wp P a w K Q:=by
  intro z i y ad hr hx hy k
  obtain ⟨ad',cs,g1,g2,g3,g4,g5⟩:=rep_ptr hr
  simp only [Value.pointer.injEq,Option.some.injEq] at g1
  subst g1
  obtain ⟨v,k1,k2⟩:=sub_load (ν:=ν) hy g3.toK (ad:=ad) (fun j u hu => by rw [add_eq g2]; exact g5 j u hu)
  refine op_put I (ex_load _ o t x _ v ho hx k1) k2 (fun q hq => ?_) hd k
  have:=sub_keys hy q hq
  rw [kf_keys g3.kfx] at this
  cases this
 unfold loadOp at h1
 split at h1
 ·rename_i z hz
  obtain ⟨y,hy,h3⟩:=Option.map_eq_some_iff.1 h1
  simp only [Prod.mk.injEq] at h3
  obtain ⟨rfl,_,_⟩:=h3
  have hr:=ptr_inv (opd_rep I hz).1
  obtain ⟨ad,cs,g1,_⟩:=rep_ptr hr
  rw [g1] at hr
  exact imm hr (by rw [g1]; simp [Addr.add]) hy k
 ·rename_i q i hz
  obtain ⟨b,hb,hx⟩:=loc_inv (opd_rep I hz).1
  split at h1
  ·rename_i z hc
   obtain ⟨y,hy,h3⟩:=Option.map_eq_some_iff.1 h1
   simp only [Prod.mk.injEq] at h3
   obtain ⟨rfl,_,_⟩:=h3
   obtain ⟨b',T,cs,g1,g2,g3,g4⟩:=I.key q _ (cont_some hc) rfl
   rw [hb] at g1
   simp only [Value.pointer.injEq,Option.some.injEq,Addr.mk.injEq,and_true] at g1
   subst g1
   obtain ⟨v,k1,k2⟩:=sub_load hy g4 (ad:=⟨b,0,none⟩) (fun j u hu => by
    rw [base_add,cell_of_row w b j cs.toArray T (0,0) g3]
    simpa using hu)
   rw [base_add] at k1
   exact op_put I (ex_load _ o t x _ v ho hx k1) k2 (fun r hr => I.cl q _ (cont_some hc) r (by simp only [AV.keys]; exact sub_keys hy r hr)) hd k
  ·rename_i z hc
   obtain ⟨y,hy,h3⟩:=Option.map_eq_some_iff.1 h1
   simp only [Prod.mk.injEq] at h3
   obtain ⟨rfl,_,_⟩:=h3
   have hr:Rep w (okO w0 w O) (.ptr z) (ν q):=I.key q _ (cont_some hc) rfl
   rw [hb] at hr
   exact imm hr (by rw [hx,base_add]) hy k
  ·cases h1
 ·rename_i q i sz j hz
  obtain ⟨g,m0,c0,hb,hx⟩:=el_inv (opd_rep I hz).1
  split at h1
  ·rename_i m T l z s2 hc
   obtain ⟨hsz,h1⟩:=plain_of h1
   obtain ⟨y,hy,h3⟩:=Option.map_eq_some_iff.1 h1
   simp only [Prod.mk.injEq] at h3
   obtain ⟨rfl,rfl,_⟩:=h3
   have hp:l[i]? = some z:=hp
   simp only [Bool.and_eq_true,beq_iff_eq] at hsz
   obtain ⟨sz',xs,r1,r2,r3,r4,r5⟩:=I.key q _ (cont_some hc) rfl
   rw [hsz.1] at r3
   obtain rfl:=Option.some.inj r3
   have hcs:=r4 i z hp
   have hlt:=(List.getElem?_eq_some_iff.1 hp).1
   obtain ⟨v,k1,k2⟩:=sub_load (ν:=ν) hy hcs.toK (ad:=⟨g,i * sz,none⟩) (fun j u hu => by
    rw [List.getElem?_take] at hu
    split at hu
    ·rw [List.getElem?_drop] at hu
     have:=r1.cells (g:=g) (by rw [hb]; rfl) _ u hu
     rw [base_add] at this
     rw [off_add]
     exact this
    ·cases hu)
   rw [off_add] at k1
   refine op_put I (ex_load _ o t x _ v ho hx k1) k2 (fun q hq => ?_) hd k
   have:=sub_keys hy q hq
   rw [kf_keys hcs.kfx] at this
   cases this
  ·cases h1
 ·cases h1
/-- A box is written. -/
theorem Inv.setBox (I:Inv P w0 ν O n e a w) {k:Nat} {z x:AV} {vs old:List Value} {b T:Nat} (hz:e k = some (.box z)) (hp:ν k = .pointer (some ⟨b,0,none⟩)) (hO:O b = some 0) (hb:w.heap[b]? = some (.cells old.toArray T (0,0)))
  (hc:CsK w (okO w0 w O) ν x vs) (hk:∀ q ∈ x.keys,e q ≠ none):Inv P w0 ν O n (e.put k (some (.box x))) a (w.setRow b vs.toArray):=by
 have hsz:(w.setRow b vs.toArray).heap.size = w.heap.size:=by simp [World.setRow]
 have hst:∀ c off,okO w0 w O c off → (w.setRow b vs.toArray).cell? ⟨c,off,none⟩ = w.cell? ⟨c,off,none⟩ ∧ okO w0 (w.setRow b vs.toArray) O c off:=by
  intro c off hk
  have hne:c ≠ b:=by
   rintro rfl
   exact absurd (hk.2.1 0 hO) (Nat.not_lt_zero _)
  exact ⟨cell_same (setRow_other w b c _ hne),by rw [hsz]; exact hk.1,hk.2.1,hk.2.2⟩
 refine I.setKey hz rfl ⟨I.bel.os,I.bel.tape,I.bel.output,by rw [hsz]; exact I.bel.size,fun c hc2 => (setRow_other w b c _ (fun h => (I.own b 0 hO).1 (h ▸ hc2))).trans (I.bel.block c hc2)⟩ (fun c m hc2 => by rw [hsz]; exact I.own c m hc2) hst
  (fun k' x' hne hx' c hc2 => ⟨setRow_other w b c _ (fun hcb => ?_),rfl⟩) ⟨b,T,vs,hp,hO,setRow_heap w b _ _ T _ hb,hc.mono (fun b o hk => (hst b o hk).1) (fun b o hk => (hst b o hk).2)⟩ (fun c hc2 => by rw [hp] at hc2 ⊢; exact hc2) hk
 subst hcb
 exact I.far k' k x' _ hne hx' hz c hc2 (by rw [hp]; rfl)
theorem setM_take {α:Type} {l ys:List α} {i N:Nat} (h:i + ys.length ≤ N) (hN:N ≤ l.length):(setM l i ys).take N = setM (l.take N) i ys:=by
 apply List.ext_getElem?
 intro j
 rw [List.getElem?_take,setM_get (by omega),setM_get (by rw [List.length_take]; omega),List.getElem?_take]
 by_cases h1:j < N
 ·rw [if_pos h1,if_pos h1]
 ·rw [if_neg h1,if_neg h1,if_neg (by omega)]
/-- An element is written. -/
theorem Inv.setEl (I:Inv P w0 ν O n e a w) {k T sz i j:Nat} {l:List AV} {z z':AV} {ds:List Value} {g m0 c0:Nat} (hz:e k = some (.ow true T l)) (hb:ν k = .slice (some ⟨g,0,none⟩) m0 c0) (hsz:(P.info? T).map (·.size) = some sz) (hl:l[i]? = some z) (hcnt:z.cnt = sz)
  (hle:j + ds.length ≤ sz) (hc:∀ cs,CsK w (okO w0 w O) ν z cs → Cs w (okO w0 w O) z' (setM cs j ds)):∃ old,w.heap[g]? = some (.cells (List.toArray old) T (0,0)) ∧ i * sz + j + ds.length ≤ old.length ∧ Inv P w0 ν O n (e.put k (some (.ow true T (l.set i z')))) a (w.setRow g (setM old (i * sz + j) ds).toArray):=by
 obtain ⟨sz',xs,r1,r2,r3,r4,r5⟩:=I.key k _ hz rfl
 rw [hsz] at r3
 obtain rfl:=Option.some.inj r3
 have hO:O g = some 0:=r5 g (by rw [hb]; rfl)
 obtain ⟨q1,q2⟩:=r1
 rcases q2 with ⟨hnil,_⟩ | ⟨g',cap,cur,hv,_,hg,hnc,hcm,hcs,ht⟩
 ·rw [hb] at hnil
  cases hnil
 ·rw [hb] at hv
  injection hv with e1 e2 e3
  injection e1 with e1
  injection e1 with e1
  subst e1 e2 e3
  have hlt:=(List.getElem?_eq_some_iff.1 hl).1
  have hmul:i * sz + sz ≤ l.length * sz:=by
   have:=Nat.mul_le_mul_right sz hlt
   rw [Nat.succ_mul] at this
   exact this
  have hcl:l.length * sz ≤ cur.toList.length:=by
   have hcl0:cur.toList.length = cur.size:=rfl
   rw [hcl0,hcs]
   exact Nat.mul_le_mul_right _ hnc
  refine ⟨cur.toList,by simpa using hg,by omega,?_⟩
  have hsz2:(w.setRow g (setM cur.toList (i * sz + j) ds).toArray).heap.size = w.heap.size:=by simp [World.setRow]
  have hst:∀ c off,okO w0 w O c off → (w.setRow g (setM cur.toList (i * sz + j) ds).toArray).cell? ⟨c,off,none⟩ = w.cell? ⟨c,off,none⟩ ∧ okO w0 (w.setRow g (setM cur.toList (i * sz + j) ds).toArray) O c off:=by
   intro c off hk
   have hne:c ≠ g:=by
    rintro rfl
    exact absurd (hk.2.1 0 hO) (Nat.not_lt_zero _)
   exact ⟨cell_same (setRow_other w g c _ hne),by rw [hsz2]; exact hk.1,hk.2.1,hk.2.2⟩
  have hm:=fun b o hk => (hst b o hk).1
  have hok:=fun b o hk => (hst b o hk).2
  refine I.setKey hz rfl ⟨I.bel.os,I.bel.tape,I.bel.output,by rw [hsz2]; exact I.bel.size,fun c hc2 => (setRow_other w g c _ (fun h => (I.own g 0 hO).1 (h ▸ hc2))).trans (I.bel.block c hc2)⟩ (fun c m hc2 => by rw [hsz2]; exact I.own c m hc2) hst
   (fun k' x' hne hx' c hc2 => ⟨setRow_other w g c _ (fun hcb => ?_),rfl⟩) ⟨sz,setM xs (i * sz + j) ds,⟨by rw [setM_len,List.length_set]; exact q1,.inr ⟨g,c0,(setM cur.toList (i * sz + j) ds).toArray,?_,Nat.zero_le _,setRow_heap w g _ _ T _ hg,?_,hcm,?_,?_⟩⟩,r2,hsz,fun q y hq => ?_,fun b hb2 => ?_⟩ (fun c hc2 => hc2) (fun q hq => by cases hq)
  ·subst hcb
   exact I.far k' k x' _ hne hx' hz c hc2 (by rw [hb]; rfl)
  ·rw [hb,List.length_set]
  ·rw [List.length_set]
   exact hnc
  ·simp only [List.size_toArray,setM_len,Array.length_toList]
   exact hcs
  ·rw [List.length_set,setM_take (by omega) hcl,ht]
  ·by_cases hqi:q = i
   ·subst hqi
    rw [List.getElem?_set_self hlt] at hq
    obtain rfl:=Option.some.inj hq
    have h1:=hc _ (r4 q z hl).toK
    have h2:((setM xs (q * sz + j) ds).drop (q * sz)).take sz = setM ((xs.drop (q * sz)).take sz) j ds:=by
     apply List.ext_getElem?
     intro r
     rw [List.getElem?_take,List.getElem?_drop,setM_get (by omega),setM_get (by simp only [List.length_take,List.length_drop]; omega),List.getElem?_take,List.getElem?_drop]
     by_cases h3:r < sz
     ·rw [if_pos h3,if_pos h3]
      by_cases h4:j ≤ r ∧ r < j + ds.length
      ·rw [if_pos h4,if_pos (by omega)]
       congr 1
       omega
      ·rw [if_neg h4,if_neg (by omega)]
     ·rw [if_neg h3,if_neg h3,if_neg (by omega)]
    rw [h2]
    exact Cs.mono hm hok h1
   ·rw [List.getElem?_set_ne (fun h => hqi h.symm)] at hq
    have h1:=r4 q y hq
    have hql:=(List.getElem?_eq_some_iff.1 hq).1
    have h2:((setM xs (i * sz + j) ds).drop (q * sz)).take sz = (xs.drop (q * sz)).take sz:=by
     apply List.ext_getElem?
     intro r
     rw [List.getElem?_take,List.getElem?_drop,setM_get (by omega),List.getElem?_take,List.getElem?_drop]
     by_cases h3:r < sz
     ·rw [if_pos h3,if_pos h3,if_neg]
      rintro ⟨h4,h5⟩
      rcases Nat.lt_or_gt_of_ne hqi with h6 | h6
      ·have:=Nat.mul_le_mul_right sz h6
       rw [Nat.succ_mul] at this
       omega
      ·have:=Nat.mul_le_mul_right sz h6
       rw [Nat.succ_mul] at this
       omega
     ·rw [if_neg h3,if_neg h3]
    rw [h2]
    exact Cs.mono hm hok h1
  ·rw [r5 b hb2]
   simp
/-- What lies behind is made zero. -/
theorem Inv.setTl (I:Inv P w0 ν O n e a w) {k T sz i:Nat} {l:List AV} {z:AV} {ds zs:List Value} {g m0 c0:Nat} (hz:e k = some (.ow true T l)) (hb:ν k = .slice (some ⟨g,0,none⟩) m0 c0) (hsz:(P.info? T).map (·.size) = some sz) (hi:i < l.length)
  (hc:Cs w (okO w0 w O) z zs) (hds:ds.length = (l.length - i) * sz) (hget:∀ q,q < l.length - i → (ds.drop (q * sz)).take sz = zs):∃ old,w.heap[g]? = some (.cells (List.toArray old) T (0,0)) ∧ i * sz + ds.length ≤ old.length ∧ m0 = l.length ∧ Inv P w0 ν O n (e.put k (some (.ow true T (l.take i ++ List.replicate (l.length - i) z)))) a (w.setRow g (setM old (i * sz) ds).toArray):=by
 obtain ⟨sz',xs,r1,r2,r3,r4,r5⟩:=I.key k _ hz rfl
 rw [hsz] at r3
 obtain rfl:=Option.some.inj r3
 have hO:O g = some 0:=r5 g (by rw [hb]; rfl)
 obtain ⟨q1,q2⟩:=r1
 have hll:(l.take i ++ List.replicate (l.length - i) z).length = l.length:=by
  simp only [List.length_append,List.length_take,List.length_replicate]
  omega
 rcases q2 with ⟨hnil,_⟩ | ⟨g',cap,cur,hv,_,hg,hnc,hcm,hcs,ht⟩
 ·rw [hb] at hnil
  cases hnil
 ·rw [hb] at hv
  injection hv with e1 e2 e3
  injection e1 with e1
  injection e1 with e1
  subst e1 e2 e3
  have hmul:i * sz + ds.length = l.length * sz:=by
   rw [hds,← Nat.add_mul]
   congr 1
   omega
  have hcl:l.length * sz ≤ cur.toList.length:=by
   have hcl0:cur.toList.length = cur.size:=rfl
   rw [hcl0,hcs]
   exact Nat.mul_le_mul_right _ hnc
  refine ⟨cur.toList,by simpa using hg,by omega,rfl,?_⟩
  have hsz2:(w.setRow g (setM cur.toList (i * sz) ds).toArray).heap.size = w.heap.size:=by simp [World.setRow]
  have hst:∀ c off,okO w0 w O c off → (w.setRow g (setM cur.toList (i * sz) ds).toArray).cell? ⟨c,off,none⟩ = w.cell? ⟨c,off,none⟩ ∧ okO w0 (w.setRow g (setM cur.toList (i * sz) ds).toArray) O c off:=by
   intro c off hk
   have hne:c ≠ g:=by
    rintro rfl
    exact absurd (hk.2.1 0 hO) (Nat.not_lt_zero _)
   exact ⟨cell_same (setRow_other w g c _ hne),by rw [hsz2]; exact hk.1,hk.2.1,hk.2.2⟩
  have hm:=fun b o hk => (hst b o hk).1
  have hok:=fun b o hk => (hst b o hk).2
  refine I.setKey hz rfl ⟨I.bel.os,I.bel.tape,I.bel.output,by rw [hsz2]; exact I.bel.size,fun c hc2 => (setRow_other w g c _ (fun h => (I.own g 0 hO).1 (h ▸ hc2))).trans (I.bel.block c hc2)⟩ (fun c m hc2 => by rw [hsz2]; exact I.own c m hc2) hst
   (fun k' x' hne hx' c hc2 => ⟨setRow_other w g c _ (fun hcb => ?_),rfl⟩) ⟨sz,setM xs (i * sz) ds,⟨by rw [setM_len,hll]; exact q1,.inr ⟨g,c0,(setM cur.toList (i * sz) ds).toArray,?_,Nat.zero_le _,setRow_heap w g _ _ T _ hg,?_,hcm,?_,?_⟩⟩,r2,hsz,fun q y hq => ?_,fun b hb2 => ?_⟩ (fun c hc2 => hc2) (fun q hq => by cases hq)
  ·subst hcb
   exact I.far k' k x' _ hne hx' hz c hc2 (by rw [hb]; rfl)
  ·rw [hb,hll]
  ·rw [hll]
   exact hnc
  ·simp only [List.size_toArray,setM_len,Array.length_toList]
   exact hcs
  ·rw [hll,setM_take (by omega) hcl,ht]
  ·by_cases hqi:q < i
   ·rw [List.getElem?_append_left (by rw [List.length_take]; omega),List.getElem?_take,if_pos hqi] at hq
    have h1:=r4 q y hq
    have h2:((setM xs (i * sz) ds).drop (q * sz)).take sz = (xs.drop (q * sz)).take sz:=by
     apply List.ext_getElem?
     intro r
     rw [List.getElem?_take,List.getElem?_drop,setM_get (by omega),List.getElem?_take,List.getElem?_drop]
     by_cases h3:r < sz
     ·rw [if_pos h3,if_pos h3,if_neg]
      rintro ⟨h4,h5⟩
      have:=Nat.mul_le_mul_right sz hqi
      rw [Nat.succ_mul] at this
      omega
     ·rw [if_neg h3,if_neg h3]
    rw [h2]
    exact Cs.mono hm hok h1
   ·rw [List.getElem?_append_right (by rw [List.length_take]; omega)] at hq
    obtain ⟨hlt,hy⟩:=List.getElem?_eq_some_iff.1 hq
    simp only [List.getElem_replicate] at hy
    subst hy
    simp only [List.length_replicate,List.length_take] at hlt
    have hqi2:q * sz = i * sz + (q - i) * sz:=by
     rw [← Nat.add_mul]
     congr 1
     omega
    have hmul2:(q - i) * sz + sz ≤ ds.length:=by
     have:=Nat.mul_le_mul_right sz (show (q - i) + 1 ≤ l.length - i by omega)
     rw [Nat.succ_mul] at this
     omega
    have h2:((setM xs (i * sz) ds).drop (q * sz)).take sz = zs:=by
     rw [← hget (q - i) (by omega)]
     apply List.ext_getElem?
     intro r
     rw [List.getElem?_take,List.getElem?_drop,setM_get (by omega),List.getElem?_take,List.getElem?_drop]
     by_cases h3:r < sz
     ·rw [if_pos h3,if_pos h3,if_pos (by omega)]
      congr 1
      omega
     ·rw [if_neg h3,if_neg h3]
    rw [h2]
    exact Cs.mono hm hok hc
  ·rw [r5 b hb2]
   simp
theorem store_sound {Q:Exit → Act → World → Prop} {K:Act → World → Prop} {o:Oper} {t:TypeId} {x v:Operand} {s s':List Ans} {ws:List (Nat × Option AV)} {p:Option Prop} (I:Inv P w0 ν O n e a w) (ho:o.op = .store t x v) (h1:storeOp P h e s o.dst t x v = some (ws,p,s')) (hp:holds p)
  (k:Next P w0 n (e.puts ws) K):o.wp P a w K Q:=by
 unfold storeOp at h1
 split at h1
 ·rename_i q i hz
  obtain ⟨b,hb,hx⟩:=loc_inv (opd_rep I hz).1
  split at h1
  ·rename_i z y hc hy
   obtain ⟨z',hu,h2⟩:=Option.bind_eq_some_iff.1 h1
   obtain ⟨hdn,h3⟩:=plain_of h2
   simp only [Option.some.injEq,Prod.mk.injEq] at h3
   obtain ⟨rfl,_,_⟩:=h3
   obtain ⟨b',T,cs,g1,g2,g3,g4⟩:=I.key q _ (cont_some hc) rfl
   rw [hb] at g1
   simp only [Value.pointer.injEq,Option.some.injEq,Addr.mk.injEq,and_true] at g1
   subst g1
   obtain ⟨hr,hcl⟩:=opd_rep I hy
   have hfk:fitsK P t y = true:=by
    unfold upd at hu
    exact (plain_of hu).1
   have hfk2:=hfk
   simp only [fitsK,Bool.and_eq_true,beq_iff_eq] at hfk2
   obtain ⟨ds,d1,d2,d3,d4,_⟩:=rep_cells (fits_parts hfk2.1) hr
   obtain ⟨u1,u2,u3,_,_⟩:=upd_cs hu g4 d2 d3
   refine op_skip (ex_store a.eval o t x v b i T cs ds _ ho hx rfl d1 g3 u2 (by rw [d2,parts_len]; exact hfk2.2) d4) (Option.isNone_iff_eq_none.1 hdn) ?_
   refine k ν O _ _ (I.setBox (cont_some hc) hb g2 g3 u1 (fun r hr => ?_))
   rcases u3 r hr with h | h
   ·exact I.cl q _ (cont_some hc) r h
   ·exact hcl r h
  ·cases h1
 ·rename_i q i sz j hz
  obtain ⟨g,m0,c0,hb,hx⟩:=el_inv (opd_rep I hz).1
  split at h1
  ·rename_i T l y z m' T' l' s2 hc hy
   obtain ⟨z',hu,h2⟩:=Option.bind_eq_some_iff.1 h1
   obtain ⟨hsz,h3⟩:=plain_of h2
   simp only [Option.some.injEq,Prod.mk.injEq] at h3
   obtain ⟨rfl,rfl,_⟩:=h3
   obtain ⟨hp1,rfl⟩ : l[i]? = some z ∧ l' = l.set i z':=hp
   simp only [Bool.and_eq_true,beq_iff_eq] at hsz
   obtain ⟨s1,s2,s3,s4,s5⟩:=hsz
   have s2:=Nat.eq_of_beq_eq_true s2
   obtain ⟨hr,hkf⟩:=vw_rep I hy
   have hfk:fitsK P t y = true:=by
    unfold upd at hu
    exact (plain_of hu).1
   have hfk2:=hfk
   simp only [fitsK,Bool.and_eq_true,beq_iff_eq] at hfk2
   obtain ⟨ds,d1,d2,d3,d4,_⟩:=rep_cells (ν:=ν) (fits_parts hfk2.1) (.imm hr)
   obtain ⟨sz',xs,r1,r2,r3,r4,r5⟩:=I.key q _ (cont_some hc) rfl
   have hz0:=(r4 i z hp1).toK (ν:=ν)
   have hle:j + ds.length ≤ sz:=by
    have:=(upd_cs hu hz0 d2 d3).2.1
    rw [hz0.len] at this
    omega
   obtain ⟨old,o1,o2,o3⟩:=I.setEl (z':=z') (ds:=ds) (j:=j) (cont_some hc) hb s1 hp1 s2 hle (fun cs hcs => ((upd_cs hu hcs d2 d3).1).cs (upd_kf hu s4 hkf))
   refine op_skip (ex_store a.eval o t x v g (i * sz + j) T old ds _ ho hx rfl d1 o1 o2 (by rw [d2,parts_len]; exact hfk2.2) d4) (Option.isNone_iff_eq_none.1 s3) ?_
   exact k ν O _ _ o3
  ·cases h1
 ·cases h1
end
end Go.Rh

namespace Go.Rh
open Go.RowKit
variable [MemFact]

theorem keysOf_mem {k:Nat}:∀ {l:List (Nat × AV)},k ∈ keysOf l ↔ ∃ x,(k,x) ∈ l
 | [] => by simp [keysOf]
 | (q,y) :: l => by
  simp only [keysOf,List.mem_cons,keysOf_mem (l:=l),Prod.mk.injEq]
  constructor
  ·rintro (rfl | ⟨x,hx⟩)
   ·exact ⟨y,.inl ⟨rfl,rfl⟩⟩
   ·exact ⟨x,.inr hx⟩
  ·rintro ⟨x,⟨rfl,rfl⟩ | hx⟩
   ·exact .inl rfl
   ·exact .inr ⟨x,hx⟩
theorem keysIn_mem {k:Nat}:∀ {l:List (Nat × AV)},k ∈ keysIn l ↔ ∃ q x,(q,x) ∈ l ∧ k ∈ x.keys
 | [] => by simp [keysIn]
 | (q,y) :: l => by
  simp only [keysIn,List.mem_append,keysIn_mem (l:=l),List.mem_cons,Prod.mk.injEq]
  constructor
  ·rintro (h | ⟨r,x,hx,hk⟩)
   ·exact ⟨q,y,.inl ⟨rfl,rfl⟩,h⟩
   ·exact ⟨r,x,.inr hx,hk⟩
  ·rintro ⟨r,x,⟨rfl,rfl⟩ | hx,hk⟩
   ·exact .inl hk
   ·exact .inr ⟨r,x,hx,hk⟩
theorem lookC_mem:∀ {l:List (Nat × AV)} {k:Nat} {x:AV},lookC l k = some x → (k,x) ∈ l
 | [],_,_,h => by cases h
 | (q,y) :: l,k,x,h => by
  simp only [lookC] at h
  cases hb:Nat.beq k q
  ·rw [hb] at h
   exact List.mem_cons_of_mem _ (lookC_mem h)
  ·rw [hb] at h
   obtain rfl:=Nat.eq_of_beq_eq_true hb
   obtain rfl:=Option.some.inj h
   exact List.mem_cons_self
theorem lookC_none:∀ {l:List (Nat × AV)} {k:Nat},lookC l k = none ↔ k ∉ keysOf l
 | [],k => by simp [lookC,keysOf]
 | (q,y) :: l,k => by
  simp only [lookC,keysOf,List.mem_cons,not_or]
  cases hb:Nat.beq k q
  ·have hne:k ≠ q:=fun h => by rw [h,Nat.beq_refl] at hb; cases hb
   simp only [cond_false,lookC_none (l:=l)]
   exact ⟨fun h => ⟨hne,h⟩,fun h => h.2⟩
  ·have heq:=Nat.eq_of_beq_eq_true hb
   simp only [cond_true]
   exact ⟨fun h => (by cases h),fun h => absurd heq h.1⟩
theorem preOf_some {e:Env}:∀ {ks:List Nat} {pre:List (Nat × AV)},preOf e ks = some pre → keysOf pre = ks ∧ ∀ k x,(k,x) ∈ pre → e k = some x ∧ x.isC = true
 | [],pre,h => by
  simp only [preOf,Option.some.injEq] at h
  subst h
  exact ⟨rfl,fun k x hx => by cases hx⟩
 | q :: ks,pre,h => by
  simp only [preOf] at h
  obtain ⟨x,h1,h2⟩:=Option.bind_eq_some_iff.1 h
  obtain ⟨hc,h3⟩:=plain_of h2
  obtain ⟨pre',h4,rfl⟩:=Option.map_eq_some_iff.1 h3
  obtain ⟨k1,k2⟩:=preOf_some h4
  refine ⟨by simp [keysOf,k1],fun k y hy => ?_⟩
  rcases List.mem_cons.1 hy with hy | hy
  ·injection hy with e1 e2
   subst e1 e2
   exact ⟨h1,hc⟩
  ·exact k2 k y hy
theorem puts_old {post:List (Nat × AV)}:∀ {ks:List Nat} {e:Env} {t:Nat},(e.puts (oldW post ks)) t = if t ∈ ks then some ((lookC post t).getD .dead) else e t
 | [],e,t => by simp [oldW,Env.puts]
 | k :: ks,e,t => by
  simp only [oldW,Env.puts,puts_old (ks:=ks),List.mem_cons]
  by_cases h1:t ∈ ks
  ·rw [if_pos h1,if_pos (.inr h1)]
  ·rw [if_neg h1]
   by_cases h2:t = k
   ·subst h2
    rw [Env.put_same,if_pos (.inl rfl)]
   ·rw [Env.put_ne _ _ h2,if_neg (by rintro (h | h); exact h2 h; exact h1 h)]
theorem puts_new {ks:List Nat}:∀ {post:List (Nat × AV)} {e:Env} {t:Nat},nodup (keysOf post) = true → (e.puts (newW ks post)) t = if t ∉ ks ∧ t ∈ keysOf post then lookC post t else e t
 | [],e,t,_ => by simp [newW,Env.puts,keysOf]
 | (k,x) :: l,e,t,hn => by
  simp only [keysOf,nodup,Bool.and_eq_true,Bool.not_eq_true'] at hn
  simp only [newW]
  have hkl:k ∉ keysOf l:=fun h => by
   have:=mem_iff.2 h
   rw [hn.1] at this
   cases this
  cases hm:mem k ks
  ·have hk:k ∉ ks:=fun h => by
    have:=mem_iff.2 h
    rw [hm] at this
    cases this
   simp only [cond_false,Env.puts,puts_new (post:=l) hn.2,keysOf,List.mem_cons]
   by_cases h1:t ∉ ks ∧ t ∈ keysOf l
   ·have hne:t ≠ k:=fun h => hkl (h ▸ h1.2)
    have hb:Nat.beq t k = false:=by
     cases hb:Nat.beq t k
     ·rfl
     ·exact absurd (Nat.eq_of_beq_eq_true hb) hne
    rw [if_pos h1,if_pos ⟨h1.1,.inr h1.2⟩,lookC,hb]
    rfl
   ·rw [if_neg h1]
    by_cases h2:t = k
    ·subst h2
     rw [Env.put_same,if_pos ⟨hk,.inl rfl⟩,lookC,Nat.beq_refl]
     rfl
    ·rw [Env.put_ne _ _ h2,if_neg]
     rintro ⟨h3,h4 | h4⟩
     ·exact h2 h4
     ·exact h1 ⟨h3,h4⟩
  ·have hk:k ∈ ks:=mem_iff.1 hm
   simp only [cond_true,puts_new (post:=l) hn.2,keysOf,List.mem_cons]
   by_cases h1:t ∉ ks ∧ t ∈ keysOf l
   ·have hne:t ≠ k:=fun h => hkl (h ▸ h1.2)
    have hb:Nat.beq t k = false:=by
     cases hb:Nat.beq t k
     ·rfl
     ·exact absurd (Nat.eq_of_beq_eq_true hb) hne
    rw [if_pos h1,if_pos ⟨h1.1,.inr h1.2⟩,lookC,hb]
    rfl
   ·rw [if_neg h1,if_neg]
    rintro ⟨h3,h4 | h4⟩
    ·exact h3 (h4 ▸ hk)
    ·exact h1 ⟨h3,h4⟩
section
variable {P:Program} {w0:Cx} {ν:Nat → Value} {w:World} {O:Own} {h:Hint} {n:Nat} {e:Env} {a:Act}
theorem Inv.glob (I:Inv P w0 ν O n e a w) {g:Nat} {q:Value → Prop} (hf:MemFact.fact = some (g,q)):okO w0 w O g 0 ∧ O g = none ∧ g < w.heap.size ∧ ∃ v,w.cell? ⟨g,0,none⟩ = some v ∧ q v:=by
 obtain ⟨h1,h2,h3,v,h4,h5⟩:=I.mg g q hf
 have hO:O g = none:=by
  cases hO:O g with
  | none => rfl
  | some m => exact absurd ⟨h3,h2⟩ (I.own g m hO).1
 obtain ⟨s1,s2⟩:=I.st g 0 h1
 exact ⟨s2,hO,Nat.lt_of_lt_of_le h3 I.bel.size,v,s1.trans h4,h5⟩
open Classical in
/-- Behind a call. -/
theorem callKs_sound {Q:Exit → Act → World → Prop} {K:Act → World → Prop} {o:Oper} {f:FuncId} {xs:List Operand} {l:List AV} {ks:List Nat} {r:AV} {post:List (Nat × AV)} {s s':List Ans} {ws:List (Nat × Option AV)} {p:Option Prop} {vs:List Value} (I:Inv P w0 ν O n e a w)
  (h1:callKs P h n e s o xs f l ks r post = some (ws,p,s')) (hp:holds p) (hx:(∀ (args:Array Value) (w:World),(callFunc f args).run P w = .ok (.enter f args) w) → (execOp a.eval o).run P w = .ok (.enter f vs.toArray) w) (g1:vs.length = l.length)
  (g2:∀ (i:Nat) (x:AV) (v:Value),l[i]? = some x → vs[i]? = some v → RepK w (okO w0 w O) ν x v) (hd:∀ t,o.dst = some t → t < n) (k:Next P w0 n (e.puts ws) K):o.wp P a w K Q:=by
 unfold callKs at h1
 obtain ⟨pre,hpre,h2⟩:=Option.bind_eq_some_iff.1 h1
 obtain ⟨hc,h3⟩:=plain_of h2
 simp only [Option.some.injEq,Prod.mk.injEq] at h3
 obtain ⟨rfl,rfl,_⟩:=h3
 simp only [Bool.and_eq_true] at hc
 obtain ⟨_,c2,c3,c4,c5⟩:=hc
 obtain ⟨p1,p2⟩:=preOf_some hpre
 have hco:CallH P f l pre r post:=hp
 have hpostC:∀ k x,(k,x) ∈ post → x.isC = true ∧ (k ∈ ks ∨ (k < keyB ∧ e k = none)):=by
  intro k x hx
  have:=List.all_eq_true.1 c4 (k,x) hx
  simp only [Bool.and_eq_true,Bool.or_eq_true] at this
  refine ⟨this.1,this.2.imp mem_iff.1 fun h => ?_⟩
  exact ⟨Nat.le_of_ble_eq_true h.2.1,Option.isNone_iff_eq_none.1 h.2.2⟩
 have hclosed:∀ k,k ∈ r.keys ∨ k ∈ keysIn post → k ∈ keysOf post:=fun k hk => mem_iff.1 (List.all_eq_true.1 c5 k (by simpa using hk))
 let X:Nat → Prop:=fun b => ∃ k x,(k,x) ∈ pre ∧ hold x (ν k) = some b
 have hXO:∀ b,X b → ∃ m,O b = some m:=by
  rintro b ⟨k,x,hkx,hb⟩
  exact hold_own (I.key k x (p2 k x hkx).1 (p2 k x hkx).2) hb
 let Oc:Own:=fun b => if X b then O b else none
 have hOc:∀ b,X b → Oc b = O b:=fun b hb => if_pos hb
 have hOc2:∀ b m,Oc b = some m → X b ∧ O b = some m:=by
  intro b m hm
  by_cases hb:X b
  ·exact ⟨hb,by rw [hOc b hb] at hm; exact hm⟩
  ·rw [show Oc b = none from if_neg hb] at hm
   cases hm
 let c:Cx:=⟨w,okO w0 w O,X,ν⟩
 have hcall:=hco.calls c Oc vs (fun b off hb => ⟨hb.1,fun m hm => hb.2.1 m (hOc2 b m hm).2,fun _ => hb⟩) (fun b m hm => ⟨(hOc2 b m hm).1,(I.own b m (hOc2 b m hm).2).2⟩) (fun b hb => by rw [hOc b hb]; exact hXO b hb) g1 g2
  ⟨fun k x hkx => KeyRep.world (fun _ _ _ => rfl) (fun _ _ h => h) (fun b hb => ⟨rfl,hOc b ⟨k,x,hkx,hb⟩⟩) (I.key k x (p2 k x hkx).1 (p2 k x hkx).2),fun k k' x x' h1 h2 hne => I.far k k' x x' hne (p2 k x h1).1 (p2 k' x' h2).1⟩
  (fun g v hf => by
   obtain ⟨q1,q2,q3,q4⟩:=I.glob hf
   refine ⟨q1,fun hX => ?_,q3,q4⟩
   obtain ⟨m,hm⟩:=hXO g hX
   rw [q2] at hm
   cases hm)
 unfold Oper.wp
 rw [hx hco.enter,Oper.upon_enter]
 refine hcall.mono ?_
 rintro _ w' ⟨v,ν',O',rfl,PP⟩
 let O2:Own:=fun b => if X b ∨ w.heap.size ≤ b then O' b else O b
 let ν2:Nat → Value:=fun k => if k ∈ keysOf post then ν' k else ν k
 have o1:∀ b,X b ∨ w.heap.size ≤ b → O2 b = O' b:=fun b hb => if_pos hb
 have o2:∀ b,¬ X b → b < w.heap.size → O2 b = O b:=fun b h1 h2 => if_neg (by rintro (h | h); exact h1 h; omega)
 have n1:∀ k,k ∈ keysOf post → ν2 k = ν' k:=fun k hk => if_pos hk
 have n2:∀ k,e k ≠ none → ν2 k = ν k:=by
  intro k hk
  by_cases hkp:k ∈ keysOf post
  ·rw [n1 k hkp]
   obtain ⟨x,hx⟩:=keysOf_mem.1 hkp
   rcases (hpostC k x hx).2 with h | h
   ·rw [← p1] at h
    obtain ⟨y,hy⟩:=keysOf_mem.1 h
    exact PP.same k y hy
   ·exact absurd h.2 hk
  ·exact if_neg hkp
 have hown':∀ b m,O' b = some m → X b ∨ w.heap.size ≤ b:=by
  intro b m hm
  have:=(PP.own b m hm).1
  by_cases hb:X b
  ·exact .inl hb
  ·right
   apply Classical.byContradiction
   intro hlt
   exact this ⟨Nat.lt_of_not_le hlt,hb⟩
 have hokp:∀ b off,okO c w' O' b off → okO w0 w' O2 b off:=by
  intro b off hk
  refine ⟨hk.1,fun m hm => ?_,fun ho => ?_⟩
  ·by_cases hb:X b ∨ w.heap.size ≤ b
   ·rw [o1 b hb] at hm
    exact hk.2.1 m hm
   ·have hb1:¬ X b:=fun h => hb (.inl h)
    have hb2:b < w.heap.size:=Nat.lt_of_not_le fun h => hb (.inr h)
    rw [o2 b hb1 hb2] at hm
    exact (hk.2.2 ⟨hb2,hb1⟩).2.1 m hm
  ·have hb2:b < w.heap.size:=Nat.lt_of_lt_of_le ho.1 I.bel.size
   have hb1:¬ X b:=fun hb => by
    obtain ⟨m,hm⟩:=hXO b hb
    exact (I.own b m hm).1 ho
   exact (hk.2.2 ⟨hb2,hb1⟩).2.2 ho
 have hst:∀ b off,okO w0 w O b off → w'.cell? ⟨b,off,none⟩ = w.cell? ⟨b,off,none⟩ ∧ okO w0 w' O2 b off:=fun b off hk => ⟨(PP.st b off hk).1,hokp b off (PP.st b off hk).2⟩
 have hm:=fun b o hk => (hst b o hk).1
 have hok:=fun b o hk => (hst b o hk).2
 -- the slots and keys behind the call, but for the result
 let e1:Env:=(e.puts (oldW post ks)).puts (newW ks post)
 have he1:∀ t,e1 t = if t ∈ keysOf post then lookC post t else if t ∈ ks then some .dead else e t:=by
  intro t
  show ((e.puts (oldW post ks)).puts (newW ks post)) t = _
  rw [puts_new c3,puts_old]
  by_cases h1:t ∈ keysOf post
  ·rw [if_pos h1]
   by_cases h2:t ∈ ks
   ·rw [if_neg (fun h => h.1 h2),if_pos h2]
    cases hl:lookC post t with
    | none => exact absurd h1 (lookC_none.1 hl)
    | some x => rfl
   ·rw [if_pos ⟨h2,h1⟩]
  ·rw [if_neg (fun h => h1 h.2),if_neg h1]
   by_cases h2:t ∈ ks
   ·rw [if_pos h2,if_pos h2,lookC_none.2 h1]
    rfl
   ·rw [if_neg h2,if_neg h2]
 have cases1:∀ {t x},e1 t = some x → (t,x) ∈ post ∨ (x = .dead ∧ t ∈ ks) ∨ (e t = some x ∧ t ∉ ks):=by
  intro t x hx
  rw [he1] at hx
  by_cases h1:t ∈ keysOf post
  ·rw [if_pos h1] at hx
   exact .inl (lookC_mem hx)
  ·rw [if_neg h1] at hx
   by_cases h2:t ∈ ks
   ·rw [if_pos h2] at hx
    exact .inr (.inl ⟨(Option.some.inj hx).symm,h2⟩)
   ·rw [if_neg h2] at hx
    exact .inr (.inr ⟨hx,h2⟩)
 have dom1:∀ k,k ∈ keysOf post → e1 k ≠ none:=by
  intro k hk
  rw [he1,if_pos hk]
  exact fun h => lookC_none.1 h hk
 have dom2:∀ k,e k ≠ none → e1 k ≠ none:=by
  intro k hk
  by_cases h1:k ∈ keysOf post
  ·exact dom1 k h1
  ·rw [he1,if_neg h1]
   split
   ·nofun
   ·exact hk
 have hfr:∀ {t x},e t = some x → t ∉ ks → ∀ b,hold x (ν t) = some b → ¬ X b ∧ b < w.heap.size:=by
  intro t x hx ht b hb
  refine ⟨?_,(I.holdlt hx hb).2⟩
  rintro ⟨q,y,hqy,hby⟩
  have hqt:q ≠ t:=by
   rintro rfl
   exact ht (p1 ▸ keysOf_mem.2 ⟨y,hqy⟩)
  exact I.far q t y x hqt (p2 q y hqy).1 hx b hby hb
 have I1:Inv P w0 ν2 O2 n e1 a w':=by
  refine ⟨⟨PP.keeps.os.trans I.bel.os,PP.keeps.tape.trans I.bel.tape,PP.keeps.output.trans I.bel.output,Nat.le_trans I.bel.size PP.keeps.size,fun b hb => ?_⟩,fun b m hbm => ?_,fun b off hg => ⟨(hm b off (I.st b off hg).2).trans (I.st b off hg).1,hok b off (I.st b off hg).2⟩,fun t x hx hc => ?_,fun t x hx hc => ?_,fun t t' x x' hne h1 h2 b hb => ?_,fun t x hx q hq => ?_,I.size,I.def0,fun q hq => ?_,I.small,I.mg⟩
  ·refine (PP.keeps.block b ⟨Nat.lt_of_lt_of_le hb.1 I.bel.size,fun hX => ?_⟩).trans (I.bel.block b hb)
   obtain ⟨m,hm⟩:=hXO b hX
   exact (I.own b m hm).1 hb
  ·by_cases hb:X b ∨ w.heap.size ≤ b
   ·rw [o1 b hb] at hbm
    refine ⟨fun ho => ?_,(PP.own b m hbm).2⟩
    rcases hb with hb | hb
    ·obtain ⟨m',hm'⟩:=hXO b hb
     exact (I.own b m' hm').1 ho
    ·have:=ho.1
     have:=I.bel.size
     omega
   ·have hb1:¬ X b:=fun h => hb (.inl h)
    have hb2:b < w.heap.size:=Nat.lt_of_not_le fun h => hb (.inr h)
    rw [o2 b hb1 hb2] at hbm
    exact ⟨(I.own b m hbm).1,Nat.lt_of_lt_of_le hb2 PP.keeps.size⟩
  ·rcases cases1 hx with h | ⟨rfl,_⟩ | ⟨h,_⟩
   ·rw [(hpostC t x h).1] at hc
    cases hc
   ·cases hc
   ·exact ((I.rep t x h hc).mono hm hok).congr fun q hq => n2 q (I.cl t x h q hq)
  ·rcases cases1 hx with h | ⟨rfl,_⟩ | ⟨h,hks⟩
   ·have hr:=PP.heap.rep t x h
    rw [n1 t (keysOf_mem.2 ⟨x,h⟩)]
    have hr2:=KeyRep.world (w':=w') (ok':=okO w0 w' O2) (O':=O2) (fun _ _ _ => rfl) hokp (fun b hb => ⟨rfl,by
     obtain ⟨m,hm⟩:=hold_own hr hb
     exact o1 b (hown' b m hm)⟩) hr
    exact hr2.congr fun q hq => n1 q (hclosed q (.inr (keysIn_mem.2 ⟨t,x,h,hq⟩)))
   ·exact trivial
   ·have hdom:e t ≠ none:=by rw [h]; nofun
    rw [n2 t hdom]
    have hr2:=KeyRep.world (w':=w') (ok':=okO w0 w' O2) (O':=O2) hm hok (fun b hb => by
     obtain ⟨f1,f2⟩:=hfr h hks b hb
     exact ⟨PP.keeps.block b ⟨f2,f1⟩,o2 b f1 f2⟩) (I.key t x h hc)
    exact hr2.congr fun q hq => n2 q (I.cl t x h q hq)
  ·-- apart
   have side:∀ {t x},e1 t = some x → ∀ b,hold x (ν2 t) = some b → ((t,x) ∈ post ∧ hold x (ν' t) = some b ∧ (X b ∨ w.heap.size ≤ b)) ∨ (e t = some x ∧ t ∉ ks ∧ hold x (ν t) = some b ∧ ¬ X b ∧ b < w.heap.size):=by
    intro t x hx b hb
    rcases cases1 hx with h | ⟨rfl,_⟩ | ⟨h,hks⟩
    ·rw [n1 t (keysOf_mem.2 ⟨x,h⟩)] at hb
     obtain ⟨m,hm⟩:=hold_own (PP.heap.rep t x h) hb
     exact .inl ⟨h,hb,hown' b m hm⟩
    ·cases hb
    ·rw [n2 t (by rw [h]; nofun)] at hb
     obtain ⟨f1,f2⟩:=hfr h hks b hb
     exact .inr ⟨h,hks,hb,f1,f2⟩
   intro hb2
   rcases side h1 b hb with ⟨q1,q2,q3⟩ | ⟨q1,q2,q3,q4,q5⟩
   ·rcases side h2 b hb2 with ⟨r1,r2,r3⟩ | ⟨r1,r2,r3,r4,r5⟩
    ·exact PP.heap.far t t' x x' q1 r1 hne b q2 r2
    ·rcases q3 with h | h
     ·exact r4 h
     ·omega
   ·rcases side h2 b hb2 with ⟨r1,r2,r3⟩ | ⟨r1,r2,r3,r4,r5⟩
    ·rcases r3 with h | h
     ·exact q4 h
     ·omega
    ·exact I.far t t' x x' hne q1 r1 b q3 r3
  ·rcases cases1 hx with h | ⟨rfl,_⟩ | ⟨h,_⟩
   ·exact dom1 q (hclosed q (.inr (keysIn_mem.2 ⟨t,x,h,hq⟩)))
   ·cases hq
   ·exact dom2 q (I.cl t x h q hq)
  ·rw [← I.fix q hq]
   by_cases hqp:q ∈ keysOf post
   ·obtain ⟨x,hx⟩:=keysOf_mem.1 hqp
    rcases (hpostC q x hx).2 with h | h
    ·refine n2 q ?_
     rw [← p1] at h
     obtain ⟨y,hy⟩:=keysOf_mem.1 h
     rw [(p2 q y hy).1]
     nofun
    ·have:=h.1
     omega
   ·exact if_neg hqp
 have hrr:RepK w' (okO w0 w' O2) ν2 r v:=(PP.rep.mono (fun _ _ _ => rfl) hokp).congr fun q hq => n1 q (hclosed q (.inl hq))
 have I2:=I1.put1 o.dst hrr (fun q hq => dom1 q (hclosed q (.inl hq))) hd
 refine k ν2 O2 _ _ ?_
 rw [puts_append,puts_append]
 exact I2
theorem okFlat_rep {w w':World} {ok ok':Nat → Nat → Prop} {ν ν':Nat → Value} {x:AV} {v:Value} (h:okFlat x = true) (hr:RepK w ok ν x v):RepK w' ok' ν' x v:=by
 cases x with
 | val u =>
  obtain ⟨rfl,hf⟩:=rep_val (val_inv hr)
  exact .imm (.val _ hf)
 | agg l =>
  obtain ⟨vs,rfl,hl,ho,hh⟩:=agg_inv hr
  simp only [okFlat,List.all_eq_true] at h
  refine .agg l vs hl ho fun i x v hx hv => ?_
  have hx2:=h x (List.mem_of_getElem? hx)
  have hr2:=hh i x v hx hv
  cases x with
  | val u =>
   obtain ⟨rfl,hf⟩:=rep_val (val_inv hr2)
   exact .imm (.val _ hf)
  | _ => cases hx2
 | _ => cases h
theorem flatR_rep {w w':World} {ok ok':Nat → Nat → Prop} {ν ν':Nat → Value} {x:AV} {v:Value} (h:flatR x = true) (hr:RepK w ok ν x v):RepK w' ok' ν' x v:=by
 cases x with
 | tup l =>
  obtain ⟨vs,rfl,hl,hh⟩:=tup_inv hr
  simp only [flatR,List.all_eq_true] at h
  exact .tup l vs hl fun i x v hx hv => okFlat_rep (h x (List.mem_of_getElem? hx)) (hh i x v hx hv)
 | _ => exact okFlat_rep h hr
theorem okFlat_kf {x:AV} (h:okFlat x = true):x.kf = true:=by
 cases x with
 | val u => rfl
 | agg l =>
  simp only [okFlat,List.all_eq_true] at h
  simp only [AV.kf]
  exact kfL_of fun y hy => by
   have:=h y hy
   cases y <;> first | rfl | cases this
 | _ => cases h
theorem flatR_kf {x:AV} (h:flatR x = true):x.kf = true:=by
 cases x with
 | tup l =>
  simp only [flatR,List.all_eq_true] at h
  simp only [AV.kf]
  exact kfL_of fun y hy => okFlat_kf (h y hy)
 | _ => exact okFlat_kf h
/-- Behind a call whose result has no memory. -/
theorem callT_sound {Q:Exit → Act → World → Prop} {K:Act → World → Prop} {o:Oper} {f:FuncId} {l:List AV} {r:AV} {vs:List Value} (I:Inv P w0 ν O n e a w)
  (hco:CallOk P f l r) (hf:flatR r = true) (hx:(∀ (args:Array Value) (w:World),(callFunc f args).run P w = .ok (.enter f args) w) → (execOp a.eval o).run P w = .ok (.enter f vs.toArray) w) (g1:vs.length = l.length)
  (g2:∀ (i:Nat) (x:AV) (v:Value),l[i]? = some x → vs[i]? = some v → RepK w (okT w0 w O true) ν x v) (hd:∀ t,o.dst = some t → t < n) (k:Next P w0 n (e.puts (w1 o.dst r)) K):o.wp P a w K Q:=by
 let c:Cx:=⟨w,okT w0 w O true,fun _ => False,ν⟩
 have hcall:=hco.calls c (fun _ => none) vs (fun b off hb => ⟨hb,fun m hm => (by cases hm),fun _ => hb⟩) (fun b m hm => (by cases hm)) (fun b hb => hb.elim) g1 g2 ⟨fun k x hkx => (by cases hkx),fun k k' x x' h1 => (by cases h1)⟩
  (fun g v hf => by
   obtain ⟨q1,q2,q3,q4⟩:=I.glob hf
   exact ⟨okT_of (tv:=true) q1,fun h => h,q3,q4⟩)
 unfold Oper.wp
 rw [hx hco.enter,Oper.upon_enter]
 refine hcall.mono ?_
 rintro _ w' ⟨v,ν',O',rfl,PP⟩
 have hb:∀ b,b < w.heap.size → w'.heap[b]? = w.heap[b]?:=fun b hb => PP.keeps.block b ⟨hb,fun h => h⟩
 have I1:Inv P w0 ν O n e a w':=by
  refine I.world ⟨PP.keeps.os.trans I.bel.os,PP.keeps.tape.trans I.bel.tape,PP.keeps.output.trans I.bel.output,Nat.le_trans I.bel.size PP.keeps.size,fun b ho => (hb b (Nat.lt_of_lt_of_le ho.1 I.bel.size)).trans (I.bel.block b ho)⟩ (fun b m hm => ⟨(I.own b m hm).1,Nat.lt_of_lt_of_le (I.own b m hm).2 PP.keeps.size⟩)
   (fun b off hk => ⟨cell_same (hb b hk.1),Nat.lt_of_lt_of_le hk.1 PP.keeps.size,hk.2⟩) (fun t x hx b hb2 => ⟨hb b (I.holdlt hx hb2).2,rfl⟩)
 exact k ν O _ _ (I1.put1 o.dst (flatR_rep hf PP.rep) (fun q hq => by rw [kf_keys (flatR_kf hf)] at hq; cases hq) hd)
end
end Go.Rh

namespace Go.Rh
open Go.RowKit
variable [MemFact]

section
variable {P:Program} {w0:Cx} {ν:Nat → Value} {w:World} {O:Own} {h:Hint} {n:Nat} {e:Env} {a:Act}
theorem op_pure {Q:Exit → Act → World → Prop} {K:Act → World → Prop} {o:Oper} {s s':List Ans} {ws:List (Nat × Option AV)} {p:Option Prop} (I:Inv P w0 ν O n e a w) (hs:∀ cs b,o.op ≠ .select cs b) (h:pureOp P e s o = some (ws,p,s'))
  (hd:∀ t,o.dst = some t → t < n) (k:Next P w0 n (e.puts ws) K):o.wp P a w K Q:=by
 unfold pureOp at h
 obtain ⟨hk,h⟩:=plain_of h
 have hcg:execOp a.eval o = execOp (opv e) o:=execOp_congr o hs fun x hx => opv_eq I (by rw [List.all_eq_true] at hk; exact hk x (by simpa using hx))
 split at h
 ·rename_i v hv
  obtain ⟨y,hy,h3⟩:=Option.map_eq_some_iff.1 h
  simp only [Prod.mk.injEq] at h3
  obtain ⟨rfl,_,_⟩:=h3
  obtain ⟨hr,hp⟩:=ofV_rep (w:=w) (okO w0 w O) hy
  exact op_imm I (by rw [hcg]; exact pureRun_run hv w) hr hp hd k
 ·cases h
theorem op_ask {Q:Exit → Act → World → Prop} {K:Act → World → Prop} {o:Oper} {s s':List Ans} {ws:List (Nat × Option AV)} {p:Option Prop} (I:Inv P w0 ν O n e a w) (hs:∀ cs b,o.op ≠ .select cs b) (h:askOp P e s o = some (ws,p,s')) (hp:holds p)
  (hd:∀ t,o.dst = some t → t < n) (k:Next P w0 n (e.puts ws) K):o.wp P a w K Q:=by
 unfold askOp at h
 obtain ⟨hk,h⟩:=plain_of h
 have hcg:execOp a.eval o = execOp (opv e) o:=execOp_congr o hs fun x hx => opv_eq I (by rw [List.all_eq_true] at hk; exact hk x (by simpa using hx))
 split at h
 ·obtain ⟨hf,h⟩:=plain_of h
  simp only [Option.some.injEq,Prod.mk.injEq] at h
  obtain ⟨rfl,rfl,_⟩:=h
  exact op_imm I (by rw [hcg]; exact OpP.ok hp w) (.val _ hf) rfl hd k
 ·cases h
theorem op_cmp {Q:Exit → Act → World → Prop} {K:Act → World → Prop} {o:Oper} {op:BinOp} {t u:TypeId} {y z:Operand} {s s':List Ans} {ws:List (Nat × Option AV)} {p:Option Prop} (I:Inv P w0 ν O n e a w) (ho:o.op = .binOp op t y z u) (h:cmpOp P e s o.dst op t y z = some (ws,p,s')) (hp:holds p)
  (hd:∀ t,o.dst = some t → t < n) (k:Next P w0 n (e.puts ws) K):o.wp P a w K Q:=by
 unfold cmpOp at h
 obtain ⟨hk,h⟩:=plain_of h
 simp only [Bool.and_eq_true] at hk
 split at h
 ·rename_i v _ _
  obtain ⟨hf,h⟩:=plain_of h
  simp only [Option.some.injEq,Prod.mk.injEq] at h
  obtain ⟨rfl,rfl,_⟩:=h
  have hb:BinIs P op t y z (a.eval y) (a.eval z) v:=by rw [opv_eq I hk.1,opv_eq I hk.2]; exact hp
  exact op_imm I (ex_bin _ o op t y z u _ ho hb w) (.val _ hf) rfl hd k
 ·cases h
theorem fitsK_some {t:TypeId} {y:AV} (h:fitsK P t y = true):fits P t y = true ∧ (P.info? t).map (·.size) = some y.cnt:=by
 simp only [fitsK,Bool.and_eq_true,beq_iff_eq] at h
 exact h
theorem elems_sound (I:Inv P w0 ν O n e a w) {T:Nat}:∀ {ps:List (Nat × Operand)} {k:Nat} {l:List AV},elems P h T e k ps = some l → l.length = ps.length ∧ (ps.map fun p => (p.1,a.eval p.2)) = (((ps.map fun p => a.eval p.2).zipIdx k).map fun p => (p.2,p.1)) ∧
  ∀ (i:Nat) (x:AV) (v:Value),l[i]? = some x → (ps.map fun p => a.eval p.2)[i]? = some v → fitsK P T x = true ∧ Rep w (okO w0 w O) x v
 | [],k,l,h => by
  simp only [elems,Option.some.injEq] at h
  subst h
  exact ⟨rfl,rfl,fun i x v hx => by simp at hx⟩
 | (q,x) :: ps,k,l,h => by
  simp only [elems] at h
  obtain ⟨hq,h⟩:=plain_of h
  obtain rfl:=Nat.eq_of_beq_eq_true hq
  obtain ⟨y,hy,h⟩:=Option.bind_eq_some_iff.1 h
  obtain ⟨hf,h⟩:=plain_of h
  obtain ⟨l',hl,rfl⟩:=Option.map_eq_some_iff.1 h
  obtain ⟨h1,h2,h3⟩:=elems_sound I hl
  refine ⟨by simp [h1],by simp only [List.map_cons,List.zipIdx_cons,h2],fun i z v hz hv => ?_⟩
  cases i with
  | zero =>
   simp only [List.getElem?_cons_zero,Option.some.injEq,List.map_cons] at hz hv
   subst hz hv
   exact ⟨hf,(vw_rep I hy).1⟩
  | succ i => exact h3 i z v (by simpa using hz) (by simpa using hv)
theorem caps_sound (I:Inv P w0 ν O n e a w):∀ {xs:List Operand} {l:List AV},caps e xs = some l → (xs.map a.eval).length = l.length ∧ (∀ (i:Nat) (x:AV) (v:Value),l[i]? = some x → (xs.map a.eval)[i]? = some v → RepK w (okO w0 w O) ν x v) ∧ ∀ k ∈ keysL l,e k ≠ none
 | [],l,h => by
  simp only [caps,Option.some.injEq] at h
  subst h
  exact ⟨rfl,fun i x v hx => by simp at hx,fun k hk => by simp [keysL] at hk⟩
 | x :: xs,l,h => by
  simp only [caps] at h
  obtain ⟨y,h1,h2⟩:=Option.bind_eq_some_iff.1 h
  obtain ⟨l',h3,rfl⟩:=Option.map_eq_some_iff.1 h2
  obtain ⟨k1,k2,k3⟩:=caps_sound I h3
  obtain ⟨r1,r2⟩:=opd_rep I h1
  refine ⟨by simpa using k1,fun i z v hz hv => ?_,fun k hk => ?_⟩
  ·cases i with
   | zero =>
    simp only [List.getElem?_cons_zero,Option.some.injEq,List.map_cons] at hz hv
    subst hz hv
    exact r1
   | succ i => exact k2 i z v (by simpa using hz) (by simpa using hv)
  ·simp only [keysL,List.mem_append] at hk
   rcases hk with hk | hk
   ·exact r2 k hk
   ·exact k3 k hk
theorem fold_setM (off:Nat):∀ (l:List Value) (j:Nat) (A:Array Value),((l.zipIdx j).foldl (fun cs p => cs.setIfInBounds (off + p.2) p.1) A).toList = setM A.toList (off + j) l
 | [],j,A => rfl
 | x :: l,j,A => by
  simp only [List.zipIdx_cons,List.foldl_cons,setM]
  rw [fold_setM off l (j + 1)]
  rw [Array.toList_setIfInBounds,Nat.add_assoc]
/-- The parts of a struct are put in. -/
theorem parts_sound (I:Inv P w0 ν O n e a w) {pl:Nat → Option (Nat × Nat)}:∀ {ps:List (Nat × Operand)} {zl l:List AV} {A:Array Value},partsOf pl e ps zl = some l → A.toList.length = zl.length → (∀ x ∈ zl,x.one = true) → (∀ (i:Nat) (x:AV) (v:Value),zl[i]? = some x → A.toList[i]? = some v → RepK w (okO w0 w O) ν x v) → (∀ k ∈ keysL zl,e k ≠ none) →
  ∃ A',Instr.fill pl A (ps.map fun p => (p.1,a.eval p.2)) = some A' ∧ A'.toList.length = l.length ∧ (∀ x ∈ l,x.one = true) ∧ (∀ (i:Nat) (x:AV) (v:Value),l[i]? = some x → A'.toList[i]? = some v → RepK w (okO w0 w O) ν x v) ∧ ∀ k ∈ keysL l,e k ≠ none
 | [],zl,l,A,h,hA,ho,hr,hk => by
  simp only [partsOf,Option.some.injEq] at h
  subst h
  exact ⟨A,rfl,hA,ho,hr,hk⟩
 | (i,x) :: ps,zl,l,A,h,hA,ho,hr,hk => by
  simp only [partsOf] at h
  obtain ⟨⟨off,size⟩,hpl,h⟩:=Option.bind_eq_some_iff.1 h
  obtain ⟨y,hy,h⟩:=Option.bind_eq_some_iff.1 h
  obtain ⟨hc,h⟩:=plain_of h
  simp only [Bool.and_eq_true] at hc
  obtain ⟨c1,c2,c3⟩:=hc
  have c1:y.parts.length = size:=Nat.eq_of_beq_eq_true c1
  have c3:off + y.parts.length ≤ zl.length:=Nat.le_of_ble_eq_true c3
  obtain ⟨r1,r2⟩:=opd_rep I hy
  obtain ⟨ds,d1,d2,d3,d4,_⟩:=rep_cells c2 r1
  have hz:(a.eval x).cells.zipIdx.foldl (fun cs (p:Value × Nat) => cs.setIfInBounds (off + p.2) p.1) A = ((ds.zipIdx 0).foldl (fun cs p => cs.setIfInBounds (off + p.2) p.1) A):=by
   rw [d1,← Array.foldl_toList,Array.toList_zipIdx]
  have hset:((a.eval x).cells.zipIdx.foldl (fun cs (p:Value × Nat) => cs.setIfInBounds (off + p.2) p.1) A).toList = setM A.toList off ds:=by
   rw [hz,fold_setM,Nat.add_zero]
  obtain ⟨A',f1,f2⟩:=parts_sound I (ps:=ps) (A:=(a.eval x).cells.zipIdx.foldl (fun cs (p:Value × Nat) => cs.setIfInBounds (off + p.2) p.1) A) h (by rw [hset,setM_len,setM_len]; exact hA) (fun z hz => by
   rcases setM_mem hz with hz | hz
   ·exact ho z hz
   ·exact List.all_eq_true.1 c2 z hz) (fun j z v hz hv => by
   rw [hset,setM_get (by omega)] at hv
   rw [setM_get c3] at hz
   by_cases hj:off ≤ j ∧ j < off + y.parts.length
   ·rw [if_pos hj] at hz
    rw [if_pos (by omega)] at hv
    exact d3 _ z v hz hv
   ·rw [if_neg hj] at hz
    rw [if_neg (by omega)] at hv
    exact hr j z v hz hv) (fun k hkk => by
   obtain ⟨z,hz,hkz⟩:=mem_keysL.1 hkk
   rcases setM_mem hz with hz | hz
   ·exact hk k (mem_keysL.2 ⟨z,hz,hkz⟩)
   ·exact r2 k (parts_keys.1 (mem_keysL.2 ⟨z,hz,hkz⟩)))
  refine ⟨A',?_,f2⟩
  simp only [List.map_cons,Instr.fill,hpl]
  have hcs:(a.eval x).cells.size = ds.length:=by rw [d1]; simp
  have hAs:A.size = A.toList.length:=rfl
  have hne:¬ ((a.eval x).cells.size ≠ size ∨ off + (a.eval x).cells.size > A.size):=by
   rw [hcs,hAs]
   rintro (h | h)
   ·exact h (by omega)
   ·omega
  have hne2:¬ ((decide ((a.eval x).cells.size ≠ size) || decide (off + (a.eval x).cells.size > A.size)) = true):=fun h => hne (by
   rcases Bool.or_eq_true _ _ ▸ h with h | h
   ·exact .inl (of_decide_eq_true h)
   ·exact .inr (of_decide_eq_true h))
  rw [if_neg hne2]
  exact f1
theorem ex_build2 (ρ:Operand → Value) (o:Oper) (t:TypeId) (ps:Array (Nat × Operand)) (pl:Nat → Option (Nat × Nat)) (zc A:Array Value) (inf:TypeInfo) (hi:P.info? t = some inf) (hz:inf.zero.map Value.cells = some zc) (hpl:places P t = some pl) (ho:o.op = .build t ps) (h:Instr.fill pl zc (ps.toList.map fun p => (p.1,ρ p.2)) = some A) (w:World):(execOp ρ o).run P w = .ok (.value (.agg A)) w:=by
 have hb:P.built t (ps.map fun (i,x) => (i,ρ x)).toList = some A:=by
  have he:(ps.map fun (i,x) => (i,ρ x)).toList = ps.toList.map fun p => (p.1,ρ p.2):=by simp
  obtain ⟨z,hz1,rfl⟩:=Option.map_eq_some_iff.1 hz
  rw [he]
  unfold places at hpl
  unfold Program.built
  rw [hi] at hpl ⊢
  cases hu:P.underlying t with
  | none => rw [hu] at hpl; cases hpl
  | some d =>
   rw [hu] at hpl
   cases d with
   | array len el =>
    obtain ⟨ie,h1,rfl⟩:=Option.map_eq_some_iff.1 hpl
    simp only [hz1,h1]
    exact h
   | struct fs =>
    obtain ⟨pls,h1,rfl⟩:=Option.map_eq_some_iff.1 hpl
    simp only [hz1,h1]
    exact h
   | _ => cases hpl
 unfold execOp
 rw [ho]
 simp only [Sem.run_bind,run_build w t _ A hb,Result.andThen_ok]
 rfl
theorem fieldOf_some {t:TypeId} {i off s:Nat} {b:Bool} (h:fieldOf P t i = some (off,s,b)):∃ fs f,P.underlying t = some (.struct fs) ∧ fs[i]? = some f ∧ f.offset = off ∧ tyK P f.type = some (b,s) ∧ s ≠ 0:=by
 unfold fieldOf at h
 split at h
 ·rename_i fs hu
  obtain ⟨f,hf,h2⟩:=Option.bind_eq_some_iff.1 h
  obtain ⟨q,hq,h3⟩:=Option.bind_eq_some_iff.1 h2
  cases hb:Nat.beq q.2 0
  ·rw [hb] at h3
   simp only [cond_false,Option.some.injEq,Prod.mk.injEq] at h3
   obtain ⟨rfl,rfl,rfl⟩:=h3
   exact ⟨fs,f,hu,hf,rfl,hq,fun h0 => by rw [h0] at hb; cases hb⟩
  ·rw [hb] at h3
   cases h3
 ·cases h
theorem ex_fieldAddr (ρ:Operand → Value) (o:Oper) (t:TypeId) (x:Operand) (i off s:Nat) (b:Bool) (ad:Addr) (ho:o.op = .fieldAddr t x i) (hj:fieldOf P t i = some (off,s,b)) (hx:ρ x = .pointer (some ad)):(execOp ρ o).run P w = .ok (.value (.pointer (some (ad.add off)))) w:=by
 obtain ⟨fs,f,hu,hf,rfl,hq,h0⟩:=fieldOf_some hj
 have hsz:=(tyK_some hq w).2.1
 have hpl:(fieldPlace ad f).run P w = .ok (ad.add f.offset) w:=by
  simp only [fieldPlace,Sem.run_bind,hsz,Result.andThen_ok,if_neg h0]
  rfl
 unfold execOp
 rw [ho]
 simp only [hx,Instr.fieldAt,Instr.sureAddr,Sem.run_bind,run_underlying hu,Result.andThen_ok,hf]
 simp only [Sem.run_pure,Result.andThen_ok,Sem.run_bind,hpl]
theorem ex_field (ρ:Operand → Value) (o:Oper) (t:TypeId) (x:Operand) (i off s:Nat) (b:Bool) (cs:List Value) (ho:o.op = .field t x i) (hj:fieldOf P t i = some (off,s,b)) (hx:ρ x = .agg cs.toArray) (hl:off + (bif b then s else 1) ≤ cs.length) :
  ∃ v,(execOp ρ o).run P w = .ok (.value v) w ∧ v = (bif b then .agg ((cs.drop off).take s).toArray else cs.getD off undef):=by
 obtain ⟨fs,f,hu,hf,rfl,hq,h0⟩:=fieldOf_some hj
 obtain ⟨k1,k2,k3⟩:=tyK_some hq w
 refine ⟨_,?_,rfl⟩
 unfold execOp
 rw [ho]
 simp only [hx,Instr.field,asAgg,Sem.run_bind,run_underlying hu,Result.andThen_ok,hf,Sem.run_pure,part,k1,k2]
 cases b
 ·simp only [cond_false] at hl
  have:f.offset < cs.length:=by omega
  simp [List.getD,List.getElem?_eq_getElem this]
 ·simp only [cond_true,if_true,Sem.run_bind,k2,Result.andThen_ok,Sem.run_pure]
  congr 3
  apply Array.toList_inj.1
  simp [List.take_drop,Nat.add_comm]
theorem madeCells_get {z:List Value} {m k:Nat} (hz:z.length = k) (hk:0 < k) {i:Nat} (hi:i < m):((madeCells z.toArray (m * k)).toList.drop (i * k)).take k = z:=by
 apply List.ext_getElem?
 intro j
 rw [List.getElem?_take]
 by_cases hj:j < k
 ·rw [if_pos hj,List.getElem?_drop]
  have hlt:i * k + j < m * k:=by
   have h1:(i + 1) * k ≤ m * k:=Nat.mul_le_mul_right k hi
   rw [Nat.add_mul,Nat.one_mul] at h1
   omega
  have hmod:(i * k + j) % k = j:=by
   rw [Nat.mul_comm,Nat.mul_add_mod,Nat.mod_eq_of_lt hj]
  simp only [madeCells,Array.toList_map,List.getElem?_map,Array.toList_range,List.getElem?_range hlt,Option.map_some,List.size_toArray,hz,hmod]
  have:j < z.length:=by omega
  simp [this]
 ·rw [if_neg hj,List.getElem?_eq_none (by omega)]
end
end Go.Rh
