/- An interpreter over plain values for the functions of this model, proved sound for every order that a region's edges allow. No conditions. -/
import Derived.Orders
import Derived.Below
import Derived.WalkKit
import Derived.Laws.Cells
import Derived.Laws.Tables
import Derived.Laws.Rows
import Derived.Laws.CopyOwn
import Derived.Tactics
import Derived.Laws.Entries
set_option linter.unusedVariables false
set_option linter.unusedSimpArgs false
namespace Go.Refl
open Go.RowKit

/-! ### Values without memory -/
inductive AV where
  | val (v : Value)
  | sl (l : List AV)
  | agg (l : List AV)
  | tup (l : List AV)
  | adr (x : AV)
  | box (x : AV)
  | fld (d i : Nat)
  deriving Inhabited

def flat : Value → Bool
  | .bool _ => true
  | .int _ _ => true
  | .string _ => true
  | _ => false

def AV.one : AV → Bool
  | .val _ => true
  | .sl _ => true
  | _ => false

def AV.cnt : AV → Nat
  | .agg l => l.length
  | _ => 1

mutual
/-- A value in a world is this plain value; what it reads lies in blocks that are ok. -/
inductive Rep (w : World) (ok : Nat → Prop) : AV → Value → Prop
  | val (v : Value) (h : flat v = true) : Rep w ok (.val v) v
  | sl (l : List AV) (A : Option Addr) (n c sz : Nat) (ad : Addr) (cs : Nat → List Value) (hn : l.length = n) (hc : n ≤ c ∧ n ≤ 9223372036854775807) (hA : 0 < n → A = some ad ∧ ok ad.block ∧ ad.spot = none)
      (h : ∀ (i : Nat) (x : AV), l[i]? = some x → Cs w ok x (cs i)) (hs : ∀ i, i < n → (cs i).length = sz)
      (hm : ∀ i, i < n → ∀ j u, (cs i)[j]? = some u → w.cell? (ad.add (i * sz + j)) = some u) : Rep w ok (.sl l) (.slice A n c)
  | agg (l : List AV) (cs : List Value) (h : Cs w ok (.agg l) cs) : Rep w ok (.agg l) (.agg cs.toArray)
  | tup (l : List AV) (vs : List Value) (hl : vs.length = l.length) (h : ∀ (i : Nat) (x : AV) (v : Value), l[i]? = some x → vs[i]? = some v → Rep w ok x v) : Rep w ok (.tup l) (.tuple vs.toArray)
/-- Cells that are a plain value. -/
inductive Cs (w : World) (ok : Nat → Prop) : AV → List Value → Prop
  | one (x : AV) (v : Value) (hx : x.one = true) (h : Rep w ok x v) : Cs w ok x [v]
  | agg (l : List AV) (vs : List Value) (hl : vs.length = l.length) (ho : ∀ x, x ∈ l → x.one = true) (h : ∀ (i : Nat) (x : AV) (v : Value), l[i]? = some x → vs[i]? = some v → Rep w ok x v) : Cs w ok (.agg l) vs
end

theorem cell_same {w w' : World} {a : Addr} (h : w'.heap[a.block]? = w.heap[a.block]?) : w'.cell? a = w.cell? a := by
  unfold World.cell?
  rw [h]
theorem add_block (a : Addr) (n : Nat) : (a.add n).block = a.block := by
  unfold Addr.add
  split <;> rfl

mutual
theorem Rep.mono {w w' : World} {ok ok' : Nat → Prop} (hm : ∀ b, ok b → w'.heap[b]? = w.heap[b]?) (hok : ∀ b, ok b → ok' b) : ∀ {x : AV} {v : Value}, Rep w ok x v → Rep w' ok' x v
  | _, _, .val v h => .val v h
  | _, _, .sl l A n c sz ad cs hn hc hA h hs hm2 =>
    .sl l A n c sz ad cs hn hc (fun h0 => ⟨(hA h0).1, hok _ (hA h0).2.1, (hA h0).2.2⟩) (fun i x hx => Cs.mono hm hok (h i x hx)) hs
      (fun i hi j u hu => (cell_same (by rw [add_block]; exact hm _ (hA (Nat.lt_of_le_of_lt (Nat.zero_le _) hi)).2.1)).trans (hm2 i hi j u hu))
  | _, _, .agg l cs h => .agg l cs (Cs.mono hm hok h)
  | _, _, .tup l vs hl h => .tup l vs hl (fun i x v hx hv => Rep.mono hm hok (h i x v hx hv))
theorem Cs.mono {w w' : World} {ok ok' : Nat → Prop} (hm : ∀ b, ok b → w'.heap[b]? = w.heap[b]?) (hok : ∀ b, ok b → ok' b) : ∀ {x : AV} {cs : List Value}, Cs w ok x cs → Cs w' ok' x cs
  | _, _, .one x v hx h => .one x v hx (Rep.mono hm hok h)
  | _, _, .agg l vs hl ho h => .agg l vs hl ho (fun i x v hx hv => Rep.mono hm hok (h i x v hx hv))
end
theorem Cs.len {w : World} {ok : Nat → Prop} {x : AV} {cs : List Value} (h : Cs w ok x cs) : cs.length = x.cnt := by
  cases h with
  | one x v hx h => cases x <;> simp_all [AV.one, AV.cnt]
  | agg l vs hl ho h => exact hl
end Go.Refl

namespace Go.Refl
open Go.RowKit

/-! ### Operations that look at their operands alone -/
def pureRun {α : Type} (P : Program) : Sem α → Option α
  | .pure a => some a
  | .program k => pureRun P (k P)
  | _ => none
theorem pureRun_run {α : Type} {P : Program} : ∀ {s : Sem α} {a : α}, pureRun P s = some a → ∀ w, s.run P w = .ok a w
  | .pure b, a, h, w => by
    simp only [pureRun, Option.some.injEq] at h
    subst h
    rfl
  | .program k, a, h, w => by
    simp only [pureRun] at h
    exact pureRun_run h w
  | .load .., _, h, _ => by simp [pureRun] at h
  | .store .., _, h, _ => by simp [pureRun] at h
  | .new .., _, h, _ => by simp [pureRun] at h
  | .shape .., _, h, _ => by simp [pureRun] at h
  | .freeze .., _, h, _ => by simp [pureRun] at h
  | .frozen .., _, h, _ => by simp [pureRun] at h
  | .getObj .., _, h, _ => by simp [pureRun] at h
  | .setObj .., _, h, _ => by simp [pureRun] at h
  | .choose .., _, h, _ => by simp [pureRun] at h
  | .sys .., _, h, _ => by simp [pureRun] at h
  | .mark .., _, h, _ => by simp [pureRun] at h
  | .halt .., _, h, _ => by simp [pureRun] at h

/-! ### Slots -/
abbrev Env := Nat → Option AV
def Env.put (e : Env) (d : Nat) (x : Option AV) : Env := fun t => bif Nat.beq t d then x else e t
theorem Env.put_same (e : Env) (d : Nat) (x : Option AV) : e.put d x d = x := by
  unfold Env.put
  rw [Nat.beq_refl]
  rfl
theorem Env.put_ne (e : Env) {d t : Nat} (x : Option AV) (h : t ≠ d) : e.put d x t = e t := by
  unfold Env.put
  have : Nat.beq t d = false := by
    cases hb : Nat.beq t d
    · rfl
    · exact absurd (Nat.eq_of_beq_eq_true hb) h
  rw [this]
  rfl

/-- The value itself, where it is one without memory. -/
def valsOf : List AV → Option (List Value)
  | [] => some []
  | .val v :: l => (valsOf l).map (v :: ·)
  | _ => none
def AV.toV : AV → Option Value
  | .val v => some v
  | .agg l => (valsOf l).map fun vs => .agg vs.toArray
  | _ => none
def allFlat : List Value → Bool
  | [] => true
  | v :: l => flat v && allFlat l
def ofV (v : Value) : Option AV :=
  match v with
  | .slice none 0 0 => some (.sl [])
  | .agg cs => bif allFlat cs.toList then some (.agg (cs.toList.map .val)) else none
  | v => bif flat v then some (.val v) else none
def opd (e : Env) : Operand → Option AV
  | .tmp t => e t
  | .const v => ofV v
  | _ => none
def opv (e : Env) (x : Operand) : Value := ((opd e x).bind AV.toV).getD undef
def known (e : Env) (x : Operand) : Bool := ((opd e x).bind AV.toV).isSome

/-! ### What is answered from outside -/
inductive Ex where
  | normal
  | exit (id : Nat)
  | ret
inductive Ans where
  | call (r : AV)
  | elem (x : AV)
  | val (v : Value)
  | go
  | goT
  | cutT (x : Ex) (L L' : List (Nat × AV))
  | cutC (x : Ex) (L L' : List (Nat × AV))
  | cutB (x : Ex) (L L' : List (Nat × AV))
  | cutL (x : Ex) (L L' : List (Nat × AV))

section
variable (P : Program)
/-- A call, with whatever arguments that are these plain values, answers r; it changes nothing that was there. -/
structure CallOk (f : FuncId) (args : List AV) (r : AV) : Prop where
  enter : ∀ (args : Array Value) (w : World), (callFunc f args).run P w = .ok (.enter f args) w
  calls : ∀ (w : World) (ok : Nat → Prop) (vs : List Value), (∀ b, ok b → b < w.heap.size) → vs.length = args.length → (∀ (i : Nat) (x : AV) (v : Value), args[i]? = some x → vs[i]? = some v → Rep w ok x v) →
    Calls P f vs.toArray w fun e w' => ∃ v, e = .returned v ∧ Rep w' (fun b => ok b ∨ (w.heap.size ≤ b ∧ b < w'.heap.size)) r v ∧ Below w.heap.size w w'
def aggD : TypeDesc → Bool
  | .struct _ => true
  | .array _ _ => true
  | _ => false
/-- Does a variable of this type take a row of cells, and how many? -/
def tyK (t : TypeId) : Option (Bool × Nat) := (P.underlying t).bind fun d => (P.info? t).map fun i => (aggD d, i.size)
def fits (t : TypeId) (x : AV) : Bool :=
  match x with
  | .agg l => (tyK P t == some (true, l.length)) && l.all AV.one
  | .val _ => (tyK P t).map (·.1) == some false
  | .sl _ => (tyK P t).map (·.1) == some false
  | _ => false
def fitsE (t : TypeId) (x : AV) : Bool :=
  match P.underlying t with
  | some (.slice e) => fits P e x && ((P.info? e).map (·.size) == some x.cnt)
  | _ => false
def plain : AV → Bool
  | .adr _ => false
  | .box _ => false
  | .fld _ _ => false
  | _ => true
def args? (e : Env) : List Operand → Option (List AV)
  | [] => some []
  | x :: xs => (opd e x).bind fun y => bif plain y then (args? e xs).map (y :: ·) else none

def AV.isAgg : AV → Bool
  | .agg _ => true
  | _ => false
def AV.isBox : Option AV → Bool
  | some (.box _) => true
  | _ => false
def isSlice : TypeDesc → Bool
  | .slice _ => true
  | _ => false
/-- The slot that is written, with what; what has to hold; the answers that are left. -/
abbrev Out := Option ((Option Nat × Option AV) × Option Prop × List Ans)
def holds : Option Prop → Prop
  | some p => p
  | none => True
def both : Option Prop → Option Prop → Option Prop
  | none, q => q
  | some p, none => some p
  | some p, some q => some (p ∧ q)
theorem holds_both {p q : Option Prop} (h : holds (both p q)) : holds p ∧ holds q := by
  cases p <;> cases q
  · exact ⟨trivial, trivial⟩
  · exact ⟨trivial, h⟩
  · exact ⟨h, trivial⟩
  · exact h
/-- An operation that looks at known operands alone. -/
def pureOp (e : Env) (s : List Ans) (o : Oper) : Out :=
  bif o.op.operands.toList.all (known e) then
    match pureRun P (execOp (opv e) o) with
    | some (.value v) => (ofV v).map fun y => ((o.dst, some y), none, s)
    | _ => none
  else none
def okFlat : AV → Bool
  | .val v => flat v
  | .agg l => l.all fun | .val v => flat v | _ => false
  | _ => false
def BuildIs (t : TypeId) (ps : Array (Nat × Value)) (v : Value) : Prop := ∀ w, (Instr.build t ps).run P w = .ok v w
def isCmp : BinOp → Bool
  | .eql => true
  | .neq => true
  | .lss => true
  | .leq => true
  | .gtr => true
  | .geq => true
  | .quo => true
  | .rem => true
  | _ => false
/-- An operator on these values gives that one. -/
def BinIs (op : BinOp) (t : TypeId) (x y : Operand) (vx vy v : Value) : Prop := ∀ w, (do eqGuard op t x y vx vy; binOp op t vx vy : Sem Value).run P w = .ok v w
def cmpOp (e : Env) (s : List Ans) (d : Option Nat) (op : BinOp) (t : TypeId) (x y : Operand) : Out :=
  bif known e x && known e y then
    match s with
    | .val v :: s => bif flat v then some ((d, some (.val v)), some (BinIs P op t x y (opv e x) (opv e y) v), s) else none
    | _ => none
  else none
/-- The length of a list. -/
def lenArg (e : Env) (c : Call) (b : Builtin) : Option Nat :=
  match b with
  | .len =>
    match c.args.toList with
    | [x] =>
      match opd e x with
      | some (.sl l) => bif ((c.argTypes[0]?).bind P.underlying).any isSlice then some l.length else none
      | _ => none
    | _ => none
  | _ => none
/-- At which cell of a struct a field lies. -/
def fieldPos (t : TypeId) (i : Nat) : Option Nat :=
  match P.underlying t with
  | some (.struct fs) => (fs[i]?).bind fun f => (P.info? f.type).bind fun inf => bif Nat.beq inf.size 0 then none else some f.offset
  | _ => none
/-- A bound of a cut list. -/
def bnd (e : Env) : Option Operand → Int → Option Int
  | none, d => some d
  | some o, _ =>
    match opd e o with
    | some (.val (.int _ n)) => some n
    | _ => none
/-- A list's part; its elements take k cells each. -/
def SubIs (k : Nat) (l : List AV) (lo hi : Int) (l' : List AV) : Prop := 0 ≤ lo ∧ lo ≤ hi ∧ hi ≤ l.length ∧ l' = (l.take hi.toNat).drop lo.toNat ∧ ∀ x ∈ l, x.cnt = k
def elemK (t : TypeId) : Option Nat :=
  match P.underlying t with
  | some (.slice el) => (P.info? el).map (·.size)
  | _ => none
variable (fl : Nat → Option (Nat × Nat))
/-- What is loaded. -/
def loadOf (t : TypeId) (e : Env) (x : Operand) : Option AV :=
  match x with
  | .tmp r =>
    match e r with
    | some (.adr y) => bif fits P t y then some y else none
    | some (.box y) => bif fits P t y then some y else none
    | some (.fld d i) =>
      match fl r with
      | some (d', i') =>
        bif Nat.beq d d' && Nat.beq i i' then
          match e d with
          | some (.box (.agg l)) => (l[i]?).bind fun y => bif fits P t y && y.one then some y else none
          | _ => none
        else none
      | none => none
    | _ => none
  | _ => none
def evalOp (e : Env) (s : List Ans) (o : Oper) : Out :=
  match o.op with
  | .move x => (opd e x).bind fun y => bif plain y then some ((o.dst, some y), none, s) else none
  | .assign x => (opd e x).bind fun y => bif plain y then some ((o.dst, some y), none, s) else none
  | .pick c a b =>
    match opd e c with
    | some (.val (.bool u)) => (opd e (bif u then a else b)).bind fun y => bif plain y then some ((o.dst, some y), none, s) else none
    | _ => none
  | .alloc t =>
    match (P.info? t).bind (·.zero) with
    | some v => (ofV v).bind fun y => bif fits P t y && y.isAgg then some ((o.dst, some (.box y)), none, s) else none
    | none => none
  | .load t x => (loadOf P fl t e x).map fun y => ((o.dst, some y), none, s)
  | .store t (.tmp d) x =>
    match e d, opd e x with
    | some (.box z), some (.agg l) => bif fits P t (.agg l) && (fits P t z && (o.dst.isNone && z.isAgg)) then some ((some d, some (.box (.agg l))), none, s) else none
    | _, _ => none
  | .indexAddr t x i =>
    match opd e x, opd e i, s with
    | some (.sl l), some (.val (.int _ n)), .elem y :: s => bif fitsE P t y then some ((o.dst, some (.adr y)), some (0 ≤ n ∧ l[n.toNat]? = some y), s) else none
    | _, _, _ => none
  | .slice t x lo hi none =>
    match opd e x, s with
    | some (.sl l), .elem (.sl l') :: s => (elemK P t).bind fun k => (bnd e lo 0).bind fun a => (bnd e hi l.length).bind fun b => some ((o.dst, some (.sl l')), some (SubIs k l a b l'), s)
    | _, _ => none
  | .fieldAddr t (.tmp d) i =>
    match e d, fieldPos P t i with
    | some (.box _), some j =>
      match o.dst.bind fl with
      | some (d', j') => bif Nat.beq d d' && Nat.beq j j' then some ((o.dst, some (.fld d j)), none, s) else none
      | none => none
    | some (.adr (.agg l)), some j => (l[j]?).bind fun y => bif y.one then some ((o.dst, some (.adr y)), none, s) else none
    | _, _ => none
  | .extract x i =>
    match opd e x with
    | some (.tup l) => (l[i]?).bind fun y => bif plain y then some ((o.dst, some y), none, s) else none
    | _ => none
  | .call c =>
    match c.callee with
    | .value (.func f) =>
      match s with
      | .call r :: s => bif plain r then (args? e c.args.toList).bind fun l => some ((o.dst, some r), some (CallOk P f l r), s) else none
      | _ => none
    | .builtin b =>
      match lenArg P e c b with
      | some n => some ((o.dst, some (.val (.int .i64 n))), none, s)
      | none => pureOp P e s o
    | _ => none
  | .binOp op t x y _ => bif isCmp op then cmpOp P e s o.dst op t x y else pureOp P e s o
  | .unOp .. => pureOp P e s o
  | .convert .. => pureOp P e s o
  | .build t ps =>
    match s with
    | .elem y :: s =>
      bif ps.toList.all (fun p => known e p.2) && okFlat y then y.toV.map fun v => ((o.dst, some y), some (BuildIs P t (ps.toList.map fun p => (p.1, opv e p.2)).toArray v), s) else none
    | _ => none
  | _ => none
def okDst (n : Nat) (e : Env) : Option Nat → Bool
  | some d => Nat.blt d n && !AV.isBox (e d)
  | none => true
/-- An operation of a region. -/
def evalG (n : Nat) (ops : Array Oper) (e : Env) (s : List Ans) (o : Oper) : Out :=
  bif okDst n e o.dst then
    match o.guard with
    | none => evalOp P fl e s o
    | some (g, u) =>
      match (ops[g]?).bind (·.dst) with
      | none => none
      | some t =>
        match e t with
        | some (.val (.bool b)) => bif b == u then evalOp P fl e s o else some ((o.dst, some (.tup [])), none, s)
        | some (.tup []) => some ((o.dst, some (.tup [])), none, s)
        | _ => none
  else none
end
end Go.Refl

namespace Go.Refl
open Go.RowKit

def okN (w : World) (N : Nat → Prop) : Nat → Prop := fun b => b < w.heap.size ∧ ¬ N b
/-- What a slot holds. -/
def RepS (w : World) (N : Nat → Prop) : AV → Value → Prop
  | .adr x, v => ∃ ad cs, v = .pointer (some ad) ∧ ad.spot = none ∧ okN w N ad.block ∧ Cs w (okN w N) x cs ∧ ∀ (j : Nat) (u : Value), cs[j]? = some u → w.cell? (ad.add j) = some u
  | .box x, v => ∃ b T cs, v = .pointer (some ⟨b, 0, none⟩) ∧ N b ∧ w.heap[b]? = some (.cells (List.toArray cs) T (0, 0)) ∧ Cs w (okN w N) x cs
  | .fld _ _, _ => True
  | x, v => Rep w (okN w N) x v
theorem RepS.plain {w : World} {N : Nat → Prop} {x : AV} {v : Value} (hp : plain x = true) : RepS w N x v ↔ Rep w (okN w N) x v := by
  cases x <;> first | exact Iff.rfl | (simp [Refl.plain] at hp)
structure Inv (w0 : World) (N : Nat → Prop) (n : Nat) (e : Env) (a : Act) (w : World) : Prop where
  bel : Below w0.heap.size w0 w
  box : ∀ b, N b → w0.heap.size ≤ b ∧ b < w.heap.size
  rep : ∀ t x, e t = some x → RepS w N x (a.tmps.getD t undef)
  far : ∀ t t' x x', t ≠ t' → e t = some (.box x) → e t' = some (.box x') → a.tmps.getD t undef ≠ a.tmps.getD t' undef
  fld : ∀ t d i, e t = some (.fld d i) → ∃ b x, e d = some (.box x) ∧ a.tmps.getD d undef = .pointer (some ⟨b, 0, none⟩) ∧ a.tmps.getD t undef = .pointer (some ((⟨b, 0, none⟩ : Addr).add i))
  size : a.tmps.size = n
  def0 : a.defers = []
def loose (y : AV) : Prop := (∀ x, y ≠ .box x) ∧ ∀ d i, y ≠ .fld d i
def clean (e : Env) (d : Option Nat) : Prop := ∀ t, d = some t → ∀ x, e t ≠ some (.box x)

theorem put_same (a : Act) (d : Nat) (v : Value) (h : d < a.tmps.size) : (a.put (some d) v).tmps.getD d undef = v := by
  simp [Act.put, Array.getD, h]
theorem put_ne (a : Act) {d t : Nat} (v : Value) (h : t ≠ d) : (a.put (some d) v).tmps.getD t undef = a.tmps.getD t undef := by
  simp only [Act.put, Array.getD_eq_getD_getElem?]
  rw [Array.getElem?_setIfInBounds_ne (by omega)]
theorem put_size (a : Act) (d : Option Nat) (v : Value) : (a.put d v).tmps.size = a.tmps.size := by
  cases d <;> simp [Act.put]
theorem put_def (a : Act) (d : Option Nat) (v : Value) : (a.put d v).defers = a.defers := by
  cases d <;> rfl
def Env.putO (e : Env) (d : Option Nat) (x : Option AV) : Env := match d with
  | some d => e.put d x
  | none => e
/-- Where a slot was none of ours, the others' fields stay. -/
theorem Inv.putFlds {w0 : World} {N : Nat → Prop} {n : Nat} {e : Env} {a : Act} {w : World} (I : Inv w0 N n e a w) {y : Option AV} {v : Value} {d : Nat} (hc : clean e (some d)) {t k i : Nat} (ht : t ≠ d) (h : e t = some (.fld k i)) :
    ∃ b x, e.put d y k = some (.box x) ∧ (a.put (some d) v).tmps.getD k undef = .pointer (some ⟨b, 0, none⟩) ∧ (a.put (some d) v).tmps.getD t undef = .pointer (some ((⟨b, 0, none⟩ : Addr).add i)) := by
  obtain ⟨b, x, h1, h2, h3⟩ := I.fld t k i h
  have hk : k ≠ d := by
    rintro rfl
    exact hc k rfl x h1
  exact ⟨b, x, by rw [Env.put_ne _ _ hk]; exact h1, by rw [put_ne a v hk]; exact h2, by rw [put_ne a v ht]; exact h3⟩
/-- A plain value is put. -/
theorem Inv.put {w0 : World} {N : Nat → Prop} {n : Nat} {e : Env} {a : Act} {w : World} (I : Inv w0 N n e a w) {y : AV} {v : Value} (hy : loose y) (hr : RepS w N y v) (d : Option Nat) (hd : ∀ t, d = some t → t < n) (hc : clean e d) :
    Inv w0 N n (e.putO d (some y)) (a.put d v) w := by
  cases d with
  | none => exact ⟨I.bel, I.box, I.rep, I.far, I.fld, I.size, I.def0⟩
  | some d =>
    have hd := hd d rfl
    refine ⟨I.bel, I.box, fun t x hx => ?_, fun t t' x x' hne h1 h2 => ?_, fun t k i h => ?_, by rw [put_size]; exact I.size, by rw [put_def]; exact I.def0⟩
    · by_cases ht : t = d
      · subst ht
        simp only [Env.putO] at hx
        rw [Env.put_same] at hx
        obtain rfl := Option.some.inj hx
        rw [put_same a t v (by rw [I.size]; exact hd)]
        exact hr
      · simp only [Env.putO] at hx
        rw [Env.put_ne _ _ ht] at hx
        rw [put_ne a v ht]
        exact I.rep t x hx
    · simp only [Env.putO] at h1 h2
      have n1 : t ≠ d := by
        rintro rfl
        rw [Env.put_same] at h1
        exact hy.1 x (Option.some.inj h1)
      have n2 : t' ≠ d := by
        rintro rfl
        rw [Env.put_same] at h2
        exact hy.1 x' (Option.some.inj h2)
      rw [Env.put_ne _ _ n1] at h1
      rw [Env.put_ne _ _ n2] at h2
      rw [put_ne a v n1, put_ne a v n2]
      exact I.far t t' x x' hne h1 h2
    · simp only [Env.putO] at h ⊢
      have n1 : t ≠ d := by
        rintro rfl
        rw [Env.put_same] at h
        exact hy.2 k i (Option.some.inj h)
      rw [Env.put_ne _ _ n1] at h
      exact I.putFlds hc n1 h
/-- The address of a field of a box is put. -/
theorem Inv.putFld {w0 : World} {N : Nat → Prop} {n : Nat} {e : Env} {a : Act} {w : World} (I : Inv w0 N n e a w) {k i b : Nat} {y : AV} (hk : e k = some (.box y)) (hp : a.tmps.getD k undef = .pointer (some ⟨b, 0, none⟩)) (d : Nat) (hd : d < n) (hc : clean e (some d)) :
    Inv w0 N n (e.putO (some d) (some (.fld k i))) (a.put (some d) (.pointer (some ((⟨b, 0, none⟩ : Addr).add i)))) w := by
  have hkd : k ≠ d := by
    rintro rfl
    exact hc k rfl y hk
  refine ⟨I.bel, I.box, fun t x hx => ?_, fun t t' x x' hne h1 h2 => ?_, fun t k' i' h => ?_, by rw [put_size]; exact I.size, by rw [put_def]; exact I.def0⟩
  · simp only [Env.putO] at hx
    by_cases ht : t = d
    · subst ht
      rw [Env.put_same] at hx
      obtain rfl := Option.some.inj hx
      exact trivial
    · rw [Env.put_ne _ _ ht] at hx
      rw [put_ne a _ ht]
      exact I.rep t x hx
  · simp only [Env.putO] at h1 h2
    have n1 : t ≠ d := by
      rintro rfl
      rw [Env.put_same] at h1
      cases h1
    have n2 : t' ≠ d := by
      rintro rfl
      rw [Env.put_same] at h2
      cases h2
    rw [Env.put_ne _ _ n1] at h1
    rw [Env.put_ne _ _ n2] at h2
    rw [put_ne a _ n1, put_ne a _ n2]
    exact I.far t t' x x' hne h1 h2
  · simp only [Env.putO] at h ⊢
    by_cases ht : t = d
    · subst ht
      rw [Env.put_same] at h
      injection h with h
      injection h with h1 h2
      subst h1 h2
      exact ⟨b, y, by rw [Env.put_ne _ _ hkd]; exact hk, by rw [put_ne a _ hkd]; exact hp, by rw [put_same a t _ (by rw [I.size]; exact hd)]⟩
    · rw [Env.put_ne _ _ ht] at h
      exact I.putFlds hc ht h
/-- Only some slots are remembered. -/
def Env.keep (live : Nat → Bool) (e : Env) : Env := fun t => bif live t then (match e t with | some (.fld _ _) => none | x => x) else none
theorem Env.keep_some {live : Nat → Bool} {e : Env} {t : Nat} {x : AV} (h : e.keep live t = some x) : e t = some x ∧ ∀ d i, x ≠ .fld d i := by
  unfold Env.keep at h
  cases hl : live t
  · rw [hl] at h; cases h
  · rw [hl] at h
    simp only [cond_true] at h
    split at h
    · cases h
    · rename_i y hy
      exact ⟨h, fun d i hx => hy d i (by rw [h, hx])⟩
theorem Inv.keep {w0 : World} {N : Nat → Prop} {n : Nat} {e : Env} {a : Act} {w : World} (I : Inv w0 N n e a w) (live : Nat → Bool) : Inv w0 N n (e.keep live) a w :=
  ⟨I.bel, I.box, fun t x hx => I.rep t x (Env.keep_some hx).1, fun t t' x x' hne h1 h2 => I.far t t' x x' hne (Env.keep_some h1).1 (Env.keep_some h2).1, fun t d i h => absurd rfl ((Env.keep_some h).2 d i), I.size, I.def0⟩
/-- Memory that is no box of ours stays, boxes stay. -/
theorem RepS.mono {w w' : World} {N N' : Nat → Prop} {x : AV} {v : Value} (h : RepS w N x v) (hm : ∀ b, okN w N b → w'.heap[b]? = w.heap[b]?) (hok : ∀ b, okN w N b → okN w' N' b)
    (hb : ∀ y b, x = .box y → v = .pointer (some ⟨b, 0, none⟩) → N b → w'.heap[b]? = w.heap[b]? ∧ N' b) : RepS w' N' x v := by
  cases x with
  | adr y =>
    obtain ⟨ad, cs, h1, h2, h3, h4, h5⟩ := h
    exact ⟨ad, cs, h1, h2, hok _ h3, Cs.mono hm hok h4, fun j u hu => (cell_same (by rw [add_block]; exact hm _ h3)).trans (h5 j u hu)⟩
  | box y =>
    obtain ⟨b, T, cs, h1, h2, h3, h4⟩ := h
    obtain ⟨k1, k2⟩ := hb y b rfl h1 h2
    exact ⟨b, T, cs, h1, k2, k1.trans h3, Cs.mono hm hok h4⟩
  | fld d i => exact trivial
  | val v => exact Rep.mono hm hok h
  | sl l => exact Rep.mono hm hok h
  | agg l => exact Rep.mono hm hok h
  | tup l => exact Rep.mono hm hok h
/-- The world has grown. -/
theorem Inv.grow {w0 : World} {N : Nat → Prop} {n : Nat} {e : Env} {a : Act} {w w' : World} (I : Inv w0 N n e a w) (hb : Below w.heap.size w w') : Inv w0 N n e a w' := by
  refine ⟨⟨hb.os.trans I.bel.os, hb.tape.trans I.bel.tape, hb.output.trans I.bel.output, Nat.le_trans I.bel.size hb.size, fun k hk => (hb.block k (Nat.lt_of_lt_of_le hk I.bel.size)).trans (I.bel.block k hk)⟩,
    fun b h => ⟨(I.box b h).1, Nat.lt_of_lt_of_le (I.box b h).2 hb.size⟩, fun t x hx => ?_, I.far, I.fld, I.size, I.def0⟩
  exact RepS.mono (I.rep t x hx) (fun b h => hb.block b h.1) (fun b h => ⟨Nat.lt_of_lt_of_le h.1 hb.size, h.2⟩) (fun y b _ _ h => ⟨hb.block b (I.box b h).2, h⟩)
end Go.Refl

namespace Go.Refl
open Go.RowKit

section
variable {P : Program} {w0 w : World} {N : Nat → Prop} {n : Nat} {e : Env} {a : Act}
theorem allFlat_mem : ∀ {l : List Value}, allFlat l = true → ∀ v ∈ l, flat v = true
  | [], _, v, h => by cases h
  | x :: l, h, v, hv => by
    simp only [allFlat, Bool.and_eq_true] at h
    rcases List.mem_cons.1 hv with rfl | hv
    · exact h.1
    · exact allFlat_mem h.2 v hv
theorem cs_flat (ok : Nat → Prop) (w : World) (l : List Value) (h : ∀ v ∈ l, flat v = true) : Cs w ok (.agg (l.map .val)) l := by
  refine .agg _ l (by simp) (fun x hx => ?_) (fun i x v hx hv => ?_)
  · obtain ⟨v, _, rfl⟩ := List.mem_map.1 hx
    rfl
  · rw [List.getElem?_map, hv] at hx
    obtain rfl := Option.some.inj hx
    exact .val v (h v (List.mem_of_getElem? hv))
theorem ofV_rep (ok : Nat → Prop) {v : Value} {y : AV} (h : ofV v = some y) : Rep w ok y v ∧ plain y = true := by
  unfold ofV at h
  split at h
  · obtain rfl := Option.some.inj h
    exact ⟨.sl [] none 0 0 0 ⟨0, 0, none⟩ (fun _ => []) rfl ⟨Nat.le_refl _, Nat.zero_le _⟩ (fun h => absurd h (Nat.lt_irrefl _)) (fun i x hx => by simp at hx) (fun i hi => absurd hi (Nat.not_lt_zero _)) (fun i hi => absurd hi (Nat.not_lt_zero _)), rfl⟩
  · rename_i cs
    cases hf : allFlat cs.toList
    · rw [hf] at h
      cases h
    · rw [hf] at h
      obtain rfl := Option.some.inj h
      have := Rep.agg (w := w) (ok := ok) _ _ (cs_flat ok w cs.toList (allFlat_mem hf))
      exact ⟨by simpa using this, rfl⟩
  · cases hf : flat v
    · rw [hf] at h
      cases h
    · rw [hf] at h
      obtain rfl := Option.some.inj h
      exact ⟨.val v hf, rfl⟩
theorem opd_rep (I : Inv w0 N n e a w) {x : Operand} {y : AV} (h : opd e x = some y) : RepS w N y (a.eval x) := by
  cases x with
  | tmp t => exact I.rep t y h
  | const v =>
    obtain ⟨h1, h2⟩ := ofV_rep (w := w) (okN w N) (show ofV v = some y from h)
    exact (RepS.plain h2).2 h1
  | global g => cases h
  | func f => cases h
theorem opd_plain (I : Inv w0 N n e a w) {x : Operand} {y : AV} (h : opd e x = some y) (hp : plain y = true) : Rep w (okN w N) y (a.eval x) := (RepS.plain hp).1 (opd_rep I h)
theorem rep_val {ok : Nat → Prop} {v u : Value} (h : Rep w ok (.val v) u) : u = v ∧ flat v = true := by
  cases h with
  | val _ h => exact ⟨rfl, h⟩
theorem valsOf_rep {ok : Nat → Prop} : ∀ {l : List AV} {vs us : List Value}, valsOf l = some vs → us.length = l.length → (∀ (i : Nat) (x : AV) (v : Value), l[i]? = some x → us[i]? = some v → Rep w ok x v) → us = vs
  | [], vs, us, h, hl, _ => by
    simp only [valsOf, Option.some.injEq] at h
    subst h
    exact List.length_eq_zero_iff.1 hl
  | .val v :: l, vs, us, h, hl, hr => by
    simp only [valsOf, Option.map_eq_some_iff] at h
    obtain ⟨ws, h1, rfl⟩ := h
    cases us with
    | nil => simp at hl
    | cons u us =>
      have hu := (rep_val (hr 0 (.val v) u rfl rfl)).1
      have := valsOf_rep (us := us) h1 (by simpa using hl) (fun i x v hx hv => hr (i + 1) x v (by simpa using hx) (by simpa using hv))
      rw [hu, this]
  | .sl _ :: _, _, _, h, _, _ => by simp [valsOf] at h
  | .agg _ :: _, _, _, h, _, _ => by simp [valsOf] at h
  | .tup _ :: _, _, _, h, _, _ => by simp [valsOf] at h
  | .adr _ :: _, _, _, h, _, _ => by simp [valsOf] at h
  | .box _ :: _, _, _, h, _, _ => by simp [valsOf] at h
  | .fld _ _ :: _, _, _, h, _, _ => by simp [valsOf] at h
theorem toV_rep {ok : Nat → Prop} {y : AV} {v u : Value} (h : y.toV = some v) (hr : Rep w ok y u) : u = v := by
  cases y with
  | val z =>
    simp only [AV.toV, Option.some.injEq] at h
    rw [(rep_val hr).1, h]
  | agg l =>
    simp only [AV.toV, Option.map_eq_some_iff] at h
    obtain ⟨vs, h1, rfl⟩ := h
    cases hr with
    | agg _ cs hc =>
      cases hc with
      | one _ _ hx _ => cases hx
      | agg _ _ hl ho h2 => rw [valsOf_rep h1 hl h2]
  | sl l => cases h
  | tup l => cases h
  | adr x => cases h
  | box x => cases h
  | fld d i => cases h
theorem toV_plain {y : AV} {v : Value} (h : y.toV = some v) : plain y = true := by
  cases y <;> first | rfl | cases h
/-- An operand whose value is known. -/
theorem opv_eq (I : Inv w0 N n e a w) {x : Operand} (h : known e x = true) : a.eval x = opv e x := by
  unfold known at h
  unfold opv
  cases ho : opd e x with
  | none => rw [ho] at h; cases h
  | some y =>
    rw [ho] at h
    simp only [Option.bind_some] at h ⊢
    cases ht : y.toV with
    | none => rw [ht] at h; cases h
    | some v => exact toV_rep ht (opd_plain I ho (toV_plain ht))

/-- Behind an operation: the invariant of what the interpreter says holds of what comes. -/
def Next (w0 : World) (n : Nat) (e' : Env) (K : Act → World → Prop) : Prop := ∀ N' a' w', Inv w0 N' n e' a' w' → K a' w'

theorem op_value {Q : Exit → Act → World → Prop} {K : Act → World → Prop} {o : Oper} {v : Value} (h : (execOp a.eval o).run P w = .ok (.value v) w) (k : K (a.put o.dst v) w) : o.wp P a w K Q := by
  unfold Oper.wp
  rw [h]
  exact k
/-- A plain value at a slot. -/
theorem op_plain (I : Inv w0 N n e a w) {Q : Exit → Act → World → Prop} {K : Act → World → Prop} {o : Oper} {v : Value} {y : AV} (h : (execOp a.eval o).run P w = .ok (.value v) w) (hy : loose y) (hr : RepS w N y v)
    (hd : ∀ t, o.dst = some t → t < n) (hc : clean e o.dst) (k : Next w0 n (e.putO o.dst (some y)) K) : o.wp P a w K Q :=
  op_value h (k N _ _ (I.put hy hr o.dst hd hc))
theorem plain_box {y : AV} (h : plain y = true) : loose y := by
  refine ⟨?_, ?_⟩
  · rintro x rfl
    cases h
  · rintro d i rfl
    cases h
theorem ex_move (ρ : Operand → Value) (o : Oper) (x : Operand) (ho : o.op = .move x ∨ o.op = .assign x) (w : World) : (execOp ρ o).run P w = .ok (.value (ρ x)) w := by
  unfold execOp
  rcases ho with ho | ho <;> rw [ho] <;> rfl
theorem ex_pick (ρ : Operand → Value) (o : Oper) (c x y : Operand) (t : Bool) (ho : o.op = .pick c x y) (hc : ρ c = .bool t) (w : World) : (execOp ρ o).run P w = .ok (.value (if t then ρ x else ρ y)) w := by
  unfold execOp
  rw [ho]
  simp only [hc, asBool]
  rfl
theorem ex_extract (ρ : Operand → Value) (o : Oper) (x : Operand) (i : Nat) (vs : Array Value) (v : Value) (ho : o.op = .extract x i) (hc : ρ x = .tuple vs) (hv : vs[i]? = some v) (w : World) : (execOp ρ o).run P w = .ok (.value v) w := by
  unfold execOp
  rw [ho]
  simp only [hc, Instr.extract, hv]
  rfl
end
end Go.Refl

namespace Go.Refl
open Go.RowKit

section
variable {P : Program} {w0 w : World} {N : Nat → Prop} {n : Nat} {e : Env} {a : Act}
theorem one_cell {ok : Nat → Prop} {x : AV} {v : Value} (hx : x.one = true) (h : Rep w ok x v) : v.oneCell' = true := by
  cases h with
  | val v h => cases v <;> first | rfl | cases h
  | sl => rfl
  | agg => cases hx
  | tup => cases hx
theorem tyK_some {t : TypeId} {b : Bool} {k : Nat} (h : tyK P t = some (b, k)) : (isAgg t).run P w = .ok b w ∧ (sizeOf t).run P w = .ok k w ∧ (P.info? t).map (·.size) = some k := by
  unfold tyK at h
  cases hu : P.underlying t with
  | none => rw [hu] at h; cases h
  | some d =>
    rw [hu] at h
    simp only [Option.bind_some, Option.map_eq_some_iff, Prod.mk.injEq] at h
    obtain ⟨i, hi, rfl, rfl⟩ := h
    refine ⟨?_, ?_, by rw [hi]; rfl⟩
    · simp only [isAgg, Sem.run_bind, run_underlying hu, Result.andThen_ok]
      cases d <;> rfl
    · simp only [sizeOf, typeInfo, Sem.run_bind]
      show Result.andThen (Result.andThen (Sem.run P program w) _) _ = _
      rw [show Sem.run P program w = .ok P w from rfl]
      simp only [Result.andThen_ok, hi]
      rfl
/-- A struct of cells, or one cell, is read. -/
theorem run_loadVar {t : TypeId} {ok : Nat → Prop} {y : AV} {ad : Addr} {cs : List Value} (hf : fits P t y = true) (hc : Cs w ok y cs) (hm : ∀ (j : Nat) (u : Value), cs[j]? = some u → w.cell? (ad.add j) = some u) :
    ∃ v, (loadVar t ad).run P w = .ok v w ∧ Rep w ok y v := by
  cases hc with
  | one _ v hx hr =>
    have h0 : ∃ k, tyK P t = some (false, k) := by
      have : (tyK P t).map (·.1) = some false := by
        cases y <;> first | (simp only [fits, beq_iff_eq] at hf; exact hf) | cases hx
      obtain ⟨⟨b, k⟩, h1, h2⟩ := Option.map_eq_some_iff.1 this
      simp only at h2
      subst h2
      exact ⟨k, h1⟩
    obtain ⟨k, h0⟩ := h0
    have hcell : w.cell? ad = some v := hm 0 v rfl
    refine ⟨v, ?_, hr⟩
    simp only [loadVar, Sem.run_bind, (tyK_some h0).1, Result.andThen_ok, Bool.false_eq_true, if_false]
    simp only [load, Sem.run, hcell]
  | agg l vs hl ho h =>
    simp only [fits, Bool.and_eq_true, beq_iff_eq] at hf
    obtain ⟨h1, h2⟩ := hf
    obtain ⟨k1, k2, k3⟩ := tyK_some (w := w) h1
    refine ⟨.agg cs.toArray, ?_, .agg l cs (.agg l cs hl ho h)⟩
    simp only [loadVar, Sem.run_bind, k1, Result.andThen_ok, if_true, k2, ← hl]
    rw [run_loadCells_list w ad cs hm]
    rfl
theorem ex_load (ρ : Operand → Value) (o : Oper) (t : TypeId) (x : Operand) (ad : Addr) (v : Value) (ho : o.op = .load t x) (hx : ρ x = .pointer (some ad)) (h : (loadVar t ad).run P w = .ok v w) : (execOp ρ o).run P w = .ok (.value v) w := by
  unfold execOp
  rw [ho]
  simp only [hx, Instr.loadAt, Instr.sureAddr, Sem.run_bind]
  show Result.andThen (Result.andThen (Sem.run P (pure ad) w) _) _ = _
  rw [show Sem.run P (pure ad : Sem Addr) w = .ok ad w from rfl]
  simp only [Result.andThen_ok, h]
  rfl
theorem rep_tup {ok : Nat → Prop} {l : List AV} {v : Value} (h : Rep w ok (.tup l) v) : ∃ vs : List Value, v = .tuple vs.toArray ∧ vs.length = l.length ∧ ∀ (i : Nat) (x : AV) (u : Value), l[i]? = some x → vs[i]? = some u → Rep w ok x u := by
  cases h with
  | tup _ vs hl h => exact ⟨vs, rfl, hl, h⟩
theorem rep_sl {ok : Nat → Prop} {l : List AV} {v : Value} (h : Rep w ok (.sl l) v) : ∃ (A : Option Addr) (c sz : Nat) (ad : Addr) (cs : Nat → List Value), v = .slice A l.length c ∧ (l.length ≤ c ∧ l.length ≤ 9223372036854775807) ∧ (0 < l.length → A = some ad ∧ ok ad.block ∧ ad.spot = none) ∧
    (∀ (i : Nat) (x : AV), l[i]? = some x → Cs w ok x (cs i)) ∧ (∀ i, i < l.length → (cs i).length = sz) ∧ (∀ i, i < l.length → ∀ (j : Nat) (u : Value), (cs i)[j]? = some u → w.cell? (ad.add (i * sz + j)) = some u) := by
  cases h with
  | sl _ A n c sz ad cs hn hc hA h hs hm =>
    subst hn
    exact ⟨A, c, sz, ad, cs, rfl, hc, hA, h, hs, hm⟩
theorem add_add (a : Addr) (i j : Nat) (h : a.spot = none) : (a.add i).add j = a.add (i + j) := by
  unfold Addr.add
  by_cases hi : i = 0
  · subst hi
    simp
  · by_cases hj : j = 0
    · subst hj
      simp
    · rw [if_neg hi, if_neg hj, if_neg (by omega)]
      simp [Nat.add_assoc]
theorem add_spot (a : Addr) (i : Nat) (h : a.spot = none) : (a.add i).spot = none := by
  unfold Addr.add
  split
  · exact h
  · rfl
theorem ex_index (ρ : Operand → Value) (o : Oper) (t el : TypeId) (x y : Operand) (ad : Addr) (k : IntKind) (i : Int) (n c sz : Nat) (ho : o.op = .indexAddr t x y) (hu : P.underlying t = some (.slice el)) (hs : (P.info? el).map (·.size) = some sz)
    (hx : ρ x = .slice (some ad) n c) (hy : ρ y = .int k i) (h0 : 0 ≤ i) (h1 : i < n) : (execOp ρ o).run P w = .ok (.value (.pointer (some (ad.add (i.toNat * sz))))) w := by
  have hsz : (sizeOf el).run P w = .ok sz w := by
    obtain ⟨inf, hi, rfl⟩ := Option.map_eq_some_iff.1 hs
    simp only [sizeOf, typeInfo, Sem.run_bind]
    show Result.andThen (Result.andThen (Sem.run P program w) _) _ = _
    rw [show Sem.run P program w = .ok P w from rfl]
    simp only [Result.andThen_ok, hi]
    rfl
  unfold execOp
  rw [ho]
  simp only [hx, hy, Instr.indexAt, asIntOf, Sem.run_bind]
  simp only [Sem.run_pure, Result.andThen_ok, run_underlying hu, Sem.run_bind]
  simp [h0, h1, hsz, Sem.run_bind, run_underlying hu]
end
end Go.Refl

namespace Go.Refl
open Go.RowKit

section
variable {P : Program} {w0 w : World} {N : Nat → Prop} {n : Nat} {e : Env} {a : Act}
theorem ex_alloc (ρ : Operand → Value) (o : Oper) (t : TypeId) (inf : TypeInfo) (z : Value) (ho : o.op = .alloc t) (hi : P.info? t = some inf) (hz : inf.zero = some z) :
    (execOp ρ o).run P w = .ok (.value (.pointer (some ⟨w.heap.size, 0, none⟩))) (w.alloc (.cells z.cells t)) := by
  have h1 : (zeroValue t).run P w = .ok z w := by
    simp only [zeroValue, typeInfo, Sem.run_bind]
    show Result.andThen (Result.andThen (Sem.run P program w) _) _ = _
    rw [show Sem.run P program w = .ok P w from rfl]
    simp only [Result.andThen_ok, hi]
    show Result.andThen (.ok inf w) _ = _
    simp only [Result.andThen_ok, hz]
    rfl
  unfold execOp
  rw [ho]
  simp only [Instr.alloc, Sem.run_bind, h1, Result.andThen_ok]
  rfl
theorem ex_store (ρ : Operand → Value) (o : Oper) (t : TypeId) (x y : Operand) (b T : Nat) (old new : List Value) (ho : o.op = .store t x y) (hx : ρ x = .pointer (some ⟨b, 0, none⟩)) (hy : ρ y = .agg new.toArray)
    (hb : w.heap[b]? = some (.cells old.toArray T (0, 0))) (hl : old.length = new.length) (hi : (P.info? t).map (·.size) = some new.length) (h1 : ∀ v ∈ new, v.oneCell' = true) :
    (execOp ρ o).run P w = .ok .skip (w.setRow b new.toArray) := by
  have hs := run_storeVar_row (P := P) w b T t old.toArray new.toArray hb (by simpa using hi) (by simpa using hl) (by simpa [Array.all_eq_true_iff_forall_mem] using h1)
  unfold execOp
  rw [ho]
  simp only [hx, hy, Instr.storeAt, Instr.sureAddr, Sem.run_bind]
  show Result.andThen (Result.andThen (Sem.run P (pure (⟨b, 0, none⟩ : Addr)) w) _) _ = _
  rw [show Sem.run P (pure (⟨b, 0, none⟩ : Addr) : Sem Addr) w = .ok ⟨b, 0, none⟩ w from rfl]
  simp only [Result.andThen_ok, hs]
  rfl
theorem ex_len (ρ : Operand → Value) (o : Oper) (c : Call) (x : Operand) (A : Option Addr) (m cap : Nat) (t el : TypeId) (ho : o.op = .call c) (hc : c.callee = .builtin .len) (ha : c.args = #[x]) (ht : c.argTypes[0]? = some t) (hu : P.underlying t = some (.slice el))
    (hx : ρ x = .slice A m cap) : (execOp ρ o).run P w = .ok (.value (.int .i64 m)) w := by
  unfold execOp
  rw [ho]
  simp only [resolve, hc, ha, Sem.run_bind]
  simp [Sem.run_bind, Result.andThen_ok, invoke, builtin, Builtin.len_, ht, hx, run_underlying hu, goInt]
theorem ex_func (ρ : Operand → Value) (o : Oper) (c : Call) (f : FuncId) (ho : o.op = .call c) (hc : c.callee = .value (.func f)) (hf : ρ (.func f) = .func (.func f) #[] #[]) (hcf : ∀ args w, (callFunc f args).run P w = .ok (.enter f args) w) :
    (execOp ρ o).run P w = .ok (.enter f (c.args.map ρ)) w := by
  unfold execOp
  rw [ho]
  simp only [resolve, hc, hf, Deferred.ofValue, Sem.run_bind]
  show Result.andThen (Sem.run P (pure ({ target := .fn (.func f) #[], args := #[] ++ c.args.map ρ } : Deferred)) w) _ = _
  rw [show ∀ d : Deferred, Sem.run P (pure d : Sem Deferred) w = .ok d w from fun _ => rfl]
  simp only [Result.andThen_ok, invoke, Array.append_empty, Array.empty_append, hcf]
end
end Go.Refl

namespace Go.Refl
open Go.RowKit

section
variable {P : Program} {w0 w : World} {N : Nat → Prop} {n : Nat} {e : Env} {a : Act}
theorem alloc_size (w : World) (o : Obj) : (w.alloc o).heap.size = w.heap.size + 1 := Array.size_push _
theorem alloc_new (w : World) (o : Obj) : (w.alloc o).heap[w.heap.size]? = some o := Array.getElem?_push_size
/-- A new box. -/
theorem Inv.newBox (I : Inv w0 N n e a w) {t : TypeId} {l : List AV} {vs : List Value} (hc : Cs w (okN w N) (.agg l) vs) (d : Option Nat) (hd : ∀ t, d = some t → t < n) (hcl : clean e d) :
    Inv w0 (fun b => N b ∨ b = w.heap.size) n (e.putO d (some (.box (.agg l)))) (a.put d (.pointer (some ⟨w.heap.size, 0, none⟩))) (w.alloc (.cells vs.toArray t)) := by
  have hm : ∀ b, okN w N b → (w.alloc (.cells vs.toArray t)).heap[b]? = w.heap[b]? := fun b h => Below.heap_alloc w _ b h.1
  have hok : ∀ b, okN w N b → okN (w.alloc (.cells vs.toArray t)) (fun b => N b ∨ b = w.heap.size) b := fun b h => ⟨by rw [alloc_size]; have := h.1; omega, fun hn => by
    rcases hn with hn | hn
    · exact h.2 hn
    · have := h.1
      omega⟩
  have old : ∀ x v, RepS w N x v → RepS (w.alloc (.cells vs.toArray t)) (fun b => N b ∨ b = w.heap.size) x v := fun x v h => RepS.mono h hm hok (fun y b _ _ hb => ⟨Below.heap_alloc w _ b (I.box b hb).2, .inl hb⟩)
  have hbel : Below w0.heap.size w0 (w.alloc (.cells vs.toArray t)) := I.bel.alloc I.bel.size _
  have hbox : ∀ b, (N b ∨ b = w.heap.size) → w0.heap.size ≤ b ∧ b < (w.alloc (.cells vs.toArray t)).heap.size := by
    intro b hb
    rw [alloc_size]
    rcases hb with hb | rfl
    · have := I.box b hb
      omega
    · have := I.bel.size
      omega
  have hnew : RepS (w.alloc (.cells vs.toArray t)) (fun b => N b ∨ b = w.heap.size) (.box (.agg l)) (.pointer (some ⟨w.heap.size, 0, none⟩)) := ⟨w.heap.size, t, vs, rfl, .inr rfl, alloc_new w _, Cs.mono hm hok hc⟩
  cases d with
  | none => exact ⟨hbel, hbox, fun t x hx => old _ _ (I.rep t x hx), I.far, I.fld, I.size, I.def0⟩
  | some d =>
    have hd := hd d rfl
    have hfar : ∀ t x, t ≠ d → e t = some (.box x) → a.tmps.getD t undef ≠ .pointer (some ⟨w.heap.size, 0, none⟩) := by
      intro t x _ hx he
      obtain ⟨b, T, cs, h1, h2, _⟩ := I.rep t _ hx
      rw [h1] at he
      have : b = w.heap.size := by
        injection he with he
        injection he with he
        injection he
      have := (I.box b h2).2
      omega
    refine ⟨hbel, hbox, fun t x hx => ?_, fun t t' x x' hne h1 h2 => ?_, fun t k i h => by
      simp only [Env.putO] at h ⊢
      have n1 : t ≠ d := by
        rintro rfl
        rw [Env.put_same] at h
        cases h
      rw [Env.put_ne _ _ n1] at h
      exact I.putFlds hcl n1 h, by rw [put_size]; exact I.size, by rw [put_def]; exact I.def0⟩
    · by_cases ht : t = d
      · subst ht
        simp only [Env.putO] at hx
        rw [Env.put_same] at hx
        obtain rfl := Option.some.inj hx
        rw [put_same a t _ (by rw [I.size]; exact hd)]
        exact hnew
      · simp only [Env.putO] at hx
        rw [Env.put_ne _ _ ht] at hx
        rw [put_ne a _ ht]
        exact old _ _ (I.rep t x hx)
    · simp only [Env.putO] at h1 h2
      by_cases n1 : t = d
      · subst n1
        have n2 : t' ≠ t := fun h => hne h.symm
        rw [Env.put_ne _ _ n2] at h2
        rw [put_same a t _ (by rw [I.size]; exact hd), put_ne a _ n2]
        exact fun h => hfar t' x' n2 h2 h.symm
      · rw [Env.put_ne _ _ n1] at h1
        by_cases n2 : t' = d
        · subst n2
          rw [put_same a t' _ (by rw [I.size]; exact hd), put_ne a _ n1]
          exact hfar t x n1 h1
        · rw [Env.put_ne _ _ n2] at h2
          rw [put_ne a _ n1, put_ne a _ n2]
          exact I.far t t' x x' hne h1 h2
/-- A box is written. -/
theorem Inv.setBox (I : Inv w0 N n e a w) {d : Nat} {z : AV} {l : List AV} {vs : List Value} {b T : Nat} {old : List Value} (hz : e d = some (.box z)) (hp : a.tmps.getD d undef = .pointer (some ⟨b, 0, none⟩)) (hN : N b) (hb : w.heap[b]? = some (.cells old.toArray T (0, 0)))
    (hc : Cs w (okN w N) (.agg l) vs) : Inv w0 N n (e.putO (some d) (some (.box (.agg l)))) a (w.setRow b vs.toArray) := by
  have hm : ∀ c, okN w N c → (w.setRow b vs.toArray).heap[c]? = w.heap[c]? := fun c h => setRow_other w b c _ (fun e => h.2 (e ▸ hN))
  have hsz : (w.setRow b vs.toArray).heap.size = w.heap.size := by simp [World.setRow]
  have hok : ∀ c, okN w N c → okN (w.setRow b vs.toArray) N c := fun c h => ⟨by rw [hsz]; exact h.1, h.2⟩
  refine ⟨below_setRow I.bel (I.box b hN).1 _, fun c h => by rw [hsz]; exact I.box c h, fun t x hx => ?_, fun t t' x x' hne h1 h2 => ?_, fun t k i h => ?_, I.size, I.def0⟩
  · simp only [Env.putO] at hx
    by_cases ht : t = d
    · subst ht
      rw [Env.put_same] at hx
      obtain rfl := Option.some.inj hx
      exact ⟨b, T, vs, hp, hN, setRow_heap w b _ _ T _ hb, Cs.mono hm hok hc⟩
    · rw [Env.put_ne _ _ ht] at hx
      refine RepS.mono (I.rep t x hx) hm hok (fun y c hy hv hc => ⟨setRow_other w b c _ (fun e => ?_), hc⟩)
      subst hy
      subst e
      exact I.far t d _ _ ht hx hz (hv.trans hp.symm)
  · simp only [Env.putO] at h1 h2
    have g1 : ∃ y, e t = some (.box y) := by
      by_cases ht : t = d
      · subst ht; exact ⟨_, hz⟩
      · rw [Env.put_ne _ _ ht] at h1; exact ⟨_, h1⟩
    have g2 : ∃ y, e t' = some (.box y) := by
      by_cases ht : t' = d
      · subst ht; exact ⟨_, hz⟩
      · rw [Env.put_ne _ _ ht] at h2; exact ⟨_, h2⟩
    obtain ⟨y1, k1⟩ := g1
    obtain ⟨y2, k2⟩ := g2
    exact I.far t t' _ _ hne k1 k2
  · simp only [Env.putO] at h ⊢
    have n1 : t ≠ d := by
      rintro rfl
      rw [Env.put_same] at h
      cases h
    rw [Env.put_ne _ _ n1] at h
    obtain ⟨c, x, h1, h2, h3⟩ := I.fld t k i h
    by_cases hk : k = d
    · subst hk
      exact ⟨c, _, Env.put_same _ _ _, h2, h3⟩
    · exact ⟨c, x, by rw [Env.put_ne _ _ hk]; exact h1, h2, h3⟩
theorem args_rep (I : Inv w0 N n e a w) : ∀ {xs : List Operand} {l : List AV}, args? e xs = some l → (xs.map a.eval).length = l.length ∧ ∀ (i : Nat) (x : AV) (v : Value), l[i]? = some x → (xs.map a.eval)[i]? = some v → Rep w (okN w N) x v
  | [], l, h => by
    simp only [args?, Option.some.injEq] at h
    subst h
    exact ⟨rfl, fun i x v hx => by simp at hx⟩
  | y :: xs, l, h => by
    simp only [args?] at h
    obtain ⟨z, h1, h2⟩ := Option.bind_eq_some_iff.1 h
    cases hp : plain z
    · rw [hp] at h2; cases h2
    · rw [hp] at h2
      obtain ⟨l', h3, rfl⟩ := Option.map_eq_some_iff.1 h2
      obtain ⟨k1, k2⟩ := args_rep I h3
      refine ⟨by simpa using k1, fun i x v hx hv => ?_⟩
      cases i with
      | zero =>
        simp only [List.getElem?_cons_zero, Option.some.injEq, List.map_cons] at hx hv
        subst hx hv
        exact opd_plain I h1 hp
      | succ i =>
        simp only [List.getElem?_cons_succ, List.map_cons] at hx hv
        exact k2 i x v hx hv
end
end Go.Refl

namespace Go.Refl
open Go.RowKit

section
variable {P : Program} {fl : Nat → Option (Nat × Nat)} {w0 w : World} {N : Nat → Prop} {n : Nat} {e : Env} {a : Act}
theorem plain_of {α : Type} {b : Bool} {x : Option α} {y : α} (h : (bif b then x else none) = some y) : b = true ∧ x = some y := by
  cases b
  · cases h
  · exact ⟨rfl, h⟩
theorem ex_field (ρ : Operand → Value) (o : Oper) (t : TypeId) (x : Operand) (i j : Nat) (ad : Addr) (ho : o.op = .fieldAddr t x i) (hj : fieldPos P t i = some j) (hx : ρ x = .pointer (some ad)) : (execOp ρ o).run P w = .ok (.value (.pointer (some (ad.add j)))) w := by
  unfold fieldPos at hj
  split at hj
  · rename_i fs hu
    obtain ⟨f, hf, h2⟩ := Option.bind_eq_some_iff.1 hj
    obtain ⟨inf, hi, h3⟩ := Option.bind_eq_some_iff.1 h2
    have hsz : (sizeOf f.type).run P w = .ok inf.size w := by
      simp only [sizeOf, typeInfo, Sem.run_bind]
      show Result.andThen (Result.andThen (Sem.run P program w) _) _ = _
      rw [show Sem.run P program w = .ok P w from rfl]
      simp only [Result.andThen_ok, hi]
      rfl
    have hb : Nat.beq inf.size 0 = false ∧ f.offset = j := by
      cases hb : Nat.beq inf.size 0
      · rw [hb] at h3; exact ⟨rfl, Option.some.inj h3⟩
      · rw [hb] at h3; cases h3
    obtain ⟨hb, rfl⟩ := hb
    have h0 : ¬ inf.size = 0 := fun h => by rw [h] at hb; cases hb
    have hpl : (fieldPlace ad f).run P w = .ok (ad.add f.offset) w := by
      simp only [fieldPlace, Sem.run_bind, hsz, Result.andThen_ok, if_neg h0]
      rfl
    unfold execOp
    rw [ho]
    simp only [hx, Instr.fieldAt, Instr.sureAddr, Sem.run_bind, run_underlying hu, Result.andThen_ok, hf]
    simp only [Sem.run_pure, Result.andThen_ok, Sem.run_bind, hpl]
  · cases hj
theorem cs_at {ok : Nat → Prop} {l : List AV} {cs : List Value} (h : Cs w ok (.agg l) cs) {i : Nat} {z : AV} (hz : l[i]? = some z) : ∃ v, cs[i]? = some v ∧ Cs w ok z [v] := by
  cases h with
  | one _ _ hx _ => cases hx
  | agg _ _ hl ho2 hh =>
    have hlt : i < cs.length := by
      have := (List.getElem?_eq_some_iff.1 hz).1
      omega
    exact ⟨cs[i], List.getElem?_eq_getElem hlt, .one _ _ (ho2 z (List.mem_of_getElem? hz)) (hh i z _ hz (List.getElem?_eq_getElem hlt))⟩
theorem base_add (b j : Nat) : (⟨b, 0, none⟩ : Addr).add j = ⟨b, j, none⟩ := by
  unfold Addr.add
  by_cases hj : j = 0
  · subst hj
    rfl
  · simp [hj]
theorem load_sound (I : Inv w0 N n e a w) {t : TypeId} {x : Operand} {z : AV} (h : loadOf P fl t e x = some z) : ∃ ad v, a.eval x = .pointer (some ad) ∧ (loadVar t ad).run P w = .ok v w ∧ Rep w (okN w N) z v ∧ plain z = true := by
  unfold loadOf at h
  split at h
  · rename_i r
    split at h
    · rename_i y hy
      obtain ⟨hf, h3⟩ := plain_of h
      obtain rfl := Option.some.inj h3
      obtain ⟨ad, cs, h1, h2, h3, h4, h5⟩ := I.rep r _ hy
      obtain ⟨v, g1, g2⟩ := run_loadVar hf h4 h5
      exact ⟨ad, v, h1, g1, g2, by cases y <;> first | rfl | cases hf⟩
    · rename_i y hy
      obtain ⟨hf, h3⟩ := plain_of h
      obtain rfl := Option.some.inj h3
      obtain ⟨b, T, cs, h1, h2, h3, h4⟩ := I.rep r _ hy
      have h5 : ∀ (j : Nat) (u : Value), cs[j]? = some u → w.cell? ((⟨b, 0, none⟩ : Addr).add j) = some u := by
        intro j u hu
        rw [base_add, cell_of_row w b j _ _ _ h3]
        simpa using hu
      obtain ⟨v, g1, g2⟩ := run_loadVar hf h4 h5
      exact ⟨_, v, h1, g1, g2, by cases y <;> first | rfl | cases hf⟩
    · rename_i d i hy
      split at h
      · split at h
        · rename_i l hl
          · obtain ⟨_, h⟩ := plain_of h
            obtain ⟨y, g1, g2⟩ := Option.bind_eq_some_iff.1 h
            obtain ⟨hf, g3⟩ := plain_of g2
            obtain rfl := Option.some.inj g3
            simp only [Bool.and_eq_true] at hf
            obtain ⟨b, x', k1, k2, k3⟩ := I.fld r d i hy
            obtain ⟨b', T, cs, h1, h2, h3, h4⟩ := I.rep d _ hl
            have hbb : b' = b := by
              rw [h1] at k2
              injection k2 with k2
              injection k2 with k2
              injection k2
            subst hbb
            obtain ⟨u, u1, u2⟩ := cs_at h4 g1
            obtain ⟨v, v1, v2⟩ := run_loadVar (w := w) (ad := (⟨b', 0, none⟩ : Addr).add i) hf.1 u2 (fun j q hq => by
              cases j with
              | zero =>
                simp only [List.getElem?_cons_zero, Option.some.injEq] at hq
                subst hq
                rw [base_add, show (⟨b', i, none⟩ : Addr).add 0 = ⟨b', i, none⟩ from rfl, cell_of_row w b' i _ _ _ h3]
                simpa using u1
              | succ j => simp at hq)
            exact ⟨_, v, k3, v1, v2, by cases y <;> first | rfl | cases hf.2⟩
        · obtain ⟨_, h⟩ := plain_of h
          cases h
      · cases h
    · cases h
  · cases h
theorem loose_adr {x : AV} : loose (.adr x) := by
  refine ⟨?_, ?_⟩
  · rintro _ ⟨⟩
  · rintro _ _ ⟨⟩
theorem valsOf_eq : ∀ {l : List AV} {vs : List Value}, valsOf l = some vs → l = vs.map .val
  | [], vs, h => by
    simp only [valsOf, Option.some.injEq] at h
    subst h
    rfl
  | .val v :: l, vs, h => by
    simp only [valsOf, Option.map_eq_some_iff] at h
    obtain ⟨ws, h1, rfl⟩ := h
    rw [valsOf_eq h1]
    rfl
  | .sl _ :: _, _, h => by simp [valsOf] at h
  | .agg _ :: _, _, h => by simp [valsOf] at h
  | .tup _ :: _, _, h => by simp [valsOf] at h
  | .adr _ :: _, _, h => by simp [valsOf] at h
  | .box _ :: _, _, h => by simp [valsOf] at h
  | .fld _ _ :: _, _, h => by simp [valsOf] at h
theorem rep_toV {w : World} {ok : Nat → Prop} {x : AV} {v : Value} (h : x.toV = some v) (ha : okFlat x = true) : Rep w ok x v := by
  cases x with
  | val u =>
    simp only [AV.toV, Option.some.injEq] at h
    subst h
    exact .val u ha
  | agg l =>
    simp only [AV.toV, Option.map_eq_some_iff] at h
    obtain ⟨vs, h1, rfl⟩ := h
    have := valsOf_eq h1
    subst this
    refine .agg _ _ (cs_flat ok w vs fun u hu => ?_)
    simp only [okFlat, List.all_eq_true] at ha
    exact ha (.val u) (List.mem_map.2 ⟨u, hu, rfl⟩)
  | _ => cases h
theorem ex_build (ρ : Operand → Value) (o : Oper) (t : TypeId) (ps : Array (Nat × Operand)) (v : Value) (ho : o.op = .build t ps) (h : BuildIs P t (ps.toList.map fun p => (p.1, ρ p.2)).toArray v) (w : World) : (execOp ρ o).run P w = .ok (.value v) w := by
  have h := h w
  have he : (ps.toList.map fun p => (p.1, ρ p.2)).toArray = ps.map fun (i, x) => (i, ρ x) := by
    apply Array.toList_inj.1
    simp
  rw [he] at h
  unfold execOp
  rw [ho]
  simp only [Sem.run_bind, h]
  rfl
theorem op_pure {Q : Exit → Act → World → Prop} {K : Act → World → Prop} {o : Oper} {s s' : List Ans} {d : Option Nat} {x : Option AV} {p : Option Prop} (I : Inv w0 N n e a w) (hs : ∀ cs b, o.op ≠ .select cs b) (h : pureOp P e s o = some ((d, x), p, s')) (hp : holds p)
    (hd : ∀ t, o.dst = some t → t < n) (hcl : clean e o.dst) (k : Next w0 n (e.putO d x) K) : o.wp P a w K Q := by
  unfold pureOp at h
  obtain ⟨hk, h⟩ := plain_of h
  have hcg : execOp a.eval o = execOp (opv e) o := execOp_congr o hs fun x hx => opv_eq I (by rw [List.all_eq_true] at hk; exact hk x (by simpa using hx))
  split at h
  · rename_i v hv
    obtain ⟨y, hy, h3⟩ := Option.map_eq_some_iff.1 h
    simp only [Prod.mk.injEq] at h3
    obtain ⟨⟨rfl, rfl⟩, _, _⟩ := h3
    obtain ⟨g1, g2⟩ := ofV_rep (w := w) (okN w N) hy
    exact op_plain I (by rw [hcg]; exact pureRun_run hv w) (plain_box g2) ((RepS.plain g2).2 g1) hd hcl k
  · cases h
theorem ex_bin (ρ : Operand → Value) (o : Oper) (op : BinOp) (t : TypeId) (x y : Operand) (u : TypeId) (v : Value) (ho : o.op = .binOp op t x y u) (h : BinIs P op t x y (ρ x) (ρ y) v) (w : World) : (execOp ρ o).run P w = .ok (.value v) w := by
  have h := h w
  unfold execOp
  rw [ho]
  simp only []
  rw [Sem.run_bind, h]
  rfl
theorem op_cmp {Q : Exit → Act → World → Prop} {K : Act → World → Prop} {o : Oper} {op : BinOp} {t u : TypeId} {y z : Operand} {s s' : List Ans} {d : Option Nat} {x : Option AV} {p : Option Prop} (I : Inv w0 N n e a w) (ho : o.op = .binOp op t y z u) (h : cmpOp P e s o.dst op t y z = some ((d, x), p, s')) (hp : holds p)
    (hd : ∀ t, o.dst = some t → t < n) (hcl : clean e o.dst) (k : Next w0 n (e.putO d x) K) : o.wp P a w K Q := by
  unfold cmpOp at h
  obtain ⟨hk, h⟩ := plain_of h
  simp only [Bool.and_eq_true] at hk
  split at h
  · rename_i v s2 _
    obtain ⟨hf, h3⟩ := plain_of h
    simp only [Option.some.injEq, Prod.mk.injEq] at h3
    obtain ⟨⟨rfl, rfl⟩, rfl, _⟩ := h3
    have hp : BinIs P op t y z (opv e y) (opv e z) v := hp
    rw [← opv_eq I hk.1, ← opv_eq I hk.2] at hp
    exact op_plain I (ex_bin a.eval o op t y z u v ho hp w) (y := .val _) (plain_box rfl) ((RepS.plain rfl).2 (Rep.val _ hf)) hd hcl k
  · cases h
theorem run_bound (k : IntKind) (i : Int) (y : Nat) (code : BoundsCode) (h0 : 0 ≤ i) (h1 : i ≤ y) : (Instr.sliceBound (.int k i) y code).run P w = .ok i.toNat w := by
  rw [run_sliceBound_if, if_pos ⟨h0, h1⟩]
theorem bnd_eval (I : Inv w0 N n e a w) {lo : Option Operand} {d i : Int} (h : bnd e lo d = some i) : (lo = none ∧ i = d) ∨ ∃ o k, lo = some o ∧ a.eval o = .int k i := by
  cases lo with
  | none =>
    simp only [bnd, Option.some.injEq] at h
    exact .inl ⟨rfl, h.symm⟩
  | some o =>
    simp only [bnd] at h
    split at h
    · rename_i k m hm
      obtain rfl := Option.some.inj h
      exact .inr ⟨o, k, rfl, (rep_val (opd_plain I hm rfl)).1⟩
    · cases h
theorem ex_slice (o : Oper) (t el : TypeId) (x : Operand) (lo hi : Option Operand) (A : Option Addr) (m c sz : Nat) (i j : Int) (ho : o.op = .slice t x lo hi none) (hu : P.underlying t = some (.slice el)) (hs : (P.info? el).map (·.size) = some sz) (hx : a.eval x = .slice A m c)
    (hlo : (lo = none ∧ i = 0) ∨ ∃ q k, lo = some q ∧ a.eval q = .int k i) (hhi : (hi = none ∧ j = m) ∨ ∃ q k, hi = some q ∧ a.eval q = .int k j) (h0 : 0 ≤ i) (h1 : i ≤ j) (h2 : j ≤ m) (hc : m ≤ c) :
    (execOp a.eval o).run P w = .ok (.value (.slice (if c = i.toNat then A else A.map (·.add (i.toNat * sz))) (j.toNat - i.toNat) (c - i.toNat))) w := by
  have hsz : (sizeOf el).run P w = .ok sz w := by
    obtain ⟨inf, hi, rfl⟩ := Option.map_eq_some_iff.1 hs
    simp only [sizeOf, typeInfo, Sem.run_bind]
    show Result.andThen (Result.andThen (Sem.run P program w) _) _ = _
    rw [show Sem.run P program w = .ok P w from rfl]
    simp only [Result.andThen_ok, hi]
    rfl
  have hel : P.elem t = el := by simp [Program.elem, hu]
  have hu' : P.underlying t = some (.slice (P.elem t)) := by rw [hel]; exact hu
  have hb : (Instr.sliceBounds true m c (lo.map a.eval) (hi.map a.eval) none).run P w = .ok (i.toNat, j.toNat, c) w := by
    have hj : (j.toNat : Int) = j := Int.toNat_of_nonneg (by omega)
    rcases hlo with ⟨rfl, rfl⟩ | ⟨q, k, rfl, hq⟩ <;> rcases hhi with ⟨rfl, rfl⟩ | ⟨q2, k2, rfl, hq2⟩
    · simp [Instr.sliceBounds]
    · simp only [Instr.sliceBounds, Option.map_none, Option.map_some, hq2, Sem.run_bind]
      simp [Sem.run_bind, Result.andThen_ok, run_bound k2 j c _ (by omega) (by omega)]
    · simp only [Instr.sliceBounds, Option.map_none, Option.map_some, hq, Sem.run_bind]
      simp [Sem.run_bind, Result.andThen_ok, run_bound k i m _ h0 (by omega)]
    · simp only [Instr.sliceBounds, Option.map_some, hq, hq2, Sem.run_bind]
      simp [Sem.run_bind, Result.andThen_ok, run_bound k2 j c _ (by omega) (by omega), run_bound k i j.toNat _ h0 (by omega)]
  unfold execOp
  rw [ho]
  simp only [hx, Sem.run_bind, run_sliceAt_slice _ _ _ _ _ _ hu', Option.map_none, run_slice_any _ t A m c hu', hb, Result.andThen_ok, hel, hsz]
  rfl
theorem op_sound {Q : Exit → Act → World → Prop} {K : Act → World → Prop} {o : Oper} {s s' : List Ans} {d : Option Nat} {x : Option AV} {p : Option Prop} (I : Inv w0 N n e a w) (h : evalOp P fl e s o = some ((d, x), p, s')) (hp : holds p)
    (hd : ∀ t, o.dst = some t → t < n) (hcl : clean e o.dst) (k : Next w0 n (e.putO d x) K) : o.wp P a w K Q := by
  unfold evalOp at h
  split at h
  · -- move
    rename_i y ho
    obtain ⟨z, h1, h2⟩ := Option.bind_eq_some_iff.1 h
    obtain ⟨hz, h3⟩ := plain_of h2
    simp only [Option.some.injEq, Prod.mk.injEq] at h3
    obtain ⟨⟨rfl, rfl⟩, _, _⟩ := h3
    exact op_plain I (ex_move _ o y (.inl ho) w) (plain_box hz) (opd_rep I h1) hd hcl k
  · rename_i y ho
    obtain ⟨z, h1, h2⟩ := Option.bind_eq_some_iff.1 h
    obtain ⟨hz, h3⟩ := plain_of h2
    simp only [Option.some.injEq, Prod.mk.injEq] at h3
    obtain ⟨⟨rfl, rfl⟩, _, _⟩ := h3
    exact op_plain I (ex_move _ o y (.inr ho) w) (plain_box hz) (opd_rep I h1) hd hcl k
  · -- pick
    rename_i c y z ho
    split at h
    · rename_i t hc
      obtain ⟨r, h1, h2⟩ := Option.bind_eq_some_iff.1 h
      obtain ⟨hr, h3⟩ := plain_of h2
      simp only [Option.some.injEq, Prod.mk.injEq] at h3
      obtain ⟨⟨rfl, rfl⟩, _, _⟩ := h3
      have hcv := (rep_val (opd_plain I hc rfl)).1
      refine op_plain I (ex_pick _ o c y z t ho hcv w) (plain_box hr) ?_ hd hcl k
      have := opd_rep I h1
      cases t <;> exact this
    · cases h
  · -- alloc
    rename_i t ho
    split at h
    · rename_i z hz
      obtain ⟨y, h1, h2⟩ := Option.bind_eq_some_iff.1 h
      obtain ⟨hy, h3⟩ := plain_of h2
      simp only [Option.some.injEq, Prod.mk.injEq] at h3
      obtain ⟨⟨rfl, rfl⟩, _, _⟩ := h3
      obtain ⟨inf, hi, hz2⟩ := Option.bind_eq_some_iff.1 hz
      simp only [Bool.and_eq_true] at hy
      obtain ⟨hr, _⟩ := ofV_rep (w := w) (okN w N) h1
      cases y with
      | agg l =>
        cases hr with
        | agg _ cs hc =>
          have := I.newBox (t := t) hc o.dst hd hcl
          unfold Oper.wp
          rw [ex_alloc _ o t inf (.agg cs.toArray) ho hi hz2]
          exact k _ _ _ this
      | _ => simp [AV.isAgg] at hy
    · cases h
  · -- load
    rename_i t y ho
    obtain ⟨z, hz, h3⟩ := Option.map_eq_some_iff.1 h
    simp only [Prod.mk.injEq] at h3
    obtain ⟨⟨rfl, rfl⟩, _, _⟩ := h3
    obtain ⟨ad, v, g0, g1, g2, hpl⟩ := load_sound I hz
    exact op_plain I (ex_load _ o t y ad v ho g0 g1) (plain_box hpl) ((RepS.plain hpl).2 g2) hd hcl k
  · -- store
    rename_i t dd y ho
    split at h
    · rename_i z l hz hy
      obtain ⟨hf, h3⟩ := plain_of h
      simp only [Option.some.injEq, Prod.mk.injEq] at h3
      obtain ⟨⟨rfl, rfl⟩, _, _⟩ := h3
      simp only [Bool.and_eq_true] at hf
      obtain ⟨f1, f2, f3, f4⟩ := hf
      obtain ⟨b, T, cs, h1, h2, h3, h4⟩ := I.rep dd _ hz
      have hyr := opd_plain I hy rfl
      cases z with
      | agg lz =>
        obtain ⟨vs, hv, hc⟩ : ∃ vs : List Value, a.eval y = .agg vs.toArray ∧ Cs w (okN w N) (.agg l) vs := by
          generalize a.eval y = v at hyr
          cases hyr with
          | agg _ vs hc => exact ⟨vs, rfl, hc⟩
        simp only [fits, Bool.and_eq_true, beq_iff_eq] at f1 f2
        have hlen : cs.length = vs.length := by
          have e1 := Cs.len h4
          have e2 := Cs.len hc
          simp only [AV.cnt] at e1 e2
          have := f1.1.symm.trans f2.1
          simp only [Option.some.injEq, Prod.mk.injEq, true_and] at this
          omega
        have hone : ∀ v ∈ vs, v.oneCell' = true := by
          cases hc with
          | one _ _ hx _ => cases hx
          | agg _ _ hl ho2 h2 =>
            intro v hv
            obtain ⟨i, hi⟩ := List.mem_iff_getElem?.1 hv
            have hil : i < l.length := by
              have := (List.getElem?_eq_some_iff.1 hi).1
              omega
            exact one_cell (ho2 _ (List.getElem_mem hil)) (h2 i _ v (List.getElem?_eq_getElem hil) hi)
        have hinf := (tyK_some (w := w) f1.1).2.2
        have hl2 := Cs.len hc
        simp only [AV.cnt] at hl2
        rw [← hl2] at hinf
        have hi := I.setBox (l := l) hz h1 h2 h3 hc
        unfold Oper.wp
        rw [ex_store _ o t (.tmp dd) y b T cs vs ho h1 hv h3 hlen hinf hone]
        have hdst : o.dst = none := Option.isNone_iff_eq_none.1 f3
        show K (a.put o.dst undef) _
        rw [hdst]
        exact k _ _ _ hi
      | _ => simp [AV.isAgg] at f4
    · cases h
  · -- indexAddr
    rename_i t y i ho
    split at h
    · rename_i l kk m z s2 hl hm
      obtain ⟨hf, h3⟩ := plain_of h
      simp only [Option.some.injEq, Prod.mk.injEq] at h3
      obtain ⟨⟨rfl, rfl⟩, rfl, _⟩ := h3
      obtain ⟨h0, hg⟩ := hp
      obtain ⟨A, c, sz, ad, cs, h1, h2, h3, h4, h5, h6⟩ := rep_sl (opd_plain I hl rfl)
      have hiv := (rep_val (opd_plain I hm rfl)).1
      have hlt : m.toNat < l.length := (List.getElem?_eq_some_iff.1 hg).1
      obtain ⟨rfl, hb, hs⟩ := h3 (by omega)
      unfold fitsE at hf
      split at hf
      · rename_i el hu
        simp only [Bool.and_eq_true, beq_iff_eq] at hf
        have hcln := Cs.len (h4 m.toNat z hg)
        have hsz : sz = z.cnt := by rw [← hcln]; exact (h5 m.toNat hlt).symm
        rw [← hsz] at hf
        refine op_plain I (ex_index _ o t el y i ad kk m l.length c sz ho hu hf.2 h1 hiv h0 (by omega)) loose_adr ?_ hd hcl k
        exact ⟨ad.add (m.toNat * sz), cs m.toNat, rfl, add_spot _ _ hs, by rw [add_block]; exact hb, h4 m.toNat z hg, fun j u hu => by rw [add_add _ _ _ hs]; exact h6 m.toNat hlt j u hu⟩
      · cases hf
    · cases h
  · -- slice
    rename_i t y lo hi ho
    split at h
    · rename_i l l' s2 hl
      obtain ⟨k1, e1, h⟩ := Option.bind_eq_some_iff.1 h
      obtain ⟨i, e2, h⟩ := Option.bind_eq_some_iff.1 h
      obtain ⟨j, e3, h⟩ := Option.bind_eq_some_iff.1 h
      simp only [Option.some.injEq, Prod.mk.injEq] at h
      obtain ⟨⟨rfl, rfl⟩, rfl, _⟩ := h
      obtain ⟨p0, p1, p2, rfl, p4⟩ := hp
      unfold elemK at e1
      split at e1
      · rename_i el hu
        obtain ⟨A, c, sz, ad, cs, h1, h2, h3, h4, h5, h6⟩ := rep_sl (opd_plain I hl rfl)
        refine op_plain I (ex_slice o t el y lo hi A l.length c k1 i j ho hu e1 h1 (bnd_eval I e2) (bnd_eval I e3) p0 p1 (by omega) h2.1) (plain_box rfl) ((RepS.plain rfl).2 ?_) hd hcl k
        have hlen : ((l.take j.toNat).drop i.toNat).length = j.toNat - i.toNat := by
          rw [List.length_drop, List.length_take]
          omega
        have hget : ∀ (q : Nat) (x : AV), ((l.take j.toNat).drop i.toNat)[q]? = some x → l[i.toNat + q]? = some x ∧ i.toNat + q < j.toNat := by
          intro q x hq
          rw [List.getElem?_drop, List.getElem?_take] at hq
          split at hq
          · exact ⟨hq, by assumption⟩
          · cases hq
        refine .sl _ _ _ _ sz (ad.add (i.toNat * sz)) (fun q => cs (i.toNat + q)) hlen ⟨by omega, by omega⟩ (fun hn => ?_) (fun q x hq => h4 _ x (hget q x hq).1) (fun q hq => h5 _ (by omega)) (fun q hq r u hu2 => ?_)
        · obtain ⟨rfl, g1, g2⟩ := h3 (by omega)
          have hszk : sz = k1 := by
            have hlt : 0 < l.length := by omega
            have := Cs.len (h4 0 l[0] (List.getElem?_eq_getElem hlt))
            rw [h5 0 hlt, p4 _ (List.getElem_mem hlt)] at this
            exact this
          rw [if_neg (by omega), hszk]
          exact ⟨rfl, by rw [add_block]; exact g1, add_spot _ _ g2⟩
        · obtain ⟨_, g1, g2⟩ := h3 (by omega)
          rw [add_add _ _ _ g2, ← Nat.add_assoc, ← Nat.add_mul]
          exact h6 _ (by omega) r u hu2
      · cases e1
    · cases h
  · -- fieldAddr
    rename_i t dd i ho
    split at h
    · rename_i y j hy hj
      split at h
      · rename_i d' j' hf
        obtain ⟨hb, h3⟩ := plain_of h
        simp only [Bool.and_eq_true] at hb
        obtain ⟨rfl⟩ := Nat.eq_of_beq_eq_true hb.1
        obtain ⟨rfl⟩ := Nat.eq_of_beq_eq_true hb.2
        simp only [Option.some.injEq, Prod.mk.injEq] at h3
        obtain ⟨⟨rfl, rfl⟩, _, _⟩ := h3
        obtain ⟨b, T, cs, h1, h2, h3, h4⟩ := I.rep dd _ hy
        obtain ⟨r, hr, _⟩ := Option.bind_eq_some_iff.1 hf
        refine op_value (ex_field a.eval o t (.tmp dd) i j _ ho hj h1) ?_
        rw [hr] at k hcl ⊢
        exact k N _ _ (I.putFld hy h1 r (hd r hr) hcl)
      · cases h
    · rename_i l j hy hj
      obtain ⟨z, h1, h2⟩ := Option.bind_eq_some_iff.1 h
      obtain ⟨hz, h3⟩ := plain_of h2
      simp only [Option.some.injEq, Prod.mk.injEq] at h3
      obtain ⟨⟨rfl, rfl⟩, _, _⟩ := h3
      obtain ⟨ad, cs, g1, g2, g3, g4, g5⟩ := I.rep dd _ hy
      cases g4 with
      | one _ _ hx _ => cases hx
      | agg _ _ hl ho2 hh =>
        have hlt : j < cs.length := by
          have := (List.getElem?_eq_some_iff.1 h1).1
          omega
        refine op_plain I (ex_field a.eval o t (.tmp dd) i j _ ho hj g1) loose_adr ?_ hd hcl k
        refine ⟨ad.add j, [cs[j]], rfl, add_spot _ _ g2, by rw [add_block]; exact g3, .one _ _ hz (hh j z _ h1 (List.getElem?_eq_getElem hlt)), fun q u hu => ?_⟩
        cases q with
        | zero =>
          rw [add_add _ _ _ g2]
          simp only [List.getElem?_cons_zero, Option.some.injEq] at hu
          subst hu
          exact g5 j _ (List.getElem?_eq_getElem hlt)
        | succ q => simp at hu
    · cases h
  · -- extract
    rename_i y i ho
    split at h
    · rename_i l hl
      obtain ⟨z, h1, h2⟩ := Option.bind_eq_some_iff.1 h
      obtain ⟨hz, h3⟩ := plain_of h2
      simp only [Option.some.injEq, Prod.mk.injEq] at h3
      obtain ⟨⟨rfl, rfl⟩, _, _⟩ := h3
      obtain ⟨vs, g1, g2, g3⟩ := rep_tup (opd_plain I hl rfl)
      have hlt : i < vs.length := by
        have := (List.getElem?_eq_some_iff.1 h1).1
        omega
      have hv : vs.toArray[i]? = some vs[i] := by simp [List.getElem?_eq_getElem hlt]
      exact op_plain I (ex_extract _ o y i _ _ ho g1 hv w) (plain_box hz) ((RepS.plain hz).2 (g3 i z _ h1 (List.getElem?_eq_getElem hlt))) hd hcl k
    · cases h
  · -- call
    rename_i c ho
    split at h
    · rename_i f hc
      split at h
      · rename_i r s2
        obtain ⟨hr, h2⟩ := plain_of h
        obtain ⟨l, h3, h4⟩ := Option.bind_eq_some_iff.1 h2
        simp only [Option.some.injEq, Prod.mk.injEq] at h4
        obtain ⟨⟨rfl, rfl⟩, rfl, _⟩ := h4
        obtain ⟨hcf, hcall⟩ := hp
        obtain ⟨g1, g2⟩ := args_rep I h3
        have := hcall w (okN w N) (c.args.toList.map a.eval) (fun b hb => hb.1) g1 g2
        unfold Oper.wp
        rw [ex_func a.eval o c f ho hc rfl hcf, Oper.upon_enter]
        have ha : (c.args.toList.map a.eval).toArray = c.args.map a.eval := by
          apply Array.toList_inj.1
          rw [Array.toList_map]
        rw [ha] at this
        refine this.mono ?_
        rintro _ w' ⟨v, rfl, hv, hb⟩
        have I' := I.grow hb
        refine k N _ _ (I'.put (plain_box hr) ((RepS.plain hr).2 (Rep.mono (fun _ _ => rfl) (fun b h => ?_) hv)) o.dst hd hcl)
        rcases h with h | h
        · exact ⟨Nat.lt_of_lt_of_le h.1 hb.size, h.2⟩
        · exact ⟨h.2, fun hN => by have := (I.box b hN).2; omega⟩
      · cases h
    · rename_i b hc
      split at h
      · rename_i m hl
        simp only [Option.some.injEq, Prod.mk.injEq] at h
        obtain ⟨⟨rfl, rfl⟩, _, _⟩ := h
        unfold lenArg at hl
        split at hl
        · split at hl
          · rename_i x hx
            split at hl
            · rename_i l hy
              obtain ⟨g1, g2⟩ := plain_of hl
              obtain rfl := Option.some.inj g2
              obtain ⟨A, cp, sz, ad, cs, h1, _⟩ := rep_sl (opd_plain I hy rfl)
              obtain ⟨t, h2, h3⟩ : ∃ t, c.argTypes[0]? = some t ∧ ∃ el, P.underlying t = some (.slice el) := by
                cases ht : c.argTypes[0]? with
                | none => rw [ht] at g1; cases g1
                | some t =>
                  rw [ht] at g1
                  simp only [Option.bind_some] at g1
                  cases hu : P.underlying t with
                  | none => rw [hu] at g1; cases g1
                  | some d =>
                    rw [hu] at g1
                    cases d <;> first | exact ⟨t, rfl, _, hu⟩ | cases g1
              obtain ⟨el, h3⟩ := h3
              exact op_plain I (ex_len a.eval o c x A l.length cp t el ho hc (by apply Array.toList_inj.1; rw [hx]) h2 h3 h1) (y := .val _) (plain_box rfl) ((RepS.plain rfl).2 (Rep.val _ rfl)) hd hcl k
            · cases hl
          · cases hl
        · cases hl
      · exact op_pure I (by rw [ho]; intro cs b; nofun) h hp hd hcl k
    · cases h
  · rename_i op t y z u ho
    cases hc : isCmp op
    · rw [hc] at h
      exact op_pure I (by rw [ho]; intro cs b; nofun) h hp hd hcl k
    · rw [hc] at h
      exact op_cmp I ho h hp hd hcl k
  · rename_i ho
    exact op_pure I (by rw [ho]; intro cs b; nofun) h hp hd hcl k
  · rename_i ho
    exact op_pure I (by rw [ho]; intro cs b; nofun) h hp hd hcl k
  · rename_i t ps ho
    split at h
    · rename_i y s2
      obtain ⟨hk, h⟩ := plain_of h
      obtain ⟨v, hv, h3⟩ := Option.map_eq_some_iff.1 h
      simp only [Prod.mk.injEq] at h3
      obtain ⟨⟨rfl, rfl⟩, rfl, _⟩ := h3
      simp only [Bool.and_eq_true, List.all_eq_true] at hk
      have hp : BuildIs P t (ps.toList.map fun p => (p.1, opv e p.2)).toArray v := hp
      have he : (ps.toList.map fun p => (p.1, a.eval p.2)) = ps.toList.map fun p => (p.1, opv e p.2) := List.map_congr_left fun p hm => by rw [opv_eq I (hk.1 p hm)]
      rw [← he] at hp
      have hpl : plain y = true := by
        have := hk.2
        cases y <;> first | rfl | cases this
      exact op_plain I (ex_build a.eval o t ps v ho hp w) (plain_box hpl) ((RepS.plain hpl).2 (rep_toV hv hk.2)) hd hcl k
    · cases h
  · cases h
end
end Go.Refl

namespace Go.Refl
open Go.RowKit

section
variable {P : Program} {fl : Nat → Option (Nat × Nat)} {w0 w : World} {N : Nat → Prop} {n : Nat} {e : Env} {a : Act} {ops : Array Oper}
theorem RepS.undef {w : World} {N : Nat → Prop} : RepS w N (.tup []) undef := Rep.tup [] [] rfl (fun i x v hx => by simp at hx)
theorem yielded_eq (I : Inv w0 N n e a w) {g t : Nat} (hg : (ops[g]?).bind (·.dst) = some t) (ht : t < n) : yielded ops a.tmps g = (match a.tmps.getD t undef with | .bool b => some b | _ => none) := by
  unfold yielded
  rw [hg]
  have hs : t < a.tmps.size := by rw [I.size]; exact ht
  have h1 : a.tmps[t]? = some (a.tmps.getD t undef) := by simp [Array.getD, hs]
  simp only [Option.bind_some, h1]
  cases a.tmps.getD t undef <;> rfl
theorem evalG_sound {Q : Exit → Act → World → Prop} {K : Act → World → Prop} {o : Oper} {i : Nat} {s s' : List Ans} {d : Option Nat} {x : Option AV} {p : Option Prop} (I : Inv w0 N n e a w) (ho : ops[i]? = some o) (h : evalG P fl n ops e s o = some ((d, x), p, s')) (hp : holds p)
    (k : Next w0 n (e.putO d x) K) : wpOp P ops Q i K a w := by
  unfold evalG at h
  obtain ⟨hdc, h⟩ := plain_of h
  have hd : ∀ t, o.dst = some t → t < n := by
    intro t ht
    rw [ht] at hdc
    simp only [okDst, Bool.and_eq_true] at hdc
    exact Nat.le_of_ble_eq_true hdc.1
  have hcl : clean e o.dst := by
    intro t ht y hy
    rw [ht] at hdc
    simp only [okDst, Bool.and_eq_true] at hdc
    rw [hy] at hdc
    cases hdc.2
  unfold wpOp
  simp only [ho]
  split at h
  · rename_i hg
    rw [if_pos (by simp [Region.wanted, hg])]
    exact .inl (op_sound I h hp hd hcl k)
  · rename_i g u hg
    split at h
    · cases h
    · rename_i t ht
      split at h
      · rename_i b hb
        have hv := (rep_val (I.rep t _ hb)).1
        have htn : t < n := by
          apply Classical.byContradiction
          intro hn
          have : a.tmps.getD t undef = undef := by
            have hs : ¬ t < a.tmps.size := by rw [I.size]; exact hn
            simp [Array.getD, hs]
          rw [this] at hv
          cases hv
        have hy : yielded ops a.tmps g = some b := by rw [yielded_eq I ht htn, hv]
        cases hbu : b == u
        · rw [hbu] at h
          simp only [cond_false, Option.some.injEq, Prod.mk.injEq] at h
          obtain ⟨⟨rfl, rfl⟩, _, _⟩ := h
          have hne : b ≠ u := by simpa using hbu
          rw [if_neg (by simp [Region.wanted, hg, hy, hne])]
          exact k N _ _ (I.put (plain_box rfl) RepS.undef o.dst hd hcl)
        · rw [hbu] at h
          have he : b = u := by simpa using hbu
          rw [if_pos (by simp [Region.wanted, hg, hy, he])]
          exact .inl (op_sound I h hp hd hcl k)
      · rename_i hb
        simp only [Option.some.injEq, Prod.mk.injEq] at h
        obtain ⟨⟨rfl, rfl⟩, _, _⟩ := h
        have hv := I.rep t _ hb
        obtain ⟨vs, h1, h2, _⟩ := rep_tup hv
        have hvs : vs = [] := List.length_eq_zero_iff.1 h2
        subst hvs
        have hy : yielded ops a.tmps g = none := by
          by_cases htn : t < n
          · rw [yielded_eq I ht htn, h1]
          · unfold yielded
            rw [ht]
            have hs : ¬ t < a.tmps.size := by rw [I.size]; exact htn
            simp [Array.getElem?_eq_none (Nat.le_of_not_lt hs)]
        rw [if_neg (by simp [Region.wanted, hg, hy])]
        exact k N _ _ (I.put (plain_box rfl) RepS.undef o.dst hd hcl)
      · cases h
variable (P fl n ops)
/-- A region's operations, one behind the other. -/
def runOps : List Oper → Env → List Ans → Option (Env × Option Prop × List Ans)
  | [], e, s => some (e, none, s)
  | o :: os, e, s => (evalG P fl n ops e s o).bind fun r => (runOps os (e.putO r.1.1 r.1.2) r.2.2).bind fun q => some (q.1, both r.2.1 q.2.1, q.2.2)
variable {P fl n ops}
theorem runOps_cons {o : Oper} {os : List Oper} {s s' : List Ans} {e' : Env} {p : Option Prop} (h : runOps P fl n ops (o :: os) e s = some (e', p, s')) (hp : holds p) :
    ∃ d x q s1 p', evalG P fl n ops e s o = some ((d, x), q, s1) ∧ holds q ∧ runOps P fl n ops os (e.putO d x) s1 = some (e', p', s') ∧ holds p' := by
  simp only [runOps] at h
  obtain ⟨⟨⟨d, x⟩, q, s1⟩, h1, h2⟩ := Option.bind_eq_some_iff.1 h
  obtain ⟨⟨e2, p', s2⟩, h3, h4⟩ := Option.bind_eq_some_iff.1 h2
  simp only [Option.some.injEq, Prod.mk.injEq] at h4
  obtain ⟨rfl, rfl, rfl⟩ := h4
  exact ⟨d, x, q, s1, p', h1, (holds_both hp).1, h3, (holds_both hp).2⟩
/-- What a region does, operation by operation. -/
structure Trace (P : Program) (fl : Nat → Option (Nat × Nat)) (n : Nat) (ops : Array Oper) (os : List Oper) (e e' : Env) where
  E : Nat → Env
  S : Nat → List Ans
  D : Nat → Option Nat × Option AV
  first : E 0 = e
  last : E os.length = e'
  next : ∀ i, i < os.length → E (i + 1) = (E i).putO (D i).1 (D i).2
  each : ∀ i o, os[i]? = some o → ∃ p s', evalG P fl n ops (E i) (S i) o = some (D i, p, s') ∧ holds p
theorem trace : ∀ {os : List Oper} {e e' : Env} {s s' : List Ans} {p : Option Prop}, runOps P fl n ops os e s = some (e', p, s') → holds p → Nonempty (Trace P fl n ops os e e')
  | [], e, e', s, s', p, h, hp => by
    simp only [runOps, Option.some.injEq, Prod.mk.injEq] at h
    obtain ⟨rfl, _, _⟩ := h
    exact ⟨⟨fun _ => e, fun _ => [], fun _ => (none, none), rfl, rfl, fun i hi => absurd hi (Nat.not_lt_zero _), fun i o ho => by simp at ho⟩⟩
  | o :: os, e, e', s, s', p, h, hp => by
    obtain ⟨d, x, q, s1, p', h1, h2, h3, h4⟩ := runOps_cons h hp
    obtain ⟨T⟩ := trace h3 h4
    refine ⟨⟨fun i => match i with | 0 => e | i + 1 => T.E i, fun i => match i with | 0 => s | i + 1 => T.S i, fun i => match i with | 0 => (d, x) | i + 1 => T.D i, rfl, T.last, fun i hi => ?_, fun i o' ho => ?_⟩⟩
    · cases i with
      | zero => exact T.first
      | succ i => exact T.next i (by simpa using hi)
    · cases i with
      | zero =>
        simp only [List.getElem?_cons_zero, Option.some.injEq] at ho
        subst ho
        exact ⟨q, s1, h1, h2⟩
      | succ i => exact T.each i o' (by simpa using ho)
theorem getElem_toList (i : Nat) : ops.toList[i]? = ops[i]? := by simp
/-- A region in its own order. -/
theorem region_sound {Q : Exit → Act → World → Prop} {e' : Env} (T : Trace P fl n ops ops.toList e e') : ∀ (k i : Nat), i + k = ops.size → ∀ {N : Nat → Prop} {a : Act} {w : World}, Inv w0 N n (T.E i) a w → Next w0 n e' (Q .normal) →
    wpOps P ops Q (List.range' i k) a w
  | 0, i, hi, N, a, w, I, k => by
    have : i = ops.toList.length := by simpa using hi
    subst this
    rw [T.last] at I
    exact k N a w I
  | k + 1, i, hi, N, a, w, I, kk => by
    have hlt : i < ops.toList.length := by simp; omega
    rw [List.range'_succ, wpOps_cons]
    have ho : ops.toList[i]? = some ops.toList[i] := List.getElem?_eq_getElem hlt
    obtain ⟨p, s', h1, h2⟩ := T.each i _ ho
    rw [getElem_toList] at ho
    refine evalG_sound I ho (d := (T.D i).1) (x := (T.D i).2) h1 h2 (fun N' a' w' I' => ?_)
    rw [← T.next i hlt] at I'
    exact region_sound T k (i + 1) (by omega) I' kk
end
end Go.Refl

namespace Go.Refl
open Go.RowKit

section
variable {P : Program} {fl : Nat → Option (Nat × Nat)} {n : Nat} {e e' : Env} {ops : Array Oper}
def tmpsOf : Operand → List Nat
  | .tmp t => [t]
  | _ => []
def loads (fl : Nat → Option (Nat × Nat)) (o : Oper) : List Nat :=
  match o.op with
  | .load _ (.tmp r) =>
    match fl r with
    | some (d, _) => [d]
    | none => []
  | _ => []
def guards (ops : Array Oper) (o : Oper) : List Nat :=
  match o.guard with
  | some (g, _) => ((ops[g]?).bind (·.dst)).toList
  | none => []
def writes (o : Oper) : List Nat :=
  match o.op with
  | .store _ (.tmp d) _ => d :: o.dst.toList
  | _ => o.dst.toList
def mentions (fl : Nat → Option (Nat × Nat)) (ops : Array Oper) (o : Oper) : List Nat := writes o ++ (o.op.operands.toList.flatMap tmpsOf ++ (loads fl o ++ guards ops o))
theorem opd_congr {x : Operand} (h : ∀ t ∈ tmpsOf x, e t = e' t) : opd e x = opd e' x := by
  cases x with
  | tmp t => exact h t (by simp [tmpsOf])
  | const v => rfl
  | global g => rfl
  | func f => rfl
theorem loadOf_congr {t : TypeId} {x : Operand} (h : ∀ t ∈ tmpsOf x, e t = e' t) (h2 : ∀ r d i, x = .tmp r → fl r = some (d, i) → e d = e' d) : loadOf P fl t e x = loadOf P fl t e' x := by
  cases x with
  | tmp r =>
    have hr := h r (by simp [tmpsOf])
    unfold loadOf
    simp only [hr]
    cases he : e' r with
    | none => rfl
    | some y =>
      cases y with
      | fld d i =>
        cases hf : fl r with
        | none => rfl
        | some q =>
          obtain ⟨d', i'⟩ := q
          simp only []
          cases hb : Nat.beq d d' && Nat.beq i i'
          · rfl
          · simp only [Bool.and_eq_true] at hb
            have hd := Nat.eq_of_beq_eq_true hb.1
            subst hd
            simp only [cond_true]
            rw [h2 r d i' rfl hf]
      | _ => rfl
  | const v => rfl
  | global g => rfl
  | func f => rfl
theorem pureOp_congr {s : List Ans} {o : Oper} (hs : ∀ cs b, o.op ≠ .select cs b) (h : ∀ x ∈ o.op.operands, opd e x = opd e' x) : pureOp P e s o = pureOp P e' s o := by
  have h1 : ∀ x ∈ o.op.operands, opv e x = opv e' x := fun x hx => by unfold opv; rw [h x hx]
  have h2 : execOp (opv e) o = execOp (opv e') o := execOp_congr o hs h1
  have h3 : o.op.operands.toList.all (known e) = o.op.operands.toList.all (known e') := by
    rw [Bool.eq_iff_iff]
    simp only [List.all_eq_true]
    have : ∀ x ∈ o.op.operands.toList, known e x = known e' x := fun x hx => by unfold known; rw [h x (by simpa using hx)]
    exact ⟨fun hh x hx => by rw [← this x hx]; exact hh x hx, fun hh x hx => by rw [this x hx]; exact hh x hx⟩
  unfold pureOp
  rw [h2, h3]
theorem args_congr : ∀ {xs : List Operand}, (∀ x ∈ xs, opd e x = opd e' x) → args? e xs = args? e' xs
  | [], _ => rfl
  | x :: xs, h => by
    simp only [args?]
    rw [h x (by simp), args_congr (xs := xs) fun y hy => h y (by simp [hy])]
theorem lenArg_congr {c : Call} {b : Builtin} (h : ∀ x ∈ c.args, opd e x = opd e' x) : lenArg P e c b = lenArg P e' c b := by
  unfold lenArg
  cases b <;> try rfl
  simp only []
  cases ha : c.args.toList with
  | nil => rfl
  | cons x xs =>
    cases xs with
    | nil =>
      have hx : x ∈ c.args := by
        have : x ∈ c.args.toList := by rw [ha]; simp
        simpa using this
      simp only [h x hx]
    | cons y ys => rfl
theorem evalOp_congr {s : List Ans} {o : Oper} (h : ∀ x ∈ o.op.operands, opd e x = opd e' x) (hl : ∀ t x, o.op = .load t x → loadOf P fl t e x = loadOf P fl t e' x) : evalOp P fl e s o = evalOp P fl e' s o := by
  have hp := pureOp_congr (P := P) (s := s) (o := o) (e := e) (e' := e')
  unfold evalOp
  cases ho : o.op <;> try rfl
  case move x => simp only [h x (by simp [ho, Op.operands])]
  case assign x => simp only [h x (by simp [ho, Op.operands])]
  case pick c a b =>
    simp only [h c (by simp [ho, Op.operands])]
    cases opd e' c with
    | none => rfl
    | some y =>
      cases y <;> try rfl
      rename_i v
      cases v <;> try rfl
      rename_i u
      have ha := h a (by simp [ho, Op.operands])
      have hb := h b (by simp [ho, Op.operands])
      cases u <;> simp only [cond_true, cond_false, ha, hb]
  case load t x => simp only [hl t x ho]
  case store t x y =>
    have hx := h x (by simp [ho, Op.operands])
    have hy := h y (by simp [ho, Op.operands])
    cases x <;> try rfl
    simp only [opd] at hx
    simp only [hx, hy]
  case indexAddr t x y =>
    have hx := h x (by simp [ho, Op.operands])
    have hy := h y (by simp [ho, Op.operands])
    simp only [hx, hy]
  case slice t x lo hi mx =>
    have hx := h x (by simp [ho, Op.operands])
    have hb : ∀ (q : Option Operand) (d : Int), (∀ y, q = some y → y ∈ o.op.operands) → bnd e q d = bnd e' q d := by
      intro q d hq
      cases q with
      | none => rfl
      | some y => simp only [bnd, h y (hq y rfl)]
    have h1 := fun d => hb lo d (fun y hy => by subst hy; simp [ho, Op.operands])
    have h2 := fun d => hb hi d (fun y hy => by subst hy; simp [ho, Op.operands])
    cases mx <;> try rfl
    simp only [hx, h1, h2]
  case fieldAddr t x i =>
    have hx := h x (by simp [ho, Op.operands])
    cases x <;> try rfl
    simp only [opd] at hx
    simp only [hx]
  case extract x i =>
    have hx := h x (by simp [ho, Op.operands])
    simp only [hx]
  case call c =>
    have hc : ∀ x ∈ c.args, opd e x = opd e' x := fun x hx => h x (by simp [ho, Op.operands, Call.operands, hx])
    have h1 : args? e c.args.toList = args? e' c.args.toList := args_congr fun x hx => hc x (by simpa using hx)
    simp only [h1, lenArg_congr (P := P) hc]
    rw [hp (by rw [ho]; intro cs b; nofun) h]
  case binOp op t x y u =>
    have hx := h x (by simp [ho, Op.operands])
    have hy := h y (by simp [ho, Op.operands])
    simp only []
    rw [hp (by rw [ho]; intro cs b; nofun) h]
    have h1 : cmpOp P e s o.dst op t x y = cmpOp P e' s o.dst op t x y := by
      unfold cmpOp known opv
      rw [hx, hy]
    rw [h1]
  case unOp => exact hp (by rw [ho]; intro cs b; nofun) h
  case convert => exact hp (by rw [ho]; intro cs b; nofun) h
  case build t ps =>
    have hx : ∀ p ∈ ps.toList, opd e p.2 = opd e' p.2 := fun p hm => h p.2 (by simp only [ho, Op.operands, List.mem_toArray, List.mem_map]; exact ⟨p, hm, rfl⟩)
    have h1 : ps.toList.all (fun p => known e p.2) = ps.toList.all (fun p => known e' p.2) := by
      rw [Bool.eq_iff_iff]
      simp only [List.all_eq_true]
      exact ⟨fun hh p hm => by have := hh p hm; unfold known at this ⊢; rw [← hx p hm]; exact this, fun hh p hm => by have := hh p hm; unfold known at this ⊢; rw [hx p hm]; exact this⟩
    have h2 : (ps.toList.map fun p => (p.1, opv e p.2)) = ps.toList.map fun p => (p.1, opv e' p.2) := List.map_congr_left fun p hm => by unfold opv; rw [hx p hm]
    simp only [h1, h2]
theorem evalG_congr {s : List Ans} {o : Oper} (h : ∀ t ∈ mentions fl ops o, e t = e' t) : evalG P fl n ops e s o = evalG P fl n ops e' s o := by
  have hop : ∀ x ∈ o.op.operands, opd e x = opd e' x := fun x hx => opd_congr fun t ht => h t (by
    unfold mentions
    simp only [List.mem_append, List.mem_flatMap]
    exact .inr (.inl ⟨x, by simpa using hx, ht⟩))
  have hlo : ∀ t x, o.op = .load t x → loadOf P fl t e x = loadOf P fl t e' x := by
    intro t x ho
    refine loadOf_congr (fun r hr => h r ?_) (fun r d i hx hf => h d ?_)
    · unfold mentions
      simp only [List.mem_append, List.mem_flatMap]
      exact .inr (.inl ⟨x, by simp [ho, Op.operands], hr⟩)
    · unfold mentions
      simp only [List.mem_append]
      exact .inr (.inr (.inl (by unfold loads; rw [ho, hx]; simp [hf])))
  have hev := evalOp_congr (P := P) (fl := fl) (s := s) hop hlo
  have hd : ∀ d, o.dst = some d → e d = e' d := fun d hd => h d (by
    unfold mentions writes
    simp only [List.mem_append]
    left
    split <;> simp [hd])
  have hg : ∀ g u t, o.guard = some (g, u) → (ops[g]?).bind (·.dst) = some t → e t = e' t := fun g u t hg ht => h t (by
    unfold mentions guards
    simp only [List.mem_append]
    right; right; right
    rw [hg]
    simp [ht])
  unfold evalG
  rw [hev]
  have h1 : okDst n e o.dst = okDst n e' o.dst := by
    cases ho : o.dst with
    | none => rfl
    | some d => simp only [okDst, hd d ho]
  rw [h1]
  congr 1
  cases hgo : o.guard with
  | none => rfl
  | some q =>
    obtain ⟨g, u⟩ := q
    simp only []
    cases ht : (ops[g]?).bind (·.dst) with
    | none => rfl
    | some t => simp only [hg g u t hgo ht]
theorem evalOp_writes {s s' : List Ans} {o : Oper} {d : Option Nat} {x : Option AV} {p : Option Prop} (h : evalOp P fl e s o = some ((d, x), p, s')) : ∀ t, d = some t → t ∈ writes o := by
  intro t ht
  subst ht
  have key : o.dst = some t → t ∈ writes o := fun hd => by unfold writes; split <;> simp [hd]
  have pk : ∀ {s s' : List Ans} {x : Option AV} {p : Option Prop}, pureOp P e s o = some ((some t, x), p, s') → o.dst = some t := by
    intro s s' x p h
    unfold pureOp at h
    obtain ⟨_, h⟩ := plain_of h
    split at h
    · obtain ⟨y, _, h⟩ := Option.map_eq_some_iff.1 h
      simp only [Prod.mk.injEq] at h
      exact h.1.1
    · cases h
  unfold evalOp at h
  split at h
  · obtain ⟨z, h1, h2⟩ := Option.bind_eq_some_iff.1 h
    obtain ⟨_, h⟩ := plain_of h2
    simp only [Option.some.injEq, Prod.mk.injEq] at h
    exact key h.1.1
  · obtain ⟨z, h1, h2⟩ := Option.bind_eq_some_iff.1 h
    obtain ⟨_, h⟩ := plain_of h2
    simp only [Option.some.injEq, Prod.mk.injEq] at h
    exact key h.1.1
  · split at h
    · obtain ⟨z, h1, h2⟩ := Option.bind_eq_some_iff.1 h
      obtain ⟨_, h⟩ := plain_of h2
      simp only [Option.some.injEq, Prod.mk.injEq] at h
      exact key h.1.1
    · cases h
  · split at h
    · obtain ⟨z, h1, h2⟩ := Option.bind_eq_some_iff.1 h
      obtain ⟨_, h⟩ := plain_of h2
      simp only [Option.some.injEq, Prod.mk.injEq] at h
      exact key h.1.1
    · cases h
  · obtain ⟨z, h1, h2⟩ := Option.map_eq_some_iff.1 h
    simp only [Prod.mk.injEq] at h2
    exact key h2.1.1
  · rename_i ho
    split at h
    · obtain ⟨_, h⟩ := plain_of h
      simp only [Option.some.injEq, Prod.mk.injEq] at h
      obtain ⟨⟨h1, _⟩, _⟩ := h
      unfold writes
      rw [ho]
      simp [h1]
    · cases h
  · split at h
    · obtain ⟨_, h⟩ := plain_of h
      simp only [Option.some.injEq, Prod.mk.injEq] at h
      exact key h.1.1
    · cases h
  · split at h
    · obtain ⟨_, _, h⟩ := Option.bind_eq_some_iff.1 h
      obtain ⟨_, _, h⟩ := Option.bind_eq_some_iff.1 h
      obtain ⟨_, _, h⟩ := Option.bind_eq_some_iff.1 h
      simp only [Option.some.injEq, Prod.mk.injEq] at h
      exact key h.1.1
    · cases h
  · split at h
    · split at h
      · obtain ⟨_, h⟩ := plain_of h
        simp only [Option.some.injEq, Prod.mk.injEq] at h
        exact key h.1.1
      · cases h
    · obtain ⟨z, h1, h2⟩ := Option.bind_eq_some_iff.1 h
      obtain ⟨_, h⟩ := plain_of h2
      simp only [Option.some.injEq, Prod.mk.injEq] at h
      exact key h.1.1
    · cases h
  · split at h
    · obtain ⟨z, h1, h2⟩ := Option.bind_eq_some_iff.1 h
      obtain ⟨_, h⟩ := plain_of h2
      simp only [Option.some.injEq, Prod.mk.injEq] at h
      exact key h.1.1
    · cases h
  · split at h
    · split at h
      · obtain ⟨_, h⟩ := plain_of h
        obtain ⟨z, h1, h2⟩ := Option.bind_eq_some_iff.1 h
        simp only [Option.some.injEq, Prod.mk.injEq] at h2
        exact key h2.1.1
      · cases h
    · split at h
      · simp only [Option.some.injEq, Prod.mk.injEq] at h
        exact key h.1.1
      · exact key (pk h)
    · cases h
  · rename_i op t y z u ho
    cases hc : isCmp op
    · rw [hc] at h
      exact key (pk h)
    · rw [hc] at h
      simp only [cond_true] at h
      unfold cmpOp at h
      obtain ⟨_, h⟩ := plain_of h
      split at h
      · obtain ⟨_, h⟩ := plain_of h
        simp only [Option.some.injEq, Prod.mk.injEq] at h
        exact key h.1.1
      · cases h
  · exact key (pk h)
  · exact key (pk h)
  · split at h
    · obtain ⟨_, h⟩ := plain_of h
      obtain ⟨v, _, h3⟩ := Option.map_eq_some_iff.1 h
      simp only [Prod.mk.injEq] at h3
      exact key h3.1.1
    · cases h
  · cases h
theorem evalG_writes {s s' : List Ans} {o : Oper} {d : Option Nat} {x : Option AV} {p : Option Prop} (h : evalG P fl n ops e s o = some ((d, x), p, s')) : ∀ t, d = some t → t ∈ writes o := by
  intro t ht
  subst ht
  have key : o.dst = some t → t ∈ writes o := fun hd => by unfold writes; split <;> simp [hd]
  unfold evalG at h
  obtain ⟨_, h⟩ := plain_of h
  split at h
  · exact evalOp_writes h t rfl
  · split at h
    · cases h
    · split at h
      · rename_i b _ 
        generalize (b == _) = q at h
        cases q
        · simp only [cond_false, Option.some.injEq, Prod.mk.injEq] at h
          exact key h.1.1
        · exact evalOp_writes h t rfl
      · simp only [Option.some.injEq, Prod.mk.injEq] at h
        exact key h.1.1
      · cases h
end
end Go.Refl

namespace Go.Refl
open Go.RowKit

/-! ### The order that the edges give -/
def ancOf (A : List Nat) : List Edge → Nat
  | [] => 0
  | e :: es => bif Region.binds .any e then ((A[e.on]?).getD 0 ||| 2 ^ e.on) ||| ancOf A es else ancOf A es
def ancs : List Oper → List Nat → List Nat
  | [], A => A
  | o :: os, A => ancs os (A ++ [ancOf A o.after.toList])
def backs (j : Nat) : List Edge → Bool
  | [] => true
  | e :: es => (!Region.binds .any e || Nat.blt e.on j) && backs j es
/-- What was reckoned is the order. -/
def soundA (A : List Nat) : Nat → List Oper → Bool
  | _, [] => true
  | j, o :: os => backs j o.after.toList && (Nat.beq ((A[j]?).getD 0) (ancOf A o.after.toList) && soundA A (j + 1) os)
def meet : List Nat → List Nat → Bool
  | [], _ => false
  | x :: l, m => m.any (Nat.beq x) || meet l m
/-- No operation before that one clashes with it unordered. -/
def calm (fl : Nat → Option (Nat × Nat)) (ops : Array Oper) (o : Oper) (a : Nat) : Nat → List Oper → Bool
  | _, [] => true
  | i, p :: ps => (!(meet (writes o) (mentions fl ops p) || meet (writes p) (mentions fl ops o)) || a.testBit i) && calm fl ops o a (i + 1) ps
def calms (fl : Nat → Option (Nat × Nat)) (ops : Array Oper) (A : List Nat) : Nat → List Oper → Bool
  | _, [] => true
  | j, o :: os => calm fl ops o ((A[j]?).getD 0) 0 (ops.toList.take j) && calms fl ops A (j + 1) os
def ordered (fl : Nat → Option (Nat × Nat)) (ops : Array Oper) : Bool :=
  let A := ancs ops.toList []
  soundA A 0 ops.toList && calms fl ops A 0 ops.toList
theorem backs_mem {j : Nat} : ∀ {es : List Edge}, backs j es = true → ∀ e ∈ es, Region.binds .any e = true → e.on < j
  | [], _, e, h, _ => by cases h
  | f :: es, h, e, he, hb => by
    simp only [backs, Bool.and_eq_true, Bool.or_eq_true, Bool.not_eq_true'] at h
    rcases List.mem_cons.1 he with rfl | he
    · rcases h.1 with h1 | h1
      · rw [hb] at h1; cases h1
      · exact Nat.le_of_ble_eq_true h1
    · exact backs_mem h.2 e he hb
theorem ancOf_bit {A : List Nat} {i : Nat} : ∀ {es : List Edge}, (ancOf A es).testBit i = true → ∃ e ∈ es, Region.binds .any e = true ∧ (((A[e.on]?).getD 0).testBit i = true ∨ e.on = i)
  | [], h => by simp [ancOf] at h
  | f :: es, h => by
    simp only [ancOf] at h
    cases hb : Region.binds .any f
    · rw [hb] at h
      obtain ⟨e, he, h2⟩ := ancOf_bit (es := es) h
      exact ⟨e, List.mem_cons_of_mem _ he, h2⟩
    · rw [hb] at h
      simp only [cond_true, Nat.testBit_or, Bool.or_eq_true, Nat.testBit_two_pow, decide_eq_true_eq] at h
      rcases h with h | h
      · exact ⟨f, List.mem_cons_self, hb, h⟩
      · obtain ⟨e, he, h2⟩ := ancOf_bit (es := es) h
        exact ⟨e, List.mem_cons_of_mem _ he, h2⟩
theorem soundA_at {A : List Nat} : ∀ {os : List Oper} {k : Nat}, soundA A k os = true → ∀ (i : Nat) (o : Oper), os[i]? = some o → (∀ e ∈ o.after.toList, Region.binds .any e = true → e.on < k + i) ∧ (A[k + i]?).getD 0 = ancOf A o.after.toList
  | [], _, _, i, o, h => by simp at h
  | p :: os, k, h, i, o, ho => by
    simp only [soundA, Bool.and_eq_true] at h
    cases i with
    | zero =>
      simp only [List.getElem?_cons_zero, Option.some.injEq] at ho
      subst ho
      exact ⟨backs_mem h.1, Nat.eq_of_beq_eq_true h.2.1⟩
    | succ i =>
      have := soundA_at h.2.2 i o (by simpa using ho)
      rw [show k + 1 + i = k + (i + 1) by omega] at this
      exact this
theorem meet_of {l m : List Nat} {t : Nat} (h1 : t ∈ l) (h2 : t ∈ m) : meet l m = true := by
  induction l with
  | nil => cases h1
  | cons x l ih =>
    simp only [meet, Bool.or_eq_true]
    rcases List.mem_cons.1 h1 with rfl | h1
    · left
      rw [List.any_eq_true]
      exact ⟨t, h2, Nat.beq_refl t⟩
    · exact .inr (ih h1)
theorem calm_at {fl : Nat → Option (Nat × Nat)} {ops : Array Oper} {o : Oper} {a : Nat} : ∀ {ps : List Oper} {k : Nat}, calm fl ops o a k ps = true → ∀ (i : Nat) (p : Oper), ps[i]? = some p → (meet (writes o) (mentions fl ops p) = true ∨ meet (writes p) (mentions fl ops o) = true) → a.testBit (k + i) = true
  | [], _, _, i, p, h, _ => by simp at h
  | q :: ps, k, h, i, p, hp, hm => by
    simp only [calm, Bool.and_eq_true, Bool.or_eq_true, Bool.not_eq_true', Bool.or_eq_false_iff] at h
    cases i with
    | zero =>
      simp only [List.getElem?_cons_zero, Option.some.injEq] at hp
      subst hp
      rcases h.1 with h1 | h1
      · rcases hm with hm | hm
        · rw [h1.1] at hm; cases hm
        · rw [h1.2] at hm; cases hm
      · exact h1
    | succ i =>
      have := calm_at h.2 i p (by simpa using hp) hm
      rwa [show k + 1 + i = k + (i + 1) by omega] at this
theorem calms_at {fl : Nat → Option (Nat × Nat)} {ops : Array Oper} {A : List Nat} : ∀ {os : List Oper} {k : Nat}, calms fl ops A k os = true → ∀ (i : Nat) (o : Oper), os[i]? = some o → calm fl ops o ((A[k + i]?).getD 0) 0 (ops.toList.take (k + i)) = true
  | [], _, _, i, o, h => by simp at h
  | q :: os, k, h, i, o, ho => by
    simp only [calms, Bool.and_eq_true] at h
    cases i with
    | zero =>
      simp only [List.getElem?_cons_zero, Option.some.injEq] at ho
      subst ho
      exact h.1
    | succ i =>
      have := calms_at h.2 i o (by simpa using ho)
      rwa [show k + 1 + i = k + (i + 1) by omega] at this

section
variable {P : Program} {fl : Nat → Option (Nat × Nat)} {w0 w : World} {n : Nat} {e e' : Env} {ops : Array Oper}
/-- What was done is closed under what comes before. -/
def Shut (ops : Array Oper) (S : Nat → Bool) : Prop := ∀ (j : Nat) (o : Oper), ops[j]? = some o → S j = true → ∀ e ∈ o.after.toList, Region.binds .any e = true → S e.on = true
theorem shut_anc {S : Nat → Bool} {A : List Nat} (hA : soundA A 0 ops.toList = true) (hS : Shut ops S) : ∀ (j i : Nat), j < ops.size → S j = true → ((A[j]?).getD 0).testBit i = true → S i = true := by
  intro j
  induction j using Nat.strongRecOn with
  | _ j ih =>
    intro i hj hs hb
    have ho : ops.toList[j]? = some ops[j] := by simp [hj]
    obtain ⟨h1, h2⟩ := soundA_at hA j _ ho
    rw [Nat.zero_add] at h1 h2
    rw [h2] at hb
    obtain ⟨e, he, hbe, h3⟩ := ancOf_bit hb
    have hse := hS j _ (by simp [hj]) hs e he hbe
    have hlt := h1 e he hbe
    rcases h3 with h3 | h3
    · exact ih e.on hlt i (by omega) hse h3
    · rwa [← h3]
/-- Two that clash are ordered. -/
theorem clash_anc (hO : ordered fl ops = true) {i j t : Nat} {p o : Oper} (hij : i < j) (hp : ops[i]? = some p) (ho : ops[j]? = some o) (h : (t ∈ writes o ∧ t ∈ mentions fl ops p) ∨ (t ∈ writes p ∧ t ∈ mentions fl ops o)) :
    (((ancs ops.toList [])[j]?).getD 0).testBit i = true := by
  simp only [ordered, Bool.and_eq_true] at hO
  have := calms_at hO.2 j o (by rw [getElem_toList]; exact ho)
  rw [Nat.zero_add] at this
  have h2 := calm_at this i p (by rw [List.getElem?_take, if_pos hij, getElem_toList]; exact hp) (by
    rcases h with ⟨h1, h2⟩ | ⟨h1, h2⟩
    · exact .inl (meet_of h1 h2)
    · exact .inr (meet_of h1 h2))
  rwa [Nat.zero_add] at h2
theorem writes_mentions {o : Oper} {t : Nat} (h : t ∈ writes o) : t ∈ mentions fl ops o := by
  unfold mentions
  exact List.mem_append_left _ h
/-- The slots where those of S were done. -/
def envOf (e : Env) (D : Nat → Option Nat × Option AV) (S : Nat → Bool) : Nat → Env
  | 0 => e
  | k + 1 => bif S k then (envOf e D S k).putO (D k).1 (D k).2 else envOf e D S k
theorem putO_ne {e : Env} {d : Option Nat} {x : Option AV} {t : Nat} (h : d ≠ some t) : e.putO d x t = e t := by
  cases d with
  | none => rfl
  | some d => exact Env.put_ne e x (fun ht => h (by rw [ht]))
theorem putO_same {e : Env} {x : Option AV} {t : Nat} : e.putO (some t) x t = x := Env.put_same e t x
theorem envOf_agree {D : Nat → Option Nat × Option AV} {S S' : Nat → Bool} {t : Nat} : ∀ {k : Nat}, (∀ i, i < k → (D i).1 = some t → S i = S' i) → envOf e D S k t = envOf e D S' k t
  | 0, _ => rfl
  | k + 1, h => by
    have ih := envOf_agree (k := k) fun i hi => h i (by omega)
    simp only [envOf]
    by_cases hd : (D k).1 = some t
    · have hk := h k (by omega) hd
      rw [hk]
      cases S' k
      · exact ih
      · simp only [cond_true, hd, putO_same]
    · cases S k <;> cases S' k <;> simp only [cond_true, cond_false, putO_ne hd, ih]
theorem envOf_cut {D : Nat → Option Nat × Option AV} {t r : Nat} : ∀ {k : Nat}, r ≤ k → envOf e D (fun i => decide (i < r)) k t = envOf e D (fun _ => true) r t
  | 0, h => by
    have : r = 0 := by omega
    subst this
    rfl
  | k + 1, h => by
    by_cases hk : r = k + 1
    · subst hk
      exact envOf_agree fun i hi _ => by simp [hi]
    · have : decide (k < r) = false := by simp; omega
      simp only [envOf, this, cond_false]
      exact envOf_cut (by omega)
theorem Trace.full (T : Trace P fl n ops ops.toList e e') : ∀ {k : Nat}, k ≤ ops.size → envOf e T.D (fun _ => true) k = T.E k
  | 0, _ => T.first.symm
  | k + 1, h => by
    simp only [envOf, cond_true]
    rw [T.full (by omega), T.next k (by simp; omega)]
theorem Trace.writes (T : Trace P fl n ops ops.toList e e') {i t : Nat} {o : Oper} (ho : ops[i]? = some o) (h : (T.D i).1 = some t) : t ∈ writes o := by
  obtain ⟨p, s', h1, _⟩ := T.each i o (by rw [getElem_toList]; exact ho)
  exact evalG_writes (d := (T.D i).1) (x := (T.D i).2) h1 t h
/-- Before an operation that may come, what it looks at is as in the listed order. -/
theorem before (hO : ordered fl ops = true) (T : Trace P fl n ops ops.toList e e') {S : Nat → Bool} (hS : Shut ops S) (hb : ∀ i, S i = true → i < ops.size) {r : Nat} {o : Oper} (hr : ops[r]? = some o) (hn : S r = false)
    (hrd : ∀ e ∈ o.after.toList, Region.binds .any e = true → S e.on = true) {t : Nat} (ht : t ∈ mentions fl ops o) : envOf e T.D S ops.size t = T.E r t := by
  have hrs : r < ops.size := (Array.getElem?_eq_some_iff.1 hr).1
  have hA : soundA (ancs ops.toList []) 0 ops.toList = true := by
    simp only [ordered, Bool.and_eq_true] at hO
    exact hO.1
  rw [← T.full (k := r) (by omega), ← envOf_cut (k := ops.size) (by omega)]
  refine envOf_agree fun i hi hd => ?_
  have hoi : ops[i]? = some ops[i] := by simp [hi]
  have hw := T.writes hoi hd
  by_cases h1 : i < r
  · have hc := clash_anc hO h1 hoi hr (.inr ⟨hw, ht⟩)
    have h2 := soundA_at hA r o (by rw [getElem_toList]; exact hr)
    rw [Nat.zero_add] at h2
    rw [h2.2] at hc
    obtain ⟨f, hf, hbf, h3⟩ := ancOf_bit hc
    have hsf := hrd f hf hbf
    have : S i = true := by
      rcases h3 with h3 | h3
      · exact shut_anc hA hS f.on i (hb _ hsf) hsf h3
      · rwa [← h3]
    rw [this]
    simp [h1]
  · by_cases h2 : i = r
    · subst h2
      rw [hn]
      simp
    · have h3 : r < i := by omega
      have hc := clash_anc hO h3 hr hoi (.inl ⟨hw, ht⟩)
      have : S i = false := by
        cases hsi : S i
        · rfl
        · have := shut_anc hA hS i r hi hsi hc
          rw [hn] at this
          cases this
      rw [this]
      simp [h1]
/-- Behind it too. -/
theorem behind (hO : ordered fl ops = true) (T : Trace P fl n ops ops.toList e e') {S S' : Nat → Bool} (hS : Shut ops S) (hb : ∀ i, S i = true → i < ops.size) {r : Nat} {o : Oper} (hr : ops[r]? = some o) (hn : S r = false)
    (hrd : ∀ e ∈ o.after.toList, Region.binds .any e = true → S e.on = true) (hS' : ∀ i, S' i = (S i || decide (i = r))) : envOf e T.D S' ops.size = (envOf e T.D S ops.size).putO (T.D r).1 (T.D r).2 := by
  have hrs : r < ops.size := (Array.getElem?_eq_some_iff.1 hr).1
  have hA : soundA (ancs ops.toList []) 0 ops.toList = true := by
    simp only [ordered, Bool.and_eq_true] at hO
    exact hO.1
  funext t
  by_cases hd : (T.D r).1 = some t
  · rw [hd, putO_same]
    have hw := T.writes hr hd
    have : envOf e T.D S' ops.size t = envOf e T.D (fun i => decide (i < r + 1)) ops.size t := by
      refine envOf_agree fun i hi hdi => ?_
      have hoi : ops[i]? = some ops[i] := by simp [hi]
      have hwi := T.writes hoi hdi
      rw [hS']
      by_cases h2 : i = r
      · subst h2
        simp
      · by_cases h1 : i < r
        · have hc := clash_anc hO h1 hoi hr (.inr ⟨hwi, writes_mentions hw⟩)
          have h2 := soundA_at hA r o (by rw [getElem_toList]; exact hr)
          rw [Nat.zero_add] at h2
          rw [h2.2] at hc
          obtain ⟨f, hf, hbf, h3⟩ := ancOf_bit hc
          have hsf := hrd f hf hbf
          have : S i = true := by
            rcases h3 with h3 | h3
            · exact shut_anc hA hS f.on i (hb _ hsf) hsf h3
            · rwa [← h3]
          rw [this]
          simp
          omega
        · have h3 : r < i := by omega
          have hc := clash_anc hO h3 hr hoi (.inl ⟨hwi, writes_mentions hw⟩)
          have : S i = false := by
            cases hsi : S i
            · rfl
            · have := shut_anc hA hS i r hi hsi hc
              rw [hn] at this
              cases this
          rw [this]
          simp [h2]
          omega
    rw [this, envOf_cut (by omega)]
    simp only [envOf, cond_true, hd, putO_same]
  · rw [putO_ne hd]
    refine envOf_agree fun i hi hdi => ?_
    have : i ≠ r := by
      rintro rfl
      exact hd hdi
    rw [hS']
    simp [this]
end
end Go.Refl

namespace Go.Refl
open Go.RowKit

section
variable {P : Program} {fl : Nat → Option (Nat × Nat)} {w0 w : World} {n : Nat} {e e' : Env} {ops : Array Oper}
theorem ready_mem {listed : Array Bool} {i : Nat} : i ∈ Region.ready .any ops listed ↔ ∃ o, ops[i]? = some o ∧ listed.getD i true = false ∧ ∀ e ∈ o.after.toList, Region.binds .any e = true → listed.getD e.on false = true := by
  unfold Region.ready
  simp only [List.mem_filter, List.mem_range, Bool.and_eq_true, Bool.not_eq_true']
  constructor
  · rintro ⟨h1, h2, h3⟩
    have ho : ops[i]? = some ops[i] := by simp [h1]
    refine ⟨ops[i], ho, h2, fun e he hb => ?_⟩
    rw [ho] at h3
    simp only [Option.map_some, Option.getD_some, Array.all_eq_true_iff_forall_mem] at h3
    have := h3 e (by simpa using he)
    simpa [hb] using this
  · rintro ⟨o, ho, h2, h3⟩
    refine ⟨(Array.getElem?_eq_some_iff.1 ho).1, h2, ?_⟩
    rw [ho]
    simp only [Option.map_some, Option.getD_some, Array.all_eq_true_iff_forall_mem]
    intro e he
    cases hb : Region.binds .any e
    · simp
    · simp [h3 e (by simpa using he) hb]
theorem getD_eq {l : Array Bool} {i : Nat} (h : i < l.size) (b c : Bool) : l.getD i b = l.getD i c := by simp [Array.getD, h]
theorem count_pos {l : List Bool} {i : Nat} (h : l[i]? = some false) : 0 < l.count false := List.count_pos_iff.2 (List.mem_of_getElem? h)
/-- In any order. -/
theorem any_sound {Q : Exit → Act → World → Prop} (hO : ordered fl ops = true) (T : Trace P fl n ops ops.toList e e') (kk : Next w0 n e' (Q .normal)) : ∀ (fuel : Nat) (listed : Array Bool), listed.size = ops.size → Shut ops (fun i => listed.getD i false) → listed.toList.count false = fuel →
    ∀ {N : Nat → Prop} {a : Act} {w : World}, Inv w0 N n (envOf e T.D (fun i => listed.getD i false) ops.size) a w → wpAny P .any ops Q fuel listed a w := by
  have hA : soundA (ancs ops.toList []) 0 ops.toList = true := by
    simp only [ordered, Bool.and_eq_true] at hO
    exact hO.1
  have hall : ∀ {listed : Array Bool}, listed.size = ops.size → (∀ i, i < ops.size → listed.getD i false = true) → envOf e T.D (fun i => listed.getD i false) ops.size = e' := by
    intro listed hs h
    have h1 : envOf e T.D (fun i => listed.getD i false) ops.size = envOf e T.D (fun _ => true) ops.size := by
      funext t
      exact envOf_agree fun i hi _ => h i hi
    rw [h1, T.full (Nat.le_refl _)]
    have := T.last
    simpa using this
  have hnil : ∀ {listed : Array Bool}, listed.size = ops.size → Region.ready .any ops listed = [] → ∀ i, i < ops.size → listed.getD i false = true := by
    intro listed hs hr i
    induction i using Nat.strongRecOn with
    | _ i ih =>
      intro hi
      cases hl : listed.getD i false
      · have ho : ops[i]? = some ops[i] := by simp [hi]
        have hm : i ∈ Region.ready .any ops listed := ready_mem.2 ⟨_, ho, by rw [getD_eq (by omega) true false]; exact hl, fun e he hb => by
          have h1 := (soundA_at hA i _ (by rw [getElem_toList]; exact ho)).1 e he hb
          rw [Nat.zero_add] at h1
          exact ih e.on h1 (by omega)⟩
        rw [hr] at hm
        cases hm
      · rfl
  intro fuel
  induction fuel with
  | zero =>
    intro listed hs hS hc N a w I
    have hl : ∀ i, i < ops.size → listed.getD i false = true := by
      intro i hi
      cases h : listed.getD i false
      · have : listed.toList[i]? = some false := by
          have h2 : i < listed.size := by omega
          simp only [Array.getD, h2, dite_true] at h
          simp [h2]
          exact h
        have := count_pos this
        omega
      · rfl
    refine ⟨?_, ?_⟩
    · cases hr : Region.ready .any ops listed with
      | nil => rfl
      | cons i l =>
        have hm : i ∈ Region.ready .any ops listed := by rw [hr]; exact List.mem_cons_self
        obtain ⟨o, ho, h2, _⟩ := ready_mem.1 hm
        have hi := (Array.getElem?_eq_some_iff.1 ho).1
        rw [getD_eq (by omega) true false, hl i hi] at h2
        cases h2
    · rw [hall hs hl] at I
      exact kk N a w I
  | succ fuel ih =>
    intro listed hs hS hc N a w I
    refine ⟨fun hr => ?_, fun i hi => ?_⟩
    · rw [hall hs (hnil hs hr)] at I
      exact kk N a w I
    · obtain ⟨o, ho, h2, h3⟩ := ready_mem.1 hi
      have his := (Array.getElem?_eq_some_iff.1 ho).1
      have hn : listed.getD i false = false := by rw [getD_eq (by omega) false true]; exact h2
      have hb : ∀ j, listed.getD j false = true → j < ops.size := by
        intro j hj
        apply Classical.byContradiction
        intro h
        have : ¬ j < listed.size := by omega
        simp [Array.getD, this] at hj
      obtain ⟨p, s', g1, g2⟩ := T.each i o (by rw [getElem_toList]; exact ho)
      rw [← evalG_congr (e := envOf e T.D (fun i => listed.getD i false) ops.size) fun t ht => before hO T hS hb ho hn h3 ht] at g1
      have hset : ∀ j, (listed.setIfInBounds i true).getD j false = (listed.getD j false || decide (j = i)) := by
        intro j
        simp only [Array.getD_eq_getD_getElem?, Array.getElem?_setIfInBounds]
        by_cases hj : i = j
        · subst hj
          have : i < listed.size := by omega
          simp [this]
        · have : ¬ j = i := fun h => hj h.symm
          simp [hj, this]
      refine evalG_sound I ho (d := (T.D i).1) (x := (T.D i).2) g1 g2 (fun N' a' w' I' => ?_)
      rw [← behind hO T hS hb ho hn h3 hset] at I'
      refine ih (listed.setIfInBounds i true) (by simp [hs]) ?_ ?_ I'
      · intro j q hq hj f hf hbf
        simp only [hset, Bool.or_eq_true, decide_eq_true_eq] at hj ⊢
        rcases hj with hj | rfl
        · exact .inl (hS j q hq hj f hf hbf)
        · rw [ho] at hq
          obtain rfl := Option.some.inj hq
          exact .inl (h3 f hf hbf)
      · rw [Array.toList_setIfInBounds]
        have hil : i < listed.toList.length := by simp; omega
        rw [List.count_set hil]
        have hv : listed.toList[i] = false := by
          have h4 : i < listed.size := by omega
          simp only [Array.getD, h4, dite_true] at hn
          simpa using hn
        rw [hv, hc]
        simp
theorem drawn_inv {N : Nat → Prop} {a : Act} (I : Inv w0 N n e a w) : Inv w0 N n e a { w with drawn := w.drawn + 1 } := by
  have hh : ({ w with drawn := w.drawn + 1 } : World).heap = w.heap := rfl
  refine ⟨⟨I.bel.os, I.bel.tape, I.bel.output, I.bel.size, I.bel.block⟩, I.box, fun t x hx => ?_, I.far, I.fld, I.size, I.def0⟩
  exact RepS.mono (I.rep t x hx) (fun b h => rfl) (fun b h => h) (fun y b _ _ h => ⟨rfl, h⟩)
/-- A region. -/
theorem region_ok {Q : Exit → Act → World → Prop} {id : Nat} {draw : Bool} {s s' : List Ans} {p : Option Prop} {N : Nat → Prop} {a : Act} (hm : draw = true → P.follows .mixedOrders = true) (hO : draw = true → ordered fl ops = true)
    (h : runOps P fl n ops ops.toList e s = some (e', p, s')) (hp : holds p) (I : Inv w0 N n e a w) (kk : Next w0 n e' (Q .normal)) : (Code.region id ops draw).wp P Q a w := by
  obtain ⟨T⟩ := trace h hp
  cases draw with
  | false =>
    refine wp_region ?_
    rw [List.range_eq_range']
    exact region_sound T ops.size 0 (by simp) (by rw [T.first]; exact I) kk
  | true =>
    refine wp_region_any (hm rfl) ?_
    have h0 : ∀ k, envOf e T.D (fun i => (Array.replicate ops.size false).getD i false) k = e := by
      intro k
      induction k with
      | zero => rfl
      | succ k ih =>
        have : (Array.replicate ops.size false).getD k false = false := by
          by_cases hk : k < ops.size <;> simp [Array.getD, hk]
        simp only [envOf, this, cond_false]
        exact ih
    refine any_sound (hO rfl) T kk ops.size _ (by simp) ?_ (by simp) (by rw [h0]; exact drawn_inv I)
    intro j o _ hj
    by_cases hk : j < ops.size <;> simp [Array.getD, hk] at hj
end
end Go.Refl

namespace Go.Refl
open Go.RowKit

def Ex.toExit : Ex → Exit
  | .normal => .normal
  | .exit id => .exit id
  | .ret => .ret
section
variable (P : Program) (n : Nat)
/-- From these slots this code ends so, with those slots. -/
def RunOk (c : Code) (e : Env) (x : Ex) (e' : Env) : Prop :=
  ∀ (w0 w : World) (N : Nat → Prop) (a : Act) (Q : Exit → Act → World → Prop), Inv w0 N n e a w → Next w0 n e' (Q x.toExit) → c.wp P Q a w
def lookA : List (Nat × AV) → Env
  | [], _ => none
  | (t, x) :: l, s => bif Nat.beq s t then some x else lookA l s
def AV.isFld : AV → Bool
  | .fld _ _ => true
  | _ => false
def agree (e : Env) : List (Nat × AV) → Prop
  | [] => True
  | (t, x) :: l => e t = some x ∧ agree e l
variable (fl : Nat → Option (Nat × Nat))
def inBlock (id : Nat) : Ex → Ex
  | .normal => .normal
  | .exit i => bif Nat.beq i id then .normal else .exit i
  | .ret => .ret
/-- The run of a code. -/
def run : Code → Env → List Ans → Option (Ex × Env × Option Prop × List Ans)
  | .skip, e, s => some (.normal, e, none, s)
  | .exit id, e, s => some (.exit id, e, none, s)
  | .ret, e, s => some (.ret, e, none, s)
  | .region _ ops draw, e, s =>
    bif !draw || (P.follows .mixedOrders && ordered fl ops) then (runOps P fl n ops ops.toList e s).map fun r => (.normal, r.1, r.2.1, r.2.2) else none
  | .seq x y, e, s =>
    (run x e s).bind fun r =>
      match r.1 with
      | .normal =>
        match r.2.2.2 with
        | .cutT z L L' :: s => bif L.all (fun p => !p.2.isFld) then some (z, lookA L', both r.2.2.1 (some (agree r.2.1 L ∧ RunOk P n y (lookA L) z (lookA L'))), s) else none
        | .goT :: s => (run y r.2.1 s).map fun q => (q.1, q.2.1, both r.2.2.1 q.2.2.1, q.2.2.2)
        | s => (run y r.2.1 s).map fun q => (q.1, q.2.1, both r.2.2.1 q.2.2.1, q.2.2.2)
      | _ => some r
  | .cond c x y, e, s =>
    match s with
    | .cutC z L L' :: s => bif L.all (fun p => !p.2.isFld) then some (z, lookA L', some (agree e L ∧ RunOk P n (.cond c x y) (lookA L) z (lookA L')), s) else none
    | .go :: s =>
      match opd e c with
      | some (.val (.bool true)) => run x e s
      | some (.val (.bool false)) => run y e s
      | _ => none
    | _ =>
      match opd e c with
      | some (.val (.bool true)) => run x e s
      | some (.val (.bool false)) => run y e s
      | _ => none
  | .block id x, e, s =>
    match s with
    | .cutB z L L' :: s => bif L.all (fun p => !p.2.isFld) then some (z, lookA L', some (agree e L ∧ RunOk P n (.block id x) (lookA L) z (lookA L')), s) else none
    | _ => (run x e s).map fun r => (inBlock id r.1, r.2)
  | .loop x, e, s =>
    match s with
    | .cutL z L L' :: s => bif L.all (fun p => !p.2.isFld) then some (z, lookA L', some (agree e L ∧ RunOk P n (.loop x) (lookA L) z (lookA L')), s) else none
    | _ => none
  | _, _, _ => none
variable {P n fl}
theorem lookA_some {e : Env} : ∀ {L : List (Nat × AV)}, agree e L → L.all (fun p => !p.2.isFld) = true → ∀ {t : Nat} {x : AV}, lookA L t = some x → e t = some x ∧ ∀ d i, x ≠ .fld d i
  | [], _, _, t, x, h => by cases h
  | (r, y) :: l, ha, hf, t, x, h => by
    simp only [List.all_cons, Bool.and_eq_true] at hf
    simp only [lookA] at h
    cases hb : Nat.beq t r
    · rw [hb] at h
      exact lookA_some ha.2 hf.2 h
    · rw [hb] at h
      have := Nat.eq_of_beq_eq_true hb
      subst this
      obtain rfl := Option.some.inj h
      refine ⟨ha.1, ?_⟩
      rintro d i rfl
      cases hf.1
theorem Inv.weak {w0 w : World} {N : Nat → Prop} {e e1 : Env} {a : Act} (I : Inv w0 N n e a w) (h : ∀ {t : Nat} {x : AV}, e1 t = some x → e t = some x ∧ ∀ d i, x ≠ .fld d i) : Inv w0 N n e1 a w :=
  ⟨I.bel, I.box, fun t x hx => I.rep t x (h hx).1, fun t t' x x' hne h1 h2 => I.far t t' x x' hne (h h1).1 (h h2).1, fun t d i hx => absurd rfl ((h hx).2 d i), I.size, I.def0⟩
theorem RunOk.weak {c : Code} {e e' : Env} {x : Ex} {L : List (Nat × AV)} (hf : L.all (fun p => !p.2.isFld) = true) (ha : agree e L) (h : RunOk P n c (lookA L) x e') : RunOk P n c e x e' :=
  fun w0 w N a Q I k => h w0 w N a Q (I.weak fun hx => lookA_some ha hf hx) k
theorem run_sound : ∀ {c : Code} {e e' : Env} {s s' : List Ans} {x : Ex} {p : Option Prop}, run P n fl c e s = some (x, e', p, s') → holds p → RunOk P n c e x e' := by
  intro c
  induction c with
  | skip =>
    intro e e' s s' x p h hp w0 w N a Q I k
    simp only [run, Option.some.injEq, Prod.mk.injEq] at h
    obtain ⟨rfl, rfl, _, _⟩ := h
    exact wp_skip (k N a w I)
  | exit id =>
    intro e e' s s' x p h hp w0 w N a Q I k
    simp only [run, Option.some.injEq, Prod.mk.injEq] at h
    obtain ⟨rfl, rfl, _, _⟩ := h
    exact wp_exit (k N a w I)
  | ret =>
    intro e e' s s' x p h hp w0 w N a Q I k
    simp only [run, Option.some.injEq, Prod.mk.injEq] at h
    obtain ⟨rfl, rfl, _, _⟩ := h
    exact wp_ret (k N a w I)
  | region id ops draw =>
    intro e e' s s' x p h hp w0 w N a Q I k
    simp only [run] at h
    obtain ⟨hd, h⟩ := plain_of h
    obtain ⟨⟨e2, p2, s2⟩, h1, h2⟩ := Option.map_eq_some_iff.1 h
    simp only [Prod.mk.injEq] at h2
    obtain ⟨rfl, rfl, rfl, _⟩ := h2
    simp only [Bool.or_eq_true, Bool.not_eq_true', Bool.and_eq_true] at hd
    refine region_ok (fun h => ?_) (fun h => ?_) h1 hp I k
    · rcases hd with hd | hd
      · rw [h] at hd; cases hd
      · exact hd.1
    · rcases hd with hd | hd
      · rw [h] at hd; cases hd
      · exact hd.2
  | seq c d ih1 ih2 =>
    intro e e' s s' x p h hp w0 w N a Q I k
    simp only [run] at h
    obtain ⟨⟨x1, e1, p1, s1⟩, h1, h2⟩ := Option.bind_eq_some_iff.1 h
    simp only at h2
    cases x1 with
    | normal =>
      simp only at h2
      split at h2
      · obtain ⟨hf, h2⟩ := plain_of h2
        simp only [Option.some.injEq, Prod.mk.injEq] at h2
        obtain ⟨rfl, rfl, rfl, _⟩ := h2
        obtain ⟨q1, q2⟩ := holds_both hp
        exact wp_seq (ih1 h1 q1 w0 w N a _ I fun N' a' w' I' => RunOk.weak hf q2.1 q2.2 w0 w' N' a' Q I' k)
      · obtain ⟨⟨x2, e2, p2, s2⟩, h3, h4⟩ := Option.map_eq_some_iff.1 h2
        simp only [Prod.mk.injEq] at h4
        obtain ⟨rfl, rfl, rfl, _⟩ := h4
        obtain ⟨q1, q2⟩ := holds_both hp
        exact wp_seq (ih1 h1 q1 w0 w N a _ I fun N' a' w' I' => ih2 h3 q2 w0 w' N' a' Q I' k)
      · obtain ⟨⟨x2, e2, p2, s2⟩, h3, h4⟩ := Option.map_eq_some_iff.1 h2
        simp only [Prod.mk.injEq] at h4
        obtain ⟨rfl, rfl, rfl, _⟩ := h4
        obtain ⟨q1, q2⟩ := holds_both hp
        exact wp_seq (ih1 h1 q1 w0 w N a _ I fun N' a' w' I' => ih2 h3 q2 w0 w' N' a' Q I' k)
    | exit i =>
      simp only [Option.some.injEq, Prod.mk.injEq] at h2
      obtain ⟨rfl, rfl, rfl, _⟩ := h2
      exact wp_seq (ih1 h1 hp w0 w N a _ I k)
    | ret =>
      simp only [Option.some.injEq, Prod.mk.injEq] at h2
      obtain ⟨rfl, rfl, rfl, _⟩ := h2
      exact wp_seq (ih1 h1 hp w0 w N a _ I k)
  | cond c y z ih1 ih2 =>
    intro e e' s s' x p h hp w0 w N a Q I k
    simp only [run] at h
    split at h
    · obtain ⟨hf, h⟩ := plain_of h
      simp only [Option.some.injEq, Prod.mk.injEq] at h
      obtain ⟨rfl, rfl, rfl, _⟩ := h
      exact RunOk.weak hf hp.1 hp.2 w0 w N a Q I k
    · split at h
      · rename_i hc
        exact wp_cond_true ((rep_val (opd_plain I hc rfl)).1) (ih1 h hp w0 w N a Q I k)
      · rename_i hc
        exact wp_cond_false ((rep_val (opd_plain I hc rfl)).1) (ih2 h hp w0 w N a Q I k)
      · cases h
    · split at h
      · rename_i hc
        exact wp_cond_true ((rep_val (opd_plain I hc rfl)).1) (ih1 h hp w0 w N a Q I k)
      · rename_i hc
        exact wp_cond_false ((rep_val (opd_plain I hc rfl)).1) (ih2 h hp w0 w N a Q I k)
      · cases h
  | block id c ih =>
    intro e e' s s' x p h hp w0 w N a Q I k
    simp only [run] at h
    split at h
    · obtain ⟨hf, h⟩ := plain_of h
      simp only [Option.some.injEq, Prod.mk.injEq] at h
      obtain ⟨rfl, rfl, rfl, _⟩ := h
      exact RunOk.weak hf hp.1 hp.2 w0 w N a Q I k
    · obtain ⟨⟨x1, e1, p1, s1⟩, h1, h2⟩ := Option.map_eq_some_iff.1 h
      simp only [Prod.mk.injEq] at h2
      obtain ⟨rfl, rfl, rfl, _⟩ := h2
      refine wp_block (ih h1 hp w0 w N a _ I fun N' a' w' I' => ?_)
      have := k N' a' w' I'
      cases x1 with
      | normal => exact this
      | ret => exact this
      | exit i =>
        simp only [inBlock] at this
        simp only [Ex.toExit, Exit.inBlock]
        cases hb : Nat.beq i id
        · rw [hb] at this
          have hne : i ≠ id := fun h => by rw [h, Nat.beq_refl] at hb; cases hb
          simpa [hne, Ex.toExit] using this
        · rw [hb] at this
          have hid := Nat.eq_of_beq_eq_true hb
          simpa [hid, Ex.toExit] using this
  | loop c ih =>
    intro e e' s s' x p h hp w0 w N a Q I k
    simp only [run] at h
    split at h
    · obtain ⟨hf, h⟩ := plain_of h
      simp only [Option.some.injEq, Prod.mk.injEq] at h
      obtain ⟨rfl, rfl, rfl, _⟩ := h
      exact RunOk.weak hf hp.1 hp.2 w0 w N a Q I k
    · cases h
  | _ => intro e e' s s' x p h; simp [run] at h
end
end Go.Refl

namespace Go.Refl
open Go.RowKit

def bodyOf (f : Func) : Code := f.body.getD .skip
def nav : List Bool → Code → Code
  | [], c => c
  | b :: l, .seq x y => nav l (bif b then y else x)
  | b :: l, .cond _ x y => nav l (bif b then y else x)
  | _ :: l, .block _ x => nav l x
  | _ :: l, .loop x => nav l x
  | _, c => c
def flOf : List (Nat × Nat × Nat) → Nat → Option (Nat × Nat)
  | [], _ => none
  | (r, d, i) :: l, t => bif Nat.beq t r then some (d, i) else flOf l t
section
variable {P : Program} {n : Nat}
theorem rep_plain {w : World} {ok : Nat → Prop} {y : AV} {v : Value} (h : Rep w ok y v) : plain y = true := by cases h <;> rfl
theorem least {p : Nat → Prop} : ∀ {k : Nat}, p k → ∃ k, p k ∧ ∀ j, p j → k ≤ j := by
  intro k
  induction k using Nat.strongRecOn with
  | _ k ih =>
    intro h
    by_cases hk : ∃ j, j < k ∧ p j
    · obtain ⟨j, hj, hp⟩ := hk
      exact ih j hj hp
    · exact ⟨k, h, fun j hj => Classical.byContradiction fun hn => hk ⟨j, by omega, hj⟩⟩
open Classical in
/-- A loop of m whole rounds. -/
theorem loop_ok {c : Code} {E : Nat → Env} {m : Nat} {x : Ex} {e' : Env} (hx : x ≠ .normal) (step : ∀ i, i < m → RunOk P n c (E i) .normal (E (i + 1))) (last : RunOk P n c (E m) x e') : RunOk P n (.loop c) (E 0) x e' := by
  intro w0 w N a Q I k
  let p : Act → World → Nat → Prop := fun a w j => j ≤ m ∧ ∃ N, Inv w0 N n (E (m - j)) a w
  let μ : Act → World → Nat := fun a w => if h : ∃ j, p a w j then Classical.choose (least (Classical.choose_spec h)) else 0
  have hμ : ∀ a w j, p a w j → p a w (μ a w) ∧ μ a w ≤ j := by
    intro a w j hj
    have h : ∃ j, p a w j := ⟨j, hj⟩
    have hs := Classical.choose_spec (least (Classical.choose_spec h))
    have he : μ a w = Classical.choose (least (Classical.choose_spec h)) := dif_pos h
    rw [he]
    exact ⟨hs.1, hs.2 j hj⟩
  have hthen : ∀ {K : Act → World → Prop} {a' : Act} {w' : World}, Exit.then K Q x.toExit a' w' = Q x.toExit a' w' := by
    intro K a' w'
    cases x with
    | normal => exact absurd rfl hx
    | exit i => rfl
    | ret => rfl
  refine wp_loop (fun a w => ∃ j, p a w j) μ ⟨m, Nat.le_refl _, N, by rw [Nat.sub_self]; exact I⟩ ?_
  rintro a w ⟨j, hj⟩
  obtain ⟨⟨h1, N1, I1⟩, h2⟩ := hμ a w j hj
  generalize hr : μ a w = r at h1 I1 h2
  cases r with
  | zero =>
    refine last w0 w N1 a _ I1 fun N' a' w' I' => ?_
    rw [hthen]
    exact k N' a' w' I'
  | succ r =>
    refine step (m - (r + 1)) (by omega) w0 w N1 a _ I1 fun N' a' w' I' => ?_
    have hp : p a' w' r := ⟨by omega, N', by rw [show m - r = m - (r + 1) + 1 by omega]; exact I'⟩
    exact ⟨⟨r, hp⟩, by have := (hμ a' w' r hp).2; omega⟩
/-- A function whose body runs so. -/
theorem call_ok {f : FuncId} {fn : Func} {c : Code} {t : Nat} (hf : P.funcs[f]? = some fn) (hb : fn.body = some c) (hres : fn.results = #[.tmp t]) (hcf : ∀ (args : Array Value) (w : World), (callFunc f args).run P w = .ok (.enter f args) w)
    {args : List AV} {v : Value} {x : Ex} {e' : Env} (hlen : args.length ≤ fn.ntmps) (hx : x = .normal ∨ x = .ret) (hr : RunOk P fn.ntmps c (fun i => args[i]?) x e') (he : e' t = some (.val v)) : CallOk P f args (.val v) := by
  refine ⟨hcf, fun w ok vs hok hl hv => ?_⟩
  refine calls_of_wp hf hb ?_
  have hsz : (vs.toArray ++ Array.replicate (fn.ntmps - vs.toArray.size) undef).size = fn.ntmps := by simp; omega
  refine hr w w (fun _ => False) _ _ ⟨Below.refl _ _, fun b h => h.elim, fun i y hy => ?_, fun i j y y' _ hy _ => ?_, fun i d j hy => ?_, hsz, rfl⟩ fun N' a' w' I' => ?_
  · have hi : i < args.length := (List.getElem?_eq_some_iff.1 hy).1
    have hi2 : i < vs.length := by omega
    have h1 := hv i y vs[i] hy (List.getElem?_eq_getElem hi2)
    have h2 : (vs.toArray ++ Array.replicate (fn.ntmps - vs.toArray.size) undef).getD i undef = vs[i] := by
      rw [Array.getD_eq_getD_getElem?, Array.getElem?_append_left (by simpa using hi2)]
      simp [hi2]
    rw [h2]
    have hp : plain y = true := rep_plain h1
    exact (RepS.plain hp).2 (Rep.mono (fun _ _ => rfl) (fun b hb => ⟨hok b hb, fun h => h⟩) h1)
  · exfalso
    have hi : i < args.length := (List.getElem?_eq_some_iff.1 hy).1
    have hi2 : i < vs.length := by omega
    have h1 := hv i _ vs[i] hy (List.getElem?_eq_getElem hi2)
    cases rep_plain h1
  · exfalso
    have hi : i < args.length := (List.getElem?_eq_some_iff.1 hy).1
    have hi2 : i < vs.length := by omega
    have h1 := hv i _ vs[i] hy (List.getElem?_eq_getElem hi2)
    cases rep_plain h1
  · obtain ⟨h1, h2⟩ := rep_val (I'.rep t _ he)
    have hq : bodyPost P fn (fun e w' => ∃ v', e = .returned v' ∧ Rep w' (fun b => ok b ∨ (w.heap.size ≤ b ∧ b < w'.heap.size)) (.val v) v' ∧ Below w.heap.size w w') .ret a' w' := by
      refine ⟨I'.def0, v, ?_, v, rfl, .val v h2, I'.bel⟩
      rw [results_tmp hres, h1]
    rcases hx with rfl | rfl
    · exact hq
    · exact hq
end
end Go.Refl

namespace Go.Refl
open Go.RowKit

section
variable {P : Program} {n : Nat}
theorem callFunc_ok {f : FuncId} {fn : Func} {c : Code} (hf : P.funcs[f]? = some fn) (hb : fn.body = some c) (hn : (fn.name == "runtime.NumGoroutine") = false) (args : Array Value) (w : World) : (callFunc f args).run P w = .ok (.enter f args) w := by
  unfold callFunc
  simp only [Sem.run_bind]
  rw [show Sem.run P program w = .ok P w from rfl]
  simp only [Result.andThen_ok, hf]
  rw [if_neg (by rw [hn]; nofun), if_neg (by rw [hb]; nofun)]
  rfl
def resVs : List AV → Option (List Value)
  | [] => some []
  | x :: l => x.toV.bind fun v => bif okFlat x then (resVs l).map (v :: ·) else none
def resV : AV → Option Value
  | .tup l => (resVs l).map fun vs => .tuple vs.toArray
  | x => bif okFlat x then x.toV else none
theorem rep_resVs {w : World} {ok : Nat → Prop} : ∀ {l : List AV} {vs : List Value}, resVs l = some vs → vs.length = l.length ∧ ∀ (i : Nat) (x : AV) (v : Value), l[i]? = some x → vs[i]? = some v → Rep w ok x v
  | [], vs, h => by
    simp only [resVs, Option.some.injEq] at h
    subst h
    exact ⟨rfl, fun i x v hx => by simp at hx⟩
  | y :: l, vs, h => by
    simp only [resVs] at h
    obtain ⟨u, h1, h2⟩ := Option.bind_eq_some_iff.1 h
    obtain ⟨h3, h4⟩ := plain_of h2
    obtain ⟨us, h5, rfl⟩ := Option.map_eq_some_iff.1 h4
    obtain ⟨k1, k2⟩ := rep_resVs h5
    refine ⟨by simpa using k1, fun i x v hx hv => ?_⟩
    cases i with
    | zero =>
      simp only [List.getElem?_cons_zero, Option.some.injEq] at hx hv
      subst hx hv
      exact rep_toV h1 h3
    | succ i => exact k2 i x v (by simpa using hx) (by simpa using hv)
theorem rep_resV {w : World} {ok : Nat → Prop} {x : AV} {v : Value} (h : resV x = some v) : Rep w ok x v := by
  cases x with
  | tup l =>
    simp only [resV, Option.map_eq_some_iff] at h
    obtain ⟨vs, h1, rfl⟩ := h
    obtain ⟨k1, k2⟩ := rep_resVs h1
    exact .tup l vs k1 k2
  | val u =>
    obtain ⟨h1, h2⟩ := plain_of h
    exact rep_toV h2 h1
  | agg l =>
    obtain ⟨h1, h2⟩ := plain_of h
    exact rep_toV h2 h1
  | _ => simp [resV, okFlat] at h
/-- What the arguments are. -/
inductive Args (w : World) (ok : Nat → Prop) : List AV → List Value → Prop
  | nil : Args w ok [] []
  | cons {x : AV} {v : Value} {l : List AV} {vs : List Value} (h : Rep w ok x v) (t : Args w ok l vs) : Args w ok (x :: l) (v :: vs)
theorem args_of {w : World} {ok : Nat → Prop} : ∀ {l : List AV} {vs : List Value}, vs.length = l.length → (∀ (i : Nat) (x : AV) (v : Value), l[i]? = some x → vs[i]? = some v → Rep w ok x v) → Args w ok l vs
  | [], [], _, _ => .nil
  | [], v :: vs, h, _ => by simp at h
  | x :: l, [], h, _ => by simp at h
  | x :: l, v :: vs, h, k => .cons (k 0 x v rfl rfl) (args_of (by simpa using h) fun i x v hx hv => k (i + 1) x v (by simpa using hx) (by simpa using hv))
/-- A call whose result has no memory. -/
theorem callOk_of {f : FuncId} {fn : Func} {c : Code} (hf : P.funcs[f]? = some fn) (hb : fn.body = some c) (hn : (fn.name == "runtime.NumGoroutine") = false) {args : List AV} {r : AV} {rv : Value} (hr : resV r = some rv)
    (h : ∀ (w : World) (ok : Nat → Prop) (vs : List Value), Args w ok args vs → Calls P f vs.toArray w fun e w' => e = .returned rv ∧ Below w.heap.size w w') : CallOk P f args r := by
  refine ⟨callFunc_ok hf hb hn, fun w ok vs hok hl hv => ?_⟩
  refine (h w ok vs (args_of hl hv)).mono ?_
  rintro e w' ⟨rfl, hb⟩
  exact ⟨rv, rfl, rep_resV hr, hb⟩
theorem Args.vals {w : World} {ok : Nat → Prop} {l : List AV} {vs : List Value} (h : Args w ok l vs) : ∀ {us : List Value}, l.mapM AV.toV = some us → vs = us := by
  induction h with
  | nil =>
    intro us h
    simp at h
    exact h.symm
  | cons hx t ih =>
    intro us h
    simp only [List.mapM_cons, Option.bind_eq_bind, Option.pure_def] at h
    obtain ⟨u, h1, h2⟩ := Option.bind_eq_some_iff.1 h
    obtain ⟨ts, h3, h4⟩ := Option.bind_eq_some_iff.1 h2
    obtain rfl := Option.some.inj h4
    rw [toV_rep h1 hx, ih h3]
theorem callOk_flat {f : FuncId} {fn : Func} {c : Code} (hf : P.funcs[f]? = some fn) (hb : fn.body = some c) (hn : (fn.name == "runtime.NumGoroutine") = false) {args : List AV} {us : List Value} {r : AV} {rv : Value} (ha : args.mapM AV.toV = some us) (hr : resV r = some rv)
    (h : ∀ (w : World), Calls P f us.toArray w fun e w' => e = .returned rv ∧ Below w.heap.size w w') : CallOk P f args r :=
  callOk_of hf hb hn hr fun w ok vs hv => by
    have := hv.vals ha
    subst this
    exact h w
/-- From what is to hold to what holds. -/
theorem of_eq {T U : Prop} (h : T) (e : T = U) : U := e ▸ h
variable (P n) in
def Goal (fl : Nat → Option (Nat × Nat)) (c : Code) (e : Env) (s : List Ans) (x : Ex) (L : List (Nat × AV)) : Prop :=
  match run P n fl c e s with
  | some (y, e', p, _) => y = x ∧ agree e' L ∧ holds p
  | none => False
theorem Goal.ok {fl : Nat → Option (Nat × Nat)} {c : Code} {e : Env} {s : List Ans} {x : Ex} {L : List (Nat × AV)} (hL : L.all (fun p => !p.2.isFld) = true) (h : Goal P n fl c e s x L) : RunOk P n c e x (lookA L) := by
  unfold Goal at h
  split at h
  · rename_i y e' p s' hr
    obtain ⟨rfl, h1, h2⟩ := h
    intro w0 w N a Q I k
    exact run_sound hr h2 w0 w N a Q I fun N' a' w' I' => k N' a' w' (I'.weak fun hx => lookA_some h1 hL hx)
  · exact h.elim
/-! ### Comparisons -/
theorem is_int {op : BinOp} {t : TypeId} {x y : Operand} {k : IntKind} {a b : Int} {v : Bool} (h : ∀ w, (do eqGuard op t x y (.int k a) (.int k b); binOp op t (.int k a) (.int k b) : Sem Value).run P w = .ok (.bool v) w) : BinIs P op t x y (.int k a) (.int k b) (.bool v) := h
end
end Go.Refl

namespace Go.Refl
variable {P : Program} {t : TypeId} {x y : Operand} {k : IntKind} {a b : Int} {v : Bool}
theorem int_eql (h : (a == b) = v) : BinIs P .eql t x y (.int k a) (.int k b) (.bool v) := by
  intro w
  subst h
  simp [go_sem]
theorem int_neq (h : (!(a == b)) = v) : BinIs P .neq t x y (.int k a) (.int k b) (.bool v) := by
  intro w
  subst h
  simp [go_sem]
  rfl
theorem int_lss (h : decide (a < b) = v) : BinIs P .lss t x y (.int k a) (.int k b) (.bool v) := by
  intro w
  subst h
  simp [go_sem]
theorem int_leq (h : decide (a ≤ b) = v) : BinIs P .leq t x y (.int k a) (.int k b) (.bool v) := by
  intro w
  subst h
  simp [go_sem]
theorem int_gtr (h : decide (a > b) = v) : BinIs P .gtr t x y (.int k a) (.int k b) (.bool v) := by
  intro w
  subst h
  simp [go_sem]
theorem int_geq (h : decide (a ≥ b) = v) : BinIs P .geq t x y (.int k a) (.int k b) (.bool v) := by
  intro w
  subst h
  simp [go_sem]
theorem bool_eql {a b : Bool} (hu : P.underlying t = some .bool) (h : (a == b) = v) : BinIs P .eql t x y (.bool a) (.bool b) (.bool v) := by
  intro w
  subst h
  simp [go_sem, hu]
theorem bool_neq {a b : Bool} (hu : P.underlying t = some .bool) (h : (!(a == b)) = v) : BinIs P .neq t x y (.bool a) (.bool b) (.bool v) := by
  intro w
  subst h
  simp [go_sem, hu]
end Go.Refl
