/- Contracts of the functions, checked by the interpreter. No conditions. -/
import Derived.Test.YtgdefohillhdoaaGreatDoorQFnPuzzlesFilledx0
import Derived.Test.YtgdefohillhdoaaGreatDoorQFnPuzzlesFilledx1
import Derived.Test.YtgdefohillhdoaaGreatDoorQFnPuzzlesFilledx2
import Derived.Test.YtgdefohillhdoaaGreatDoorQFnPuzzlesFilledx3
import Derived.Test.YtgdefohillhdoaaGreatDoorQFnPuzzlesFilledx4
import Derived.Test.YtgdefohillhdoaaGreatDoorQFnPuzzlesFilledx5
import Derived.Test.YtgdefohillhdoaaGreatDoorQFnPuzzlesFilledx6
import Derived.Test.YtgdefohillhdoaaGreatDoorQFnPuzzlesFilledx7
import Derived.Test.YtgdefohillhdoaaGreatDoorQFnPuzzlesFilledx8
import Derived.Test.YtgdefohillhdoaaGreatDoorQFnPuzzlesFilledx9
import Derived.Test.YtgdefohillhdoaaGreatDoorQFnPuzzlesFilledx10
import Derived.Test.YtgdefohillhdoaaGreatDoorQFnPuzzlesFilledx11
import Derived.Test.YtgdefohillhdoaaGreatDoorQFnPuzzlesFilledx12
import Derived.Test.YtgdefohillhdoaaGreatDoorQFnPuzzlesFilledx13
import Derived.Test.YtgdefohillhdoaaGreatDoorQFnPuzzlesFilledx14
import Derived.Test.YtgdefohillhdoaaGreatDoorQFnPuzzlesFilledx15
import Derived.Test.YtgdefohillhdoaaGreatDoorQFnPuzzlesFilledx16
import Derived.Test.YtgdefohillhdoaaGreatDoorQFnPuzzlesFilledx17
import Derived.Test.YtgdefohillhdoaaGreatDoorQFnPuzzlesFilledx18
import Derived.Test.YtgdefohillhdoaaGreatDoorQFnPuzzlesFilledx19
import Derived.Test.YtgdefohillhdoaaGreatDoorQFnPuzzlesFilledx20
import Derived.Test.YtgdefohillhdoaaGreatDoorQFnPuzzlesFilledx21
import Derived.Test.YtgdefohillhdoaaGreatDoorQFnPuzzlesFilledx22
import Derived.Test.YtgdefohillhdoaaGreatDoorQFnPuzzlesFilledx23
import Derived.Test.YtgdefohillhdoaaGreatDoorQFnPuzzlesFilledx24
import Derived.Test.YtgdefohillhdoaaGreatDoorQFnPuzzlesFilledx25
import Derived.Test.YtgdefohillhdoaaGreatDoorHeapB
import Derived.Laws.StructEq
namespace Go.Proofs.YtgdefohillhdoaaGreatDoor.QFnPuzzlesFilled
open Go.RowKit Go.Rh Go.Proofs.YtgdefohillhdoaaGreatDoorW.PrintWords Go.Proofs.YtgdefohillhdoaaGreatDoorW.PrintLast Go.Proofs.YtgdefohillhdoaaGreatDoorW.PrintMore
set_option linter.unusedVariables false
set_option linter.unusedSimpArgs false
set_option maxRecDepth 100000
instance : MemFact:=⟨some (0,fun v => ∃ m,v = .int .i64 m)⟩
theorem wrap_u8 (z:Int):IntKind.wrap .u8 z = z % 256:=by
  simp [IntKind.wrap]
  rfl
theorem len0:((([] : List AV).length:Nat):Int) = 0:=rfl
theorem iI_len {k:IntKind} {xs:List Int}:(((iI k xs).length:Nat):Int) = (xs.length:Int):=by simp [iI]
theorem iL_len {α:Type} {f:List α → List AV} {xs:List (List α)}:(((iL f xs).length:Nat):Int) = (xs.length:Int):=by simp [iL]
theorem iI_rd {k:IntKind} {xs:List Int} {i:Int} (h0:0 ≤ i) (h1:i < (xs.length:Int)):0 ≤ i ∧ (iI k xs)[i.toNat]? = some (.val (.int k (rd xs i))):=get_of (f:=fun z => .val (.int k z)) (d:=0) h0 h1
theorem iI_drop {k:IntKind} {xs:List Int} {a:Int} (h0:0 ≤ a) (h1:a ≤ (xs.length:Int)):SubIs 1 (iI k xs) a (iI k xs).length (iI k (xs.drop a.toNat)):=sub_drop (f:=fun z => .val (.int k z)) (fun _ => rfl) h0 h1
theorem iI_app {k:IntKind} {b N:Nat} {xs ys:List Int} (hN:N * b ≤ 140737488355328) (h:xs.length + ys.length ≤ N):AppIs 1 b (iI k xs) (iI k ys) (iI k (xs ++ ys)):=app_of (f:=fun z => .val (.int k z)) (fun _ => rfl) hN h
theorem iL_app {α:Type} {f:List α → List AV} {b N:Nat} {xs ys:List (List α)} (hN:N * b ≤ 140737488355328) (h:xs.length + ys.length ≤ N):AppIs 1 b (iL f xs) (iL f ys) (iL f (xs ++ ys)):=app_of (f:=fun z => .sl (f z)) (fun _ => rfl) hN h
theorem iL_rd {α:Type} {f:List α → List AV} {xs:List (List α)} {i:Int} (h0:0 ≤ i) (h1:i < (xs.length:Int)):0 ≤ i ∧ (iL f xs)[i.toNat]? = some (.sl (f (xs.getD i.toNat []))):=get_of (f:=fun z => .sl (f z)) (d:=[]) h0 h1
theorem iStr_len {xs:List ByteArray}:(((iStr xs).length:Nat):Int) = (xs.length:Int):=by simp [iStr]
theorem iStr_rd {xs:List ByteArray} {i:Int} (h0:0 ≤ i) (h1:i < (xs.length:Int)):0 ≤ i ∧ (iStr xs)[i.toNat]? = some (.val (.string (rdOf ByteArray.empty xs i))):=get_of (f:=fun z => .val (.string z)) (d:=ByteArray.empty) h0 h1
theorem iStr_app {b N:Nat} {xs ys:List ByteArray} (hN:N * b ≤ 140737488355328) (h:xs.length + ys.length ≤ N):AppIs 1 b (iStr xs) (iStr ys) (iStr (xs ++ ys)):=app_of (f:=fun z => .val (.string z)) (fun _ => rfl) hN h
theorem iI_set {k:IntKind} {xs:List Int} {i x:Int} (h0:0 ≤ i) (h1:i < (xs.length:Int)):(iI k xs)[i.toNat]? = some (.val (.int k (rd xs i))) ∧ iI k (xs.set i.toNat x) = (iI k xs).set i.toNat (.val (.int k x)):=set_of (f:=fun z => .val (.int k z)) (d:=0) h0 h1
theorem iI_lt {k:IntKind} {xs:List Int} {i:Int} (h0:0 ≤ i) (h1:i < (xs.length:Int)):0 ≤ i ∧ i.toNat < (iI k xs).length:=lt_of (f:=fun z => .val (.int k z)) h0 h1
structure FlatE {α : Type} (d : Kd α) (enc : α → AV) (cells : α → List Value) : Prop where
  k:∀ {w x cs},d.K w x cs → cs = cells x
  mk_:∀ w x,d.K w x (cells x)
  cs:∀ w ok x,Cs w ok (enc x) (cells x)
  un:∀ {w ok x cs},Cs w ok (enc x) cs → cs = cells x
  pos:0 < d.sz
theorem one_un {w:World} {ok:Nat → Nat → Prop} {v:Value} {cs:List Value} (h:Cs w ok (.val v) cs):cs = [v]:=by
  cases h with
  | one _ u _ hr => rw [(rep_val hr).1]
theorem flat_int (k:IntKind):FlatE (Kd.int k) (fun z => .val (.int k z)) (fun z => [.int k z]) :=
  ⟨fun h => h,fun _ _ => rfl,fun _ _ _ => .one _ _ rfl (.val _ rfl),fun h => one_un h,Nat.one_pos⟩
theorem flat_string:FlatE Kd.string (fun z => .val (.string z)) (fun z => [.string z]) :=
  ⟨fun h => h,fun _ _ => rfl,fun _ _ _ => .one _ _ rfl (.val _ rfl),fun h => one_un h,Nat.one_pos⟩
theorem agg_un {w:World} {ok:Nat → Nat → Prop} {l:List AV} {vs cs:List Value} (hv:valsOf l = some vs) (h:Cs w ok (.agg l) cs):cs = vs:=by
  cases h with
  | one _ _ hx _ => cases hx
  | agg _ _ hl ho h =>
    have:=valsOf_eq hv
    subst this
    exact vals_rep (by simpa using hl) h
theorem arg_of {α:Type} {d:Kd α} {enc:α → AV} {cells:α → List Value} (F:FlatE d enc cells) {w:World} {ok:Nat → Nat → Prop} {xs:List α} {v:Value} (h:Rep w ok (.sl (xs.map enc)) v) :
    ∃ A c,v = .slice A xs.length c ∧ xs.length ≤ c ∧ Kd.C d w A xs.length xs:=by
  obtain ⟨A,c,sz,ad,cs,h1,h2,h3,h4,h5,h6⟩:=rep_sl h
  simp only [List.length_map] at h1 h2 h3 h5 h6
  refine ⟨A,c,h1,h2.1,rfl,h2.2,fun hn => ⟨ad,(h3 hn).1,fun j p hj => ?_⟩⟩
  have hlt:=(List.getElem?_eq_some_iff.1 hj).1
  have hc:=F.un (h4 j (enc p) (by rw [List.getElem?_map,hj]; rfl))
  have hk:=F.mk_ w p
  have hl:=d.K_len hk
  have hsz:sz = d.sz:=by rw [← h5 j hlt,hc,hl]
  exact ⟨cells p,hl,hk,fun i u hu => by rw [← hsz,add_eq (h3 hn).2.1]; exact h6 j hlt i u (by rw [hc]; exact hu)⟩
theorem rep_of {α:Type} {d:Kd α} {enc:α → AV} {cells:α → List Value} (F:FlatE d enc cells) {w:World} {ok:Nat → Nat → Prop} {xs:List α} {A:Option Addr} {c:Nat} (h:Kd.C d w A xs.length xs) (hc:xs.length ≤ c) (hp:0 < d.sz)
    (hok:∀ ad,A = some ad → ad.block < w.heap.size → ∀ o,ok ad.block o):Rep w ok (.sl (xs.map enc)) (.slice A xs.length c):=by
  obtain ⟨_,h1,h2⟩:=h
  by_cases hn:0 < xs.length
  · obtain ⟨ad,rfl,h3⟩:=h2 hn
    have hcell:∀ (j:Nat) (p:α),xs[j]? = some p → (cells p).length = d.sz ∧ ∀ i u,(cells p)[i]? = some u → w.cell? (ad.add (j * d.sz + i)) = some u:=by
      intro j p hj
      obtain ⟨cs,g1,g2,g3⟩:=h3 j p hj
      rw [F.k g2] at g1 g3
      exact ⟨g1,g3⟩
    have h0:=hcell 0 xs[0] (List.getElem?_eq_getElem hn)
    have hb:ad.block < w.heap.size ∧ ad.spot = none:=by
      have hl:0 < (cells xs[0]).length:=by rw [h0.1]; exact hp
      have:=h0.2 0 _ (List.getElem?_eq_getElem hl)
      have hadd:ad.add (0 * d.sz + 0) = ad:=by rw [Nat.zero_mul]; rfl
      rw [hadd] at this
      unfold World.cell? at this
      split at this
      · rename_i cs t f hb
        refine ⟨(Array.getElem?_eq_some_iff.1 hb).1,?_⟩
        split at this
        · cases this
        · rename_i hs
          cases hsp:ad.spot with
          | none => rfl
          | some x => rw [hsp] at hs; exact absurd rfl hs
      · cases this
    refine .sl _ _ _ _ d.sz ad (fun i => (xs[i]?.map cells).getD []) (by simp) ⟨hc,h1⟩ (fun _ => ⟨rfl,hb.2,fun k _ => hok ad rfl hb.1 _⟩) (fun i x hx => ?_) (fun i hi => ?_) (fun i hi j u hu => ?_)
    · rw [List.getElem?_map] at hx
      obtain ⟨p,hp2,rfl⟩:=Option.map_eq_some_iff.1 hx
      rw [hp2]
      exact F.cs w ok p
    · rw [List.getElem?_eq_getElem hi]
      exact (hcell i _ (List.getElem?_eq_getElem hi)).1
    · rw [List.getElem?_eq_getElem hi] at hu
      rw [← add_eq hb.2]
      exact (hcell i _ (List.getElem?_eq_getElem hi)).2 j u hu
  · have h0:xs.length = 0:=by omega
    have hl:=List.length_eq_zero_iff.1 h0
    subst hl
    exact .sl [] A 0 c 0 ⟨0,0,none⟩ (fun _ => []) rfl ⟨hc,h1⟩ (fun h => absurd h (Nat.lt_irrefl _)) (fun i x hx => by simp at hx) (fun i hi => absurd hi (Nat.not_lt_zero _)) (fun i hi => absurd hi (Nat.not_lt_zero _))
theorem res_of {α:Type} {d:Kd α} {enc:α → AV} {cells:α → List Value} (F:FlatE d enc cells) {w':World} {base e:Nat} {ok:Nat → Nat → Prop} {okp:Nat → Prop} {xs:List α} {v:Value} (h:Kd.R d e w' base okp v xs) :
    Rep w' (fun b o => ok b o ∨ (base ≤ b ∧ b < w'.heap.size)) (.sl (xs.map enc)) v:=by
  obtain ⟨A,c,he,hl,hc⟩:=Kd.R_reads h
  have hb:=Kd.R_bound h
  rw [he]
  refine rep_of F hc hl F.pos fun ad hA hlt o => .inr ⟨?_,hlt⟩
  have:=hb.1 ad.block (by rw [he,hA]; rfl)
  exact this.2.1
theorem own_of {α:Type} {P:Program} {d:Kd α} {enc:α → AV} {cells:α → List Value} (F:FlatE d enc cells) {w':World} {base e:Nat} {okp:Nat → Prop} {xs:List α} {v:Value} (hi:(P.info? e).map (·.size) = some d.sz) (h:Kd.R d e w' base okp v xs) :
    ∃ sz inner,w'.ownsRow base e sz v (xs.map enc).length inner ∧ 0 < sz ∧ (P.info? e).map (·.size) = some sz ∧ ∀ (ok':Nat → Nat → Prop) (i:Nat) (x:AV),(xs.map enc)[i]? = some x → Cs w' ok' x ((inner.drop (i * sz)).take sz):=by
  obtain ⟨h0,inner,ho,hr⟩:=h
  refine ⟨d.sz,inner,by rw [List.length_map]; exact ho,F.pos,hi,fun ok' i x hx => ?_⟩
  rw [List.getElem?_map] at hx
  obtain ⟨p,hp,rfl⟩:=Option.map_eq_some_iff.1 hx
  rw [F.k (d.K_of_M (hr.2 i p hp))]
  exact F.cs _ _ _
theorem idx_str {P:Program} {t:TypeId} (hu:P.underlying t = some .string) {x:ByteArray} {k:IntKind} {i:Int} (h0:0 ≤ i) (h1:i < (x.size:Int)):IdxIs P t (.string x) (.int k i) (.int .u8 (bt x i)):=by
  intro w
  rw [run_index_string w t x k i hu,dif_pos ⟨h0,h1⟩,bt_at]
def iS64 (xs:List S64):List AV:=xs.map fun z => .agg [.val (.int .i64 z.f0),.val (.int .i64 z.f1)]
theorem iS64_len {xs:List S64}:(((iS64 xs).length:Nat):Int) = (xs.length:Int):=by simp [iS64]
theorem iS64_rd {xs:List S64} {i:Int} (h0:0 ≤ i) (h1:i < (xs.length:Int)):0 ≤ i ∧ (iS64 xs)[i.toNat]? = some (.agg [.val (.int .i64 ((rd_T64 xs i).f0)),.val (.int .i64 ((rd_T64 xs i).f1))]):=get_of (f:=fun z:S64 => .agg [.val (.int .i64 z.f0),.val (.int .i64 z.f1)]) (d:=z64) h0 h1
theorem iS64_take {xs:List S64} {b:Int} (h1:0 ≤ b) (h2:b ≤ (xs.length:Int)):SubIs 2 (iS64 xs) 0 b (iS64 (xs.take b.toNat)):=sub_take (f:=fun z:S64 => .agg [.val (.int .i64 z.f0),.val (.int .i64 z.f1)]) (fun _ => rfl) h1 h2
theorem iS64_app {b N:Nat} {xs ys:List S64} (hN:N * b ≤ 140737488355328) (h:xs.length + ys.length ≤ N):AppIs 2 b (iS64 xs) (iS64 ys) (iS64 (xs ++ ys)):=app_of (f:=fun z:S64 => .agg [.val (.int .i64 z.f0),.val (.int .i64 z.f1)]) (fun _ => rfl) hN h
theorem iS64_set {xs:List S64} {i:Int} {x:S64} (h0:0 ≤ i) (h1:i < (xs.length:Int)):(iS64 xs)[i.toNat]? = some (.agg [.val (.int .i64 ((rd_T64 xs i).f0)),.val (.int .i64 ((rd_T64 xs i).f1))]) ∧ iS64 (xs.set i.toNat x) = (iS64 xs).set i.toNat (.agg [.val (.int .i64 x.f0),.val (.int .i64 x.f1)]):=set_of (f:=fun z:S64 => .agg [.val (.int .i64 z.f0),.val (.int .i64 z.f1)]) (d:=z64) h0 h1
theorem iS64_lt {xs:List S64} {i:Int} (h0:0 ≤ i) (h1:i < (xs.length:Int)):0 ≤ i ∧ i.toNat < (iS64 xs).length:=lt_of (f:=fun z:S64 => .agg [.val (.int .i64 z.f0),.val (.int .i64 z.f1)]) h0 h1
theorem flat_64:FlatE k64 (fun z => .agg [.val (.int .i64 z.f0),.val (.int .i64 z.f1)]) (fun z => [.int .i64 z.f0,.int .i64 z.f1]) :=
  ⟨fun h => k64_open h,fun w x => k64_mk w x,fun w ok x => .agg _ _ rfl (by intro x hx; simp at hx; rcases hx with rfl | rfl <;> rfl) (by
    intro i x v hx hv
    match i with
    | 0 => simp only [List.getElem?_cons_succ,List.getElem?_cons_zero,Option.some.injEq] at hx hv; subst hx hv; exact .val _ rfl
    | 1 => simp only [List.getElem?_cons_succ,List.getElem?_cons_zero,Option.some.injEq] at hx hv; subst hx hv; exact .val _ rfl
    | i + 2 => simp at hx),fun h => agg_un rfl h,by decide⟩
theorem agg_64_eql {x y:Operand} {a0 b0:Int} {a1 b1:Int} {v:Bool} (h:((a0 == b0) && (a1 == b1)) = v):BinIs Tryz.prog .eql 64 x y (.agg [.int .i64 a0,.int .i64 a1].toArray) (.agg [.int .i64 b0,.int .i64 b1].toArray) (.bool v):=by
  intro w
  have hu:=Tryz.underlying64
  subst h
  by_cases g0:a0 = b0 <;> by_cases g1:a1 = b1 <;> simp_all [go_sem]
theorem agg_64_neq {x y:Operand} {a0 b0:Int} {a1 b1:Int} {v:Bool} (h:(!((a0 == b0) && (a1 == b1))) = v):BinIs Tryz.prog .neq 64 x y (.agg [.int .i64 a0,.int .i64 a1].toArray) (.agg [.int .i64 b0,.int .i64 b1].toArray) (.bool v):=by
  intro w
  have hu:=Tryz.underlying64
  subst h
  by_cases g0:a0 = b0 <;> by_cases g1:a1 = b1 <;> simp_all [go_sem]
theorem build_64_2 {p0:Int} {p1:Int}:BuildIs Tryz.prog 64 #[(0,.int .i64 p0),(1,.int .i64 p1)] (.agg [.int .i64 p0,.int .i64 p1].toArray):=by
  intro w
  simp [go_sem,Instr.build]
theorem cb_ {s:ByteArray} {v:List Int} (h:conv_bytes.f s = some v):s.size ≤ 9223372036854775807 ∧ v = bytesOf s:=by
  unfold conv_bytes.f at h
  split at h
  · rename_i hs
    exact ⟨hs,(Option.some.inj h).symm⟩
  · cases h
theorem conv_3_5 {a:Int}:ConvIs Tryz.prog 3 5 (.int .i64 a) (.int .u8 (a % 256)):=by
  rw [← wrap_u8]
  exact conv_int (by rw [Tryz.underlying3]; rfl) Tryz.underlying5
theorem conv_3_81 {a:Int}:ConvIs Tryz.prog 3 81 (.int .i64 a) (.int .u64 (IntKind.wrap .u64 a)):=by
  rw [← show IntKind.wrap .u64 a = IntKind.wrap .u64 a from rfl]
  exact conv_int (by rw [Tryz.underlying3]; rfl) Tryz.underlying81
theorem conv_5_3 {a:Int}:ConvIs Tryz.prog 5 3 (.int .u8 a) (.int .i64 (wrap64 a)):=by
  rw [← IntWalk.i64_left]
  exact conv_int (by rw [Tryz.underlying5]; rfl) Tryz.underlying3
theorem conv_5_3_m {z:Int}:ConvIs Tryz.prog 5 3 (.int .u8 (z % 256)) (.int .i64 (z % 256)):=by
  have h:wrap64 (z % 256) = z % 256:=by
    unfold wrap64
    omega
  have h2:ConvIs Tryz.prog 5 3 (.int .u8 (z % 256)) (.int .i64 (IntKind.wrap .i64 (z % 256))):=conv_int (by rw [Tryz.underlying5]; rfl) Tryz.underlying3
  rw [IntWalk.i64_left,h] at h2
  exact h2
theorem conv_9_22_b {s:ByteArray} (h:s.size ≤ 9223372036854775807):BytesIs Tryz.prog 9 22 s (iI .u8 (bytesOf s)):=⟨⟨_,_,Tryz.underlying9,Tryz.underlying22,Tryz.underlying5⟩,h,by simp [iI,bytesOf]⟩
theorem conv_22_9_str {xs:List Int}:StrIs Tryz.prog 22 9 (iI .u8 xs) (.string (strOfNums xs)):=⟨⟨_,Tryz.underlying22,Tryz.underlying5,Tryz.underlying9⟩,xs,rfl,rfl⟩
theorem conv_81_3 {a:Int}:ConvIs Tryz.prog 81 3 (.int .u64 a) (.int .i64 (wrap64 a)):=by
  rw [← IntWalk.i64_left]
  exact conv_int (by rw [Tryz.underlying81]; rfl) Tryz.underlying3
theorem max_i64_3_3_ff_3 {a b:Int}:CalIs Tryz.prog .max #[3,3] 3 #[false,false] #[.int .i64 a,.int .i64 b] (.int .i64 (mx a b)):=by
  intro w
  simp [go_sem,builtin]
  unfold mx
  omega
theorem min_i64_3_3_ff_3 {a b:Int}:CalIs Tryz.prog .min #[3,3] 3 #[false,false] #[.int .i64 a,.int .i64 b] (.int .i64 (mn a b)):=by
  intro w
  simp [go_sem,builtin]
  unfold mn
  omega
theorem ad_44 {k:Nat} {l0:List (S64)} {r:Bool} (h:impl_IsHand.f k l0 = some r):CallH Tryz.prog 44 [.sl (iS64 l0)] [] (vb r) [] :=
  callOk_res Tryz.func44 rfl rfl rfl fun w ok vs hok hv hglob_ => by
    cases hv with
    | cons h1_ t1_ =>
     cases t1_
     obtain ⟨A0,c0,rfl,hc0,hr0⟩:=arg_of flat_64 h1_
     exact (impl_IsHand.calls k A0 c0 l0 r w hr0 hc0 h).mono (by rintro e w' ⟨rfl,hb_⟩; exact ⟨_,rfl,(rep_resV rfl),hb_⟩)

theorem ad_48 {l0:List Int} {a1:Int} {a2:Int} {r:Bool} (h:impl_areWithin.f l0 a1 a2 = some r):CallH Tryz.prog 48 [.sl (iI .i64 l0),vi a1,vi a2] [] (vb r) [] :=
  callOk_res Tryz.func48 rfl rfl rfl fun w ok vs hok hv hglob_ => by
    cases hv with
    | cons h1_ t1_ =>
     cases t1_ with
     | cons h2_ t2_ =>
      cases t2_ with
      | cons h3_ t3_ =>
       cases t3_
       obtain ⟨A0,c0,rfl,_hc0,hr0⟩:=arg_of (flat_int .i64) h1_
       obtain rfl:=toV_rep rfl h2_
       obtain rfl:=toV_rep rfl h3_
       exact (impl_areWithin.calls A0 c0 l0 a1 a2 r w hr0 _hc0 h).mono (by rintro e w' ⟨rfl,hb_⟩; exact ⟨_,rfl,(rep_resV rfl),hb_⟩)

theorem ad_22 {k:Nat} {l0_0:List (S64)} {l0_1:List Int} {r:Bool} (h:impl_IsPuzzle.f k l0_0 l0_1 = some r):CallH Tryz.prog 22 [.agg [.sl (iS64 l0_0),.sl (iI .i64 l0_1)]] [] (vb r) [] :=
  callOk_res Tryz.func22 rfl rfl rfl fun w ok vs hok hv hglob_ => by
    cases hv with
    | cons h1_ t1_ =>
     cases t1_
     obtain ⟨vs2_,rfl,hq2_⟩:=agg_args h1_
     cases hq2_ with
     | cons h3_ t3_ =>
      cases t3_ with
      | cons h4_ t4_ =>
       cases t4_
       obtain ⟨A0_0,c0_0,rfl,hc0_0,hr0_0⟩:=arg_of flat_64 h3_
       obtain ⟨A0_1,c0_1,rfl,hc0_1,hr0_1⟩:=arg_of (flat_int .i64) h4_
       exact (impl_IsPuzzle.calls k A0_0 c0_0 l0_0 A0_1 c0_1 l0_1 r w hr0_0 hc0_0 hr0_1 hc0_1 h).mono (by rintro e w' ⟨rfl,hb_⟩; exact ⟨_,rfl,(rep_resV rfl),hb_⟩)

theorem ad_37 {l0:List (Int)} {r:List (Int)} (h:slices_Clone_int_int.f l0 = some r):CallH Tryz.prog 37 [.sl (iI .i64 l0)] [] (.row 500000) [(500000,.ow true 3 (iI .i64 r))] :=
  callOk_own Tryz.func37 rfl rfl rfl fun w ok vs hok hv hglob_ => by
    cases hv with
    | cons h1_ t1_ =>
     cases t1_
     obtain ⟨A0,c0,rfl,_hc0,hr0⟩:=arg_of (flat_int .i64) h1_
     exact (slices_Clone_int_int.calls A0 c0 l0 r w hr0 _hc0 h).mono (by rintro e w' ⟨v0_,rfl,hRv0_,hb_⟩; exact ⟨_,rfl,(own_of (flat_int .i64) (by kernel_rfl) hRv0_),hb_⟩)

theorem ad_54 {l0:List (S64)} {r:List (S64)} (h:slices_Clone_impl_Tile_impl_Tile.f l0 = some r):CallH Tryz.prog 54 [.sl (iS64 l0)] [] (.row 500000) [(500000,.ow true 64 (iS64 r))] :=
  callOk_own Tryz.func54 rfl rfl rfl fun w ok vs hok hv hglob_ => by
    cases hv with
    | cons h1_ t1_ =>
     cases t1_
     obtain ⟨A0,c0,rfl,_hc0,hr0⟩:=arg_of flat_64 h1_
     exact (slices_Clone_impl_Tile_impl_Tile.calls A0 c0 l0 r w hr0 _hc0 h).mono (by rintro e w' ⟨v0_,rfl,hRv0_,hb_⟩; exact ⟨_,rfl,(own_of flat_64 (by kernel_rfl) hRv0_),hb_⟩)

theorem ad_85 {l0:List ByteArray} {a1:ByteArray} {r:ByteArray} (h:strings_Join.f l0 a1 = some r):CallH Tryz.prog 85 [.sl (iStr l0),.val (.string a1)] [] (.val (.string r)) [] :=
  callOk_res Tryz.func85 rfl rfl rfl fun w ok vs hok hv hglob_ => by
    cases hv with
    | cons h1_ t1_ =>
     cases t1_ with
     | cons h2_ t2_ =>
      cases t2_
      obtain ⟨A0,c0,rfl,hc0,hr0⟩:=arg_of flat_string h1_
      obtain rfl:=toV_rep rfl h2_
      exact (strings_Join.calls A0 c0 l0 a1 r w hr0 hc0 h).mono (by rintro e w' ⟨rfl,hb_⟩; exact ⟨_,rfl,(rep_resV rfl),hb_⟩)

theorem ad_51 {l0:List S64} {r:List S64} (h:impl_sorted.f l0 = some r):CallH Tryz.prog 51 [.sl (iS64 l0)] [] (.sl (iS64 r)) [] :=
  callOk_res Tryz.func51 rfl rfl rfl fun w ok vs hok hv hglob_ => by
    cases hv with
    | cons h1_ t1_ =>
     cases t1_
     obtain ⟨A0,c0,rfl,hc0,hr0⟩:=arg_of flat_64 h1_
     exact (impl_sorted.calls A0 c0 l0 r w hr0 hc0 h).mono (by rintro e w' ⟨v0_,rfl,hRv0_,hb_⟩; exact ⟨_,rfl,(res_of flat_64 hRv0_),hb_⟩)

theorem ad_59 {l0:ByteArray} {l1:ByteArray} {r1:ByteArray} {r2:ByteArray} {r3:Bool} (h:strings_Cut.f l0 l1 = some (r1,r2,r3)):CallH Tryz.prog 59 [.val (.string l0),.val (.string l1)] [] (.tup [.val (.string r1),.val (.string r2),vb r3]) [] :=
  callOk_res Tryz.func59 rfl rfl rfl fun w ok vs hok hv hglob_ => by
    cases hv with
    | cons h1_ t1_ =>
     cases t1_ with
     | cons h2_ t2_ =>
      cases t2_
      obtain rfl:=toV_rep rfl h1_
      obtain rfl:=toV_rep rfl h2_
      exact (strings_Cut.calls l0 l1 r1 r2 r3 w h (glob_int (hglob_ _ _ rfl))).mono (by rintro e w' ⟨rfl,hb_⟩; exact ⟨_,rfl,(rep_resV rfl),hb_.below⟩)

theorem ad_97 {l0:ByteArray} {l1:ByteArray} {r:List ByteArray} (h:strings_Split.f l0 l1 = some r):CallH Tryz.prog 97 [.val (.string l0),.val (.string l1)] [] (.sl (iStr r)) [] :=
  callOk_res Tryz.func97 rfl rfl rfl fun w ok vs hok hv hglob_ => by
    cases hv with
    | cons h1_ t1_ =>
     cases t1_ with
     | cons h2_ t2_ =>
      cases t2_
      obtain rfl:=toV_rep rfl h1_
      obtain rfl:=toV_rep rfl h2_
      exact (strings_Split.calls l0 l1 r w h (glob_int (hglob_ _ _ rfl))).mono (by rintro e w' ⟨v0_,rfl,hRv0_,hb_⟩; exact ⟨_,rfl,(res_of flat_string hRv0_),hb_⟩)

theorem ad_61 {l0:ByteArray} {l1:ByteArray} {r:ByteArray} (h:strings_Trim.f l0 l1 = some r):CallH Tryz.prog 61 [.val (.string l0),.val (.string l1)] [] (.val (.string r)) [] :=
  callOk_res Tryz.func61 rfl rfl rfl fun w ok vs hok hv hglob_ => by
    cases hv with
    | cons h1_ t1_ =>
     cases t1_ with
     | cons h2_ t2_ =>
      cases t2_
      obtain rfl:=toV_rep rfl h1_
      obtain rfl:=toV_rep rfl h2_
      exact (strings_Trim.calls l0 l1 r w h).mono (by rintro e w' ⟨rfl,hb_⟩; exact ⟨_,rfl,(rep_resV rfl),hb_⟩)

def hn4:Hint:=⟨[],[]⟩
def o4 (r:Bool):List AV:=[vb r]
def p4 (r:Bool):List (Nat × AV):=[]
theorem ad_4 {l0:List Int} {l1:List Int} {r:Bool} (h:laws_big.f l0 l1 = some r):CallH Tryz.prog 4 [.sl (iI .u8 l0),.sl (iI .u8 l1)] [] (vb r) []:=by
 unfold laws_big.f at h
 refine call_ok (c:=bodyOf Tryz.f4) (rs:=o4 r) (post:=p4 r) Tryz.func4 rfl rfl rfl (by kernel_rfl) ?_
 show AtP Tryz.prog 16 (bodyOf Tryz.f4) (KR Tryz.prog Tryz.f4.results.toList (o4 r) (p4 r)) [] [] (lookA [(0,.sl (iI .u8 l0)),(1,.sl (iI .u8 l1))])
 refine at_ (hn:=hn4) ?_
 refine mid (hn:=hn4) 4 2 [.val (.int .i64 (l0.length:Int))] (iI_len (k:=.u8) (xs:=l0)) (by kernel_rfl) ?_
 rcases ite_ h with ⟨g1,h2⟩ | ⟨g1,h2⟩
 ·obtain rfl:=Option.some.inj h2
  exact leafRet (hn:=hn4) 3 [.val (.bool true)] [] .ret (.inr rfl) (by kernel_rfl) (int_gtr (P:=Tryz.prog) (t:=3) (k:=.i64) (x:=(.tmp 6)) (y:=(.const (.int .i64 1048576))) (a:=(l0.length:Int)) (b:=1048576) (v:=true) (decide_eq_true g1)) (by kernel_rfl)
 ·obtain rfl:=Option.some.inj h2
  exact leafRet (hn:=hn4) 3 [.val (.bool false),.val (.int .i64 (l1.length:Int)),.val (.int .i64 (l0.length:Int)),.val (.int .i64 (wrap64 (1048576 - (l0.length:Int)))),.val (.bool (decide ((l1.length:Int) > (wrap64 (1048576 - (l0.length:Int))))))] [] .ret (.inr rfl) (by kernel_rfl) (And.intro (int_gtr (P:=Tryz.prog) (t:=3) (k:=.i64) (x:=(.tmp 6)) (y:=(.const (.int .i64 1048576))) (a:=(l0.length:Int)) (b:=1048576) (v:=false) (decide_eq_false g1)) (And.intro (iI_len (k:=.u8) (xs:=l1)) (And.intro (iI_len (k:=.u8) (xs:=l0)) (And.intro (int_sub (P:=Tryz.prog) (t:=3) (k:=.i64) (x:=(.const (.int .i64 1048576))) (y:=(.tmp 12)) (a:=1048576) (b:=(l0.length:Int)) (c:=(wrap64 (1048576 - (l0.length:Int)))) (IntWalk.i64_left _)) (int_gtr (P:=Tryz.prog) (t:=3) (k:=.i64) (x:=(.tmp 10)) (y:=(.tmp 13)) (a:=(l1.length:Int)) (b:=(wrap64 (1048576 - (l0.length:Int)))) (v:=(decide ((l1.length:Int) > (wrap64 (1048576 - (l0.length:Int)))))) rfl))))) (by kernel_rfl)

def hn108:Hint:=⟨[(6,[1000000]),(10,[1000000]),(16,[1000000]),(20,[1000000]),(27,[1000000]),(31,[1000000]),(35,[1000000]),(43,[1000000]),(46,[1000000]),(50,[1000000]),(57,[1000000])],[]⟩
def o108 (r:Int × Int × Int) (s0_0:List Int) (s0_1:Int) (s0_2:Int):List AV:=[vi r.1]
def p108 (r:Int × Int × Int) (s0_0:List Int) (s0_1:Int) (s0_2:Int):List (Nat × AV):=[(1000000,.box (.agg [.sl (iI .u8 s0_0),vi r.2.1,.val (.int .u64 r.2.2)]))]
theorem ad_108 {s0_0:List Int} {s0_1:Int} {s0_2:Int} {r1:Int} {r2:Int} {r3:Int} (h:spec_l1Cur_next.f s0_0 s0_1 s0_2 = some (r1,r2,r3)):CallH Tryz.prog 108 [.loc 1000000 0] [(1000000,.box (.agg [.sl (iI .u8 s0_0),vi s0_1,.val (.int .u64 s0_2)]))] (vi r1) [(1000000,.box (.agg [.sl (iI .u8 s0_0),vi r2,.val (.int .u64 r3)]))]:=by
 unfold spec_l1Cur_next.f at h
 refine call_ok (c:=bodyOf Tryz.f108) (rs:=o108 (r1,r2,r3) s0_0 s0_1 s0_2) (post:=p108 (r1,r2,r3) s0_0 s0_1 s0_2) Tryz.func108 rfl rfl rfl (by kernel_rfl) ?_
 show AtP Tryz.prog 62 (bodyOf Tryz.f108) (KR Tryz.prog Tryz.f108.results.toList (o108 (r1,r2,r3) s0_0 s0_1 s0_2) (p108 (r1,r2,r3) s0_0 s0_1 s0_2)) [] [] (lookA [(0,.loc 1000000 0),(1000000,.box (.agg [.sl (iI .u8 s0_0),vi s0_1,.val (.int .u64 s0_2)]))])
 refine at_ (hn:=hn108) ?_
 refine mid (hn:=hn108) 8 9 [.val (.int .i64 (s0_0.length:Int))] (iI_len (k:=.u8) (xs:=s0_0)) (by kernel_rfl) ?_
 rcases ite_ h with ⟨g1,h2⟩ | ⟨g1,h2⟩
 ·obtain ⟨g3,h4⟩:=ip_ h2
  refine mid (hn:=hn108) 13 9 [.val (.bool true),.elem (.val (.int .u8 (rd s0_0 s0_1))),.val (.int .i64 (wrap64 (rd s0_0 s0_1))),.val (.int .i64 (wrap64 (s0_1 + 1))),.val (.int .u64 (IntKind.wrap .u64 (s0_2 * 6364136223846793005))),.val (.int .u64 (IntKind.wrap .u64 (wrap64 (rd s0_0 s0_1)))),.val (.int .u64 (IntKind.wrap .u64 ((IntKind.wrap .u64 (s0_2 * 6364136223846793005)) + (IntKind.wrap .u64 (wrap64 (rd s0_0 s0_1)))))),.val (.int .u64 (IntKind.wrap .u64 ((IntKind.wrap .u64 ((IntKind.wrap .u64 (s0_2 * 6364136223846793005)) + (IntKind.wrap .u64 (wrap64 (rd s0_0 s0_1))))) + 1442695040888963407))),.val (.int .i64 (s0_0.length:Int))] (And.intro (int_lss (P:=Tryz.prog) (t:=3) (k:=.i64) (x:=(.tmp 7)) (y:=(.tmp 12)) (a:=s0_1) (b:=(s0_0.length:Int)) (v:=true) (decide_eq_true g1)) (And.intro (And.intro (iI_rd (k:=.u8) (xs:=s0_0) (i:=s0_1) g3 g1) (conv_5_3 (a:=(rd s0_0 s0_1)))) (And.intro (int_add (P:=Tryz.prog) (t:=3) (k:=.i64) (x:=(.tmp 28)) (y:=(.const (.int .i64 1))) (a:=s0_1) (b:=1) (c:=(wrap64 (s0_1 + 1))) (IntWalk.i64_left _)) (And.intro (And.intro (int_mul (P:=Tryz.prog) (t:=81) (k:=.u64) (x:=(.tmp 36)) (y:=(.const (.int .u64 6364136223846793005))) (a:=s0_2) (b:=6364136223846793005) (c:=(IntKind.wrap .u64 (s0_2 * 6364136223846793005))) rfl) (And.intro (conv_3_81 (a:=(wrap64 (rd s0_0 s0_1)))) (And.intro (int_add (P:=Tryz.prog) (t:=81) (k:=.u64) (x:=(.tmp 37)) (y:=(.tmp 39)) (a:=(IntKind.wrap .u64 (s0_2 * 6364136223846793005))) (b:=(IntKind.wrap .u64 (wrap64 (rd s0_0 s0_1)))) (c:=(IntKind.wrap .u64 ((IntKind.wrap .u64 (s0_2 * 6364136223846793005)) + (IntKind.wrap .u64 (wrap64 (rd s0_0 s0_1)))))) rfl) (int_add (P:=Tryz.prog) (t:=81) (k:=.u64) (x:=(.tmp 40)) (y:=(.const (.int .u64 1442695040888963407))) (a:=(IntKind.wrap .u64 ((IntKind.wrap .u64 (s0_2 * 6364136223846793005)) + (IntKind.wrap .u64 (wrap64 (rd s0_0 s0_1)))))) (b:=1442695040888963407) (c:=(IntKind.wrap .u64 ((IntKind.wrap .u64 ((IntKind.wrap .u64 (s0_2 * 6364136223846793005)) + (IntKind.wrap .u64 (wrap64 (rd s0_0 s0_1))))) + 1442695040888963407))) rfl)))) (iI_len (k:=.u8) (xs:=s0_0)))))) (by kernel_rfl) ?_
  rcases ite_ h4 with ⟨g5,h6⟩ | ⟨g5,h6⟩
  ·obtain ⟨rfl,rfl,rfl⟩:=pr3_ h6
   exact leafRet (hn:=hn108) 8 [.val (.bool true)] [] .ret (.inr rfl) (by kernel_rfl) (int_leq (P:=Tryz.prog) (t:=3) (k:=.i64) (x:=(.tmp 47)) (y:=(.tmp 52)) (a:=(wrap64 (s0_1 + 1))) (b:=(s0_0.length:Int)) (v:=true) (decide_eq_true g5)) (by kernel_rfl)
  ·obtain ⟨rfl,rfl,rfl⟩:=pr3_ h6
   exact leafRet (hn:=hn108) 9 [.val (.bool false),.val (.int .u64 ((IntKind.wrap .u64 ((IntKind.wrap .u64 ((IntKind.wrap .u64 (s0_2 * 6364136223846793005)) + (IntKind.wrap .u64 (wrap64 (rd s0_0 s0_1))))) + 1442695040888963407)) / 1099511627776)),.val (.int .u64 (Go.bits .and .u64 ((IntKind.wrap .u64 ((IntKind.wrap .u64 ((IntKind.wrap .u64 (s0_2 * 6364136223846793005)) + (IntKind.wrap .u64 (wrap64 (rd s0_0 s0_1))))) + 1442695040888963407)) / 1099511627776) 255)),.val (.int .i64 (wrap64 (Go.bits .and .u64 ((IntKind.wrap .u64 ((IntKind.wrap .u64 ((IntKind.wrap .u64 (s0_2 * 6364136223846793005)) + (IntKind.wrap .u64 (wrap64 (rd s0_0 s0_1))))) + 1442695040888963407)) / 1099511627776) 255)))] [] .ret (.inr rfl) (by kernel_rfl) (And.intro (int_leq (P:=Tryz.prog) (t:=3) (k:=.i64) (x:=(.tmp 47)) (y:=(.tmp 52)) (a:=(wrap64 (s0_1 + 1))) (b:=(s0_0.length:Int)) (v:=false) (decide_eq_false g5)) (And.intro (int_shr (P:=Tryz.prog) (t:=81) (k:=.u64) (x:=(.tmp 58)) (y:=(.const (.int .u64 40))) (a:=(IntKind.wrap .u64 ((IntKind.wrap .u64 ((IntKind.wrap .u64 (s0_2 * 6364136223846793005)) + (IntKind.wrap .u64 (wrap64 (rd s0_0 s0_1))))) + 1442695040888963407))) (b:=40) (c:=((IntKind.wrap .u64 ((IntKind.wrap .u64 ((IntKind.wrap .u64 (s0_2 * 6364136223846793005)) + (IntKind.wrap .u64 (wrap64 (rd s0_0 s0_1))))) + 1442695040888963407)) / 1099511627776)) (k':=.u64) (by decide) rfl) (And.intro (int_and (P:=Tryz.prog) (t:=81) (k:=.u64) (x:=(.tmp 59)) (y:=(.const (.int .u64 255))) (a:=((IntKind.wrap .u64 ((IntKind.wrap .u64 ((IntKind.wrap .u64 (s0_2 * 6364136223846793005)) + (IntKind.wrap .u64 (wrap64 (rd s0_0 s0_1))))) + 1442695040888963407)) / 1099511627776)) (b:=255) (c:=(Go.bits .and .u64 ((IntKind.wrap .u64 ((IntKind.wrap .u64 ((IntKind.wrap .u64 (s0_2 * 6364136223846793005)) + (IntKind.wrap .u64 (wrap64 (rd s0_0 s0_1))))) + 1442695040888963407)) / 1099511627776) 255)) rfl) (conv_81_3 (a:=(Go.bits .and .u64 ((IntKind.wrap .u64 ((IntKind.wrap .u64 ((IntKind.wrap .u64 (s0_2 * 6364136223846793005)) + (IntKind.wrap .u64 (wrap64 (rd s0_0 s0_1))))) + 1442695040888963407)) / 1099511627776) 255)))))) (by kernel_rfl)
 ·refine mid (hn:=hn108) 13 9 [.val (.bool false),.val (.int .i64 (wrap64 (s0_1 + 1))),.val (.int .u64 (IntKind.wrap .u64 (s0_2 * 6364136223846793005))),.val (.int .u64 (IntKind.wrap .u64 0)),.val (.int .u64 (IntKind.wrap .u64 (IntKind.wrap .u64 (s0_2 * 6364136223846793005)))),.val (.int .u64 (IntKind.wrap .u64 ((IntKind.wrap .u64 (IntKind.wrap .u64 (s0_2 * 6364136223846793005))) + 1442695040888963407))),.val (.int .i64 (s0_0.length:Int))] (And.intro (int_lss (P:=Tryz.prog) (t:=3) (k:=.i64) (x:=(.tmp 7)) (y:=(.tmp 12)) (a:=s0_1) (b:=(s0_0.length:Int)) (v:=false) (decide_eq_false g1)) (And.intro (int_add (P:=Tryz.prog) (t:=3) (k:=.i64) (x:=(.tmp 28)) (y:=(.const (.int .i64 1))) (a:=s0_1) (b:=1) (c:=(wrap64 (s0_1 + 1))) (IntWalk.i64_left _)) (And.intro (And.intro (int_mul (P:=Tryz.prog) (t:=81) (k:=.u64) (x:=(.tmp 36)) (y:=(.const (.int .u64 6364136223846793005))) (a:=s0_2) (b:=6364136223846793005) (c:=(IntKind.wrap .u64 (s0_2 * 6364136223846793005))) rfl) (And.intro (conv_3_81 (a:=0)) (And.intro (int_add (P:=Tryz.prog) (t:=81) (k:=.u64) (x:=(.tmp 37)) (y:=(.tmp 39)) (a:=(IntKind.wrap .u64 (s0_2 * 6364136223846793005))) (b:=(IntKind.wrap .u64 0)) (c:=(IntKind.wrap .u64 (IntKind.wrap .u64 (s0_2 * 6364136223846793005)))) u64_add0) (int_add (P:=Tryz.prog) (t:=81) (k:=.u64) (x:=(.tmp 40)) (y:=(.const (.int .u64 1442695040888963407))) (a:=(IntKind.wrap .u64 (IntKind.wrap .u64 (s0_2 * 6364136223846793005)))) (b:=1442695040888963407) (c:=(IntKind.wrap .u64 ((IntKind.wrap .u64 (IntKind.wrap .u64 (s0_2 * 6364136223846793005))) + 1442695040888963407))) rfl)))) (iI_len (k:=.u8) (xs:=s0_0))))) (by kernel_rfl) ?_
  rcases ite_ h2 with ⟨g7,h8⟩ | ⟨g7,h8⟩
  ·obtain ⟨rfl,rfl,rfl⟩:=pr3_ h8
   exact leafRet (hn:=hn108) 8 [.val (.bool true)] [] .ret (.inr rfl) (by kernel_rfl) (int_leq (P:=Tryz.prog) (t:=3) (k:=.i64) (x:=(.tmp 47)) (y:=(.tmp 52)) (a:=(wrap64 (s0_1 + 1))) (b:=(s0_0.length:Int)) (v:=true) (decide_eq_true g7)) (by kernel_rfl)
  ·obtain ⟨rfl,rfl,rfl⟩:=pr3_ h8
   exact leafRet (hn:=hn108) 9 [.val (.bool false),.val (.int .u64 ((IntKind.wrap .u64 ((IntKind.wrap .u64 (IntKind.wrap .u64 (s0_2 * 6364136223846793005))) + 1442695040888963407)) / 1099511627776)),.val (.int .u64 (Go.bits .and .u64 ((IntKind.wrap .u64 ((IntKind.wrap .u64 (IntKind.wrap .u64 (s0_2 * 6364136223846793005))) + 1442695040888963407)) / 1099511627776) 255)),.val (.int .i64 (wrap64 (Go.bits .and .u64 ((IntKind.wrap .u64 ((IntKind.wrap .u64 (IntKind.wrap .u64 (s0_2 * 6364136223846793005))) + 1442695040888963407)) / 1099511627776) 255)))] [] .ret (.inr rfl) (by kernel_rfl) (And.intro (int_leq (P:=Tryz.prog) (t:=3) (k:=.i64) (x:=(.tmp 47)) (y:=(.tmp 52)) (a:=(wrap64 (s0_1 + 1))) (b:=(s0_0.length:Int)) (v:=false) (decide_eq_false g7)) (And.intro (int_shr (P:=Tryz.prog) (t:=81) (k:=.u64) (x:=(.tmp 58)) (y:=(.const (.int .u64 40))) (a:=(IntKind.wrap .u64 ((IntKind.wrap .u64 (IntKind.wrap .u64 (s0_2 * 6364136223846793005))) + 1442695040888963407))) (b:=40) (c:=((IntKind.wrap .u64 ((IntKind.wrap .u64 (IntKind.wrap .u64 (s0_2 * 6364136223846793005))) + 1442695040888963407)) / 1099511627776)) (k':=.u64) (by decide) rfl) (And.intro (int_and (P:=Tryz.prog) (t:=81) (k:=.u64) (x:=(.tmp 59)) (y:=(.const (.int .u64 255))) (a:=((IntKind.wrap .u64 ((IntKind.wrap .u64 (IntKind.wrap .u64 (s0_2 * 6364136223846793005))) + 1442695040888963407)) / 1099511627776)) (b:=255) (c:=(Go.bits .and .u64 ((IntKind.wrap .u64 ((IntKind.wrap .u64 (IntKind.wrap .u64 (s0_2 * 6364136223846793005))) + 1442695040888963407)) / 1099511627776) 255)) rfl) (conv_81_3 (a:=(Go.bits .and .u64 ((IntKind.wrap .u64 ((IntKind.wrap .u64 (IntKind.wrap .u64 (s0_2 * 6364136223846793005))) + 1442695040888963407)) / 1099511627776) 255)))))) (by kernel_rfl)

def hn66:Hint:=⟨[(8,[1000000]),(14,[1000000])],[]⟩
def o66 (r:Int × Int × Int) (s0_0:List Int) (s0_1:Int) (s0_2:Int):List AV:=[vi r.1]
def p66 (r:Int × Int × Int) (s0_0:List Int) (s0_1:Int) (s0_2:Int):List (Nat × AV):=[(1000000,.box (.agg [.sl (iI .u8 s0_0),vi r.2.1,.val (.int .u64 r.2.2)]))]
theorem ad_66 {s0_0:List Int} {s0_1:Int} {s0_2:Int} {a1:Int} {r1:Int} {r2:Int} {r3:Int} (h:spec_l1Cur_pick.f s0_0 s0_1 s0_2 a1 = some (r1,r2,r3)):CallH Tryz.prog 66 [.loc 1000000 0,vi a1] [(1000000,.box (.agg [.sl (iI .u8 s0_0),vi s0_1,.val (.int .u64 s0_2)]))] (vi r1) [(1000000,.box (.agg [.sl (iI .u8 s0_0),vi r2,.val (.int .u64 r3)]))]:=by
 unfold spec_l1Cur_pick.f at h
 refine call_ok (c:=bodyOf Tryz.f66) (rs:=o66 (r1,r2,r3) s0_0 s0_1 s0_2) (post:=p66 (r1,r2,r3) s0_0 s0_1 s0_2) Tryz.func66 rfl rfl rfl (by kernel_rfl) ?_
 show AtP Tryz.prog 20 (bodyOf Tryz.f66) (KR Tryz.prog Tryz.f66.results.toList (o66 (r1,r2,r3) s0_0 s0_1 s0_2) (p66 (r1,r2,r3) s0_0 s0_1 s0_2)) [] [] (lookA [(0,.loc 1000000 0),(1,vi a1),(1000000,.box (.agg [.sl (iI .u8 s0_0),vi s0_1,.val (.int .u64 s0_2)]))])
 refine at_ (hn:=hn66) ?_
 rcases ite_ h with ⟨g1,h2⟩ | ⟨g1,h2⟩
 ·obtain ⟨rfl,rfl,rfl⟩:=pr3_ h2
  exact leafRet (hn:=hn66) 13 [.val (.bool true)] [] .ret (.inr rfl) (by kernel_rfl) (int_leq (P:=Tryz.prog) (t:=3) (k:=.i64) (x:=(.tmp 6)) (y:=(.const (.int .i64 1))) (a:=a1) (b:=1) (v:=true) (decide_eq_true g1)) (by kernel_rfl)
 ·obtain ⟨⟨bt102_1,bt102_2,bt102_3⟩,c3,h4⟩:=bd_ h2
  try dsimp only at h4
  refine mid (hn:=hn66) 15 1 [.val (.bool false),.callH [1000000] (vi bt102_1) [(1000000,.box (.agg [.sl (iI .u8 s0_0),vi bt102_2,.val (.int .u64 bt102_3)]))]] (And.intro (int_leq (P:=Tryz.prog) (t:=3) (k:=.i64) (x:=(.tmp 6)) (y:=(.const (.int .i64 1))) (a:=a1) (b:=1) (v:=false) (decide_eq_false g1)) (CallH.ren [(1000000,1000000)] rfl rfl (ad_108 c3))) (by kernel_rfl) ?_
  rcases ite_ h4 with ⟨g5,h6⟩ | ⟨g5,h6⟩
  ·obtain ⟨⟨bt105_1,bt105_2,bt105_3⟩,c7,h8⟩:=bd_ h6
   try dsimp only at h8
   obtain ⟨g9,h10⟩:=in_ h8
   obtain ⟨rfl,rfl,rfl⟩:=pr3_ h10
   exact leafRet (hn:=hn66) 9 [.val (.bool true),.val (.int .i64 (wrap64 (bt102_1 * 256))),.callH [1000000] (vi bt105_1) [(1000000,.box (.agg [.sl (iI .u8 s0_0),vi bt105_2,.val (.int .u64 bt105_3)]))],.val (.int .i64 (wrap64 ((wrap64 (bt102_1 * 256)) + bt105_1))),.val (.int .i64 (Int.tmod (wrap64 ((wrap64 (bt102_1 * 256)) + bt105_1)) a1))] [] .ret (.inr rfl) (by kernel_rfl) (And.intro (int_gtr (P:=Tryz.prog) (t:=3) (k:=.i64) (x:=(.tmp 10)) (y:=(.const (.int .i64 200))) (a:=a1) (b:=200) (v:=true) (decide_eq_true g5)) (And.intro (And.intro (int_mul (P:=Tryz.prog) (t:=3) (k:=.i64) (x:=(.tmp 12)) (y:=(.const (.int .i64 256))) (a:=bt102_1) (b:=256) (c:=(wrap64 (bt102_1 * 256))) (IntWalk.i64_left _)) (And.intro (CallH.ren [(1000000,1000000)] rfl rfl (ad_108 c7)) (int_add (P:=Tryz.prog) (t:=3) (k:=.i64) (x:=(.tmp 13)) (y:=(.tmp 15)) (a:=(wrap64 (bt102_1 * 256))) (b:=bt105_1) (c:=(wrap64 ((wrap64 (bt102_1 * 256)) + bt105_1))) (IntWalk.i64_left _)))) (int_rem (P:=Tryz.prog) (t:=3) (k:=.i64) (x:=(.tmp 17)) (y:=(.tmp 18)) (a:=(wrap64 ((wrap64 (bt102_1 * 256)) + bt105_1))) (b:=a1) (c:=(Int.tmod (wrap64 ((wrap64 (bt102_1 * 256)) + bt105_1)) a1)) g9 rfl))) (by kernel_rfl)
  ·obtain ⟨g11,h12⟩:=in_ h6
   obtain ⟨rfl,rfl,rfl⟩:=pr3_ h12
   exact leafRet (hn:=hn66) 9 [.val (.bool false),.val (.int .i64 (Int.tmod bt102_1 a1))] [] .ret (.inr rfl) (by kernel_rfl) (And.intro (int_gtr (P:=Tryz.prog) (t:=3) (k:=.i64) (x:=(.tmp 10)) (y:=(.const (.int .i64 200))) (a:=a1) (b:=200) (v:=false) (decide_eq_false g5)) (int_rem (P:=Tryz.prog) (t:=3) (k:=.i64) (x:=(.tmp 17)) (y:=(.tmp 18)) (a:=bt102_1) (b:=a1) (c:=(Int.tmod bt102_1 a1)) g11 rfl)) (by kernel_rfl)

def hn64:Hint:=⟨[(5,[1000000])],[]⟩
def o64 (r:Bool × Int × Int) (s0_0:List Int) (s0_1:Int) (s0_2:Int):List AV:=[vb r.1]
def p64 (r:Bool × Int × Int) (s0_0:List Int) (s0_1:Int) (s0_2:Int):List (Nat × AV):=[(1000000,.box (.agg [.sl (iI .u8 s0_0),vi r.2.1,.val (.int .u64 r.2.2)]))]
theorem ad_64 {s0_0:List Int} {s0_1:Int} {s0_2:Int} {a1:Int} {r1:Bool} {r2:Int} {r3:Int} (h:spec_l1Cur_one.f s0_0 s0_1 s0_2 a1 = some (r1,r2,r3)):CallH Tryz.prog 64 [.loc 1000000 0,vi a1] [(1000000,.box (.agg [.sl (iI .u8 s0_0),vi s0_1,.val (.int .u64 s0_2)]))] (vb r1) [(1000000,.box (.agg [.sl (iI .u8 s0_0),vi r2,.val (.int .u64 r3)]))]:=by
 unfold spec_l1Cur_one.f at h
 refine call_ok (c:=bodyOf Tryz.f64) (rs:=o64 (r1,r2,r3) s0_0 s0_1 s0_2) (post:=p64 (r1,r2,r3) s0_0 s0_1 s0_2) Tryz.func64 rfl rfl rfl (by kernel_rfl) ?_
 show AtP Tryz.prog 9 (bodyOf Tryz.f64) (KR Tryz.prog Tryz.f64.results.toList (o64 (r1,r2,r3) s0_0 s0_1 s0_2) (p64 (r1,r2,r3) s0_0 s0_1 s0_2)) [] [] (lookA [(0,.loc 1000000 0),(1,vi a1),(1000000,.box (.agg [.sl (iI .u8 s0_0),vi s0_1,.val (.int .u64 s0_2)]))])
 refine at_ (hn:=hn64) ?_
 obtain ⟨⟨bt108_1,bt108_2,bt108_3⟩,c1,h2⟩:=bd_ h
 try dsimp only at h2
 obtain ⟨rfl,rfl,rfl⟩:=pr3_ h2
 exact leafRet (hn:=hn64) 7 [.callH [1000000] (vi bt108_1) [(1000000,.box (.agg [.sl (iI .u8 s0_0),vi bt108_2,.val (.int .u64 bt108_3)]))],.val (.bool (bt108_1 == 0))] [] .ret (.inr rfl) (by kernel_rfl) (And.intro (CallH.ren [(1000000,1000000)] rfl rfl (ad_66 c1)) (int_eql (P:=Tryz.prog) (t:=3) (k:=.i64) (x:=(.tmp 7)) (y:=(.const (.int .i64 0))) (a:=bt108_1) (b:=0) (v:=(bt108_1 == 0)) rfl)) (by kernel_rfl)

def hn132:Hint:=⟨[],[]⟩
def o132 (r:Int):List AV:=[vi r]
def p132 (r:Int):List (Nat × AV):=[]
theorem ad_132 {a0:Int} {a1:Int} {r:Int} (h:spec_l1Least.f a0 a1 = some r):CallH Tryz.prog 132 [vi a0,vi a1] [] (vi r) []:=by
 unfold spec_l1Least.f at h
 refine call_ok (c:=bodyOf Tryz.f132) (rs:=o132 r) (post:=p132 r) Tryz.func132 rfl rfl rfl (by kernel_rfl) ?_
 show AtP Tryz.prog 10 (bodyOf Tryz.f132) (KR Tryz.prog Tryz.f132.results.toList (o132 r) (p132 r)) [] [] (lookA [(0,vi a0),(1,vi a1)])
 refine at_ (hn:=hn132) ?_
 rcases ite_ h with ⟨g1,h2⟩ | ⟨g1,h2⟩
 ·obtain rfl:=Option.some.inj h2
  exact leafRet (hn:=hn132) 13 [.val (.bool true)] [] .ret (.inr rfl) (by kernel_rfl) (int_lss (P:=Tryz.prog) (t:=3) (k:=.i64) (x:=(.tmp 5)) (y:=(.tmp 6)) (a:=a0) (b:=a1) (v:=true) (decide_eq_true g1)) (by kernel_rfl)
 ·obtain rfl:=Option.some.inj h2
  exact leafRet (hn:=hn132) 14 [.val (.bool false)] [] .ret (.inr rfl) (by kernel_rfl) (int_lss (P:=Tryz.prog) (t:=3) (k:=.i64) (x:=(.tmp 5)) (y:=(.tmp 6)) (a:=a0) (b:=a1) (v:=false) (decide_eq_false g1)) (by kernel_rfl)

def hn133:Hint:=⟨[],[]⟩
def o133 (r:Int):List AV:=[vi r]
def p133 (r:Int):List (Nat × AV):=[]
theorem ad_133 {a0:Int} {a1:Int} {r:Int} (h:spec_l1Most.f a0 a1 = some r):CallH Tryz.prog 133 [vi a0,vi a1] [] (vi r) []:=by
 unfold spec_l1Most.f at h
 refine call_ok (c:=bodyOf Tryz.f133) (rs:=o133 r) (post:=p133 r) Tryz.func133 rfl rfl rfl (by kernel_rfl) ?_
 show AtP Tryz.prog 10 (bodyOf Tryz.f133) (KR Tryz.prog Tryz.f133.results.toList (o133 r) (p133 r)) [] [] (lookA [(0,vi a0),(1,vi a1)])
 refine at_ (hn:=hn133) ?_
 rcases ite_ h with ⟨g1,h2⟩ | ⟨g1,h2⟩
 ·obtain rfl:=Option.some.inj h2
  exact leafRet (hn:=hn133) 13 [.val (.bool true)] [] .ret (.inr rfl) (by kernel_rfl) (int_gtr (P:=Tryz.prog) (t:=3) (k:=.i64) (x:=(.tmp 5)) (y:=(.tmp 6)) (a:=a0) (b:=a1) (v:=true) (decide_eq_true g1)) (by kernel_rfl)
 ·obtain rfl:=Option.some.inj h2
  exact leafRet (hn:=hn133) 14 [.val (.bool false)] [] .ret (.inr rfl) (by kernel_rfl) (int_gtr (P:=Tryz.prog) (t:=3) (k:=.i64) (x:=(.tmp 5)) (y:=(.tmp 6)) (a:=a0) (b:=a1) (v:=false) (decide_eq_false g1)) (by kernel_rfl)

def hn109:Hint:=⟨[(4,[16])],[]⟩
def o109 (r:Int × Int):List AV:=[.agg [vi r.1,vi r.2]]
def p109 (r:Int × Int):List (Nat × AV):=[]
theorem ad_109 {a0:Int} {a1:Int} {r1:Int} {r2:Int} (h:spec_tiOf.f a0 a1 = some (r1,r2)):CallH Tryz.prog 109 [vi a0,vi a1] [] (.agg [vi r1,vi r2]) []:=by
 unfold spec_tiOf.f at h
 refine call_ok (c:=bodyOf Tryz.f109) (rs:=o109 (r1,r2)) (post:=p109 (r1,r2)) Tryz.func109 rfl rfl rfl (by kernel_rfl) ?_
 show AtP Tryz.prog 12 (bodyOf Tryz.f109) (KR Tryz.prog Tryz.f109.results.toList (o109 (r1,r2)) (p109 (r1,r2))) [] [] (lookA [(0,vi a0),(1,vi a1)])
 refine at_ (hn:=hn109) ?_
 obtain ⟨t112,c1,h2⟩:=bd_ h
 obtain ⟨t113,c3,h4⟩:=bd_ h2
 obtain ⟨rfl,rfl⟩:=pr2_ h4
 exact leafRet (hn:=hn109) 7 [.call (vi t112),.call (vi t113),.elem (.agg [vi t112,vi t113])] [] .ret (.inr rfl) (by kernel_rfl) (And.intro (ad_132 c1) (And.intro (ad_133 c3) (build_64_2 (p0:=t112) (p1:=t113)))) (by kernel_rfl)

def hn70:Hint:=⟨[(11,[28]),(22,[47])],[]⟩
def o70 (r:(List (S64))):List AV:=[.sl (iS64 r)]
def p70 (r:(List (S64))):List (Nat × AV):=[]
def q70_l0 (r:(List (S64))) (k:Nat) (L:List (Nat × AV)):Prop:=∃ (x0:List Int) (x3:List (S64)) (x4:Int),L = [(0,.sl (iI .i64 x0)),(3,.row 28),(4,vi x4),(28,.ow false 64 (iS64 x3))] ∧ spec_haTiles.l0 k x0 x3 x4 = some r
theorem q70_l0_mk {r:(List (S64))} {k:Nat} {x0:List Int} {x3:List (S64)} {x4:Int} (h:spec_haTiles.l0 k x0 x3 x4 = some r):q70_l0 r k [(0,.sl (iI .i64 x0)),(3,.row 28),(4,vi x4),(28,.ow false 64 (iS64 x3))]:=⟨x0,x3,x4,rfl,h⟩
theorem at70_l0 {r:(List (S64))}:∀ k L,q70_l0 r k L → AtP Tryz.prog 25 (bodyOf Tryz.f70) (KR Tryz.prog Tryz.f70.results.toList (o70 r) (p70 r)) [true,true,false,true,false] [] (lookA L) :=
 at_loop (by kernel_rfl) (fun _ => by kernel_rfl) (q70_l0 r) (by
  rintro k _ ⟨x0,x3,x4,rfl,h⟩
  cases k with
  | zero => simp [spec_haTiles.l0] at h
  | succ k =>
   rw [spec_haTiles.l0] at h
   refine at_ (hn:=hn70) ?_
   refine mid (hn:=hn70) 2 3 [.val (.int .i64 (x0.length:Int))] (iI_len (k:=.i64) (xs:=x0)) (by kernel_rfl) ?_
   rcases ite_ h with ⟨g1,h2⟩ | ⟨g1,h2⟩
   ·obtain ⟨g3,h4⟩:=ip_ h2
    obtain ⟨g5,h6⟩:=ip_ h4
    obtain ⟨g7,h8⟩:=ip_ h6
    obtain ⟨⟨bt116_1,bt116_2⟩,c9,h10⟩:=bd_ h8
    try dsimp only at h10
    obtain ⟨g11,h12⟩:=ip_ h10
    exact leafBack (hn:=hn70) 11 [.val (.bool true),.val (.int .i64 (wrap64 (x4 - 1))),.elem (vi (rd x0 (wrap64 (x4 - 1)))),.elem (vi (rd x0 x4)),.call (.agg [vi bt116_1,vi bt116_2]),.go,.elem (.ow false 64 (iS64 (x3 ++ ([(⟨bt116_1,bt116_2⟩ : S64)])))),.val (.int .i64 (wrap64 (x4 + 1)))] [(28,48)] (q70_l0_mk h12) (Nat.lt_succ_self k) (And.intro (int_lss (P:=Tryz.prog) (t:=3) (k:=.i64) (x:=(.tmp 5)) (y:=(.tmp 7)) (a:=x4) (b:=(x0.length:Int)) (v:=true) (decide_eq_true g1)) (And.intro (And.intro (int_sub (P:=Tryz.prog) (t:=3) (k:=.i64) (x:=(.tmp 13)) (y:=(.const (.int .i64 1))) (a:=x4) (b:=1) (c:=(wrap64 (x4 - 1))) (IntWalk.i64_left _)) (And.intro (iI_rd (k:=.i64) (xs:=x0) (i:=(wrap64 (x4 - 1))) g3 g5) (And.intro (iI_rd (k:=.i64) (xs:=x0) (i:=x4) g7 g1) (And.intro (ad_109 c9) (iS64_app (N:=8796093022208) (b:=16) (xs:=x3) (ys:=[(⟨bt116_1,bt116_2⟩ : S64)]) (by decide) (Nat.succ_le_of_lt g11)))))) (int_add (P:=Tryz.prog) (t:=3) (k:=.i64) (x:=(.tmp 9)) (y:=(.const (.int .i64 1))) (a:=x4) (b:=1) (c:=(wrap64 (x4 + 1))) (IntWalk.i64_left _)))) (by kernel_rfl)
   ·obtain rfl:=Option.some.inj h2
    exact leafRet (hn:=hn70) 12 [.val (.bool false)] [] .ret (.inr rfl) (by kernel_rfl) (int_lss (P:=Tryz.prog) (t:=3) (k:=.i64) (x:=(.tmp 5)) (y:=(.tmp 7)) (a:=x4) (b:=(x0.length:Int)) (v:=false) (decide_eq_false g1)) (by kernel_rfl))
theorem ad_70 {k:Nat} {l0:List Int} {r:List (S64)} (h:spec_haTiles.f k l0 = some r):CallH Tryz.prog 70 [.sl (iI .i64 l0)] [] (.sl (iS64 r)) []:=by
 unfold spec_haTiles.f at h
 refine call_ok (c:=bodyOf Tryz.f70) (rs:=o70 r) (post:=p70 r) Tryz.func70 rfl rfl rfl (by kernel_rfl) ?_
 show AtP Tryz.prog 25 (bodyOf Tryz.f70) (KR Tryz.prog Tryz.f70.results.toList (o70 r) (p70 r)) [] [] (lookA [(0,.sl (iI .i64 l0))])
 refine at_ (hn:=hn70) ?_
 exact leafAt (hn:=hn70) 11 [.goT,.nil false 64] [] (at70_l0 _ _ (q70_l0_mk h)) True.intro (by kernel_rfl)

def hn80:Hint:=⟨[],[]⟩
def o80 (r:Bool):List AV:=[vb r]
def p80 (r:Bool):List (Nat × AV):=[]
theorem ad_80 {a0:Int} {a1:Int} {a2:Int} {r:Bool} (h:spec_l1In.f a0 a1 a2 = some r):CallH Tryz.prog 80 [vi a0,vi a1,vi a2] [] (vb r) []:=by
 unfold spec_l1In.f at h
 refine call_ok (c:=bodyOf Tryz.f80) (rs:=o80 r) (post:=p80 r) Tryz.func80 rfl rfl rfl (by kernel_rfl) ?_
 show AtP Tryz.prog 15 (bodyOf Tryz.f80) (KR Tryz.prog Tryz.f80.results.toList (o80 r) (p80 r)) [] [] (lookA [(0,vi a0),(1,vi a1),(2,vi a2)])
 refine at_ (hn:=hn80) ?_
 rcases ite_ h with ⟨g1,h2⟩ | ⟨g1,h2⟩
 ·obtain rfl:=Option.some.inj h2
  exact leafRet (hn:=hn80) 7 [.val (.bool true),.val (.bool (decide (a0 ≤ a2)))] [] .ret (.inr rfl) (by kernel_rfl) (And.intro (int_geq (P:=Tryz.prog) (t:=3) (k:=.i64) (x:=(.tmp 7)) (y:=(.tmp 8)) (a:=a0) (b:=a1) (v:=true) (decide_eq_true g1)) (int_leq (P:=Tryz.prog) (t:=3) (k:=.i64) (x:=(.tmp 11)) (y:=(.tmp 12)) (a:=a0) (b:=a2) (v:=(decide (a0 ≤ a2))) rfl)) (by kernel_rfl)
 ·obtain rfl:=Option.some.inj h2
  exact leafRet (hn:=hn80) 7 [.val (.bool false)] [] .ret (.inr rfl) (by kernel_rfl) (int_geq (P:=Tryz.prog) (t:=3) (k:=.i64) (x:=(.tmp 7)) (y:=(.tmp 8)) (a:=a0) (b:=a1) (v:=false) (decide_eq_false g1)) (by kernel_rfl)

def hn71:Hint:=⟨[(3,[22]),(6,[25])],[]⟩
def o71 (r:Int):List AV:=[vi r]
def p71 (r:Int):List (Nat × AV):=[]
def q71_l0 (r:Int) (k:Nat) (L:List (Nat × AV)):Prop:=∃ (x7:List (S64)) (x8:Int) (x9:Int) (x122000:Int) (x122001:Int),L = [(3,.loc 22 0),(7,.sl (iS64 x7)),(8,vi x8),(9,vi x9),(22,.box (.agg [vi x122000,vi x122001]))] ∧ spec_tiPlace.l0 k x7 x8 x9 x122000 x122001 = some r
theorem q71_l0_mk {r:Int} {k:Nat} {x7:List (S64)} {x8:Int} {x9:Int} {x122000:Int} {x122001:Int} (h:spec_tiPlace.l0 k x7 x8 x9 x122000 x122001 = some r):q71_l0 r k [(3,.loc 22 0),(7,.sl (iS64 x7)),(8,vi x8),(9,vi x9),(22,.box (.agg [vi x122000,vi x122001]))]:=⟨x7,x8,x9,x122000,x122001,rfl,h⟩
theorem at71_l0 {r:Int}:∀ k L,q71_l0 r k L → AtP Tryz.prog 19 (bodyOf Tryz.f71) (KR Tryz.prog Tryz.f71.results.toList (o71 r) (p71 r)) [true,false,true,false] [] (lookA L) :=
 at_loop (by kernel_rfl) (fun _ => by kernel_rfl) (q71_l0 r) (by
  rintro k _ ⟨x7,x8,x9,x122000,x122001,rfl,h⟩
  cases k with
  | zero => simp [spec_tiPlace.l0] at h
  | succ k =>
   rw [spec_tiPlace.l0] at h
   refine at_ (hn:=hn71) ?_
   rcases ite_ h with ⟨g1,h2⟩ | ⟨g1,h2⟩
   ·obtain ⟨g3,h4⟩:=ip_ h2
    obtain ⟨g5,h6⟩:=ip_ h4
    refine mid (hn:=hn71) 13 2 [.val (.bool true),.elem (.agg [vi ((rd_T64 x7 x9).f0),vi ((rd_T64 x7 x9).f1)])] (And.intro (int_lss (P:=Tryz.prog) (t:=3) (k:=.i64) (x:=(.tmp 9)) (y:=(.tmp 8)) (a:=x9) (b:=x8) (v:=true) (decide_eq_true g1)) (iS64_rd (xs:=x7) (i:=x9) g3 g5)) (by kernel_rfl) ?_
    rcases ite_ h6 with ⟨g7,h8⟩ | ⟨g7,h8⟩
    ·obtain rfl:=Option.some.inj h8
     exact leafRet (hn:=hn71) 12 [.val (.bool true)] [] .ret (.inr rfl) (by kernel_rfl) (agg_64_eql (x:=(.tmp 14)) (y:=(.tmp 15)) (a0:=((rd_T64 x7 x9).f0)) (b0:=x122000) (a1:=((rd_T64 x7 x9).f1)) (b1:=x122001) (v:=true) g7) (by kernel_rfl)
    ·exact leafBack (hn:=hn71) 7 [.val (.bool false),.val (.int .i64 (wrap64 (x9 + 1)))] [] (q71_l0_mk h8) (Nat.lt_succ_self k) (And.intro (agg_64_eql (x:=(.tmp 14)) (y:=(.tmp 15)) (a0:=((rd_T64 x7 x9).f0)) (b0:=x122000) (a1:=((rd_T64 x7 x9).f1)) (b1:=x122001) (v:=false) (Bool.eq_false_iff.2 g7)) (int_add (P:=Tryz.prog) (t:=3) (k:=.i64) (x:=(.tmp 9)) (y:=(.const (.int .i64 1))) (a:=x9) (b:=1) (c:=(wrap64 (x9 + 1))) (IntWalk.i64_left _))) (by kernel_rfl)
   ·obtain rfl:=Option.some.inj h2
    exact leafRet (hn:=hn71) 14 [.val (.bool false)] [] .ret (.inr rfl) (by kernel_rfl) (int_lss (P:=Tryz.prog) (t:=3) (k:=.i64) (x:=(.tmp 9)) (y:=(.tmp 8)) (a:=x9) (b:=x8) (v:=false) (decide_eq_false g1)) (by kernel_rfl))
theorem ad_71 {k:Nat} {l0:List (S64)} {a1_0:Int} {a1_1:Int} {r:Int} (h:spec_tiPlace.f k l0 a1_0 a1_1 = some r):CallH Tryz.prog 71 [.sl (iS64 l0),.agg [vi a1_0,vi a1_1]] [] (vi r) []:=by
 unfold spec_tiPlace.f at h
 refine call_ok (c:=bodyOf Tryz.f71) (rs:=o71 r) (post:=p71 r) Tryz.func71 rfl rfl rfl (by kernel_rfl) ?_
 show AtP Tryz.prog 19 (bodyOf Tryz.f71) (KR Tryz.prog Tryz.f71.results.toList (o71 r) (p71 r)) [] [] (lookA [(0,.sl (iS64 l0)),(1,.agg [vi a1_0,vi a1_1])])
 refine at_ (hn:=hn71) ?_
 exact leafAt (hn:=hn71) 8 [.val (.int .i64 (l0.length:Int))] [] (at71_l0 _ _ (q71_l0_mk h)) (iS64_len (xs:=l0)) (by kernel_rfl)

def hn111:Hint:=⟨[(3,[14]),(5,[14]),(9,[14])],[]⟩
def o111 (r:Bool):List AV:=[vb r]
def p111 (r:Bool):List (Nat × AV):=[]
theorem ad_111 {a0_0:Int} {a0_1:Int} {r:Bool} (h:spec_tiGood.f a0_0 a0_1 = some r):CallH Tryz.prog 111 [.agg [vi a0_0,vi a0_1]] [] (vb r) []:=by
 unfold spec_tiGood.f at h
 refine call_ok (c:=bodyOf Tryz.f111) (rs:=o111 r) (post:=p111 r) Tryz.func111 rfl rfl rfl (by kernel_rfl) ?_
 show AtP Tryz.prog 13 (bodyOf Tryz.f111) (KR Tryz.prog Tryz.f111.results.toList (o111 r) (p111 r)) [] [] (lookA [(0,.agg [vi a0_0,vi a0_1])])
 refine at_ (hn:=hn111) ?_
 obtain ⟨t125,c1,h2⟩:=bd_ h
 refine mid (hn:=hn111) 4 6 [.call (vb t125)] (ad_80 c1) (by kernel_rfl) ?_
 rcases ite_ h2 with ⟨g3,h4⟩ | ⟨g3,h4⟩
 ·subst g3
  obtain rfl:=Option.some.inj h4
  exact leafRet (hn:=hn111) 3 [.val (.bool (decide (a0_1 ≤ 9)))] [] .ret (.inr rfl) (by kernel_rfl) (int_leq (P:=Tryz.prog) (t:=3) (k:=.i64) (x:=(.tmp 10)) (y:=(.const (.int .i64 9))) (a:=a0_1) (b:=9) (v:=(decide (a0_1 ≤ 9))) rfl) (by kernel_rfl)
 ·obtain rfl:=Bool.eq_false_iff.2 g3
  obtain rfl:=Option.some.inj h4
  exact leafRet (hn:=hn111) 3 [] [] .ret (.inr rfl) (by kernel_rfl) True.intro (by kernel_rfl)

def hn81:Hint:=⟨[(4,[31])],[]⟩
def o81 (r:Bool):List AV:=[vb r]
def p81 (r:Bool):List (Nat × AV):=[]
def q81_l0 (r:Bool) (k:Nat) (L:List (Nat × AV)):Prop:=∃ (x0:List (S64)) (x8:List (S64)) (x9:Int) (x10:Int),L = [(0,.sl (iS64 x0)),(8,.sl (iS64 x8)),(9,vi x9),(10,vi x10)] ∧ spec_tiHand.l0 k x0 x8 x9 x10 = some r
theorem q81_l0_mk {r:Bool} {k:Nat} {x0:List (S64)} {x8:List (S64)} {x9:Int} {x10:Int} (h:spec_tiHand.l0 k x0 x8 x9 x10 = some r):q81_l0 r k [(0,.sl (iS64 x0)),(8,.sl (iS64 x8)),(9,vi x9),(10,vi x10)]:=⟨x0,x8,x9,x10,rfl,h⟩
theorem at81_l0 {r:Bool}:∀ k L,q81_l0 r k L → AtP Tryz.prog 27 (bodyOf Tryz.f81) (KR Tryz.prog Tryz.f81.results.toList (o81 r) (p81 r)) [true,true,false,true,false] [] (lookA L) :=
 at_loop (by kernel_rfl) (fun _ => by kernel_rfl) (q81_l0 r) (by
  rintro k _ ⟨x0,x8,x9,x10,rfl,h⟩
  cases k with
  | zero => simp [spec_tiHand.l0] at h
  | succ k =>
   rw [spec_tiHand.l0] at h
   refine at_ (hn:=hn81) ?_
   rcases ite_ h with ⟨g1,h2⟩ | ⟨g1,h2⟩
   ·obtain ⟨g3,h4⟩:=ip_ h2
    obtain ⟨g5,h6⟩:=ip_ h4
    obtain ⟨t128,c7,h8⟩:=bd_ h6
    refine mid (hn:=hn81) 13 4 [.val (.bool true),.elem (.agg [vi ((rd_T64 x8 x10).f0),vi ((rd_T64 x8 x10).f1)]),.call (vb t128)] (And.intro (int_lss (P:=Tryz.prog) (t:=3) (k:=.i64) (x:=(.tmp 10)) (y:=(.tmp 9)) (a:=x10) (b:=x9) (v:=true) (decide_eq_true g1)) (And.intro (iS64_rd (xs:=x8) (i:=x10) g3 g5) (ad_111 c7))) (by kernel_rfl) ?_
    rcases ite_ h8 with ⟨g9,h10⟩ | ⟨g9,h10⟩
    ·subst g9
     obtain ⟨g11,h12⟩:=ip_ h10
     obtain ⟨t133,c13,h14⟩:=bd_ h12
     refine mid (hn:=hn81) 0 5 [.elem (.sl (iS64 (x0.take (x10:Int).toNat))),.call (vi t133)] (And.intro (iS64_take (xs:=x0) (b:=x10) g3 g11) (ad_71 c13)) (by kernel_rfl) ?_
     rcases ite_ h14 with ⟨g15,h16⟩ | ⟨g15,h16⟩
     ·obtain rfl:=Option.some.inj h16
      exact leafRet (hn:=hn81) 12 [.val (.bool true)] [] .ret (.inr rfl) (by kernel_rfl) (int_geq (P:=Tryz.prog) (t:=3) (k:=.i64) (x:=(.tmp 23)) (y:=(.const (.int .i64 0))) (a:=t133) (b:=0) (v:=true) (decide_eq_true g15)) (by kernel_rfl)
     ·exact leafBack (hn:=hn81) 7 [.val (.bool false),.val (.int .i64 (wrap64 (x10 + 1)))] [] (q81_l0_mk h16) (Nat.lt_succ_self k) (And.intro (int_geq (P:=Tryz.prog) (t:=3) (k:=.i64) (x:=(.tmp 23)) (y:=(.const (.int .i64 0))) (a:=t133) (b:=0) (v:=false) (decide_eq_false g15)) (int_add (P:=Tryz.prog) (t:=3) (k:=.i64) (x:=(.tmp 10)) (y:=(.const (.int .i64 1))) (a:=x10) (b:=1) (c:=(wrap64 (x10 + 1))) (IntWalk.i64_left _))) (by kernel_rfl)
    ·obtain rfl:=Bool.eq_false_iff.2 g9
     obtain rfl:=Option.some.inj h10
     exact leafRet (hn:=hn81) 12 [] [] .ret (.inr rfl) (by kernel_rfl) True.intro (by kernel_rfl)
   ·obtain rfl:=Option.some.inj h2
    exact leafRet (hn:=hn81) 14 [.val (.bool false)] [] .ret (.inr rfl) (by kernel_rfl) (int_lss (P:=Tryz.prog) (t:=3) (k:=.i64) (x:=(.tmp 10)) (y:=(.tmp 9)) (a:=x10) (b:=x9) (v:=false) (decide_eq_false g1)) (by kernel_rfl))
theorem ad_81 {k:Nat} {l0:List (S64)} {r:Bool} (h:spec_tiHand.f k l0 = some r):CallH Tryz.prog 81 [.sl (iS64 l0)] [] (vb r) []:=by
 unfold spec_tiHand.f at h
 refine call_ok (c:=bodyOf Tryz.f81) (rs:=o81 r) (post:=p81 r) Tryz.func81 rfl rfl rfl (by kernel_rfl) ?_
 show AtP Tryz.prog 27 (bodyOf Tryz.f81) (KR Tryz.prog Tryz.f81.results.toList (o81 r) (p81 r)) [] [] (lookA [(0,.sl (iS64 l0))])
 refine at_ (hn:=hn81) ?_
 refine mid (hn:=hn81) 5 2 [.val (.int .i64 (l0.length:Int))] (iS64_len (xs:=l0)) (by kernel_rfl) ?_
 rcases ite_ h with ⟨g1,h2⟩ | ⟨g1,h2⟩
 ·obtain rfl:=Option.some.inj h2
  exact leafRet (hn:=hn81) 8 [.val (.bool true)] [] .ret (.inr rfl) (by kernel_rfl) (int_gtr (P:=Tryz.prog) (t:=3) (k:=.i64) (x:=(.tmp 6)) (y:=(.const (.int .i64 55))) (a:=(l0.length:Int)) (b:=55) (v:=true) (decide_eq_true g1)) (by kernel_rfl)
 ·exact leafAt (hn:=hn81) 10 [.val (.bool false),.val (.int .i64 (l0.length:Int))] [] (at81_l0 _ _ (q81_l0_mk h2)) (And.intro (int_gtr (P:=Tryz.prog) (t:=3) (k:=.i64) (x:=(.tmp 6)) (y:=(.const (.int .i64 55))) (a:=(l0.length:Int)) (b:=55) (v:=false) (decide_eq_false g1)) (iS64_len (xs:=l0))) (by kernel_rfl)

def hn82:Hint:=⟨[],[]⟩
def o82 (r:Bool):List AV:=[vb r]
def p82 (r:Bool):List (Nat × AV):=[]
def q82_l0 (r:Bool) (k:Nat) (L:List (Nat × AV)):Prop:=∃ (x1:Int) (x2:Int) (x9:List Int) (x10:Int) (x11:Int),L = [(1,vi x1),(2,vi x2),(9,.sl (iI .i64 x9)),(10,vi x10),(11,vi x11)] ∧ spec_l1All.l0 k x1 x2 x9 x10 x11 = some r
theorem q82_l0_mk {r:Bool} {k:Nat} {x1:Int} {x2:Int} {x9:List Int} {x10:Int} {x11:Int} (h:spec_l1All.l0 k x1 x2 x9 x10 x11 = some r):q82_l0 r k [(1,vi x1),(2,vi x2),(9,.sl (iI .i64 x9)),(10,vi x10),(11,vi x11)]:=⟨x1,x2,x9,x10,x11,rfl,h⟩
theorem at82_l0 {r:Bool}:∀ k L,q82_l0 r k L → AtP Tryz.prog 21 (bodyOf Tryz.f82) (KR Tryz.prog Tryz.f82.results.toList (o82 r) (p82 r)) [true,false,true,false] [] (lookA L) :=
 at_loop (by kernel_rfl) (fun _ => by kernel_rfl) (q82_l0 r) (by
  rintro k _ ⟨x1,x2,x9,x10,x11,rfl,h⟩
  cases k with
  | zero => simp [spec_l1All.l0] at h
  | succ k =>
   rw [spec_l1All.l0] at h
   refine at_ (hn:=hn82) ?_
   rcases ite_ h with ⟨g1,h2⟩ | ⟨g1,h2⟩
   ·obtain ⟨g3,h4⟩:=ip_ h2
    obtain ⟨g5,h6⟩:=ip_ h4
    obtain ⟨t135,c7,h8⟩:=bd_ h6
    refine mid (hn:=hn82) 13 4 [.val (.bool true),.elem (vi (rd x9 x11)),.call (vb t135)] (And.intro (int_lss (P:=Tryz.prog) (t:=3) (k:=.i64) (x:=(.tmp 11)) (y:=(.tmp 10)) (a:=x11) (b:=x10) (v:=true) (decide_eq_true g1)) (And.intro (iI_rd (k:=.i64) (xs:=x9) (i:=x11) g3 g5) (ad_80 c7))) (by kernel_rfl) ?_
    rcases ite_ h8 with ⟨g9,h10⟩ | ⟨g9,h10⟩
    ·subst g9
     exact leafBack (hn:=hn82) 7 [.val (.int .i64 (wrap64 (x11 + 1)))] [] (q82_l0_mk h10) (Nat.lt_succ_self k) (int_add (P:=Tryz.prog) (t:=3) (k:=.i64) (x:=(.tmp 11)) (y:=(.const (.int .i64 1))) (a:=x11) (b:=1) (c:=(wrap64 (x11 + 1))) (IntWalk.i64_left _)) (by kernel_rfl)
    ·obtain rfl:=Bool.eq_false_iff.2 g9
     obtain rfl:=Option.some.inj h10
     exact leafRet (hn:=hn82) 12 [] [] .ret (.inr rfl) (by kernel_rfl) True.intro (by kernel_rfl)
   ·obtain rfl:=Option.some.inj h2
    exact leafRet (hn:=hn82) 14 [.val (.bool false)] [] .ret (.inr rfl) (by kernel_rfl) (int_lss (P:=Tryz.prog) (t:=3) (k:=.i64) (x:=(.tmp 11)) (y:=(.tmp 10)) (a:=x11) (b:=x10) (v:=false) (decide_eq_false g1)) (by kernel_rfl))
theorem ad_82 {k:Nat} {l0:List Int} {a1:Int} {a2:Int} {r:Bool} (h:spec_l1All.f k l0 a1 a2 = some r):CallH Tryz.prog 82 [.sl (iI .i64 l0),vi a1,vi a2] [] (vb r) []:=by
 unfold spec_l1All.f at h
 refine call_ok (c:=bodyOf Tryz.f82) (rs:=o82 r) (post:=p82 r) Tryz.func82 rfl rfl rfl (by kernel_rfl) ?_
 show AtP Tryz.prog 21 (bodyOf Tryz.f82) (KR Tryz.prog Tryz.f82.results.toList (o82 r) (p82 r)) [] [] (lookA [(0,.sl (iI .i64 l0)),(1,vi a1),(2,vi a2)])
 refine at_ (hn:=hn82) ?_
 exact leafAt (hn:=hn82) 8 [.val (.int .i64 (l0.length:Int))] [] (at82_l0 _ _ (q82_l0_mk h)) (iI_len (k:=.i64) (xs:=l0)) (by kernel_rfl)

def hn68:Hint:=⟨[],[]⟩
def o68 (r:Bool):List AV:=[vb r]
def p68 (r:Bool):List (Nat × AV):=[]
theorem ad_68 {k:Nat} {l0:List Int} {r:Bool} (h:spec_haGood.f k l0 = some r):CallH Tryz.prog 68 [.sl (iI .i64 l0)] [] (vb r) []:=by
 unfold spec_haGood.f at h
 refine call_ok (c:=bodyOf Tryz.f68) (rs:=o68 r) (post:=p68 r) Tryz.func68 rfl rfl rfl (by kernel_rfl) ?_
 show AtP Tryz.prog 15 (bodyOf Tryz.f68) (KR Tryz.prog Tryz.f68.results.toList (o68 r) (p68 r)) [] [] (lookA [(0,.sl (iI .i64 l0))])
 refine at_ (hn:=hn68) ?_
 obtain ⟨t136,c1,h2⟩:=bd_ h
 refine mid (hn:=hn68) 4 4 [.val (.int .i64 (l0.length:Int)),.call (vb t136)] (And.intro (iI_len (k:=.i64) (xs:=l0)) (ad_80 c1)) (by kernel_rfl) ?_
 rcases ite_ h2 with ⟨g3,h4⟩ | ⟨g3,h4⟩
 ·subst g3
  obtain ⟨t137,c5,h6⟩:=bd_ h4
  refine mid (hn:=hn68) 0 4 [.call (vb t137)] (ad_82 c5) (by kernel_rfl) ?_
  rcases ite_ h6 with ⟨g7,h8⟩ | ⟨g7,h8⟩
  ·subst g7
   obtain ⟨t138,c9,h10⟩:=bd_ h8
   obtain ⟨t141,c11,h12⟩:=bd_ h10
   obtain rfl:=Option.some.inj h12
   exact leafRet (hn:=hn68) 3 [.call (.sl (iS64 t138)),.call (vb t141)] [] .ret (.inr rfl) (by kernel_rfl) (And.intro (ad_70 c9) (ad_81 c11)) (by kernel_rfl)
  ·obtain rfl:=Bool.eq_false_iff.2 g7
   obtain rfl:=Option.some.inj h8
   exact leafRet (hn:=hn68) 3 [] [] .ret (.inr rfl) (by kernel_rfl) True.intro (by kernel_rfl)
 ·obtain rfl:=Bool.eq_false_iff.2 g3
  obtain rfl:=Option.some.inj h4
  exact leafRet (hn:=hn68) 3 [] [] .ret (.inr rfl) (by kernel_rfl) True.intro (by kernel_rfl)

def hn79:Hint:=⟨[(3,[9])],[]⟩
def o79 (r:List Int):List AV:=[.row 500000]
def p79 (r:List Int):List (Nat × AV):=[(500000,.ow true 3 (iI .i64 r))]
theorem ad_79 {l0:List Int} {r:List Int} (h:spec_l1Own.f l0 = some r):CallH Tryz.prog 79 [.sl (iI .i64 l0)] [] (.row 500000) [(500000,.ow true 3 (iI .i64 r))]:=by
 unfold spec_l1Own.f at h
 refine call_ok (c:=bodyOf Tryz.f79) (rs:=o79 r) (post:=p79 r) Tryz.func79 rfl rfl rfl (by kernel_rfl) ?_
 show AtP Tryz.prog 6 (bodyOf Tryz.f79) (KR Tryz.prog Tryz.f79.results.toList (o79 r) (p79 r)) [] [] (lookA [(0,.sl (iI .i64 l0))])
 refine at_ (hn:=hn79) ?_
 obtain ⟨y142,c1,h2⟩:=bd_ h
 obtain rfl:=Option.some.inj c1
 obtain ⟨g3,h4⟩:=ip_ h2
 obtain rfl:=Option.some.inj h4
 exact leafRet (hn:=hn79) 7 [.nil false 3,.mut,.elem (.ow true 3 (iI .i64 (([] : List Int) ++ l0)))] [(500000,11)] .ret (.inr rfl) (by kernel_rfl) (iI_app (k:=.i64) (N:=17592186044416) (b:=8) (xs:=([] : List Int)) (ys:=l0) (by decide) (Nat.le_of_lt g3)) (by kernel_rfl)

def hn67:Hint:=⟨[(10,[1000000]),(15,[1000000]),(23,[49]),(24,[59]),(25,[1000000]),(29,[64]),(31,[65])],[]⟩
def o67 (r:List Int × Int × Int) (s0_0:List Int) (s0_1:Int) (s0_2:Int):List AV:=[.sl (iI .i64 r.1)]
def p67 (r:List Int × Int × Int) (s0_0:List Int) (s0_1:Int) (s0_2:Int):List (Nat × AV):=[(1000000,.box (.agg [.sl (iI .u8 s0_0),vi r.2.1,.val (.int .u64 r.2.2)]))]
def q67_l0 (r:List Int × Int × Int) (s0_0:List Int) (s0_1:Int) (s0_2:Int) (k:Nat) (L:List (Nat × AV)):Prop:=∃ (x2:Int) (x7:List Int) (x8:Int) (x1001:Int) (x1002:Int),L = [(0,.loc 1000000 0),(2,vi x2),(7,.row 49),(8,vi x8),(49,.ow false 3 (iI .i64 x7)),(1000000,.box (.agg [.sl (iI .u8 s0_0),vi x1001,.val (.int .u64 x1002)]))] ∧ spec_l1Cur_sureChain.l0 k x2 x7 x8 s0_0 x1001 x1002 = some r
theorem q67_l0_mk {r:List Int × Int × Int} (s0_0:List Int) (s0_1:Int) (s0_2:Int) {k:Nat} {x2:Int} {x7:List Int} {x8:Int} {x1001:Int} {x1002:Int} (h:spec_l1Cur_sureChain.l0 k x2 x7 x8 s0_0 x1001 x1002 = some r):q67_l0 r s0_0 s0_1 s0_2 k [(0,.loc 1000000 0),(2,vi x2),(7,.row 49),(8,vi x8),(49,.ow false 3 (iI .i64 x7)),(1000000,.box (.agg [.sl (iI .u8 s0_0),vi x1001,.val (.int .u64 x1002)]))]:=⟨x2,x7,x8,x1001,x1002,rfl,h⟩
theorem at67_l0 {r:List Int × Int × Int} {s0_0:List Int} {s0_1:Int} {s0_2:Int}:∀ k L,q67_l0 r s0_0 s0_1 s0_2 k L → AtP Tryz.prog 35 (bodyOf Tryz.f67) (KR Tryz.prog Tryz.f67.results.toList (o67 r s0_0 s0_1 s0_2) (p67 r s0_0 s0_1 s0_2)) [true,true,false,true,false] [] (lookA L) :=
 at_loop (by kernel_rfl) (fun _ => by kernel_rfl) (q67_l0 r s0_0 s0_1 s0_2) (by
  rintro k _ ⟨x2,x7,x8,x1001,x1002,rfl,h⟩
  cases k with
  | zero => simp [spec_l1Cur_sureChain.l0] at h
  | succ k =>
   rw [spec_l1Cur_sureChain.l0] at h
   refine at_ (hn:=hn67) ?_
   rcases ite_ h with ⟨g1,h2⟩ | ⟨g1,h2⟩
   ·obtain ⟨t157,c3,h4⟩:=bd_ h2
    obtain ⟨⟨bt160_1,bt160_2,bt160_3⟩,c5,h6⟩:=bd_ h4
    try dsimp only at h6
    obtain ⟨g7,h8⟩:=ip_ h6
    obtain ⟨y163,c9,h10⟩:=bd_ h8
    obtain rfl:=Option.some.inj c9
    obtain ⟨t166,c11,h12⟩:=bd_ h10
    refine mid (hn:=hn67) 13 1 [.val (.bool true),.callH [] (.row 59) [(59,.ow false 3 (iI .i64 t157))],.val (.int .i64 (wrap64 (x2 + 1))),.callH [1000000] (vi bt160_1) [(1000000,.box (.agg [.sl (iI .u8 s0_0),vi bt160_2,.val (.int .u64 bt160_3)]))],.go,.elem (.ow false 3 (iI .i64 (t157 ++ ([bt160_1]))))] (And.intro (int_gtr (P:=Tryz.prog) (t:=3) (k:=.i64) (x:=(.tmp 19)) (y:=(.const (.int .i64 0))) (a:=x8) (b:=0) (v:=true) (decide_eq_true g1)) (And.intro (CallH.ren [(500000,59)] rfl rfl (CallH.frz 500000 rfl (ad_79 c3))) (And.intro (int_add (P:=Tryz.prog) (t:=3) (k:=.i64) (x:=(.tmp 26)) (y:=(.const (.int .i64 1))) (a:=x2) (b:=1) (c:=(wrap64 (x2 + 1))) (IntWalk.i64_left _)) (And.intro (CallH.ren [(1000000,1000000)] rfl rfl (ad_66 c5)) (iI_app (k:=.i64) (N:=17592186044416) (b:=8) (xs:=t157) (ys:=[bt160_1]) (by decide) (Nat.succ_le_of_lt g7)))))) (by kernel_rfl) ?_
    rcases ite_ h12 with ⟨g13,h14⟩ | ⟨g13,h14⟩
    ·subst g13
     exact leafBack (hn:=hn67) 7 [.call (vb true),.val (.int .i64 (wrap64 (x8 - 1)))] [(49,65)] (q67_l0_mk s0_0 s0_1 s0_2 h14) (Nat.lt_succ_self k) (And.intro (ad_68 c11) (int_sub (P:=Tryz.prog) (t:=3) (k:=.i64) (x:=(.tmp 21)) (y:=(.const (.int .i64 1))) (a:=x8) (b:=1) (c:=(wrap64 (x8 - 1))) (IntWalk.i64_left _))) (by kernel_rfl)
    ·obtain rfl:=Bool.eq_false_iff.2 g13
     exact leafBack (hn:=hn67) 7 [.call (vb false),.val (.int .i64 (wrap64 (x8 - 1)))] [] (q67_l0_mk s0_0 s0_1 s0_2 h14) (Nat.lt_succ_self k) (And.intro (ad_68 c11) (int_sub (P:=Tryz.prog) (t:=3) (k:=.i64) (x:=(.tmp 21)) (y:=(.const (.int .i64 1))) (a:=x8) (b:=1) (c:=(wrap64 (x8 - 1))) (IntWalk.i64_left _))) (by kernel_rfl)
   ·obtain rfl:=Option.some.inj h2
    exact leafRet (hn:=hn67) 14 [.val (.bool false)] [] .ret (.inr rfl) (by kernel_rfl) (int_gtr (P:=Tryz.prog) (t:=3) (k:=.i64) (x:=(.tmp 19)) (y:=(.const (.int .i64 0))) (a:=x8) (b:=0) (v:=false) (decide_eq_false g1)) (by kernel_rfl))
theorem ad_67 {k:Nat} {s0_0:List Int} {s0_1:Int} {s0_2:Int} {a1:Int} {a2:Int} {r1:List Int} {r2:Int} {r3:Int} (h:spec_l1Cur_sureChain.f k s0_0 s0_1 s0_2 a1 a2 = some (r1,r2,r3)):CallH Tryz.prog 67 [.loc 1000000 0,vi a1,vi a2] [(1000000,.box (.agg [.sl (iI .u8 s0_0),vi s0_1,.val (.int .u64 s0_2)]))] (.sl (iI .i64 r1)) [(1000000,.box (.agg [.sl (iI .u8 s0_0),vi r2,.val (.int .u64 r3)]))]:=by
 unfold spec_l1Cur_sureChain.f at h
 refine call_ok (c:=bodyOf Tryz.f67) (rs:=o67 (r1,r2,r3) s0_0 s0_1 s0_2) (post:=p67 (r1,r2,r3) s0_0 s0_1 s0_2) Tryz.func67 rfl rfl rfl (by kernel_rfl) ?_
 show AtP Tryz.prog 35 (bodyOf Tryz.f67) (KR Tryz.prog Tryz.f67.results.toList (o67 (r1,r2,r3) s0_0 s0_1 s0_2) (p67 (r1,r2,r3) s0_0 s0_1 s0_2)) [] [] (lookA [(0,.loc 1000000 0),(1,vi a1),(2,vi a2),(1000000,.box (.agg [.sl (iI .u8 s0_0),vi s0_1,.val (.int .u64 s0_2)]))])
 refine at_ (hn:=hn67) ?_
 obtain ⟨⟨bt148_1,bt148_2,bt148_3⟩,c1,h2⟩:=bd_ h
 obtain ⟨⟨bt154_1,bt154_2,bt154_3⟩,c3,h4⟩:=bd_ h2
 try dsimp only at h4
 exact leafAt (hn:=hn67) 11 [.goT,.val (.int .i64 (wrap64 (a2 + 1))),.callH [1000000] (vi bt148_1) [(1000000,.box (.agg [.sl (iI .u8 s0_0),vi bt148_2,.val (.int .u64 bt148_3)]))],.go,.val (.int .i64 (wrap64 (a1 + 1))),.callH [1000000] (vi bt154_1) [(1000000,.box (.agg [.sl (iI .u8 s0_0),vi bt154_2,.val (.int .u64 bt154_3)]))]] [] (at67_l0 _ _ (q67_l0_mk s0_0 s0_1 s0_2 h4)) (And.intro (And.intro (int_add (P:=Tryz.prog) (t:=3) (k:=.i64) (x:=(.tmp 11)) (y:=(.const (.int .i64 1))) (a:=a2) (b:=1) (c:=(wrap64 (a2 + 1))) (IntWalk.i64_left _)) (CallH.ren [(1000000,1000000)] rfl rfl (ad_66 c1))) (And.intro (int_add (P:=Tryz.prog) (t:=3) (k:=.i64) (x:=(.tmp 16)) (y:=(.const (.int .i64 1))) (a:=a1) (b:=1) (c:=(wrap64 (a1 + 1))) (IntWalk.i64_left _)) (CallH.ren [(1000000,1000000)] rfl rfl (ad_66 c3)))) (by kernel_rfl)

def hn129:Hint:=⟨[(17,[27]),(21,[45])],[]⟩
def o129 (r:(List (S64))):List AV:=[.row 500000]
def p129 (r:(List (S64))):List (Nat × AV):=[(500000,.ow false 64 (iS64 r))]
def q129_l0 (r:(List (S64))) (k:Nat) (L:List (Nat × AV)):Prop:=∃ (x0:Int) (x3:List (S64)) (x4:Int),L = [(0,vi x0),(3,.row 27),(4,vi x4),(27,.ow false 64 (iS64 x3))] ∧ spec_tiSet.l0 k x0 x3 x4 = some r
theorem q129_l0_mk {r:(List (S64))} {k:Nat} {x0:Int} {x3:List (S64)} {x4:Int} (h:spec_tiSet.l0 k x0 x3 x4 = some r):q129_l0 r k [(0,vi x0),(3,.row 27),(4,vi x4),(27,.ow false 64 (iS64 x3))]:=⟨x0,x3,x4,rfl,h⟩
def q129_l1 (r:(List (S64))) (K0:Nat) (k:Nat) (L:List (Nat × AV)):Prop:=k < K0 ∧ ∃ (x0:Int) (x3:List (S64)) (x4:Int) (x5:Int),L = [(0,vi x0),(3,.row 27),(4,vi x4),(5,vi x5),(27,.ow false 64 (iS64 x3))] ∧ spec_tiSet.l1 k x0 x3 x4 x5 = some r
theorem q129_l1_mk {r:(List (S64))} {K0:Nat} {k:Nat} {x0:Int} {x3:List (S64)} {x4:Int} {x5:Int} (hk0:k < K0) (h:spec_tiSet.l1 k x0 x3 x4 x5 = some r):q129_l1 r K0 k [(0,vi x0),(3,.row 27),(4,vi x4),(5,vi x5),(27,.ow false 64 (iS64 x3))]:=⟨hk0,x0,x3,x4,x5,rfl,h⟩
theorem at129_l1 {r:(List (S64))} {K0:Nat}:∀ k L,q129_l1 r K0 k L → AtP Tryz.prog 24 (bodyOf Tryz.f129) (KR Tryz.prog Tryz.f129.results.toList (o129 r) (p129 r)) [true,true,false,true,false,false,true,false,false,true,false] [upto (q129_l0 r) K0] (lookA L) :=
 at_loop (by kernel_rfl) (fun _ => by kernel_rfl) (q129_l1 r K0) (by
  rintro k _ ⟨hk0,x0,x3,x4,x5,rfl,h⟩
  cases k with
  | zero => simp [spec_tiSet.l1] at h
  | succ k =>
   rw [spec_tiSet.l1] at h
   have hk0:=Nat.lt_of_succ_lt hk0
   refine at_ (hn:=hn129) ?_
   rcases ite_ h with ⟨g1,h2⟩ | ⟨g1,h2⟩
   ·obtain ⟨g3,h4⟩:=ip_ h2
    exact leafBack (hn:=hn129) 13 [.val (.bool true),.elem (.agg [vi x4,vi x5]),.go,.elem (.ow false 64 (iS64 (x3 ++ ([(⟨x4,x5⟩ : S64)])))),.val (.int .i64 (wrap64 (x5 + 1)))] [(27,46)] (q129_l1_mk hk0 h4) (Nat.lt_succ_self k) (And.intro (int_leq (P:=Tryz.prog) (t:=3) (k:=.i64) (x:=(.tmp 12)) (y:=(.tmp 13)) (a:=x5) (b:=x0) (v:=true) (decide_eq_true g1)) (And.intro (And.intro (build_64_2 (p0:=x4) (p1:=x5)) (iS64_app (N:=8796093022208) (b:=16) (xs:=x3) (ys:=[(⟨x4,x5⟩ : S64)]) (by decide) (Nat.succ_le_of_lt g3))) (int_add (P:=Tryz.prog) (t:=3) (k:=.i64) (x:=(.tmp 15)) (y:=(.const (.int .i64 1))) (a:=x5) (b:=1) (c:=(wrap64 (x5 + 1))) (IntWalk.i64_left _)))) (by kernel_rfl)
   ·exact leafBack (hn:=hn129) 12 [.val (.bool false),.val (.int .i64 (wrap64 (x4 + 1)))] [] (q129_l0_mk h2) hk0 (And.intro (int_leq (P:=Tryz.prog) (t:=3) (k:=.i64) (x:=(.tmp 12)) (y:=(.tmp 13)) (a:=x5) (b:=x0) (v:=false) (decide_eq_false g1)) (int_add (P:=Tryz.prog) (t:=3) (k:=.i64) (x:=(.tmp 9)) (y:=(.const (.int .i64 1))) (a:=x4) (b:=1) (c:=(wrap64 (x4 + 1))) (IntWalk.i64_left _))) (by kernel_rfl))
theorem at129_l0 {r:(List (S64))}:∀ k L,q129_l0 r k L → AtP Tryz.prog 24 (bodyOf Tryz.f129) (KR Tryz.prog Tryz.f129.results.toList (o129 r) (p129 r)) [true,true,false,true,false] [] (lookA L) :=
 at_loop (by kernel_rfl) (fun _ => by kernel_rfl) (q129_l0 r) (by
  rintro k _ ⟨x0,x3,x4,rfl,h⟩
  cases k with
  | zero => simp [spec_tiSet.l0] at h
  | succ k =>
   rw [spec_tiSet.l0] at h
   refine at_ (hn:=hn129) ?_
   rcases ite_ h with ⟨g1,h2⟩ | ⟨g1,h2⟩
   ·exact leafAt (hn:=hn129) 13 [.val (.bool true)] [] (at129_l1 _ _ (q129_l1_mk (Nat.lt_succ_self k) h2)) (int_leq (P:=Tryz.prog) (t:=3) (k:=.i64) (x:=(.tmp 6)) (y:=(.tmp 7)) (a:=x4) (b:=x0) (v:=true) (decide_eq_true g1)) (by kernel_rfl)
   ·obtain rfl:=Option.some.inj h2
    exact leafRet (hn:=hn129) 14 [.val (.bool false)] [(500000,27)] .ret (.inr rfl) (by kernel_rfl) (int_leq (P:=Tryz.prog) (t:=3) (k:=.i64) (x:=(.tmp 6)) (y:=(.tmp 7)) (a:=x4) (b:=x0) (v:=false) (decide_eq_false g1)) (by kernel_rfl))
theorem ad_129 {k:Nat} {a0:Int} {r:List (S64)} (h:spec_tiSet.f k a0 = some r):CallH Tryz.prog 129 [vi a0] [] (.row 500000) [(500000,.ow false 64 (iS64 r))]:=by
 unfold spec_tiSet.f at h
 refine call_ok (c:=bodyOf Tryz.f129) (rs:=o129 r) (post:=p129 r) Tryz.func129 rfl rfl rfl (by kernel_rfl) ?_
 show AtP Tryz.prog 24 (bodyOf Tryz.f129) (KR Tryz.prog Tryz.f129.results.toList (o129 r) (p129 r)) [] [] (lookA [(0,vi a0)])
 refine at_ (hn:=hn129) ?_
 exact leafAt (hn:=hn129) 11 [.nil false 64,.nil false 64] [] (at129_l0 _ _ (q129_l0_mk h)) True.intro (by kernel_rfl)

def hn112:Hint:=⟨[(9,[38]),(11,[40]),(23,[36]),(25,[54])],[]⟩
def o112 (r:(List (S64))):List AV:=[.row 500000]
def p112 (r:(List (S64))):List (Nat × AV):=[(500000,.ow true 64 (iS64 r))]
def q112_l0 (r:(List (S64))) (k:Nat) (L:List (Nat × AV)):Prop:=∃ (x1:List (S64)) (x2:Bool) (x7:List (S64)) (x11:List (S64)) (x12:Int) (x13:Int),L = [(1,.sl (iS64 x1)),(2,vb x2),(7,.row 36),(11,.row 40),(12,vi x12),(13,vi x13),(36,.ow true 64 (iS64 x7)),(40,.ow false 64 (iS64 x11))] ∧ spec_tiPick.l0 k x1 x2 x7 x11 x12 x13 = some r
theorem q112_l0_mk {r:(List (S64))} {k:Nat} {x1:List (S64)} {x2:Bool} {x7:List (S64)} {x11:List (S64)} {x12:Int} {x13:Int} (h:spec_tiPick.l0 k x1 x2 x7 x11 x12 x13 = some r):q112_l0 r k [(1,.sl (iS64 x1)),(2,vb x2),(7,.row 36),(11,.row 40),(12,vi x12),(13,vi x13),(36,.ow true 64 (iS64 x7)),(40,.ow false 64 (iS64 x11))]:=⟨x1,x2,x7,x11,x12,x13,rfl,h⟩
theorem at112_l0 {r:(List (S64))}:∀ k L,q112_l0 r k L → AtP Tryz.prog 29 (bodyOf Tryz.f112) (KR Tryz.prog Tryz.f112.results.toList (o112 r) (p112 r)) [true,true,false,true,false] [] (lookA L) :=
 at_loop (by kernel_rfl) (fun _ => by kernel_rfl) (q112_l0 r) (by
  rintro k _ ⟨x1,x2,x7,x11,x12,x13,rfl,h⟩
  cases k with
  | zero => simp [spec_tiPick.l0] at h
  | succ k =>
   rw [spec_tiPick.l0] at h
   refine at_ (hn:=hn112) ?_
   rcases ite_ h with ⟨g1,h2⟩ | ⟨g1,h2⟩
   ·obtain ⟨g3,h4⟩:=ip_ h2
    obtain ⟨g5,h6⟩:=ip_ h4
    obtain ⟨t175,c7,h8⟩:=bd_ h6
    refine mid (hn:=hn112) 13 5 [.val (.bool true),.elem (.agg [vi ((rd_T64 x11 x13).f0),vi ((rd_T64 x11 x13).f1)]),.call (vi t175),.val (.bool (decide (t175 ≥ 0)))] (And.intro (int_lss (P:=Tryz.prog) (t:=3) (k:=.i64) (x:=(.tmp 13)) (y:=(.tmp 12)) (a:=x13) (b:=x12) (v:=true) (decide_eq_true g1)) (And.intro (iS64_rd (xs:=x11) (i:=x13) g3 g5) (And.intro (ad_71 c7) (int_geq (P:=Tryz.prog) (t:=3) (k:=.i64) (x:=(.tmp 19)) (y:=(.const (.int .i64 0))) (a:=t175) (b:=0) (v:=(decide (t175 ≥ 0))) rfl)))) (by kernel_rfl) ?_
    rcases ite_ h8 with ⟨g9,h10⟩ | ⟨g9,h10⟩
    ·obtain ⟨g11,h12⟩:=ip_ h10
     exact leafBack (hn:=hn112) 7 [.val (.bool true),.go,.elem (.ow true 64 (iS64 (x7 ++ ([(⟨(rd_T64 x11 x13).f0,(rd_T64 x11 x13).f1⟩ : S64)])))),.val (.int .i64 (wrap64 (x13 + 1)))] [(36,55)] (q112_l0_mk h12) (Nat.lt_succ_self k) (And.intro (bool_eql (P:=Tryz.prog) (t:=4) (x:=(.tmp 20)) (y:=(.tmp 21)) (a:=(decide (t175 ≥ 0))) (b:=x2) Tryz.underlying4 (v:=true) g9) (And.intro (iS64_app (N:=8796093022208) (b:=16) (xs:=x7) (ys:=[(⟨(rd_T64 x11 x13).f0,(rd_T64 x11 x13).f1⟩ : S64)]) (by decide) (Nat.succ_le_of_lt g11)) (int_add (P:=Tryz.prog) (t:=3) (k:=.i64) (x:=(.tmp 13)) (y:=(.const (.int .i64 1))) (a:=x13) (b:=1) (c:=(wrap64 (x13 + 1))) (IntWalk.i64_left _)))) (by kernel_rfl)
    ·exact leafBack (hn:=hn112) 7 [.val (.bool false),.val (.int .i64 (wrap64 (x13 + 1)))] [] (q112_l0_mk h10) (Nat.lt_succ_self k) (And.intro (bool_eql (P:=Tryz.prog) (t:=4) (x:=(.tmp 20)) (y:=(.tmp 21)) (a:=(decide (t175 ≥ 0))) (b:=x2) Tryz.underlying4 (v:=false) (Bool.eq_false_iff.2 g9)) (int_add (P:=Tryz.prog) (t:=3) (k:=.i64) (x:=(.tmp 13)) (y:=(.const (.int .i64 1))) (a:=x13) (b:=1) (c:=(wrap64 (x13 + 1))) (IntWalk.i64_left _))) (by kernel_rfl)
   ·obtain rfl:=Option.some.inj h2
    exact leafRet (hn:=hn112) 14 [.val (.bool false)] [(500000,36)] .ret (.inr rfl) (by kernel_rfl) (int_lss (P:=Tryz.prog) (t:=3) (k:=.i64) (x:=(.tmp 13)) (y:=(.tmp 12)) (a:=x13) (b:=x12) (v:=false) (decide_eq_false g1)) (by kernel_rfl))
theorem ad_112 {k:Nat} {a0:Int} {l1:List (S64)} {a2:Bool} {r:List (S64)} (h:spec_tiPick.f k a0 l1 a2 = some r):CallH Tryz.prog 112 [vi a0,.sl (iS64 l1),vb a2] [] (.row 500000) [(500000,.ow true 64 (iS64 r))]:=by
 unfold spec_tiPick.f at h
 refine call_ok (c:=bodyOf Tryz.f112) (rs:=o112 r) (post:=p112 r) Tryz.func112 rfl rfl rfl (by kernel_rfl) ?_
 show AtP Tryz.prog 29 (bodyOf Tryz.f112) (KR Tryz.prog Tryz.f112.results.toList (o112 r) (p112 r)) [] [] (lookA [(0,vi a0),(1,.sl (iS64 l1)),(2,vb a2)])
 refine at_ (hn:=hn112) ?_
 obtain ⟨t170,c1,h2⟩:=bd_ h
 exact leafAt (hn:=hn112) 11 [.nil false 64,.nil true 64,.callH [] (.row 40) [(40,.ow false 64 (iS64 t170))],.val (.int .i64 (t170.length:Int))] [] (at112_l0 _ _ (q112_l0_mk h2)) (And.intro (CallH.ren [(500000,40)] rfl rfl (ad_129 c1)) (iS64_len (xs:=t170))) (by kernel_rfl)

def hn83:Hint:=⟨[],[]⟩
def o83 (r:(List (S64))):List AV:=[.row 500000]
def p83 (r:(List (S64))):List (Nat × AV):=[(500000,.ow true 64 (iS64 r))]
theorem ad_83 {k:Nat} {l0:List (S64)} {r:List (S64)} (h:spec_tiSort.f k l0 = some r):CallH Tryz.prog 83 [.sl (iS64 l0)] [] (.row 500000) [(500000,.ow true 64 (iS64 r))]:=by
 unfold spec_tiSort.f at h
 refine call_ok (c:=bodyOf Tryz.f83) (rs:=o83 r) (post:=p83 r) Tryz.func83 rfl rfl rfl (by kernel_rfl) ?_
 show AtP Tryz.prog 5 (bodyOf Tryz.f83) (KR Tryz.prog Tryz.f83.results.toList (o83 r) (p83 r)) [] [] (lookA [(0,.sl (iS64 l0))])
 refine at_ (hn:=hn83) ?_
 obtain ⟨t179,c1,h2⟩:=bd_ h
 obtain rfl:=Option.some.inj h2
 exact leafRet (hn:=hn83) 7 [.nil false 64,.callH [] (.row 9) [(9,.ow true 64 (iS64 t179))]] [(500000,9)] .ret (.inr rfl) (by kernel_rfl) (CallH.ren [(500000,9)] rfl rfl (ad_112 c1)) (by kernel_rfl)

def hn72:Hint:=⟨[(6,[45]),(8,[47,60,800801]),(11,[1000000]),(19,[57]),(22,[60]),(29,[1000000]),(31,[47,60,800801]),(32,[800801]),(34,[73]),(35,[74]),(36,[47,60,800801]),(38,[60,800801])],[]⟩
def o72 (r:(List (S64)) × List Int × Int × Int) (s0_0:List Int) (s0_1:Int) (s0_2:Int):List AV:=[.agg [.row 500000,.row 500001]]
def p72 (r:(List (S64)) × List Int × Int × Int) (s0_0:List Int) (s0_1:Int) (s0_2:Int):List (Nat × AV):=[(1000000,.box (.agg [.sl (iI .u8 s0_0),vi r.2.2.1,.val (.int .u64 r.2.2.2)])),(500000,.ow true 64 (iS64 r.1)),(500001,.ow true 3 (iI .i64 r.2.1))]
def q72_l0 (r:(List (S64)) × List Int × Int × Int) (s0_0:List Int) (s0_1:Int) (s0_2:Int) (k:Nat) (L:List (Nat × AV)):Prop:=∃ (x23:List Int) (x24:Int) (x25:Int) (x1001:Int) (x1002:Int) (x198000:List (S64)) (x198001:List Int),L = [(0,.loc 1000000 0),(6,.loc 45 0),(8,.loc 47 0),(23,.sl (iI .i64 x23)),(24,vi x24),(25,vi x25),(45,.box (.agg [.val (.slice none 0 0),.val (.slice none 0 0)])),(47,.box (.agg [.row 60,.row 800801])),(60,.ow true 64 (iS64 x198000)),(800801,.ow true 3 (iI .i64 x198001)),(1000000,.box (.agg [.sl (iI .u8 s0_0),vi x1001,.val (.int .u64 x1002)]))] ∧ spec_l1Cur_surePuzzle.l0 k x23 x24 x25 s0_0 x1001 x1002 x198000 x198001 = some r
theorem q72_l0_mk {r:(List (S64)) × List Int × Int × Int} (s0_0:List Int) (s0_1:Int) (s0_2:Int) {k:Nat} {x23:List Int} {x24:Int} {x25:Int} {x1001:Int} {x1002:Int} {x198000:List (S64)} {x198001:List Int} (h:spec_l1Cur_surePuzzle.l0 k x23 x24 x25 s0_0 x1001 x1002 x198000 x198001 = some r):q72_l0 r s0_0 s0_1 s0_2 k [(0,.loc 1000000 0),(6,.loc 45 0),(8,.loc 47 0),(23,.sl (iI .i64 x23)),(24,vi x24),(25,vi x25),(45,.box (.agg [.val (.slice none 0 0),.val (.slice none 0 0)])),(47,.box (.agg [.row 60,.row 800801])),(60,.ow true 64 (iS64 x198000)),(800801,.ow true 3 (iI .i64 x198001)),(1000000,.box (.agg [.sl (iI .u8 s0_0),vi x1001,.val (.int .u64 x1002)]))]:=⟨x23,x24,x25,x1001,x1002,x198000,x198001,rfl,h⟩
theorem at72_l0 {r:(List (S64)) × List Int × Int × Int} {s0_0:List Int} {s0_1:Int} {s0_2:Int}:∀ k L,q72_l0 r s0_0 s0_1 s0_2 k L → AtP Tryz.prog 39 (bodyOf Tryz.f72) (KR Tryz.prog Tryz.f72.results.toList (o72 r s0_0 s0_1 s0_2) (p72 r s0_0 s0_1 s0_2)) [true,true,true,true,false,true,false] [] (lookA L) :=
 at_loop (by kernel_rfl) (fun _ => by kernel_rfl) (q72_l0 r s0_0 s0_1 s0_2) (by
  rintro k _ ⟨x23,x24,x25,x1001,x1002,x198000,x198001,rfl,h⟩
  cases k with
  | zero => simp [spec_l1Cur_surePuzzle.l0] at h
  | succ k =>
   rw [spec_l1Cur_surePuzzle.l0] at h
   refine at_ (hn:=hn72) ?_
   rcases ite_ h with ⟨g1,h2⟩ | ⟨g1,h2⟩
   ·obtain ⟨g3,h4⟩:=ip_ h2
    obtain ⟨g5,h6⟩:=ip_ h4
    obtain ⟨⟨bt199_1,bt199_2,bt199_3⟩,c7,h8⟩:=bd_ h6
    try dsimp only at h8
    refine mid (hn:=hn72) 14 1 [.val (.bool true),.elem (vi (rd x23 x25))] (And.intro (int_lss (P:=Tryz.prog) (t:=3) (k:=.i64) (x:=(.tmp 25)) (y:=(.tmp 24)) (a:=x25) (b:=x24) (v:=true) (decide_eq_true g1)) (iI_rd (k:=.i64) (xs:=x23) (i:=x25) g3 g5)) (by kernel_rfl) ?_
    rcases ite_ h8 with ⟨g9,h10⟩ | ⟨g9,h10⟩
    ·subst g9
     obtain ⟨g11,h12⟩:=ip_ h10
     exact leafBack (hn:=hn72) 9 [.callH [1000000] (vb true) [(1000000,.box (.agg [.sl (iI .u8 s0_0),vi bt199_2,.val (.int .u64 bt199_3)]))],.go,.elem (.ow true 3 (iI .i64 (x198001 ++ ([-1])))),.val (.int .i64 (wrap64 (x25 + 1)))] [(800801,74)] (q72_l0_mk s0_0 s0_1 s0_2 h12) (Nat.lt_succ_self k) (And.intro (CallH.ren [(1000000,1000000)] rfl rfl (ad_64 c7)) (And.intro (iI_app (k:=.i64) (N:=17592186044416) (b:=8) (xs:=x198001) (ys:=[-1]) (by decide) (Nat.succ_le_of_lt g11)) (int_add (P:=Tryz.prog) (t:=3) (k:=.i64) (x:=(.tmp 25)) (y:=(.const (.int .i64 1))) (a:=x25) (b:=1) (c:=(wrap64 (x25 + 1))) (IntWalk.i64_left _)))) (by kernel_rfl)
    ·obtain rfl:=Bool.eq_false_iff.2 g9
     obtain ⟨g13,h14⟩:=ip_ h10
     exact leafBack (hn:=hn72) 9 [.callH [1000000] (vb false) [(1000000,.box (.agg [.sl (iI .u8 s0_0),vi bt199_2,.val (.int .u64 bt199_3)]))],.go,.elem (.ow true 3 (iI .i64 (x198001 ++ ([(rd x23 x25)])))),.val (.int .i64 (wrap64 (x25 + 1)))] [(800801,74)] (q72_l0_mk s0_0 s0_1 s0_2 h14) (Nat.lt_succ_self k) (And.intro (CallH.ren [(1000000,1000000)] rfl rfl (ad_64 c7)) (And.intro (iI_app (k:=.i64) (N:=17592186044416) (b:=8) (xs:=x198001) (ys:=[(rd x23 x25)]) (by decide) (Nat.succ_le_of_lt g13)) (int_add (P:=Tryz.prog) (t:=3) (k:=.i64) (x:=(.tmp 25)) (y:=(.const (.int .i64 1))) (a:=x25) (b:=1) (c:=(wrap64 (x25 + 1))) (IntWalk.i64_left _)))) (by kernel_rfl)
   ·obtain rfl:=Option.some.inj h2
    exact leafRet (hn:=hn72) 14 [.val (.bool false)] [(500000,60),(500001,800801)] .ret (.inr rfl) (by kernel_rfl) (int_lss (P:=Tryz.prog) (t:=3) (k:=.i64) (x:=(.tmp 25)) (y:=(.tmp 24)) (a:=x25) (b:=x24) (v:=false) (decide_eq_false g1)) (by kernel_rfl))
theorem at72_j0 {r:(List (S64)) × List Int × Int × Int} {s0_0:List Int} {s0_1:Int} {s0_2:Int} {k:Nat} {x7:List Int} {x1001:Int} {x1002:Int} (h:spec_l1Cur_surePuzzle.j0 k x7 s0_0 x1001 x1002 = some r):AtP Tryz.prog 39 (bodyOf Tryz.f72) (KR Tryz.prog Tryz.f72.results.toList (o72 r s0_0 s0_1 s0_2) (p72 r s0_0 s0_1 s0_2)) [true,true,true] [] (lookA [(0,.loc 1000000 0),(6,.loc 45 0),(7,.sl (iI .i64 x7)),(45,.box (.agg [.val (.slice none 0 0),.val (.slice none 0 0)])),(1000000,.box (.agg [.sl (iI .u8 s0_0),vi x1001,.val (.int .u64 x1002)]))]):=by
 cases k with
 | zero => simp [spec_l1Cur_surePuzzle.j0] at h
 | succ k =>
  rw [spec_l1Cur_surePuzzle.j0] at h
  refine at_ (hn:=hn72) ?_
  obtain ⟨t191,c1,h2⟩:=bd_ h
  obtain ⟨t194,c3,h4⟩:=bd_ h2
  exact leafAt (hn:=hn72) 8 [.call (.sl (iS64 t191)),.callH [] (.row 60) [(60,.ow true 64 (iS64 t194))],.go,.val (.int .i64 (x7.length:Int)),.nl 47 1 true 3 800801] [] (at72_l0 _ _ (q72_l0_mk s0_0 s0_1 s0_2 h4)) (And.intro (And.intro (ad_70 c1) (CallH.ren [(500000,60)] rfl rfl (ad_83 c3))) (iI_len (k:=.i64) (xs:=x7))) (by kernel_rfl)
theorem ad_72 {k:Nat} {s0_0:List Int} {s0_1:Int} {s0_2:Int} {a1:Int} {a2:Int} {r1:List (S64)} {r2:List Int} {r3:Int} {r4:Int} (h:spec_l1Cur_surePuzzle.f k s0_0 s0_1 s0_2 a1 a2 = some (r1,r2,r3,r4)):CallH Tryz.prog 72 [.loc 1000000 0,vi a1,vi a2] [(1000000,.box (.agg [.sl (iI .u8 s0_0),vi s0_1,.val (.int .u64 s0_2)]))] (.agg [.row 500000,.row 500001]) [(1000000,.box (.agg [.sl (iI .u8 s0_0),vi r3,.val (.int .u64 r4)])),(500000,.ow true 64 (iS64 r1)),(500001,.ow true 3 (iI .i64 r2))]:=by
 unfold spec_l1Cur_surePuzzle.f at h
 refine call_ok (c:=bodyOf Tryz.f72) (rs:=o72 (r1,r2,r3,r4) s0_0 s0_1 s0_2) (post:=p72 (r1,r2,r3,r4) s0_0 s0_1 s0_2) Tryz.func72 rfl rfl rfl (by kernel_rfl) ?_
 show AtP Tryz.prog 39 (bodyOf Tryz.f72) (KR Tryz.prog Tryz.f72.results.toList (o72 (r1,r2,r3,r4) s0_0 s0_1 s0_2) (p72 (r1,r2,r3,r4) s0_0 s0_1 s0_2)) [] [] (lookA [(0,.loc 1000000 0),(1,vi a1),(2,vi a2),(1000000,.box (.agg [.sl (iI .u8 s0_0),vi s0_1,.val (.int .u64 s0_2)]))])
 refine at_ (hn:=hn72) ?_
 obtain ⟨⟨bt183_1,bt183_2,bt183_3⟩,c1,h2⟩:=bd_ h
 try dsimp only at h2
 refine mid (hn:=hn72) 8 2 [.callH [1000000] (.sl (iI .i64 bt183_1)) [(1000000,.box (.agg [.sl (iI .u8 s0_0),vi bt183_2,.val (.int .u64 bt183_3)]))],.val (.int .i64 (bt183_1.length:Int))] (And.intro (CallH.ren [(1000000,1000000)] rfl rfl (ad_67 c1)) (iI_len (k:=.i64) (xs:=bt183_1))) (by kernel_rfl) ?_
 rcases ite_ h2 with ⟨g3,h4⟩ | ⟨g3,h4⟩
 ·exact leafAt (hn:=hn72) 5 [.val (.bool true),.go,.vw 7] [] (at72_j0 h4) (int_lss (P:=Tryz.prog) (t:=3) (k:=.i64) (x:=(.tmp 16)) (y:=(.const (.int .i64 2))) (a:=(bt183_1.length:Int)) (b:=2) (v:=true) (decide_eq_true g3)) (by kernel_rfl)
 ·exact leafAt (hn:=hn72) 5 [.val (.bool false)] [] (at72_j0 h4) (int_lss (P:=Tryz.prog) (t:=3) (k:=.i64) (x:=(.tmp 16)) (y:=(.const (.int .i64 2))) (a:=(bt183_1.length:Int)) (b:=2) (v:=false) (decide_eq_false g3)) (by kernel_rfl)

def hn105:Hint:=⟨[(6,[1000000])],[]⟩
def o105 (r:Int × Int × Int) (s0_0:List Int) (s0_1:Int) (s0_2:Int):List AV:=[vi r.1]
def p105 (r:Int × Int × Int) (s0_0:List Int) (s0_1:Int) (s0_2:Int):List (Nat × AV):=[(1000000,.box (.agg [.sl (iI .u8 s0_0),vi r.2.1,.val (.int .u64 r.2.2)]))]
theorem ad_105 {s0_0:List Int} {s0_1:Int} {s0_2:Int} {l1:List Int} {r1:Int} {r2:Int} {r3:Int} (h:spec_l1Cur_among.f s0_0 s0_1 s0_2 l1 = some (r1,r2,r3)):CallH Tryz.prog 105 [.loc 1000000 0,.sl (iI .i64 l1)] [(1000000,.box (.agg [.sl (iI .u8 s0_0),vi s0_1,.val (.int .u64 s0_2)]))] (vi r1) [(1000000,.box (.agg [.sl (iI .u8 s0_0),vi r2,.val (.int .u64 r3)]))]:=by
 unfold spec_l1Cur_among.f at h
 refine call_ok (c:=bodyOf Tryz.f105) (rs:=o105 (r1,r2,r3) s0_0 s0_1 s0_2) (post:=p105 (r1,r2,r3) s0_0 s0_1 s0_2) Tryz.func105 rfl rfl rfl (by kernel_rfl) ?_
 show AtP Tryz.prog 12 (bodyOf Tryz.f105) (KR Tryz.prog Tryz.f105.results.toList (o105 (r1,r2,r3) s0_0 s0_1 s0_2) (p105 (r1,r2,r3) s0_0 s0_1 s0_2)) [] [] (lookA [(0,.loc 1000000 0),(1,.sl (iI .i64 l1)),(1000000,.box (.agg [.sl (iI .u8 s0_0),vi s0_1,.val (.int .u64 s0_2)]))])
 refine at_ (hn:=hn105) ?_
 obtain ⟨⟨bt208_1,bt208_2,bt208_3⟩,c1,h2⟩:=bd_ h
 try dsimp only at h2
 obtain ⟨g3,h4⟩:=ip_ h2
 obtain ⟨g5,h6⟩:=ip_ h4
 obtain ⟨rfl,rfl,rfl⟩:=pr3_ h6
 exact leafRet (hn:=hn105) 7 [.val (.int .i64 (l1.length:Int)),.callH [1000000] (vi bt208_1) [(1000000,.box (.agg [.sl (iI .u8 s0_0),vi bt208_2,.val (.int .u64 bt208_3)]))],.elem (vi (rd l1 bt208_1))] [] .ret (.inr rfl) (by kernel_rfl) (And.intro (iI_len (k:=.i64) (xs:=l1)) (And.intro (CallH.ren [(1000000,1000000)] rfl rfl (ad_66 c1)) (iI_rd (k:=.i64) (xs:=l1) (i:=bt208_1) g3 g5))) (by kernel_rfl)

def hn127:Hint:=⟨[(9,[45]),(10,[1000000]),(18,[1000000]),(22,[1000000]),(27,[43]),(31,[43]),(33,[69])],[]⟩
def o127 (r:(List (S64)) × Int × Int) (s0_0:List Int) (s0_1:Int) (s0_2:Int):List AV:=[.row 500000]
def p127 (r:(List (S64)) × Int × Int) (s0_0:List Int) (s0_1:Int) (s0_2:Int):List (Nat × AV):=[(1000000,.box (.agg [.sl (iI .u8 s0_0),vi r.2.1,.val (.int .u64 r.2.2)])),(500000,.ow false 64 (iS64 r.1))]
def q127_l0 (r:(List (S64)) × Int × Int) (s0_0:List Int) (s0_1:Int) (s0_2:Int) (k:Nat) (L:List (Nat × AV)):Prop:=∃ (x2:Int) (x7:List (S64)) (x8:Int) (x1001:Int) (x1002:Int),L = [(0,.loc 1000000 0),(2,vi x2),(7,.row 43),(8,vi x8),(43,.ow false 64 (iS64 x7)),(1000000,.box (.agg [.sl (iI .u8 s0_0),vi x1001,.val (.int .u64 x1002)]))] ∧ spec_l1Cur_sureHand.l0 k x2 x7 x8 s0_0 x1001 x1002 = some r
theorem q127_l0_mk {r:(List (S64)) × Int × Int} (s0_0:List Int) (s0_1:Int) (s0_2:Int) {k:Nat} {x2:Int} {x7:List (S64)} {x8:Int} {x1001:Int} {x1002:Int} (h:spec_l1Cur_sureHand.l0 k x2 x7 x8 s0_0 x1001 x1002 = some r):q127_l0 r s0_0 s0_1 s0_2 k [(0,.loc 1000000 0),(2,vi x2),(7,.row 43),(8,vi x8),(43,.ow false 64 (iS64 x7)),(1000000,.box (.agg [.sl (iI .u8 s0_0),vi x1001,.val (.int .u64 x1002)]))]:=⟨x2,x7,x8,x1001,x1002,rfl,h⟩
theorem at127_l0 {r:(List (S64)) × Int × Int} {s0_0:List Int} {s0_1:Int} {s0_2:Int}:∀ k L,q127_l0 r s0_0 s0_1 s0_2 k L → AtP Tryz.prog 36 (bodyOf Tryz.f127) (KR Tryz.prog Tryz.f127.results.toList (o127 r s0_0 s0_1 s0_2) (p127 r s0_0 s0_1 s0_2)) [true,true,false,true,false] [] (lookA L) :=
 at_loop (by kernel_rfl) (fun _ => by kernel_rfl) (q127_l0 r s0_0 s0_1 s0_2) (by
  rintro k _ ⟨x2,x7,x8,x1001,x1002,rfl,h⟩
  cases k with
  | zero => simp [spec_l1Cur_sureHand.l0] at h
  | succ k =>
   rw [spec_l1Cur_sureHand.l0] at h
   refine at_ (hn:=hn127) ?_
   rcases ite_ h with ⟨g1,h2⟩ | ⟨g1,h2⟩
   ·obtain ⟨⟨bt215_1,bt215_2,bt215_3⟩,c3,h4⟩:=bd_ h2
    obtain ⟨⟨bt218_1,bt218_2,bt218_3⟩,c5,h6⟩:=bd_ h4
    obtain ⟨⟨bt221_1,bt221_2⟩,c7,h8⟩:=bd_ h6
    try dsimp only at h8
    obtain ⟨t224,c9,h10⟩:=bd_ h8
    refine mid (hn:=hn127) 13 3 [.val (.bool true),.val (.int .i64 (wrap64 (x2 + 1))),.callH [1000000] (vi bt215_1) [(1000000,.box (.agg [.sl (iI .u8 s0_0),vi bt215_2,.val (.int .u64 bt215_3)]))],.val (.int .i64 (wrap64 (x2 + 1))),.callH [1000000] (vi bt218_1) [(1000000,.box (.agg [.sl (iI .u8 s0_0),vi bt218_2,.val (.int .u64 bt218_3)]))],.call (.agg [vi bt221_1,vi bt221_2]),.call (vi t224)] (And.intro (int_gtr (P:=Tryz.prog) (t:=3) (k:=.i64) (x:=(.tmp 14)) (y:=(.const (.int .i64 0))) (a:=x8) (b:=0) (v:=true) (decide_eq_true g1)) (And.intro (And.intro (int_add (P:=Tryz.prog) (t:=3) (k:=.i64) (x:=(.tmp 19)) (y:=(.const (.int .i64 1))) (a:=x2) (b:=1) (c:=(wrap64 (x2 + 1))) (IntWalk.i64_left _)) (And.intro (CallH.ren [(1000000,1000000)] rfl rfl (ad_66 c3)) (And.intro (int_add (P:=Tryz.prog) (t:=3) (k:=.i64) (x:=(.tmp 23)) (y:=(.const (.int .i64 1))) (a:=x2) (b:=1) (c:=(wrap64 (x2 + 1))) (IntWalk.i64_left _)) (And.intro (CallH.ren [(1000000,1000000)] rfl rfl (ad_66 c5)) (ad_109 c7))))) (ad_71 c9))) (by kernel_rfl) ?_
    rcases ite_ h10 with ⟨g11,h12⟩ | ⟨g11,h12⟩
    ·obtain ⟨g13,h14⟩:=ip_ h12
     exact leafBack (hn:=hn127) 7 [.val (.bool true),.go,.elem (.ow false 64 (iS64 (x7 ++ ([(⟨bt221_1,bt221_2⟩ : S64)])))),.val (.int .i64 (wrap64 (x8 - 1)))] [(43,70)] (q127_l0_mk s0_0 s0_1 s0_2 h14) (Nat.lt_succ_self k) (And.intro (int_lss (P:=Tryz.prog) (t:=3) (k:=.i64) (x:=(.tmp 29)) (y:=(.const (.int .i64 0))) (a:=t224) (b:=0) (v:=true) (decide_eq_true g11)) (And.intro (iS64_app (N:=8796093022208) (b:=16) (xs:=x7) (ys:=[(⟨bt221_1,bt221_2⟩ : S64)]) (by decide) (Nat.succ_le_of_lt g13)) (int_sub (P:=Tryz.prog) (t:=3) (k:=.i64) (x:=(.tmp 16)) (y:=(.const (.int .i64 1))) (a:=x8) (b:=1) (c:=(wrap64 (x8 - 1))) (IntWalk.i64_left _)))) (by kernel_rfl)
    ·exact leafBack (hn:=hn127) 7 [.val (.bool false),.val (.int .i64 (wrap64 (x8 - 1)))] [] (q127_l0_mk s0_0 s0_1 s0_2 h12) (Nat.lt_succ_self k) (And.intro (int_lss (P:=Tryz.prog) (t:=3) (k:=.i64) (x:=(.tmp 29)) (y:=(.const (.int .i64 0))) (a:=t224) (b:=0) (v:=false) (decide_eq_false g11)) (int_sub (P:=Tryz.prog) (t:=3) (k:=.i64) (x:=(.tmp 16)) (y:=(.const (.int .i64 1))) (a:=x8) (b:=1) (c:=(wrap64 (x8 - 1))) (IntWalk.i64_left _))) (by kernel_rfl)
   ·obtain rfl:=Option.some.inj h2
    exact leafRet (hn:=hn127) 14 [.val (.bool false)] [(500000,43)] .ret (.inr rfl) (by kernel_rfl) (int_gtr (P:=Tryz.prog) (t:=3) (k:=.i64) (x:=(.tmp 14)) (y:=(.const (.int .i64 0))) (a:=x8) (b:=0) (v:=false) (decide_eq_false g1)) (by kernel_rfl))
theorem ad_127 {k:Nat} {s0_0:List Int} {s0_1:Int} {s0_2:Int} {a1:Int} {a2:Int} {r1:List (S64)} {r2:Int} {r3:Int} (h:spec_l1Cur_sureHand.f k s0_0 s0_1 s0_2 a1 a2 = some (r1,r2,r3)):CallH Tryz.prog 127 [.loc 1000000 0,vi a1,vi a2] [(1000000,.box (.agg [.sl (iI .u8 s0_0),vi s0_1,.val (.int .u64 s0_2)]))] (.row 500000) [(1000000,.box (.agg [.sl (iI .u8 s0_0),vi r2,.val (.int .u64 r3)])),(500000,.ow false 64 (iS64 r1))]:=by
 unfold spec_l1Cur_sureHand.f at h
 refine call_ok (c:=bodyOf Tryz.f127) (rs:=o127 (r1,r2,r3) s0_0 s0_1 s0_2) (post:=p127 (r1,r2,r3) s0_0 s0_1 s0_2) Tryz.func127 rfl rfl rfl (by kernel_rfl) ?_
 show AtP Tryz.prog 36 (bodyOf Tryz.f127) (KR Tryz.prog Tryz.f127.results.toList (o127 (r1,r2,r3) s0_0 s0_1 s0_2) (p127 (r1,r2,r3) s0_0 s0_1 s0_2)) [] [] (lookA [(0,.loc 1000000 0),(1,vi a1),(2,vi a2),(1000000,.box (.agg [.sl (iI .u8 s0_0),vi s0_1,.val (.int .u64 s0_2)]))])
 refine at_ (hn:=hn127) ?_
 obtain ⟨⟨bt212_1,bt212_2,bt212_3⟩,c1,h2⟩:=bd_ h
 try dsimp only at h2
 exact leafAt (hn:=hn127) 11 [.nil false 64,.nil false 64,.val (.int .i64 (wrap64 (a1 + 1))),.callH [1000000] (vi bt212_1) [(1000000,.box (.agg [.sl (iI .u8 s0_0),vi bt212_2,.val (.int .u64 bt212_3)]))]] [] (at127_l0 _ _ (q127_l0_mk s0_0 s0_1 s0_2 h2)) (And.intro (int_add (P:=Tryz.prog) (t:=3) (k:=.i64) (x:=(.tmp 11)) (y:=(.const (.int .i64 1))) (a:=a1) (b:=1) (c:=(wrap64 (a1 + 1))) (IntWalk.i64_left _)) (CallH.ren [(1000000,1000000)] rfl rfl (ad_66 c1))) (by kernel_rfl)

def hn128:Hint:=⟨[(2,[19]),(3,[1000000]),(5,[1000000]),(6,[23]),(8,[1000000]),(9,[26]),(12,[1000000]),(14,[1000000])],[]⟩
def o128 (r:Int × Int × Int × Int) (s0_0:List Int) (s0_1:Int) (s0_2:Int):List AV:=[.agg [vi r.1,vi r.2.1]]
def p128 (r:Int × Int × Int × Int) (s0_0:List Int) (s0_1:Int) (s0_2:Int):List (Nat × AV):=[(1000000,.box (.agg [.sl (iI .u8 s0_0),vi r.2.2.1,.val (.int .u64 r.2.2.2)]))]
theorem ad_128 {s0_0:List Int} {s0_1:Int} {s0_2:Int} {r1:Int} {r2:Int} {r3:Int} {r4:Int} (h:spec_l1Cur_tile.f s0_0 s0_1 s0_2 = some (r1,r2,r3,r4)):CallH Tryz.prog 128 [.loc 1000000 0] [(1000000,.box (.agg [.sl (iI .u8 s0_0),vi s0_1,.val (.int .u64 s0_2)]))] (.agg [vi r1,vi r2]) [(1000000,.box (.agg [.sl (iI .u8 s0_0),vi r3,.val (.int .u64 r4)]))]:=by
 unfold spec_l1Cur_tile.f at h
 refine call_ok (c:=bodyOf Tryz.f128) (rs:=o128 (r1,r2,r3,r4) s0_0 s0_1 s0_2) (post:=p128 (r1,r2,r3,r4) s0_0 s0_1 s0_2) Tryz.func128 rfl rfl rfl (by kernel_rfl) ?_
 show AtP Tryz.prog 17 (bodyOf Tryz.f128) (KR Tryz.prog Tryz.f128.results.toList (o128 (r1,r2,r3,r4) s0_0 s0_1 s0_2) (p128 (r1,r2,r3,r4) s0_0 s0_1 s0_2)) [] [] (lookA [(0,.loc 1000000 0),(1000000,.box (.agg [.sl (iI .u8 s0_0),vi s0_1,.val (.int .u64 s0_2)]))])
 refine at_ (hn:=hn128) ?_
 obtain ⟨⟨bt229_1,bt229_2,bt229_3⟩,c1,h2⟩:=bd_ h
 try dsimp only at h2
 rcases ite_ h2 with ⟨g3,h4⟩ | ⟨g3,h4⟩
 ·subst g3
  obtain ⟨⟨bt235_1,bt235_2,bt235_3⟩,c5,h6⟩:=bd_ h4
  obtain ⟨⟨bt241_1,bt241_2,bt241_3⟩,c7,h8⟩:=bd_ h6
  try dsimp only at h8
  obtain ⟨rfl,rfl,rfl,rfl⟩:=pr4_ h8
  exact leafRet (hn:=hn128) 13 [.callH [1000000] (vb true) [(1000000,.box (.agg [.sl (iI .u8 s0_0),vi bt229_2,.val (.int .u64 bt229_3)]))],.go,.callH [1000000] (vi bt235_1) [(1000000,.box (.agg [.sl (iI .u8 s0_0),vi bt235_2,.val (.int .u64 bt235_3)]))],.go,.callH [1000000] (vi bt241_1) [(1000000,.box (.agg [.sl (iI .u8 s0_0),vi bt241_2,.val (.int .u64 bt241_3)]))],.elem (.agg [vi bt235_1,vi bt241_1])] [] .ret (.inr rfl) (by kernel_rfl) (And.intro (CallH.ren [(1000000,1000000)] rfl rfl (ad_64 c1)) (And.intro (CallH.ren [(1000000,1000000)] rfl rfl (ad_105 c5)) (And.intro (CallH.ren [(1000000,1000000)] rfl rfl (ad_105 c7)) (build_64_2 (p0:=bt235_1) (p1:=bt241_1))))) (by kernel_rfl)
 ·obtain rfl:=Bool.eq_false_iff.2 g3
  obtain ⟨⟨bt244_1,bt244_2,bt244_3⟩,c9,h10⟩:=bd_ h4
  obtain ⟨⟨bt247_1,bt247_2,bt247_3⟩,c11,h12⟩:=bd_ h10
  obtain ⟨⟨bt250_1,bt250_2⟩,c13,h14⟩:=bd_ h12
  try dsimp only at h14
  obtain ⟨rfl,rfl,rfl,rfl⟩:=pr4_ h14
  exact leafRet (hn:=hn128) 14 [.callH [1000000] (vb false) [(1000000,.box (.agg [.sl (iI .u8 s0_0),vi bt229_2,.val (.int .u64 bt229_3)]))],.callH [1000000] (vi bt244_1) [(1000000,.box (.agg [.sl (iI .u8 s0_0),vi bt244_2,.val (.int .u64 bt244_3)]))],.callH [1000000] (vi bt247_1) [(1000000,.box (.agg [.sl (iI .u8 s0_0),vi bt247_2,.val (.int .u64 bt247_3)]))],.call (.agg [vi bt250_1,vi bt250_2])] [] .ret (.inr rfl) (by kernel_rfl) (And.intro (CallH.ren [(1000000,1000000)] rfl rfl (ad_64 c1)) (And.intro (CallH.ren [(1000000,1000000)] rfl rfl (ad_66 c9)) (And.intro (CallH.ren [(1000000,1000000)] rfl rfl (ad_66 c11)) (ad_109 c13)))) (by kernel_rfl)

def hn106:Hint:=⟨[(8,[1000000]),(12,[1000000]),(16,[55]),(17,[1000000]),(19,[63]),(23,[55]),(26,[55]),(27,[55]),(30,[74]),(34,[1000000]),(39,[83]),(41,[85])],[]⟩
def o106 (r:(List (S64)) × Int × Int) (s0_0:List Int) (s0_1:Int) (s0_2:Int):List AV:=[.sl (iS64 r.1)]
def p106 (r:(List (S64)) × Int × Int) (s0_0:List Int) (s0_1:Int) (s0_2:Int):List (Nat × AV):=[(1000000,.box (.agg [.sl (iI .u8 s0_0),vi r.2.1,.val (.int .u64 r.2.2)]))]
theorem ad_106 {k:Nat} {s0_0:List Int} {s0_1:Int} {s0_2:Int} {a1:Int} {a2:Int} {r1:List (S64)} {r2:Int} {r3:Int} (h:spec_l1Cur_hand.f k s0_0 s0_1 s0_2 a1 a2 = some (r1,r2,r3)):CallH Tryz.prog 106 [.loc 1000000 0,vi a1,vi a2] [(1000000,.box (.agg [.sl (iI .u8 s0_0),vi s0_1,.val (.int .u64 s0_2)]))] (.sl (iS64 r1)) [(1000000,.box (.agg [.sl (iI .u8 s0_0),vi r2,.val (.int .u64 r3)]))]:=by
 unfold spec_l1Cur_hand.f at h
 refine call_ok (c:=bodyOf Tryz.f106) (rs:=o106 (r1,r2,r3) s0_0 s0_1 s0_2) (post:=p106 (r1,r2,r3) s0_0 s0_1 s0_2) Tryz.func106 rfl rfl rfl (by kernel_rfl) ?_
 show AtP Tryz.prog 44 (bodyOf Tryz.f106) (KR Tryz.prog Tryz.f106.results.toList (o106 (r1,r2,r3) s0_0 s0_1 s0_2) (p106 (r1,r2,r3) s0_0 s0_1 s0_2)) [] [] (lookA [(0,.loc 1000000 0),(1,vi a1),(2,vi a2),(1000000,.box (.agg [.sl (iI .u8 s0_0),vi s0_1,.val (.int .u64 s0_2)]))])
 refine at_ (hn:=hn106) ?_
 obtain ⟨⟨bt252_1,bt252_2,bt252_3⟩,c1,h2⟩:=bd_ h
 obtain ⟨⟨bt257_1,bt257_2,bt257_3⟩,c3,h4⟩:=bd_ h2
 try dsimp only at h4
 refine mid (hn:=hn106) 8 1 [.goT,.callH [1000000] (.row 55) [(1000000,.box (.agg [.sl (iI .u8 s0_0),vi bt252_2,.val (.int .u64 bt252_3)])),(55,.ow false 64 (iS64 bt252_1))]] (CallH.ren [(500000,55),(1000000,1000000)] rfl rfl (ad_127 c1)) (by kernel_rfl) ?_
 rcases ite_ h4 with ⟨g5,h6⟩ | ⟨g5,h6⟩
 ·obtain ⟨⟨bt260_1,bt260_2,bt260_3,bt260_4⟩,c7,h8⟩:=bd_ h6
  try dsimp only at h8
  obtain ⟨g9,h10⟩:=ip_ h8
  obtain ⟨rfl,rfl,rfl⟩:=pr3_ h10
  exact leafRet (hn:=hn106) 13 [.callH [1000000] (vi bt257_1) [(1000000,.box (.agg [.sl (iI .u8 s0_0),vi bt257_2,.val (.int .u64 bt257_3)]))],.val (.bool true),.callH [1000000] (.agg [vi bt260_1,vi bt260_2]) [(1000000,.box (.agg [.sl (iI .u8 s0_0),vi bt260_3,.val (.int .u64 bt260_4)]))],.go,.elem (.ow false 64 (iS64 (bt252_1 ++ ([(⟨bt260_1,bt260_2⟩ : S64)]))))] [] .ret (.inr rfl) (by kernel_rfl) (And.intro (CallH.ren [(1000000,1000000)] rfl rfl (ad_66 c3)) (And.intro (int_eql (P:=Tryz.prog) (t:=3) (k:=.i64) (x:=(.tmp 13)) (y:=(.const (.int .i64 0))) (a:=bt257_1) (b:=0) (v:=true) (beq_iff_eq.2 g5)) (And.intro (CallH.ren [(1000000,1000000)] rfl rfl (ad_128 c7)) (iS64_app (N:=8796093022208) (b:=16) (xs:=bt252_1) (ys:=[(⟨bt260_1,bt260_2⟩ : S64)]) (by decide) (Nat.succ_le_of_lt g9))))) (by kernel_rfl)
 ·refine mid (hn:=hn106) 4 1 [.callH [1000000] (vi bt257_1) [(1000000,.box (.agg [.sl (iI .u8 s0_0),vi bt257_2,.val (.int .u64 bt257_3)]))],.val (.bool false)] (And.intro (CallH.ren [(1000000,1000000)] rfl rfl (ad_66 c3)) (int_eql (P:=Tryz.prog) (t:=3) (k:=.i64) (x:=(.tmp 13)) (y:=(.const (.int .i64 0))) (a:=bt257_1) (b:=0) (v:=false) (beq_false_of_ne g5))) (by kernel_rfl) ?_
  rcases ite_ h6 with ⟨g11,h12⟩ | ⟨g11,h12⟩
  ·refine mid (hn:=hn106) 8 2 [.val (.bool true),.val (.int .i64 (bt252_1.length:Int))] (And.intro (int_eql (P:=Tryz.prog) (t:=3) (k:=.i64) (x:=(.tmp 13)) (y:=(.const (.int .i64 1))) (a:=bt257_1) (b:=1) (v:=true) (beq_iff_eq.2 g11)) (iS64_len (xs:=bt252_1))) (by kernel_rfl) ?_
   rcases ite_ h12 with ⟨g13,h14⟩ | ⟨g13,h14⟩
   ·obtain ⟨g15,h16⟩:=ip_ h14
    obtain ⟨g17,h18⟩:=ip_ h16
    obtain ⟨rfl,rfl,rfl⟩:=pr3_ h18
    exact leafRet (hn:=hn106) 9 [.val (.bool true),.elem (.agg [vi ((rd_T64 bt252_1 0).f0),vi ((rd_T64 bt252_1 0).f1)]),.go,.elem (.ow false 64 (iS64 (bt252_1 ++ ([(⟨(rd_T64 bt252_1 0).f0,(rd_T64 bt252_1 0).f1⟩ : S64)]))))] [] .ret (.inr rfl) (by kernel_rfl) (And.intro (int_gtr (P:=Tryz.prog) (t:=3) (k:=.i64) (x:=(.tmp 24)) (y:=(.const (.int .i64 0))) (a:=(bt252_1.length:Int)) (b:=0) (v:=true) (decide_eq_true (by omega))) (And.intro (iS64_rd (xs:=bt252_1) (i:=0) (by decide) g15) (iS64_app (N:=8796093022208) (b:=16) (xs:=bt252_1) (ys:=[(⟨(rd_T64 bt252_1 0).f0,(rd_T64 bt252_1 0).f1⟩ : S64)]) (by decide) (Nat.succ_le_of_lt g17)))) (by kernel_rfl)
   ·obtain ⟨rfl,rfl,rfl⟩:=pr3_ h14
    exact leafRet (hn:=hn106) 10 [.val (.bool false)] [] .ret (.inr rfl) (by kernel_rfl) (int_gtr (P:=Tryz.prog) (t:=3) (k:=.i64) (x:=(.tmp 24)) (y:=(.const (.int .i64 0))) (a:=(bt252_1.length:Int)) (b:=0) (v:=false) (decide_eq_false g13)) (by kernel_rfl)
  ·refine mid (hn:=hn106) 4 1 [.val (.bool false)] (int_eql (P:=Tryz.prog) (t:=3) (k:=.i64) (x:=(.tmp 13)) (y:=(.const (.int .i64 1))) (a:=bt257_1) (b:=1) (v:=false) (beq_false_of_ne g11)) (by kernel_rfl) ?_
   rcases ite_ h12 with ⟨g19,h20⟩ | ⟨g19,h20⟩
   ·obtain ⟨⟨bt271_1,bt271_2,bt271_3⟩,c21,h22⟩:=bd_ h20
    try dsimp only at h22
    obtain ⟨t274,c23,h24⟩:=bd_ h22
    obtain ⟨rfl,rfl,rfl⟩:=pr3_ h24
    exact leafRet (hn:=hn106) 13 [.val (.bool true),.callH [1000000] (vi bt271_1) [(1000000,.box (.agg [.sl (iI .u8 s0_0),vi bt271_2,.val (.int .u64 bt271_3)]))],.callH [] (.row 80) [(80,.ow false 64 (iS64 t274))]] [] .ret (.inr rfl) (by kernel_rfl) (And.intro (int_eql (P:=Tryz.prog) (t:=3) (k:=.i64) (x:=(.tmp 13)) (y:=(.const (.int .i64 2))) (a:=bt257_1) (b:=2) (v:=true) (beq_iff_eq.2 g19)) (And.intro (CallH.ren [(1000000,1000000)] rfl rfl (ad_66 c21)) (CallH.ren [(500000,80)] rfl rfl (ad_129 c23)))) (by kernel_rfl)
   ·refine mid (hn:=hn106) 4 1 [.val (.bool false)] (int_eql (P:=Tryz.prog) (t:=3) (k:=.i64) (x:=(.tmp 13)) (y:=(.const (.int .i64 2))) (a:=bt257_1) (b:=2) (v:=false) (beq_false_of_ne g19)) (by kernel_rfl) ?_
    rcases ite_ h20 with ⟨g25,h26⟩ | ⟨g25,h26⟩
    ·obtain ⟨t277,c27,h28⟩:=bd_ h26
     obtain ⟨g29,h30⟩:=ip_ h28
     obtain ⟨rfl,rfl,rfl⟩:=pr3_ h30
     exact leafRet (hn:=hn106) 13 [.val (.bool true),.callH [] (.row 83) [(83,.ow false 64 (iS64 t277))],.go,.go,.elem (.ow false 64 (iS64 (t277 ++ ([(⟨0,0⟩ : S64)]))))] [] .ret (.inr rfl) (by kernel_rfl) (And.intro (int_eql (P:=Tryz.prog) (t:=3) (k:=.i64) (x:=(.tmp 13)) (y:=(.const (.int .i64 3))) (a:=bt257_1) (b:=3) (v:=true) (beq_iff_eq.2 g25)) (And.intro (CallH.ren [(500000,83)] rfl rfl (ad_129 c27)) (iS64_app (N:=8796093022208) (b:=16) (xs:=t277) (ys:=[(⟨0,0⟩ : S64)]) (by decide) (Nat.succ_le_of_lt g29)))) (by kernel_rfl)
    ·obtain ⟨rfl,rfl,rfl⟩:=pr3_ h26
     exact leafRet (hn:=hn106) 14 [.val (.bool false)] [] .ret (.inr rfl) (by kernel_rfl) (int_eql (P:=Tryz.prog) (t:=3) (k:=.i64) (x:=(.tmp 13)) (y:=(.const (.int .i64 3))) (a:=bt257_1) (b:=3) (v:=false) (beq_false_of_ne g25)) (by kernel_rfl)

def hn63:Hint:=⟨[(2,[57]),(3,[58,61,116]),(4,[59]),(5,[1000000]),(6,[61,116]),(7,[1000000]),(11,[58,61,116]),(12,[61,116]),(13,[1000000]),(14,[58,61,116]),(15,[61,116]),(18,[1000000]),(19,[74]),(21,[61,116]),(24,[58,61,116]),(25,[61,116]),(27,[58,61,116]),(30,[58,61,116]),(31,[61]),(34,[58,61,116]),(35,[61]),(36,[61]),(38,[58,61,116]),(39,[61]),(40,[58,61,116]),(41,[61]),(42,[61]),(44,[61]),(45,[58,61,116]),(46,[61]),(48,[61]),(51,[1000000]),(53,[58,61,116]),(54,[61,116])],[]⟩
def o63 (r:(List (S64)) × List Int × Int × Int) (s0_0:List Int) (s0_1:Int) (s0_2:Int):List AV:=[.agg [.sl (iS64 r.1),.sl (iI .i64 r.2.1)]]
def p63 (r:(List (S64)) × List Int × Int × Int) (s0_0:List Int) (s0_1:Int) (s0_2:Int):List (Nat × AV):=[(1000000,.box (.agg [.sl (iI .u8 s0_0),vi r.2.2.1,.val (.int .u64 r.2.2.2)]))]
theorem ad_63 {k:Nat} {s0_0:List Int} {s0_1:Int} {s0_2:Int} {r1:List (S64)} {r2:List Int} {r3:Int} {r4:Int} (h:spec_l1Cur_puzzle.f k s0_0 s0_1 s0_2 = some (r1,r2,r3,r4)):CallH Tryz.prog 63 [.loc 1000000 0] [(1000000,.box (.agg [.sl (iI .u8 s0_0),vi s0_1,.val (.int .u64 s0_2)]))] (.agg [.sl (iS64 r1),.sl (iI .i64 r2)]) [(1000000,.box (.agg [.sl (iI .u8 s0_0),vi r3,.val (.int .u64 r4)]))]:=by
 unfold spec_l1Cur_puzzle.f at h
 refine call_ok (c:=bodyOf Tryz.f63) (rs:=o63 (r1,r2,r3,r4) s0_0 s0_1 s0_2) (post:=p63 (r1,r2,r3,r4) s0_0 s0_1 s0_2) Tryz.func63 rfl rfl rfl (by kernel_rfl) ?_
 show AtP Tryz.prog 55 (bodyOf Tryz.f63) (KR Tryz.prog Tryz.f63.results.toList (o63 (r1,r2,r3,r4) s0_0 s0_1 s0_2) (p63 (r1,r2,r3,r4) s0_0 s0_1 s0_2)) [] [] (lookA [(0,.loc 1000000 0),(1000000,.box (.agg [.sl (iI .u8 s0_0),vi s0_1,.val (.int .u64 s0_2)]))])
 refine at_ (hn:=hn63) ?_
 obtain ⟨⟨bt284_1,bt284_2,bt284_3,bt284_4⟩,c1,h2⟩:=bd_ h
 obtain ⟨⟨bt293_1,bt293_2,bt293_3⟩,c3,h4⟩:=bd_ h2
 try dsimp only at h4
 refine mid (hn:=hn63) 8 1 [.callH [1000000] (.agg [.row 61,.row 116]) [(1000000,.box (.agg [.sl (iI .u8 s0_0),vi bt284_3,.val (.int .u64 bt284_4)])),(61,.ow true 64 (iS64 bt284_1)),(116,.ow true 3 (iI .i64 bt284_2))]] (CallH.ren [(500000,61),(500001,116),(1000000,1000000)] rfl rfl (ad_72 c1)) (by kernel_rfl) ?_
 rcases ite_ h4 with ⟨g5,h6⟩ | ⟨g5,h6⟩
 ·obtain ⟨⟨bt296_1,bt296_2,bt296_3⟩,c7,h8⟩:=bd_ h6
  obtain ⟨⟨bt302_1,bt302_2,bt302_3⟩,c9,h10⟩:=bd_ h8
  try dsimp only at h10
  obtain ⟨g11,h12⟩:=ip_ h10
  obtain ⟨g13,h14⟩:=ip_ h12
  obtain ⟨rfl,rfl,rfl,rfl⟩:=pr4_ h14
  exact leafRet (hn:=hn63) 14 [.callH [1000000] (vi bt293_1) [(1000000,.box (.agg [.sl (iI .u8 s0_0),vi bt293_2,.val (.int .u64 bt293_3)]))],.val (.bool true),.val (.int .i64 (bt284_2.length:Int)),.callH [1000000] (vi bt296_1) [(1000000,.box (.agg [.sl (iI .u8 s0_0),vi bt296_2,.val (.int .u64 bt296_3)]))],.go,.callH [1000000] (vi bt302_1) [(1000000,.box (.agg [.sl (iI .u8 s0_0),vi bt302_2,.val (.int .u64 bt302_3)]))],.go,.elem (vi (rd bt284_2 bt296_1)),.elem (.ow true 3 (iI .i64 (bt284_2.set ((bt296_1:Int).toNat) bt302_1))),.fz 61,.fz 116] [] .ret (.inr rfl) (by kernel_rfl) (And.intro (CallH.ren [(1000000,1000000)] rfl rfl (ad_66 c3)) (And.intro (int_eql (P:=Tryz.prog) (t:=3) (k:=.i64) (x:=(.tmp 8)) (y:=(.const (.int .i64 0))) (a:=bt293_1) (b:=0) (v:=true) (beq_iff_eq.2 g5)) (And.intro (iI_len (k:=.i64) (xs:=bt284_2)) (And.intro (CallH.ren [(1000000,1000000)] rfl rfl (ad_66 c7)) (And.intro (CallH.ren [(1000000,1000000)] rfl rfl (ad_105 c9)) (And.intro (iI_lt (k:=.i64) (xs:=bt284_2) (i:=bt296_1) g11 g13) (iI_set (k:=.i64) (xs:=bt284_2) (i:=bt296_1) (x:=bt302_1) g11 g13))))))) (by kernel_rfl)
 ·refine mid (hn:=hn63) 4 1 [.callH [1000000] (vi bt293_1) [(1000000,.box (.agg [.sl (iI .u8 s0_0),vi bt293_2,.val (.int .u64 bt293_3)]))],.val (.bool false)] (And.intro (CallH.ren [(1000000,1000000)] rfl rfl (ad_66 c3)) (int_eql (P:=Tryz.prog) (t:=3) (k:=.i64) (x:=(.tmp 8)) (y:=(.const (.int .i64 0))) (a:=bt293_1) (b:=0) (v:=false) (beq_false_of_ne g5))) (by kernel_rfl) ?_
  rcases ite_ h6 with ⟨g15,h16⟩ | ⟨g15,h16⟩
  ·obtain ⟨g17,h18⟩:=ip_ h16
   obtain ⟨rfl,rfl,rfl,rfl⟩:=pr4_ h18
   exact leafRet (hn:=hn63) 14 [.val (.bool true),.fz 61,.fz 116,.elem (.sl (iI .i64 (bt284_2.drop (1:Int).toNat)))] [] .ret (.inr rfl) (by kernel_rfl) (And.intro (int_eql (P:=Tryz.prog) (t:=3) (k:=.i64) (x:=(.tmp 8)) (y:=(.const (.int .i64 1))) (a:=bt293_1) (b:=1) (v:=true) (beq_iff_eq.2 g15)) (iI_drop (k:=.i64) (xs:=bt284_2) (a:=1) (by decide) g17)) (by kernel_rfl)
  ·refine mid (hn:=hn63) 4 1 [.val (.bool false)] (int_eql (P:=Tryz.prog) (t:=3) (k:=.i64) (x:=(.tmp 8)) (y:=(.const (.int .i64 1))) (a:=bt293_1) (b:=1) (v:=false) (beq_false_of_ne g15)) (by kernel_rfl) ?_
   rcases ite_ h16 with ⟨g19,h20⟩ | ⟨g19,h20⟩
   ·refine mid (hn:=hn63) 8 3 [.val (.bool true),.val (.int .i64 (bt284_1.length:Int))] (And.intro (int_eql (P:=Tryz.prog) (t:=3) (k:=.i64) (x:=(.tmp 8)) (y:=(.const (.int .i64 2))) (a:=bt293_1) (b:=2) (v:=true) (beq_iff_eq.2 g19)) (iS64_len (xs:=bt284_1))) (by kernel_rfl) ?_
    rcases ite_ h20 with ⟨g21,h22⟩ | ⟨g21,h22⟩
    ·obtain ⟨g23,h24⟩:=ip_ h22
     obtain ⟨g25,h26⟩:=ip_ h24
     obtain ⟨rfl,rfl,rfl,rfl⟩:=pr4_ h26
     exact leafRet (hn:=hn63) 16 [.val (.bool true),.go,.elem (.agg [vi ((rd_T64 bt284_1 0).f0),vi ((rd_T64 bt284_1 0).f1)]),.go,.elem (.agg [vi ((rd_T64 bt284_1 1).f0),vi ((rd_T64 bt284_1 1).f1)]),.go,.elem (.agg [vi ((rd_T64 bt284_1 0).f0),vi ((rd_T64 bt284_1 0).f1)]),.elem (.ow true 64 (iS64 (bt284_1.set ((0:Int).toNat) (⟨(rd_T64 bt284_1 1).f0,(rd_T64 bt284_1 1).f1⟩ : S64)))),.go,.elem (.agg [vi ((rd_T64 (bt284_1.set ((0:Int).toNat) (⟨(rd_T64 bt284_1 1).f0,(rd_T64 bt284_1 1).f1⟩ : S64)) 1).f0),vi ((rd_T64 (bt284_1.set ((0:Int).toNat) (⟨(rd_T64 bt284_1 1).f0,(rd_T64 bt284_1 1).f1⟩ : S64)) 1).f1)]),.elem (.ow true 64 (iS64 ((bt284_1.set ((0:Int).toNat) (⟨(rd_T64 bt284_1 1).f0,(rd_T64 bt284_1 1).f1⟩ : S64)).set ((1:Int).toNat) (⟨(rd_T64 bt284_1 0).f0,(rd_T64 bt284_1 0).f1⟩ : S64)))),.fz 61,.fz 116] [] .ret (.inr rfl) (by kernel_rfl) (And.intro (int_gtr (P:=Tryz.prog) (t:=3) (k:=.i64) (x:=(.tmp 32)) (y:=(.const (.int .i64 1))) (a:=(bt284_1.length:Int)) (b:=1) (v:=true) (decide_eq_true (by omega))) (And.intro (And.intro (iS64_lt (xs:=bt284_1) (i:=0) (by decide) g23) (And.right (iS64_rd (xs:=bt284_1) (i:=0) (by decide) g23))) (And.intro (And.intro (iS64_lt (xs:=bt284_1) (i:=1) (by decide) g25) (And.intro (And.right (iS64_rd (xs:=bt284_1) (i:=1) (by decide) g25)) (And.intro (iS64_lt (xs:=bt284_1) (i:=0) (by decide) g23) (iS64_set (xs:=bt284_1) (i:=0) (x:=(⟨(rd_T64 bt284_1 1).f0,(rd_T64 bt284_1 1).f1⟩ : S64)) (by decide) g23)))) (And.intro (iS64_lt (xs:=(bt284_1.set ((0:Int).toNat) (⟨(rd_T64 bt284_1 1).f0,(rd_T64 bt284_1 1).f1⟩ : S64))) (i:=1) (by decide) (by simp only [List.length_set]; omega)) (iS64_set (xs:=(bt284_1.set ((0:Int).toNat) (⟨(rd_T64 bt284_1 1).f0,(rd_T64 bt284_1 1).f1⟩ : S64))) (i:=1) (x:=(⟨(rd_T64 bt284_1 0).f0,(rd_T64 bt284_1 0).f1⟩ : S64)) (by decide) (by simp only [List.length_set]; omega)))))) (by kernel_rfl)
    ·obtain ⟨rfl,rfl,rfl,rfl⟩:=pr4_ h22
     exact leafRet (hn:=hn63) 10 [.val (.bool false),.fz 61,.fz 116] [] .ret (.inr rfl) (by kernel_rfl) (int_gtr (P:=Tryz.prog) (t:=3) (k:=.i64) (x:=(.tmp 32)) (y:=(.const (.int .i64 1))) (a:=(bt284_1.length:Int)) (b:=1) (v:=false) (decide_eq_false g21)) (by kernel_rfl)
   ·refine mid (hn:=hn63) 4 1 [.val (.bool false)] (int_eql (P:=Tryz.prog) (t:=3) (k:=.i64) (x:=(.tmp 8)) (y:=(.const (.int .i64 2))) (a:=bt293_1) (b:=2) (v:=false) (beq_false_of_ne g19)) (by kernel_rfl) ?_
    rcases ite_ h20 with ⟨g27,h28⟩ | ⟨g27,h28⟩
    ·obtain ⟨⟨bt314_1,bt314_2,bt314_3⟩,c29,h30⟩:=bd_ h28
     try dsimp only at h30
     obtain ⟨rfl,rfl,rfl,rfl⟩:=pr4_ h30
     exact leafRet (hn:=hn63) 14 [.val (.bool true),.callH [1000000] (.sl (iS64 bt314_1)) [(1000000,.box (.agg [.sl (iI .u8 s0_0),vi bt314_2,.val (.int .u64 bt314_3)]))],.fz 116] [] .ret (.inr rfl) (by kernel_rfl) (And.intro (int_eql (P:=Tryz.prog) (t:=3) (k:=.i64) (x:=(.tmp 8)) (y:=(.const (.int .i64 3))) (a:=bt293_1) (b:=3) (v:=true) (beq_iff_eq.2 g27)) (CallH.ren [(1000000,1000000)] rfl rfl (ad_106 c29))) (by kernel_rfl)
    ·obtain ⟨rfl,rfl,rfl,rfl⟩:=pr4_ h28
     exact leafRet (hn:=hn63) 14 [.val (.bool false),.fz 61,.fz 116] [] .ret (.inr rfl) (by kernel_rfl) (int_eql (P:=Tryz.prog) (t:=3) (k:=.i64) (x:=(.tmp 8)) (y:=(.const (.int .i64 3))) (a:=bt293_1) (b:=3) (v:=false) (beq_false_of_ne g27)) (by kernel_rfl)

def hn34:Hint:=⟨[(2,[11]),(7,[15])],[]⟩
def o34 (r:(List (S64)) × List Int):List AV:=[.agg [.sl (iS64 r.1),.sl (iI .i64 r.2)]]
def p34 (r:(List (S64)) × List Int):List (Nat × AV):=[]
theorem ad_34 {k:Nat} {l0:List Int} {r1:List (S64)} {r2:List Int} (h:spec_DrawIsPuzzle.f k l0 = some (r1,r2)):CallH Tryz.prog 34 [.sl (iI .u8 l0)] [] (.agg [.sl (iS64 r1),.sl (iI .i64 r2)]) []:=by
 unfold spec_DrawIsPuzzle.f at h
 refine call_ok (c:=bodyOf Tryz.f34) (rs:=o34 (r1,r2)) (post:=p34 (r1,r2)) Tryz.func34 rfl rfl rfl (by kernel_rfl) ?_
 show AtP Tryz.prog 9 (bodyOf Tryz.f34) (KR Tryz.prog Tryz.f34.results.toList (o34 (r1,r2)) (p34 (r1,r2))) [] [] (lookA [(0,.sl (iI .u8 l0))])
 refine at_ (hn:=hn34) ?_
 obtain ⟨⟨bt321_1,bt321_2,bt321_3,bt321_4⟩,c1,h2⟩:=bd_ h
 try dsimp only at h2
 obtain ⟨rfl,rfl⟩:=pr2_ h2
 exact leafRet (hn:=hn34) 10 [.go,.callH [15] (.agg [.sl (iS64 bt321_1),.sl (iI .i64 bt321_2)]) [(15,.box (.agg [.sl (iI .u8 l0),vi bt321_3,.val (.int .u64 bt321_4)]))]] [] .ret (.inr rfl) (by kernel_rfl) (CallH.ren [(1000000,15)] rfl rfl (ad_63 c1)) (by kernel_rfl)

def hn5:Hint:=⟨[(2,[7])],[]⟩
def o5 (r:(List (S64)) × List Int):List AV:=[.agg [.sl (iS64 r.1),.sl (iI .i64 r.2)]]
def p5 (r:(List (S64)) × List Int):List (Nat × AV):=[]
theorem ad_5 {k:Nat} {l0:List Int} {r1:List (S64)} {r2:List Int} (h:spec_DrawSolutions.f k l0 = some (r1,r2)):CallH Tryz.prog 5 [.sl (iI .u8 l0)] [] (.agg [.sl (iS64 r1),.sl (iI .i64 r2)]) []:=by
 unfold spec_DrawSolutions.f at h
 refine call_ok (c:=bodyOf Tryz.f5) (rs:=o5 (r1,r2)) (post:=p5 (r1,r2)) Tryz.func5 rfl rfl rfl (by kernel_rfl) ?_
 show AtP Tryz.prog 5 (bodyOf Tryz.f5) (KR Tryz.prog Tryz.f5.results.toList (o5 (r1,r2)) (p5 (r1,r2))) [] [] (lookA [(0,.sl (iI .u8 l0))])
 refine at_ (hn:=hn5) ?_
 obtain ⟨⟨bt330_1,bt330_2⟩,c1,h2⟩:=bd_ h
 try dsimp only at h2
 obtain ⟨rfl,rfl⟩:=pr2_ h2
 exact leafRet (hn:=hn5) 7 [.call (.agg [.sl (iS64 bt330_1),.sl (iI .i64 bt330_2)])] [] .ret (.inr rfl) (by kernel_rfl) (ad_34 c1) (by kernel_rfl)

def hn45:Hint:=⟨[],[]⟩
def o45 (r:Bool):List AV:=[vb r]
def p45 (r:Bool):List (Nat × AV):=[]
theorem ad_45 {a0:Int} {a1:Int} {a2:Int} {r:Bool} (h:impl_within.f a0 a1 a2 = some r):CallH Tryz.prog 45 [vi a0,vi a1,vi a2] [] (vb r) []:=by
 unfold impl_within.f at h
 refine call_ok (c:=bodyOf Tryz.f45) (rs:=o45 r) (post:=p45 r) Tryz.func45 rfl rfl rfl (by kernel_rfl) ?_
 show AtP Tryz.prog 15 (bodyOf Tryz.f45) (KR Tryz.prog Tryz.f45.results.toList (o45 r) (p45 r)) [] [] (lookA [(0,vi a0),(1,vi a1),(2,vi a2)])
 refine at_ (hn:=hn45) ?_
 rcases ite_ h with ⟨g1,h2⟩ | ⟨g1,h2⟩
 ·obtain rfl:=Option.some.inj h2
  exact leafRet (hn:=hn45) 7 [.val (.bool true),.val (.bool (decide (a0 ≤ a2)))] [] .ret (.inr rfl) (by kernel_rfl) (And.intro (int_leq (P:=Tryz.prog) (t:=3) (k:=.i64) (x:=(.tmp 7)) (y:=(.tmp 8)) (a:=a1) (b:=a0) (v:=true) (decide_eq_true g1)) (int_leq (P:=Tryz.prog) (t:=3) (k:=.i64) (x:=(.tmp 11)) (y:=(.tmp 12)) (a:=a0) (b:=a2) (v:=(decide (a0 ≤ a2))) rfl)) (by kernel_rfl)
 ·obtain rfl:=Option.some.inj h2
  exact leafRet (hn:=hn45) 7 [.val (.bool false)] [] .ret (.inr rfl) (by kernel_rfl) (int_leq (P:=Tryz.prog) (t:=3) (k:=.i64) (x:=(.tmp 7)) (y:=(.tmp 8)) (a:=a1) (b:=a0) (v:=false) (decide_eq_false g1)) (by kernel_rfl)

def hn90:Hint:=⟨[(3,[14]),(5,[14]),(9,[14])],[]⟩
def o90 (r:Bool):List AV:=[vb r]
def p90 (r:Bool):List (Nat × AV):=[]
def hn89:Hint:=⟨[(1,[7])],[]⟩
def o89 (r:Bool):List AV:=[vb r]
def p89 (r:Bool):List (Nat × AV):=[]
def hn76:Hint:=⟨[(3,[22])],[]⟩
def o76 (r:Int):List AV:=[vi r]
def p76 (r:Int):List (Nat × AV):=[]
def q76_l0 (r:Int) (k:Nat) (L:List (Nat × AV)):Prop:=∃ (x0:List (S64)) (x7:Int) (x8:Int) (x341000:Int) (x341001:Int),L = [(0,.sl (iS64 x0)),(3,.loc 22 0),(7,vi x7),(8,vi x8),(22,.box (.agg [vi x341000,vi x341001]))] ∧ slices_Index_impl_Tile_impl_Tile.l0 k x0 x7 x8 x341000 x341001 = some r
theorem q76_l0_mk {r:Int} {k:Nat} {x0:List (S64)} {x7:Int} {x8:Int} {x341000:Int} {x341001:Int} (h:slices_Index_impl_Tile_impl_Tile.l0 k x0 x7 x8 x341000 x341001 = some r):q76_l0 r k [(0,.sl (iS64 x0)),(3,.loc 22 0),(7,vi x7),(8,vi x8),(22,.box (.agg [vi x341000,vi x341001]))]:=⟨x0,x7,x8,x341000,x341001,rfl,h⟩
theorem at76_l0 {r:Int}:∀ k L,q76_l0 r k L → AtP Tryz.prog 19 (bodyOf Tryz.f76) (KR Tryz.prog Tryz.f76.results.toList (o76 r) (p76 r)) [true,false,true,false] [] (lookA L) :=
 at_loop (by kernel_rfl) (fun _ => by kernel_rfl) (q76_l0 r) (by
  rintro k _ ⟨x0,x7,x8,x341000,x341001,rfl,h⟩
  cases k with
  | zero => simp [slices_Index_impl_Tile_impl_Tile.l0] at h
  | succ k =>
   rw [slices_Index_impl_Tile_impl_Tile.l0] at h
   refine at_ (hn:=hn76) ?_
   rcases ite_ h with ⟨g1,h2⟩ | ⟨g1,h2⟩
   ·obtain ⟨g3,h4⟩:=ip_ h2
    obtain ⟨g5,h6⟩:=ip_ h4
    refine mid (hn:=hn76) 13 5 [.val (.bool true),.elem (.agg [vi ((rd_T64 x0 x8).f0),vi ((rd_T64 x0 x8).f1)])] (And.intro (int_lss (P:=Tryz.prog) (t:=3) (k:=.i64) (x:=(.tmp 8)) (y:=(.tmp 7)) (a:=x8) (b:=x7) (v:=true) (decide_eq_true g1)) (iS64_rd (xs:=x0) (i:=x8) g3 g5)) (by kernel_rfl) ?_
    rcases ite_ h6 with ⟨g7,h8⟩ | ⟨g7,h8⟩
    ·obtain rfl:=Option.some.inj h8
     exact leafRet (hn:=hn76) 12 [.val (.bool true)] [] .ret (.inr rfl) (by kernel_rfl) (agg_64_eql (x:=(.tmp 11)) (y:=(.tmp 15)) (a0:=x341000) (b0:=((rd_T64 x0 x8).f0)) (a1:=x341001) (b1:=((rd_T64 x0 x8).f1)) (v:=true) g7) (by kernel_rfl)
    ·exact leafBack (hn:=hn76) 7 [.val (.bool false),.val (.int .i64 (wrap64 (x8 + 1)))] [] (q76_l0_mk h8) (Nat.lt_succ_self k) (And.intro (agg_64_eql (x:=(.tmp 11)) (y:=(.tmp 15)) (a0:=x341000) (b0:=((rd_T64 x0 x8).f0)) (a1:=x341001) (b1:=((rd_T64 x0 x8).f1)) (v:=false) (Bool.eq_false_iff.2 g7)) (int_add (P:=Tryz.prog) (t:=3) (k:=.i64) (x:=(.tmp 8)) (y:=(.const (.int .i64 1))) (a:=x8) (b:=1) (c:=(wrap64 (x8 + 1))) (IntWalk.i64_left _))) (by kernel_rfl)
   ·obtain rfl:=Option.some.inj h2
    exact leafRet (hn:=hn76) 14 [.val (.bool false)] [] .ret (.inr rfl) (by kernel_rfl) (int_lss (P:=Tryz.prog) (t:=3) (k:=.i64) (x:=(.tmp 8)) (y:=(.tmp 7)) (a:=x8) (b:=x7) (v:=false) (decide_eq_false g1)) (by kernel_rfl))
theorem ad_76 {k:Nat} {l0:List (S64)} {a1_0:Int} {a1_1:Int} {r:Int} (h:slices_Index_impl_Tile_impl_Tile.f k l0 a1_0 a1_1 = some r):CallH Tryz.prog 76 [.sl (iS64 l0),.agg [vi a1_0,vi a1_1]] [] (vi r) []:=by
 unfold slices_Index_impl_Tile_impl_Tile.f at h
 refine call_ok (c:=bodyOf Tryz.f76) (rs:=o76 r) (post:=p76 r) Tryz.func76 rfl rfl rfl (by kernel_rfl) ?_
 show AtP Tryz.prog 19 (bodyOf Tryz.f76) (KR Tryz.prog Tryz.f76.results.toList (o76 r) (p76 r)) [] [] (lookA [(0,.sl (iS64 l0)),(1,.agg [vi a1_0,vi a1_1])])
 refine at_ (hn:=hn76) ?_
 exact leafAt (hn:=hn76) 8 [.val (.int .i64 (l0.length:Int))] [] (at76_l0 _ _ (q76_l0_mk h)) (iS64_len (xs:=l0)) (by kernel_rfl)

def hn117:Hint:=⟨[(3,[12])],[]⟩
def o117 (r:Bool):List AV:=[vb r]
def p117 (r:Bool):List (Nat × AV):=[]
theorem ad_117 {k:Nat} {l0:List (S64)} {a1_0:Int} {a1_1:Int} {r:Bool} (h:slices_Contains_impl_Tile_impl_Tile.f k l0 a1_0 a1_1 = some r):CallH Tryz.prog 117 [.sl (iS64 l0),.agg [vi a1_0,vi a1_1]] [] (vb r) []:=by
 unfold slices_Contains_impl_Tile_impl_Tile.f at h
 refine call_ok (c:=bodyOf Tryz.f117) (rs:=o117 r) (post:=p117 r) Tryz.func117 rfl rfl rfl (by kernel_rfl) ?_
 show AtP Tryz.prog 9 (bodyOf Tryz.f117) (KR Tryz.prog Tryz.f117.results.toList (o117 r) (p117 r)) [] [] (lookA [(0,.sl (iS64 l0)),(1,.agg [vi a1_0,vi a1_1])])
 refine at_ (hn:=hn117) ?_
 obtain ⟨t343,c1,h2⟩:=bd_ h
 obtain rfl:=Option.some.inj h2
 exact leafRet (hn:=hn117) 7 [.call (vi t343),.val (.bool (decide (t343 ≥ 0)))] [] .ret (.inr rfl) (by kernel_rfl) (And.intro (ad_76 c1) (int_geq (P:=Tryz.prog) (t:=3) (k:=.i64) (x:=(.tmp 7)) (y:=(.const (.int .i64 0))) (a:=t343) (b:=0) (v:=(decide (t343 ≥ 0))) rfl)) (by kernel_rfl)

def hn91:Hint:=⟨[(4,[22])],[]⟩
def o91 (r:Bool):List AV:=[vb r]
def p91 (r:Bool):List (Nat × AV):=[]
def q91_l0 (r:Bool) (k:Nat) (L:List (Nat × AV)):Prop:=∃ (x0:List (S64)) (x5:List (S64)) (x6:Int) (x7:Int),L = [(0,.sl (iS64 x0)),(5,.sl (iS64 x5)),(6,vi x6),(7,vi x7)] ∧ impl_areDifferent_impl_Tile.l0 k x0 x5 x6 x7 = some r
theorem q91_l0_mk {r:Bool} {k:Nat} {x0:List (S64)} {x5:List (S64)} {x6:Int} {x7:Int} (h:impl_areDifferent_impl_Tile.l0 k x0 x5 x6 x7 = some r):q91_l0 r k [(0,.sl (iS64 x0)),(5,.sl (iS64 x5)),(6,vi x6),(7,vi x7)]:=⟨x0,x5,x6,x7,rfl,h⟩
theorem at91_l0 {r:Bool}:∀ k L,q91_l0 r k L → AtP Tryz.prog 18 (bodyOf Tryz.f91) (KR Tryz.prog Tryz.f91.results.toList (o91 r) (p91 r)) [true,false,true,false] [] (lookA L) :=
 at_loop (by kernel_rfl) (fun _ => by kernel_rfl) (q91_l0 r) (by
  rintro k _ ⟨x0,x5,x6,x7,rfl,h⟩
  cases k with
  | zero => simp [impl_areDifferent_impl_Tile.l0] at h
  | succ k =>
   rw [impl_areDifferent_impl_Tile.l0] at h
   refine at_ (hn:=hn91) ?_
   rcases ite_ h with ⟨g1,h2⟩ | ⟨g1,h2⟩
   ·obtain ⟨g3,h4⟩:=ip_ h2
    obtain ⟨g5,h6⟩:=ip_ h4
    obtain ⟨g7,h8⟩:=ip_ h6
    obtain ⟨t350,c9,h10⟩:=bd_ h8
    refine mid (hn:=hn91) 13 4 [.val (.bool true),.elem (.agg [vi ((rd_T64 x5 x7).f0),vi ((rd_T64 x5 x7).f1)]),.elem (.sl (iS64 (x0.take (x7:Int).toNat)))] (And.intro (int_lss (P:=Tryz.prog) (t:=3) (k:=.i64) (x:=(.tmp 7)) (y:=(.tmp 6)) (a:=x7) (b:=x6) (v:=true) (decide_eq_true g1)) (And.intro (iS64_rd (xs:=x5) (i:=x7) g3 g5) (iS64_take (xs:=x0) (b:=x7) g3 g7))) (by kernel_rfl) ?_
    rcases ite_ h10 with ⟨g11,h12⟩ | ⟨g11,h12⟩
    ·subst g11
     obtain rfl:=Option.some.inj h12
     exact leafRet (hn:=hn91) 12 [.call (vb true)] [] .ret (.inr rfl) (by kernel_rfl) (ad_117 c9) (by kernel_rfl)
    ·obtain rfl:=Bool.eq_false_iff.2 g11
     exact leafBack (hn:=hn91) 7 [.call (vb false),.val (.int .i64 (wrap64 (x7 + 1)))] [] (q91_l0_mk h12) (Nat.lt_succ_self k) (And.intro (ad_117 c9) (int_add (P:=Tryz.prog) (t:=3) (k:=.i64) (x:=(.tmp 7)) (y:=(.const (.int .i64 1))) (a:=x7) (b:=1) (c:=(wrap64 (x7 + 1))) (IntWalk.i64_left _))) (by kernel_rfl)
   ·obtain rfl:=Option.some.inj h2
    exact leafRet (hn:=hn91) 14 [.val (.bool false)] [] .ret (.inr rfl) (by kernel_rfl) (int_lss (P:=Tryz.prog) (t:=3) (k:=.i64) (x:=(.tmp 7)) (y:=(.tmp 6)) (a:=x7) (b:=x6) (v:=false) (decide_eq_false g1)) (by kernel_rfl))
theorem ad_91 {k:Nat} {l0:List (S64)} {r:Bool} (h:impl_areDifferent_impl_Tile.f k l0 = some r):CallH Tryz.prog 91 [.sl (iS64 l0)] [] (vb r) []:=by
 unfold impl_areDifferent_impl_Tile.f at h
 refine call_ok (c:=bodyOf Tryz.f91) (rs:=o91 r) (post:=p91 r) Tryz.func91 rfl rfl rfl (by kernel_rfl) ?_
 show AtP Tryz.prog 18 (bodyOf Tryz.f91) (KR Tryz.prog Tryz.f91.results.toList (o91 r) (p91 r)) [] [] (lookA [(0,.sl (iS64 l0))])
 refine at_ (hn:=hn91) ?_
 exact leafAt (hn:=hn91) 8 [.val (.int .i64 (l0.length:Int))] [] (at91_l0 _ _ (q91_l0_mk h)) (iS64_len (xs:=l0)) (by kernel_rfl)

def hn47:Hint:=⟨[(5,[22]),(7,[23]),(10,[22]),(12,[23]),(15,[22]),(17,[23])],[]⟩
def o47 (r:Int):List AV:=[vi r]
def p47 (r:Int):List (Nat × AV):=[]
def hn53:Hint:=⟨[(7,[25]),(14,[25])],[]⟩
def o53 (r:Bool):List AV:=[vb r]
def p53 (r:Bool):List (Nat × AV):=[]
theorem ad_53 {l0_0:List (S64)} {l0_1:List Int} {a1:Int} {a2:Int} {r:Bool} (h:impl_Puzzle_fits.f l0_0 l0_1 a1 a2 = some r):CallH Tryz.prog 53 [.agg [.sl (iS64 l0_0),.sl (iI .i64 l0_1)],vi a1,vi a2] [] (vb r) []:=by
 unfold impl_Puzzle_fits.f at h
 refine call_ok (c:=bodyOf Tryz.f53) (rs:=o53 r) (post:=p53 r) Tryz.func53 rfl rfl rfl (by kernel_rfl) ?_
 show AtP Tryz.prog 22 (bodyOf Tryz.f53) (KR Tryz.prog Tryz.f53.results.toList (o53 r) (p53 r)) [] [] (lookA [(0,.agg [.sl (iS64 l0_0),.sl (iI .i64 l0_1)]),(1,vi a1),(2,vi a2)])
 refine at_ (hn:=hn53) ?_
 obtain ⟨g1,h2⟩:=ip_ h
 obtain ⟨g3,h4⟩:=ip_ h2
 refine mid (hn:=hn53) 4 5 [.elem (vi (rd l0_1 a1))] (iI_rd (k:=.i64) (xs:=l0_1) (i:=a1) g1 g3) (by kernel_rfl) ?_
 rcases ite_ h4 with ⟨g5,h6⟩ | ⟨g5,h6⟩
 ·obtain rfl:=Option.some.inj h6
  exact leafRet (hn:=hn53) 3 [.val (.bool true)] [] .ret (.inr rfl) (by kernel_rfl) (int_eql (P:=Tryz.prog) (t:=3) (k:=.i64) (x:=(.tmp 11)) (y:=(.const (.int .i64 (-1)))) (a:=(rd l0_1 a1)) (b:=(-1)) (v:=true) (beq_iff_eq.2 g5)) (by kernel_rfl)
 ·obtain rfl:=Option.some.inj h6
  exact leafRet (hn:=hn53) 3 [.val (.bool false),.elem (vi (rd l0_1 a1)),.val (.bool ((rd l0_1 a1) == a2))] [] .ret (.inr rfl) (by kernel_rfl) (And.intro (int_eql (P:=Tryz.prog) (t:=3) (k:=.i64) (x:=(.tmp 11)) (y:=(.const (.int .i64 (-1)))) (a:=(rd l0_1 a1)) (b:=(-1)) (v:=false) (beq_false_of_ne g5)) (And.intro (iI_rd (k:=.i64) (xs:=l0_1) (i:=a1) g1 g3) (int_eql (P:=Tryz.prog) (t:=3) (k:=.i64) (x:=(.tmp 18)) (y:=(.tmp 19)) (a:=(rd l0_1 a1)) (b:=a2) (v:=((rd l0_1 a1) == a2)) rfl))) (by kernel_rfl)

def hn77:Hint:=⟨[(4,[16])],[]⟩
def o77 (r:Int × Int):List AV:=[.agg [vi r.1,vi r.2]]
def p77 (r:Int × Int):List (Nat × AV):=[]
theorem ad_77 {a0:Int} {a1:Int} {r1:Int} {r2:Int} (h:impl_tile.f a0 a1 = some (r1,r2)):CallH Tryz.prog 77 [vi a0,vi a1] [] (.agg [vi r1,vi r2]) []:=by
 unfold impl_tile.f at h
 refine call_ok (c:=bodyOf Tryz.f77) (rs:=o77 (r1,r2)) (post:=p77 (r1,r2)) Tryz.func77 rfl rfl rfl (by kernel_rfl) ?_
 show AtP Tryz.prog 12 (bodyOf Tryz.f77) (KR Tryz.prog Tryz.f77.results.toList (o77 (r1,r2)) (p77 (r1,r2))) [] [] (lookA [(0,vi a0),(1,vi a1)])
 refine at_ (hn:=hn77) ?_
 obtain ⟨rfl,rfl⟩:=pr2_ h
 exact leafRet (hn:=hn77) 7 [.val (.int .i64 (mn a0 a1)),.val (.int .i64 (mx a0 a1)),.elem (.agg [vi (mn a0 a1),vi (mx a0 a1)])] [] .ret (.inr rfl) (by kernel_rfl) (And.intro (min_i64_3_3_ff_3 (a:=a0) (b:=a1)) (And.intro (max_i64_3_3_ff_3 (a:=a0) (b:=a1)) (build_64_2 (p0:=(mn a0 a1)) (p1:=(mx a0 a1))))) (by kernel_rfl)

/-! ### slices.Delete of one element, at a row of the call's own -/
theorem ad_78 {l:List S64} {a1 a2:Int} {r:List S64} (h:slices_Delete_impl_Tile.f l a1 a2 = some r):CallH Tryz.prog 78 [.row 1000000,.val (.int .i64 a1),.val (.int .i64 a2)] [(1000000,.ow true 64 (iS64 l))] (.row 500000) [(500000,.ow true 64 (iS64 r))]:=by
  unfold slices_Delete_impl_Tile.f at h
  split at h
  · rename_i hc
    obtain ⟨h0,h1,rfl⟩:=hc
    obtain rfl:=Option.some.inj h
    obtain ⟨k,rfl⟩ : ∃ k:Nat,a1 = (k:Int):=⟨a1.toNat,by omega⟩
    obtain ⟨m,hm⟩ : ∃ m,l.length = m + 1:=⟨l.length - 1,by omega⟩
    refine ⟨callFunc_ok Tryz.func78 rfl rfl,fun c O vs hG hO hX hl hv hH hM => ?_⟩
    obtain ⟨sz,xs,hown,hsz,hinf,hcs,hO'⟩ : OwRep Tryz.prog c.w c.G O true 64 (iS64 l) (c.V 1000000):=hH.rep 1000000 (.ow true 64 (iS64 l)) (List.mem_singleton.2 rfl)
    match vs,hl with
    | [v0,v1,v2],_ =>
    obtain ⟨e0,_⟩:=row_inv (hv 0 _ v0 rfl rfl)
    obtain ⟨e1,_⟩:=rep_val (val_inv (hv 1 _ v1 rfl rfl))
    obtain ⟨e2,_⟩:=rep_val (val_inv (hv 2 _ v2 rfl rfl))
    have hln:(iS64 l).length = m + 1:=by rw [← hm]; simp [iS64]
    have hsz2:sz = k64.sz:=by
      have:=delT_info
      rw [hinf] at this
      exact Option.some.inj this
    rw [hln] at hown
    obtain ⟨hxl,hw | ⟨g,cap,cur,hw,hb,hg,hle,hmx,hs3,htk⟩⟩:=hown
    · omega
    · have hOg:O g = some 0:=hO' g (by rw [hw]; rfl)
      have hR:Kd.R k64 64 c.w 0 (fun _ => True) (.slice (some ⟨g,0,none⟩) (m + 1) cap) l:=by
        rw [hsz2] at hxl hs3 htk hcs
        refine ⟨fun _ _ => trivial,xs,⟨by rw [hm]; exact hxl,.inr ⟨g,cap,cur,by rw [hm],Nat.zero_le _,hg,by omega,hmx,hs3,by rw [hm]; exact htk⟩⟩,by rw [hm]; exact hxl,fun j p hj => ?_⟩
        have hc:=hcs j _ (by unfold iS64; rw [List.getElem?_map,hj]; rfl)
        have hu:=flat_64.un hc
        rw [hu]
        exact k64_mkM _ _ _ p
      rw [show v0 = .slice (some ⟨g,0,none⟩) (m + 1) cap from e0.trans hw,e1,e2]
      refine (delT c.w 0 g cap k m (fun _ => True) l (Nat.zero_le _) hm (by omega) hR).mono ?_
      rintro e w' ⟨rfl,hR',_,hg'⟩
      obtain ⟨sz',inner,ho',hp',hi',hc'⟩:=own_of flat_64 (P:=Tryz.prog) delT_info hR'
      have hgb:∀ b,b < c.w.heap.size → b ≠ g → w'.heap[b]? = c.w.heap[b]?:=fun b hb hne => hg'.block b hb (fun h => hne (Option.some.inj h))
      have hgX:=(hO g 0 hOg)
      refine ⟨_,Val c.V 500000 (.slice (some ⟨g,0,none⟩) m cap),O,rfl,⟨hg'.os,hg'.tape,hg'.output,hg'.size,fun b ho => hgb b ho.1 (fun h => ho.2 (h ▸ hgX.1))⟩,fun b r hr => ⟨fun ho => ho.2 (hO b r hr).1,Nat.lt_of_lt_of_le (hO b r hr).2 hg'.size⟩,fun b off hk => ?_,fun q x hx => ?_,.row 500000 _ _ _ (Val.same _ _ _),⟨fun q x hx => ?_,fun q q' x x' g1 g2 hne => ?_⟩⟩
      · have h9:=hG b off hk
        have hne:b ≠ g:=fun h => by
          subst h
          exact Nat.not_lt_zero _ (h9.2.1 0 hOg)
        exact ⟨cell_same (hgb b h9.1 hne),Nat.lt_of_lt_of_le h9.1 hg'.size,h9.2.1,fun _ => hk⟩
      · simp only [List.mem_singleton,Prod.mk.injEq] at hx
        obtain ⟨rfl,rfl⟩:=hx
        exact Val.ne _ _ (by decide)
      · simp only [List.mem_singleton,Prod.mk.injEq] at hx
        obtain ⟨rfl,rfl⟩:=hx
        rw [Val.same]
        exact ⟨sz',inner,ho',hp',hi',fun i x hx => hc' _ i x hx,fun b hb => by
          have:g = b:=by simpa [Value.ownBlock] using hb
          subst this
          exact hOg⟩
      · simp only [List.mem_singleton,Prod.mk.injEq] at g1 g2
        exact absurd (g1.1.trans g2.1.symm) hne
  · cases h

def grp75 (j:Nat):Prop:=(∀ {l0:List Int} {l1:List (S64)} {l2:List (List Int)} {l3:List (S64)} {l4:List Int} {r1:Bool} {r2:List (List Int)},g75_impl_Puzzle_solutions_1.f j l0 l1 l2 l3 l4 = some (r1,r2) → CallH Tryz.prog 75 [.sl (iI .i64 l0),.sl (iS64 l1),.loc 1000000 0,.loc 1000002 0,.loc 1000003 0] [(1000000,.box (.row 1000001)),(1000001,.ow false 25 (iL (iI .i64) l2)),(1000002,.box (.agg [.sl (iS64 l3),.sl (iI .i64 l4)])),(1000003,.box (.fn 75 [.loc 1000000 0,.loc 1000002 0,.loc 1000003 0]))] (vb r1) [(500100,.ow false 25 (iL (iI .i64) r2)),(1000000,.box (.row 500100)),(1000002,.box (.agg [.sl (iS64 l3),.sl (iI .i64 l4)])),(1000003,.box (.fn 75 [.loc 1000000 0,.loc 1000002 0,.loc 1000003 0]))])
theorem use_75 {j:Nat} (H:grp75 j) {l0:List Int} {l1:List (S64)} {l2:List (List Int)} {l3:List (S64)} {l4:List Int} {r1:Bool} {r2:List (List Int)} (h:g75_impl_Puzzle_solutions_1.f j l0 l1 l2 l3 l4 = some (r1,r2)):CallH Tryz.prog 75 [.sl (iI .i64 l0),.sl (iS64 l1),.loc 1000000 0,.loc 1000002 0,.loc 1000003 0] [(1000000,.box (.row 1000001)),(1000001,.ow false 25 (iL (iI .i64) l2)),(1000002,.box (.agg [.sl (iS64 l3),.sl (iI .i64 l4)])),(1000003,.box (.fn 75 [.loc 1000000 0,.loc 1000002 0,.loc 1000003 0]))] (vb r1) [(500100,.ow false 25 (iL (iI .i64) r2)),(1000000,.box (.row 500100)),(1000002,.box (.agg [.sl (iS64 l3),.sl (iI .i64 l4)])),(1000003,.box (.fn 75 [.loc 1000000 0,.loc 1000002 0,.loc 1000003 0]))]:=H h
def hn75:Hint:=⟨[(2,[74,1000000,1000001]),(3,[1000002]),(4,[700000,1000000,1000002,1000003]),(13,[1000001]),(15,[73]),(16,[74]),(17,[74]),(42,[700000,1000000,1000002,1000003]),(44,[102]),(46,[104]),(47,[105]),(49,[107]),(53,[111])],[]⟩
def o75 (r:Bool × List (List Int)) (KN:Nat) (l3:List (S64)) (l4:List Int):List AV:=[vb r.1]
def p75 (r:Bool × List (List Int)) (KN:Nat) (l3:List (S64)) (l4:List Int):List (Nat × AV):=[(500100,.ow false 25 (iL (iI .i64) r.2)),(1000000,.box (.row 500100)),(1000002,.box (.agg [.sl (iS64 l3),.sl (iI .i64 l4)])),(1000003,.box (.fn 75 [.loc 1000000 0,.loc 1000002 0,.loc 1000003 0]))]
def q75_l0 (r:Bool × List (List Int)) (KN:Nat) (l3:List (S64)) (l4:List Int) (k:Nat) (L:List (Nat × AV)):Prop:=k < KN ∧ ∃ (x0:List Int) (x1:List (S64)) (y0:List (List Int)) (x20:Int),L = [(0,.sl (iI .i64 x0)),(1,.sl (iS64 x1)),(3,.loc 1000002 0),(4,.loc 1000003 0),(20,vi x20),(700000,.ow false 25 (iL (iI .i64) y0)),(1000000,.box (.row 700000)),(1000002,.box (.agg [.sl (iS64 l3),.sl (iI .i64 l4)])),(1000003,.box (.fn 75 [.loc 1000000 0,.loc 1000002 0,.loc 1000003 0]))] ∧ g75_impl_Puzzle_solutions_1.l0 k x0 x1 l3 l4 y0 x20 = some r
theorem q75_l0_mk {r:Bool × List (List Int)} (KN:Nat) (l3:List (S64)) (l4:List Int) {k:Nat} {x0:List Int} {x1:List (S64)} {y0:List (List Int)} {x20:Int} (hkR:k < KN) (h:g75_impl_Puzzle_solutions_1.l0 k x0 x1 l3 l4 y0 x20 = some r):q75_l0 r KN l3 l4 k [(0,.sl (iI .i64 x0)),(1,.sl (iS64 x1)),(3,.loc 1000002 0),(4,.loc 1000003 0),(20,vi x20),(700000,.ow false 25 (iL (iI .i64) y0)),(1000000,.box (.row 700000)),(1000002,.box (.agg [.sl (iS64 l3),.sl (iI .i64 l4)])),(1000003,.box (.fn 75 [.loc 1000000 0,.loc 1000002 0,.loc 1000003 0]))]:=⟨hkR,x0,x1,y0,x20,rfl,h⟩
theorem at75_l0 {r:Bool × List (List Int)} {KN:Nat} {l3:List (S64)} {l4:List Int} (IH:∀ j,j < KN → grp75 j):∀ k L,q75_l0 r KN l3 l4 k L → AtP Tryz.prog 58 (bodyOf Tryz.f75) (KR Tryz.prog Tryz.f75.results.toList (o75 r KN l3 l4) (p75 r KN l3 l4)) [true,true,false,true,false] [] (lookA L) :=
 at_loop (by kernel_rfl) (fun _ => by kernel_rfl) (q75_l0 r KN l3 l4) (by
  rintro k _ ⟨hkR,x0,x1,y0,x20,rfl,h⟩
  cases k with
  | zero => simp [g75_impl_Puzzle_solutions_1.l0] at h
  | succ k =>
   rw [g75_impl_Puzzle_solutions_1.l0] at h
   have hkR:=Nat.lt_of_succ_lt hkR
   refine at_ (hn:=hn75) ?_
   rcases ite_ h with ⟨g1,h2⟩ | ⟨g1,h2⟩
   ·obtain ⟨b1,c3,h4⟩:=bd_ h2
    refine mid (hn:=hn75) 14 5 [.val (.bool true),.val (.int .i64 (x0.length:Int)),.call (vb b1)] (And.intro (int_lss (P:=Tryz.prog) (t:=3) (k:=.i64) (x:=(.tmp 20)) (y:=(.const (.int .i64 10))) (a:=x20) (b:=10) (v:=true) (decide_eq_true g1)) (And.intro (iI_len (k:=.i64) (xs:=x0)) (ad_53 c3))) (by kernel_rfl) ?_
    rcases ite_ h4 with ⟨g5,h6⟩ | ⟨g5,h6⟩
    ·subst g5
     obtain ⟨g7,h8⟩:=ip_ h6
     obtain ⟨g9,h10⟩:=ip_ h8
     obtain ⟨⟨b2_1,b2_2⟩,c11,h12⟩:=bd_ h10
     try dsimp only at h12
     obtain ⟨b3,c13,h14⟩:=bd_ h12
     refine mid (hn:=hn75) 9 1 [.val (.int .i64 (x0.length:Int)),.val (.int .i64 (wrap64 ((x0.length:Int) - 1))),.elem (vi (rd x0 (wrap64 ((x0.length:Int) - 1)))),.call (.agg [vi b2_1,vi b2_2]),.call (vi b3)] (And.intro (iI_len (k:=.i64) (xs:=x0)) (And.intro (int_sub (P:=Tryz.prog) (t:=3) (k:=.i64) (x:=(.tmp 32)) (y:=(.const (.int .i64 1))) (a:=(x0.length:Int)) (b:=1) (c:=(wrap64 ((x0.length:Int) - 1))) (IntWalk.i64_left _)) (And.intro (iI_rd (k:=.i64) (xs:=x0) (i:=(wrap64 ((x0.length:Int) - 1))) g7 g9) (And.intro (ad_77 c11) (ad_76 c13))))) (by kernel_rfl) ?_
     rcases ite_ h14 with ⟨g15,h16⟩ | ⟨g15,h16⟩
     ·obtain ⟨b4,c17,h18⟩:=bd_ h16
      obtain ⟨g19,h20⟩:=ip_ h18
      obtain ⟨b5,c21,h22⟩:=bd_ h20
      obtain ⟨b6,c23,h24⟩:=bd_ h22
      obtain ⟨⟨b7_1,b7_2⟩,c25,h26⟩:=bd_ h24
      try dsimp only at h26
      refine mid (hn:=hn75) 0 16 [.val (.bool true),.callH [] (.row 102) [(102,.ow false 3 (iI .i64 b4))],.go,.elem (.ow false 3 (iI .i64 (b4 ++ ([x20])))),.callH [] (.row 107) [(107,.ow true 64 (iS64 b5))],.val (.int .i64 (wrap64 (b3 + 1))),.callH [107] (.row 111) [(111,.ow false 64 (iS64 b6))],.callH [1000000,700000,1000002,1000003] (vb b7_1) [(112,.ow false 25 (iL (iI .i64) b7_2)),(1000000,.box (.row 112)),(1000002,.box (.agg [.sl (iS64 l3),.sl (iI .i64 l4)])),(1000003,.box (.fn 75 [.loc 1000000 0,.loc 1000002 0,.loc 1000003 0]))]] (And.intro (int_geq (P:=Tryz.prog) (t:=3) (k:=.i64) (x:=(.tmp 39)) (y:=(.const (.int .i64 0))) (a:=b3) (b:=0) (v:=true) (decide_eq_true g15)) (And.intro (CallH.ren [(500000,102)] rfl rfl (CallH.frz 500000 rfl (ad_37 c17))) (And.intro (iI_app (k:=.i64) (N:=17592186044416) (b:=8) (xs:=b4) (ys:=[x20]) (by decide) (Nat.succ_le_of_lt g19)) (And.intro (CallH.ren [(500000,107)] rfl rfl (ad_54 c21)) (And.intro (int_add (P:=Tryz.prog) (t:=3) (k:=.i64) (x:=(.tmp 51)) (y:=(.const (.int .i64 1))) (a:=b3) (b:=1) (c:=(wrap64 (b3 + 1))) (IntWalk.i64_left _)) (And.intro (CallH.ren [(500000,111),(1000000,107)] rfl rfl (CallH.frz 500000 rfl (ad_78 c23))) (CallH.ren [(500100,112),(1000000,1000000),(1000001,700000),(1000002,1000002),(1000003,1000003)] rfl rfl (use_75 (IH _ hkR) c25)))))))) (by kernel_rfl) ?_
      rcases ite_ h26 with ⟨g27,h28⟩ | ⟨g27,h28⟩
      ·subst g27
       exact leafBack (hn:=hn75) 7 [.val (.int .i64 (wrap64 (x20 + 1)))] [(700000,112)] (q75_l0_mk KN l3 l4 hkR h28) (Nat.lt_succ_self k) (int_add (P:=Tryz.prog) (t:=3) (k:=.i64) (x:=(.tmp 20)) (y:=(.const (.int .i64 1))) (a:=x20) (b:=1) (c:=(wrap64 (x20 + 1))) (IntWalk.i64_left _)) (by kernel_rfl)
      ·obtain rfl:=Bool.eq_false_iff.2 g27
       obtain rfl:=Option.some.inj h28
       exact leafRet (hn:=hn75) 12 [] [(500100,112)] .ret (.inr rfl) (by kernel_rfl) True.intro (by kernel_rfl)
     ·exact leafBack (hn:=hn75) 7 [.val (.bool false),.val (.int .i64 (wrap64 (x20 + 1)))] [] (q75_l0_mk KN l3 l4 hkR h16) (Nat.lt_succ_self k) (And.intro (int_geq (P:=Tryz.prog) (t:=3) (k:=.i64) (x:=(.tmp 39)) (y:=(.const (.int .i64 0))) (a:=b3) (b:=0) (v:=false) (decide_eq_false g15)) (int_add (P:=Tryz.prog) (t:=3) (k:=.i64) (x:=(.tmp 20)) (y:=(.const (.int .i64 1))) (a:=x20) (b:=1) (c:=(wrap64 (x20 + 1))) (IntWalk.i64_left _))) (by kernel_rfl)
    ·obtain rfl:=Bool.eq_false_iff.2 g5
     exact leafBack (hn:=hn75) 8 [.val (.int .i64 (wrap64 (x20 + 1)))] [] (q75_l0_mk KN l3 l4 hkR h6) (Nat.lt_succ_self k) (int_add (P:=Tryz.prog) (t:=3) (k:=.i64) (x:=(.tmp 20)) (y:=(.const (.int .i64 1))) (a:=x20) (b:=1) (c:=(wrap64 (x20 + 1))) (IntWalk.i64_left _)) (by kernel_rfl)
   ·obtain rfl:=Option.some.inj h2
    exact leafRet (hn:=hn75) 14 [.val (.bool false)] [(500100,700000)] .ret (.inr rfl) (by kernel_rfl) (int_lss (P:=Tryz.prog) (t:=3) (k:=.i64) (x:=(.tmp 20)) (y:=(.const (.int .i64 10))) (a:=x20) (b:=10) (v:=false) (decide_eq_false g1)) (by kernel_rfl))
theorem adR_75 {KN:Nat} (IH:∀ j,j < KN → grp75 j) {l0:List Int} {l1:List (S64)} {l2:List (List Int)} {l3:List (S64)} {l4:List Int} {r1:Bool} {r2:List (List Int)} (h:g75_impl_Puzzle_solutions_1.f KN l0 l1 l2 l3 l4 = some (r1,r2)):CallH Tryz.prog 75 [.sl (iI .i64 l0),.sl (iS64 l1),.loc 1000000 0,.loc 1000002 0,.loc 1000003 0] [(1000000,.box (.row 1000001)),(1000001,.ow false 25 (iL (iI .i64) l2)),(1000002,.box (.agg [.sl (iS64 l3),.sl (iI .i64 l4)])),(1000003,.box (.fn 75 [.loc 1000000 0,.loc 1000002 0,.loc 1000003 0]))] (vb r1) [(500100,.ow false 25 (iL (iI .i64) r2)),(1000000,.box (.row 500100)),(1000002,.box (.agg [.sl (iS64 l3),.sl (iI .i64 l4)])),(1000003,.box (.fn 75 [.loc 1000000 0,.loc 1000002 0,.loc 1000003 0]))]:=by
 obtain ⟨k,hK⟩ : ∃ k,KN = k + 1:=by
  cases KN with
  | zero => simp [g75_impl_Puzzle_solutions_1.f] at h
  | succ k => exact ⟨k,rfl⟩
 rw [hK,g75_impl_Puzzle_solutions_1.f] at h
 have hkR:k < KN:=by omega
 refine call_ok (c:=bodyOf Tryz.f75) (rs:=o75 (r1,r2) KN l3 l4) (post:=p75 (r1,r2) KN l3 l4) Tryz.func75 rfl rfl rfl (by kernel_rfl) ?_
 show AtP Tryz.prog 58 (bodyOf Tryz.f75) (KR Tryz.prog Tryz.f75.results.toList (o75 (r1,r2) KN l3 l4) (p75 (r1,r2) KN l3 l4)) [] [] (lookA [(0,.sl (iI .i64 l0)),(1,.sl (iS64 l1)),(2,.loc 1000000 0),(3,.loc 1000002 0),(4,.loc 1000003 0),(1000000,.box (.row 1000001)),(1000001,.ow false 25 (iL (iI .i64) l2)),(1000002,.box (.agg [.sl (iS64 l3),.sl (iI .i64 l4)])),(1000003,.box (.fn 75 [.loc 1000000 0,.loc 1000002 0,.loc 1000003 0]))])
 refine at_ (hn:=hn75) ?_
 refine mid (hn:=hn75) 5 2 [.val (.int .i64 (l1.length:Int))] (iS64_len (xs:=l1)) (by kernel_rfl) ?_
 rcases ite_ h with ⟨g1,h2⟩ | ⟨g1,h2⟩
 ·obtain ⟨g3,h4⟩:=ip_ h2
  obtain ⟨rfl,rfl⟩:=pr2_ h4
  exact leafRet (hn:=hn75) 11 [.val (.bool true),.go,.elem (.ow false 25 (iL (iI .i64) (l2 ++ ([l0])))),.val (.int .i64 ((l2 ++ ([l0])).length:Int)),.val (.bool (decide (((l2 ++ ([l0])).length:Int) ≤ 200)))] [(500100,74)] .ret (.inr rfl) (by kernel_rfl) (And.intro (int_eql (P:=Tryz.prog) (t:=3) (k:=.i64) (x:=(.tmp 11)) (y:=(.const (.int .i64 0))) (a:=(l1.length:Int)) (b:=0) (v:=true) (beq_iff_eq.2 g1)) (And.intro (iL_app (f:=(iI .i64)) (N:=5864062014805) (b:=24) (xs:=l2) (ys:=[l0]) (by decide) (Nat.succ_le_of_lt g3)) (And.intro (iL_len (f:=(iI .i64)) (xs:=(l2 ++ ([l0])))) (int_leq (P:=Tryz.prog) (t:=3) (k:=.i64) (x:=(.tmp 18)) (y:=(.const (.int .i64 200))) (a:=((l2 ++ ([l0])).length:Int)) (b:=200) (v:=(decide (((l2 ++ ([l0])).length:Int) ≤ 200))) rfl)))) (by kernel_rfl)
 ·exact leafAt (hn:=hn75) 10 [.val (.bool false)] [(700000,1000001)] (at75_l0 IH _ _ (q75_l0_mk KN l3 l4 hkR h2)) (int_eql (P:=Tryz.prog) (t:=3) (k:=.i64) (x:=(.tmp 11)) (y:=(.const (.int .i64 0))) (a:=(l1.length:Int)) (b:=0) (v:=false) (beq_false_of_ne g1)) (by kernel_rfl)
theorem all75 (k:Nat):grp75 k:=Nat.strongRecOn (motive:=grp75) k fun KN IH => (show grp75 KN from fun h => adR_75 IH h)
theorem ad_75 {k:Nat} {l0:List Int} {l1:List (S64)} {l2:List (List Int)} {l3:List (S64)} {l4:List Int} {r1:Bool} {r2:List (List Int)} (h:g75_impl_Puzzle_solutions_1.f k l0 l1 l2 l3 l4 = some (r1,r2)):CallH Tryz.prog 75 [.sl (iI .i64 l0),.sl (iS64 l1),.loc 1000000 0,.loc 1000002 0,.loc 1000003 0] [(1000000,.box (.row 1000001)),(1000001,.ow false 25 (iL (iI .i64) l2)),(1000002,.box (.agg [.sl (iS64 l3),.sl (iI .i64 l4)])),(1000003,.box (.fn 75 [.loc 1000000 0,.loc 1000002 0,.loc 1000003 0]))] (vb r1) [(500100,.ow false 25 (iL (iI .i64) r2)),(1000000,.box (.row 500100)),(1000002,.box (.agg [.sl (iS64 l3),.sl (iI .i64 l4)])),(1000003,.box (.fn 75 [.loc 1000000 0,.loc 1000002 0,.loc 1000003 0]))]:=use_75 (all75 k) h

def hn35:Hint:=⟨[(1,[27]),(4,[30,33]),(5,[27,30,31,33]),(7,[33]),(8,[27,30,31,33]),(16,[27,30,31,33]),(18,[44]),(19,[27])],[]⟩
def o35 (r:List (List Int) × Bool):List AV:=[.sl (iL (iI .i64) r.1),vb r.2]
def p35 (r:List (List Int) × Bool):List (Nat × AV):=[]
def q35_l0 (r:List (List Int) × Bool) (k:Nat) (L:List (Nat × AV)):Prop:=∃ (y0:List (S64)) (y1:List Int) (y2:List (List Int)) (x9:Int),L = [(1,.loc 27 0),(4,.loc 30 0),(5,.loc 31 0),(9,vi x9),(27,.box (.agg [.sl (iS64 y0),.sl (iI .i64 y1)])),(30,.box (.row 33)),(31,.box (.fn 75 [.loc 30 0,.loc 27 0,.loc 31 0])),(33,.ow false 25 (iL (iI .i64) y2))] ∧ impl_Puzzle_solutions.l0 k y0 y1 y2 x9 = some r
theorem q35_l0_mk {r:List (List Int) × Bool} {k:Nat} {y0:List (S64)} {y1:List Int} {y2:List (List Int)} {x9:Int} (h:impl_Puzzle_solutions.l0 k y0 y1 y2 x9 = some r):q35_l0 r k [(1,.loc 27 0),(4,.loc 30 0),(5,.loc 31 0),(9,vi x9),(27,.box (.agg [.sl (iS64 y0),.sl (iI .i64 y1)])),(30,.box (.row 33)),(31,.box (.fn 75 [.loc 30 0,.loc 27 0,.loc 31 0])),(33,.ow false 25 (iL (iI .i64) y2))]:=⟨y0,y1,y2,x9,rfl,h⟩
theorem at35_l0 {r:List (List Int) × Bool}:∀ k L,q35_l0 r k L → AtP Tryz.prog 26 (bodyOf Tryz.f35) (KR Tryz.prog Tryz.f35.results.toList (o35 r) (p35 r)) [true,true,true,true,false,true,false] [] (lookA L) :=
 at_loop (by kernel_rfl) (fun _ => by kernel_rfl) (q35_l0 r) (by
  rintro k _ ⟨y0,y1,y2,x9,rfl,h⟩
  cases k with
  | zero => simp [impl_Puzzle_solutions.l0] at h
  | succ k =>
   rw [impl_Puzzle_solutions.l0] at h
   refine at_ (hn:=hn35) ?_
   rcases ite_ h with ⟨g1,h2⟩ | ⟨g1,h2⟩
   ·obtain ⟨b1,c3,h4⟩:=bd_ h2
    refine mid (hn:=hn35) 13 4 [.val (.bool true),.call (vb b1)] (And.intro (int_lss (P:=Tryz.prog) (t:=3) (k:=.i64) (x:=(.tmp 9)) (y:=(.const (.int .i64 10))) (a:=x9) (b:=10) (v:=true) (decide_eq_true g1)) (ad_53 c3)) (by kernel_rfl) ?_
    rcases ite_ h4 with ⟨g5,h6⟩ | ⟨g5,h6⟩
    ·subst g5
     obtain ⟨⟨b2_1,b2_2⟩,c7,h8⟩:=bd_ h6
     try dsimp only at h8
     refine mid (hn:=hn35) 0 7 [.go,.callH [30,33,27,31] (vb b2_1) [(47,.ow false 25 (iL (iI .i64) b2_2)),(30,.box (.row 47)),(27,.box (.agg [.sl (iS64 y0),.sl (iI .i64 y1)])),(31,.box (.fn 75 [.loc 30 0,.loc 27 0,.loc 31 0]))]] (CallH.ren [(500100,47),(1000000,30),(1000001,33),(1000002,27),(1000003,31)] rfl rfl (ad_75 c7)) (by kernel_rfl) ?_
     rcases ite_ h8 with ⟨g9,h10⟩ | ⟨g9,h10⟩
     ·subst g9
      exact leafBack (hn:=hn35) 7 [.val (.int .i64 (wrap64 (x9 + 1)))] [(33,47)] (q35_l0_mk h10) (Nat.lt_succ_self k) (int_add (P:=Tryz.prog) (t:=3) (k:=.i64) (x:=(.tmp 9)) (y:=(.const (.int .i64 1))) (a:=x9) (b:=1) (c:=(wrap64 (x9 + 1))) (IntWalk.i64_left _)) (by kernel_rfl)
     ·obtain rfl:=Bool.eq_false_iff.2 g9
      obtain rfl:=Option.some.inj h10
      exact leafRet (hn:=hn35) 12 [.goT] [] .ret (.inr rfl) (by kernel_rfl) True.intro (by kernel_rfl)
    ·obtain rfl:=Bool.eq_false_iff.2 g5
     exact leafBack (hn:=hn35) 7 [.val (.int .i64 (wrap64 (x9 + 1)))] [] (q35_l0_mk h6) (Nat.lt_succ_self k) (int_add (P:=Tryz.prog) (t:=3) (k:=.i64) (x:=(.tmp 9)) (y:=(.const (.int .i64 1))) (a:=x9) (b:=1) (c:=(wrap64 (x9 + 1))) (IntWalk.i64_left _)) (by kernel_rfl)
   ·obtain rfl:=Option.some.inj h2
    exact leafRet (hn:=hn35) 14 [.val (.bool false)] [] .ret (.inr rfl) (by kernel_rfl) (int_lss (P:=Tryz.prog) (t:=3) (k:=.i64) (x:=(.tmp 9)) (y:=(.const (.int .i64 10))) (a:=x9) (b:=10) (v:=false) (decide_eq_false g1)) (by kernel_rfl))
theorem ad_35 {k:Nat} {l0:List (S64)} {l1:List Int} {r1:List (List Int)} {r2:Bool} (h:impl_Puzzle_solutions.f k l0 l1 = some (r1,r2)):CallH Tryz.prog 35 [.agg [.sl (iS64 l0),.sl (iI .i64 l1)]] [] (.tup [.sl (iL (iI .i64) r1),vb r2]) []:=by
 unfold impl_Puzzle_solutions.f at h
 refine call_ok (c:=bodyOf Tryz.f35) (rs:=o35 (r1,r2)) (post:=p35 (r1,r2)) Tryz.func35 rfl rfl rfl (by kernel_rfl) ?_
 show AtP Tryz.prog 26 (bodyOf Tryz.f35) (KR Tryz.prog Tryz.f35.results.toList (o35 (r1,r2)) (p35 (r1,r2))) [] [] (lookA [(0,.agg [.sl (iS64 l0),.sl (iI .i64 l1)])])
 refine at_ (hn:=hn35) ?_
 exact leafAt (hn:=hn35) 17 [.goT,.go] [] (at35_l0 _ _ (q35_l0_mk h)) True.intro (by kernel_rfl)

def hn6:Hint:=⟨[(1,[12])],[]⟩
def o6 (r:(List (List Int)) × Bool):List AV:=[.sl (iL (iI .i64) r.1),vb r.2]
def p6 (r:(List (List Int)) × Bool):List (Nat × AV):=[]
theorem ad_6 {k:Nat} {l0_0:List (S64)} {l0_1:List Int} {r1:List (List Int)} {r2:Bool} (h:impl_Solutions.f k l0_0 l0_1 = some (r1,r2)):CallH Tryz.prog 6 [.agg [.sl (iS64 l0_0),.sl (iI .i64 l0_1)]] [] (.tup [.sl (iL (iI .i64) r1),vb r2]) []:=by
 unfold impl_Solutions.f at h
 refine call_ok (c:=bodyOf Tryz.f6) (rs:=o6 (r1,r2)) (post:=p6 (r1,r2)) Tryz.func6 rfl rfl rfl (by kernel_rfl) ?_
 show AtP Tryz.prog 11 (bodyOf Tryz.f6) (KR Tryz.prog Tryz.f6.results.toList (o6 (r1,r2)) (p6 (r1,r2))) [] [] (lookA [(0,.agg [.sl (iS64 l0_0),.sl (iI .i64 l0_1)])])
 refine at_ (hn:=hn6) ?_
 obtain ⟨t358,c1,h2⟩:=bd_ h
 refine mid (hn:=hn6) 5 2 [.goT,.call (vb t358)] (ad_22 c1) (by kernel_rfl) ?_
 rcases ite_ h2 with ⟨g3,h4⟩ | ⟨g3,h4⟩
 ·subst g3
  obtain ⟨⟨bt359_1,bt359_2⟩,c5,h6⟩:=bd_ h4
  try dsimp only at h6
  obtain ⟨rfl,rfl⟩:=pr2_ h6
  exact leafRet (hn:=hn6) 9 [.call (.tup [.sl (iL (iI .i64) bt359_1),vb bt359_2])] [] .ret (.inr rfl) (by kernel_rfl) (ad_35 c5) (by kernel_rfl)
 ·obtain rfl:=Bool.eq_false_iff.2 g3
  obtain ⟨rfl,rfl⟩:=pr2_ h4
  exact leafRet (hn:=hn6) 8 [.goT] [] .ret (.inr rfl) (by kernel_rfl) True.intro (by kernel_rfl)

def hn40:Hint:=⟨[(4,[53]),(5,[50]),(11,[50]),(17,[50]),(20,[50]),(27,[50]),(32,[50]),(34,[83]),(42,[50])],[]⟩
def o40 (r:Bool):List AV:=[vb r]
def p40 (r:Bool):List (Nat × AV):=[]
def q40_l0 (r:Bool) (k:Nat) (L:List (Nat × AV)):Prop:=∃ (x34:List (S64)) (x35:Int) (x36:Int) (x364000:List (S64)) (x364001:List Int),L = [(1,.loc 50 0),(34,.row 83),(35,vi x35),(36,vi x36),(50,.box (.agg [.sl (iS64 x364000),.sl (iI .i64 x364001)])),(83,.ow false 64 (iS64 x34))] ∧ spec_pzGood.l0 k x34 x35 x36 x364000 x364001 = some r
theorem q40_l0_mk {r:Bool} {k:Nat} {x34:List (S64)} {x35:Int} {x36:Int} {x364000:List (S64)} {x364001:List Int} (h:spec_pzGood.l0 k x34 x35 x36 x364000 x364001 = some r):q40_l0 r k [(1,.loc 50 0),(34,.row 83),(35,vi x35),(36,vi x36),(50,.box (.agg [.sl (iS64 x364000),.sl (iI .i64 x364001)])),(83,.ow false 64 (iS64 x34))]:=⟨x34,x35,x36,x364000,x364001,rfl,h⟩
theorem at40_l0 {r:Bool}:∀ k L,q40_l0 r k L → AtP Tryz.prog 49 (bodyOf Tryz.f40) (KR Tryz.prog Tryz.f40.results.toList (o40 r) (p40 r)) [true,true,false,true,false] [] (lookA L) :=
 at_loop (by kernel_rfl) (fun _ => by kernel_rfl) (q40_l0 r) (by
  rintro k _ ⟨x34,x35,x36,x364000,x364001,rfl,h⟩
  cases k with
  | zero => simp [spec_pzGood.l0] at h
  | succ k =>
   rw [spec_pzGood.l0] at h
   refine at_ (hn:=hn40) ?_
   rcases ite_ h with ⟨g1,h2⟩ | ⟨g1,h2⟩
   ·obtain ⟨g3,h4⟩:=ip_ h2
    obtain ⟨g5,h6⟩:=ip_ h4
    obtain ⟨g7,h8⟩:=ip_ h6
    refine mid (hn:=hn40) 13 6 [.val (.bool true),.elem (.agg [vi ((rd_T64 x34 x36).f0),vi ((rd_T64 x34 x36).f1)]),.elem (.agg [vi ((rd_T64 x364000 x36).f0),vi ((rd_T64 x364000 x36).f1)])] (And.intro (int_lss (P:=Tryz.prog) (t:=3) (k:=.i64) (x:=(.tmp 36)) (y:=(.tmp 35)) (a:=x36) (b:=x35) (v:=true) (decide_eq_true g1)) (And.intro (iS64_rd (xs:=x34) (i:=x36) g3 g5) (iS64_rd (xs:=x364000) (i:=x36) g3 g7))) (by kernel_rfl) ?_
    rcases ite_ h8 with ⟨g9,h10⟩ | ⟨g9,h10⟩
    ·obtain rfl:=Option.some.inj h10
     exact leafRet (hn:=hn40) 12 [.val (.bool true)] [] .ret (.inr rfl) (by kernel_rfl) (agg_64_neq (x:=(.tmp 41)) (y:=(.tmp 46)) (a0:=((rd_T64 x34 x36).f0)) (b0:=((rd_T64 x364000 x36).f0)) (a1:=((rd_T64 x34 x36).f1)) (b1:=((rd_T64 x364000 x36).f1)) (v:=true) (by simp only [Bool.not_and]; exact g9)) (by kernel_rfl)
    ·exact leafBack (hn:=hn40) 7 [.val (.bool false),.val (.int .i64 (wrap64 (x36 + 1)))] [] (q40_l0_mk h10) (Nat.lt_succ_self k) (And.intro (agg_64_neq (x:=(.tmp 41)) (y:=(.tmp 46)) (a0:=((rd_T64 x34 x36).f0)) (b0:=((rd_T64 x364000 x36).f0)) (a1:=((rd_T64 x34 x36).f1)) (b1:=((rd_T64 x364000 x36).f1)) (v:=false) (by simp only [Bool.not_and]; exact (Bool.eq_false_iff.2 g9))) (int_add (P:=Tryz.prog) (t:=3) (k:=.i64) (x:=(.tmp 36)) (y:=(.const (.int .i64 1))) (a:=x36) (b:=1) (c:=(wrap64 (x36 + 1))) (IntWalk.i64_left _))) (by kernel_rfl)
   ·obtain rfl:=Option.some.inj h2
    exact leafRet (hn:=hn40) 14 [.val (.bool false)] [] .ret (.inr rfl) (by kernel_rfl) (int_lss (P:=Tryz.prog) (t:=3) (k:=.i64) (x:=(.tmp 36)) (y:=(.tmp 35)) (a:=x36) (b:=x35) (v:=false) (decide_eq_false g1)) (by kernel_rfl))
theorem at40_j0 {r:Bool} {k:Nat} {x31:Bool} {x364000:List (S64)} {x364001:List Int} (h:spec_pzGood.j0 k x31 x364000 x364001 = some r):AtP Tryz.prog 49 (bodyOf Tryz.f40) (KR Tryz.prog Tryz.f40.results.toList (o40 r) (p40 r)) [true,false,true] [] (lookA [(1,.loc 50 0),(31,vb x31),(50,.box (.agg [.sl (iS64 x364000),.sl (iI .i64 x364001)]))]):=by
 cases k with
 | zero => simp [spec_pzGood.j0] at h
 | succ k =>
  rw [spec_pzGood.j0] at h
  refine at_ (hn:=hn40) ?_
  rcases ite_ h with ⟨g1,h2⟩ | ⟨g1,h2⟩
  ·subst g1
   obtain rfl:=Option.some.inj h2
   exact leafRet (hn:=hn40) 6 [] [] .ret (.inr rfl) (by kernel_rfl) True.intro (by kernel_rfl)
  ·obtain rfl:=Bool.eq_false_iff.2 g1
   obtain ⟨t367,c3,h4⟩:=bd_ h2
   exact leafAt (hn:=hn40) 8 [.callH [] (.row 83) [(83,.ow false 64 (iS64 t367))],.val (.int .i64 (t367.length:Int))] [] (at40_l0 _ _ (q40_l0_mk h4)) (And.intro (CallH.ren [(500000,83)] rfl rfl (CallH.frz 500000 rfl (ad_83 c3))) (iS64_len (xs:=t367))) (by kernel_rfl)
theorem ad_40 {k:Nat} {l0_0:List (S64)} {l0_1:List Int} {r:Bool} (h:spec_pzGood.f k l0_0 l0_1 = some r):CallH Tryz.prog 40 [.agg [.sl (iS64 l0_0),.sl (iI .i64 l0_1)]] [] (vb r) []:=by
 unfold spec_pzGood.f at h
 refine call_ok (c:=bodyOf Tryz.f40) (rs:=o40 r) (post:=p40 r) Tryz.func40 rfl rfl rfl (by kernel_rfl) ?_
 show AtP Tryz.prog 49 (bodyOf Tryz.f40) (KR Tryz.prog Tryz.f40.results.toList (o40 r) (p40 r)) [] [] (lookA [(0,.agg [.sl (iS64 l0_0),.sl (iI .i64 l0_1)])])
 refine at_ (hn:=hn40) ?_
 obtain ⟨t364,c1,h2⟩:=bd_ h
 refine mid (hn:=hn40) 5 6 [.val (.int .i64 (l0_0.length:Int)),.call (vb t364)] (And.intro (iS64_len (xs:=l0_0)) (ad_80 c1)) (by kernel_rfl) ?_
 rcases ite_ h2 with ⟨g3,h4⟩ | ⟨g3,h4⟩
 ·subst g3
  obtain ⟨t365,c5,h6⟩:=bd_ h4
  refine mid (hn:=hn40) 0 6 [.call (vb t365)] (ad_81 c5) (by kernel_rfl) ?_
  rcases ite_ h6 with ⟨g7,h8⟩ | ⟨g7,h8⟩
  ·subst g7
   refine mid (hn:=hn40) 0 7 [.val (.int .i64 (l0_1.length:Int)),.val (.int .i64 (l0_0.length:Int)),.val (.int .i64 (wrap64 ((l0_0.length:Int) + 1)))] (And.intro (iI_len (k:=.i64) (xs:=l0_1)) (And.intro (iS64_len (xs:=l0_0)) (int_add (P:=Tryz.prog) (t:=3) (k:=.i64) (x:=(.tmp 22)) (y:=(.const (.int .i64 1))) (a:=(l0_0.length:Int)) (b:=1) (c:=(wrap64 ((l0_0.length:Int) + 1))) (IntWalk.i64_left _)))) (by kernel_rfl) ?_
   rcases ite_ h8 with ⟨g9,h10⟩ | ⟨g9,h10⟩
   ·obtain ⟨t366,c11,h12⟩:=bd_ h10
    exact leafAt (hn:=hn40) 2 [.val (.bool false),.call (vb t366)] [] (at40_j0 h12) (And.intro (int_neq (P:=Tryz.prog) (t:=3) (k:=.i64) (x:=(.tmp 19)) (y:=(.tmp 23)) (a:=(l0_1.length:Int)) (b:=(wrap64 ((l0_0.length:Int) + 1))) (v:=false) (nbeq_f g9)) (ad_82 c11)) (by kernel_rfl)
   ·exact leafAt (hn:=hn40) 2 [.val (.bool true)] [] (at40_j0 h10) (int_neq (P:=Tryz.prog) (t:=3) (k:=.i64) (x:=(.tmp 19)) (y:=(.tmp 23)) (a:=(l0_1.length:Int)) (b:=(wrap64 ((l0_0.length:Int) + 1))) (v:=true) (nbeq_t g9)) (by kernel_rfl)
  ·obtain rfl:=Bool.eq_false_iff.2 g7
   exact leafAt (hn:=hn40) 2 [] [] (at40_j0 h8) True.intro (by kernel_rfl)
 ·obtain rfl:=Bool.eq_false_iff.2 g3
  exact leafAt (hn:=hn40) 2 [] [] (at40_j0 h4) True.intro (by kernel_rfl)

def hn130:Hint:=⟨[(7,[35]),(14,[35]),(20,[35])],[]⟩
def o130 (r:Int):List AV:=[vi r]
def p130 (r:Int):List (Nat × AV):=[]
def q130_l0 (r:Int) (k:Nat) (L:List (Nat × AV)):Prop:=∃ (x1:Int) (x5:Int) (x8:List (S64)) (x9:Int) (x10:Int),L = [(1,vi x1),(5,vi x5),(8,.sl (iS64 x8)),(9,vi x9),(10,vi x10)] ∧ spec_tiTimes.l0 k x1 x5 x8 x9 x10 = some r
theorem q130_l0_mk {r:Int} {k:Nat} {x1:Int} {x5:Int} {x8:List (S64)} {x9:Int} {x10:Int} (h:spec_tiTimes.l0 k x1 x5 x8 x9 x10 = some r):q130_l0 r k [(1,vi x1),(5,vi x5),(8,.sl (iS64 x8)),(9,vi x9),(10,vi x10)]:=⟨x1,x5,x8,x9,x10,rfl,h⟩
theorem at130_l0 {r:Int}:∀ k L,q130_l0 r k L → AtP Tryz.prog 28 (bodyOf Tryz.f130) (KR Tryz.prog Tryz.f130.results.toList (o130 r) (p130 r)) [true,true,false,true,false] [] (lookA L) :=
 at_loop (by kernel_rfl) (fun _ => by kernel_rfl) (q130_l0 r) (by
  rintro k _ ⟨x1,x5,x8,x9,x10,rfl,h⟩
  cases k with
  | zero => simp [spec_tiTimes.l0] at h
  | succ k =>
   rw [spec_tiTimes.l0] at h
   refine at_ (hn:=hn130) ?_
   rcases ite_ h with ⟨g1,h2⟩ | ⟨g1,h2⟩
   ·obtain ⟨g3,h4⟩:=ip_ h2
    obtain ⟨g5,h6⟩:=ip_ h4
    refine mid (hn:=hn130) 14 3 [.val (.bool true),.elem (.agg [vi ((rd_T64 x8 x10).f0),vi ((rd_T64 x8 x10).f1)])] (And.intro (int_lss (P:=Tryz.prog) (t:=3) (k:=.i64) (x:=(.tmp 10)) (y:=(.tmp 9)) (a:=x10) (b:=x9) (v:=true) (decide_eq_true g1)) (iS64_rd (xs:=x8) (i:=x10) g3 g5)) (by kernel_rfl) ?_
    rcases ite_ h6 with ⟨g7,h8⟩ | ⟨g7,h8⟩
    ·refine mid (hn:=hn130) 6 3 [.val (.bool true),.val (.int .i64 (wrap64 (x5 + 1)))] (And.intro (int_eql (P:=Tryz.prog) (t:=3) (k:=.i64) (x:=(.tmp 15)) (y:=(.tmp 16)) (a:=((rd_T64 x8 x10).f0)) (b:=x1) (v:=true) (beq_iff_eq.2 g7)) (int_add (P:=Tryz.prog) (t:=3) (k:=.i64) (x:=(.tmp 18)) (y:=(.const (.int .i64 1))) (a:=x5) (b:=1) (c:=(wrap64 (x5 + 1))) (IntWalk.i64_left _))) (by kernel_rfl) ?_
     rcases ite_ h8 with ⟨g9,h10⟩ | ⟨g9,h10⟩
     ·exact leafBack (hn:=hn130) 7 [.val (.bool true),.val (.int .i64 (wrap64 ((wrap64 (x5 + 1)) + 1))),.val (.int .i64 (wrap64 (x10 + 1)))] [] (q130_l0_mk h10) (Nat.lt_succ_self k) (And.intro (int_eql (P:=Tryz.prog) (t:=3) (k:=.i64) (x:=(.tmp 21)) (y:=(.tmp 22)) (a:=((rd_T64 x8 x10).f1)) (b:=x1) (v:=true) (beq_iff_eq.2 g9)) (And.intro (int_add (P:=Tryz.prog) (t:=3) (k:=.i64) (x:=(.tmp 24)) (y:=(.const (.int .i64 1))) (a:=(wrap64 (x5 + 1))) (b:=1) (c:=(wrap64 ((wrap64 (x5 + 1)) + 1))) (IntWalk.i64_left _)) (int_add (P:=Tryz.prog) (t:=3) (k:=.i64) (x:=(.tmp 10)) (y:=(.const (.int .i64 1))) (a:=x10) (b:=1) (c:=(wrap64 (x10 + 1))) (IntWalk.i64_left _)))) (by kernel_rfl)
     ·exact leafBack (hn:=hn130) 7 [.val (.bool false),.val (.int .i64 (wrap64 (x10 + 1)))] [] (q130_l0_mk h10) (Nat.lt_succ_self k) (And.intro (int_eql (P:=Tryz.prog) (t:=3) (k:=.i64) (x:=(.tmp 21)) (y:=(.tmp 22)) (a:=((rd_T64 x8 x10).f1)) (b:=x1) (v:=false) (beq_false_of_ne g9)) (int_add (P:=Tryz.prog) (t:=3) (k:=.i64) (x:=(.tmp 10)) (y:=(.const (.int .i64 1))) (a:=x10) (b:=1) (c:=(wrap64 (x10 + 1))) (IntWalk.i64_left _))) (by kernel_rfl)
    ·refine mid (hn:=hn130) 6 3 [.val (.bool false)] (int_eql (P:=Tryz.prog) (t:=3) (k:=.i64) (x:=(.tmp 15)) (y:=(.tmp 16)) (a:=((rd_T64 x8 x10).f0)) (b:=x1) (v:=false) (beq_false_of_ne g7)) (by kernel_rfl) ?_
     rcases ite_ h8 with ⟨g11,h12⟩ | ⟨g11,h12⟩
     ·exact leafBack (hn:=hn130) 7 [.val (.bool true),.val (.int .i64 (wrap64 (x5 + 1))),.val (.int .i64 (wrap64 (x10 + 1)))] [] (q130_l0_mk h12) (Nat.lt_succ_self k) (And.intro (int_eql (P:=Tryz.prog) (t:=3) (k:=.i64) (x:=(.tmp 21)) (y:=(.tmp 22)) (a:=((rd_T64 x8 x10).f1)) (b:=x1) (v:=true) (beq_iff_eq.2 g11)) (And.intro (int_add (P:=Tryz.prog) (t:=3) (k:=.i64) (x:=(.tmp 24)) (y:=(.const (.int .i64 1))) (a:=x5) (b:=1) (c:=(wrap64 (x5 + 1))) (IntWalk.i64_left _)) (int_add (P:=Tryz.prog) (t:=3) (k:=.i64) (x:=(.tmp 10)) (y:=(.const (.int .i64 1))) (a:=x10) (b:=1) (c:=(wrap64 (x10 + 1))) (IntWalk.i64_left _)))) (by kernel_rfl)
     ·exact leafBack (hn:=hn130) 7 [.val (.bool false),.val (.int .i64 (wrap64 (x10 + 1)))] [] (q130_l0_mk h12) (Nat.lt_succ_self k) (And.intro (int_eql (P:=Tryz.prog) (t:=3) (k:=.i64) (x:=(.tmp 21)) (y:=(.tmp 22)) (a:=((rd_T64 x8 x10).f1)) (b:=x1) (v:=false) (beq_false_of_ne g11)) (int_add (P:=Tryz.prog) (t:=3) (k:=.i64) (x:=(.tmp 10)) (y:=(.const (.int .i64 1))) (a:=x10) (b:=1) (c:=(wrap64 (x10 + 1))) (IntWalk.i64_left _))) (by kernel_rfl)
   ·obtain rfl:=Option.some.inj h2
    exact leafRet (hn:=hn130) 14 [.val (.bool false)] [] .ret (.inr rfl) (by kernel_rfl) (int_lss (P:=Tryz.prog) (t:=3) (k:=.i64) (x:=(.tmp 10)) (y:=(.tmp 9)) (a:=x10) (b:=x9) (v:=false) (decide_eq_false g1)) (by kernel_rfl))
theorem ad_130 {k:Nat} {l0:List (S64)} {a1:Int} {r:Int} (h:spec_tiTimes.f k l0 a1 = some r):CallH Tryz.prog 130 [.sl (iS64 l0),vi a1] [] (vi r) []:=by
 unfold spec_tiTimes.f at h
 refine call_ok (c:=bodyOf Tryz.f130) (rs:=o130 r) (post:=p130 r) Tryz.func130 rfl rfl rfl (by kernel_rfl) ?_
 show AtP Tryz.prog 28 (bodyOf Tryz.f130) (KR Tryz.prog Tryz.f130.results.toList (o130 r) (p130 r)) [] [] (lookA [(0,.sl (iS64 l0)),(1,vi a1)])
 refine at_ (hn:=hn130) ?_
 exact leafAt (hn:=hn130) 11 [.val (.int .i64 (l0.length:Int))] [] (at130_l0 _ _ (q130_l0_mk h)) (iS64_len (xs:=l0)) (by kernel_rfl)

def hn131:Hint:=⟨[(9,[38]),(11,[40]),(23,[36]),(25,[54])],[]⟩
def o131 (r:(List (S64))):List AV:=[.sl (iS64 r)]
def p131 (r:(List (S64))):List (Nat × AV):=[]
def q131_l0 (r:(List (S64))) (k:Nat) (L:List (Nat × AV)):Prop:=∃ (x1:List (S64)) (x2:Bool) (x7:List (S64)) (x11:List (S64)) (x12:Int) (x13:Int),L = [(1,.sl (iS64 x1)),(2,vb x2),(7,.row 36),(11,.row 40),(12,vi x12),(13,vi x13),(36,.ow false 64 (iS64 x7)),(40,.ow false 64 (iS64 x11))] ∧ spec_tiThose.l0 k x1 x2 x7 x11 x12 x13 = some r
theorem q131_l0_mk {r:(List (S64))} {k:Nat} {x1:List (S64)} {x2:Bool} {x7:List (S64)} {x11:List (S64)} {x12:Int} {x13:Int} (h:spec_tiThose.l0 k x1 x2 x7 x11 x12 x13 = some r):q131_l0 r k [(1,.sl (iS64 x1)),(2,vb x2),(7,.row 36),(11,.row 40),(12,vi x12),(13,vi x13),(36,.ow false 64 (iS64 x7)),(40,.ow false 64 (iS64 x11))]:=⟨x1,x2,x7,x11,x12,x13,rfl,h⟩
theorem at131_l0 {r:(List (S64))}:∀ k L,q131_l0 r k L → AtP Tryz.prog 29 (bodyOf Tryz.f131) (KR Tryz.prog Tryz.f131.results.toList (o131 r) (p131 r)) [true,true,false,true,false] [] (lookA L) :=
 at_loop (by kernel_rfl) (fun _ => by kernel_rfl) (q131_l0 r) (by
  rintro k _ ⟨x1,x2,x7,x11,x12,x13,rfl,h⟩
  cases k with
  | zero => simp [spec_tiThose.l0] at h
  | succ k =>
   rw [spec_tiThose.l0] at h
   refine at_ (hn:=hn131) ?_
   rcases ite_ h with ⟨g1,h2⟩ | ⟨g1,h2⟩
   ·obtain ⟨g3,h4⟩:=ip_ h2
    obtain ⟨g5,h6⟩:=ip_ h4
    obtain ⟨t380,c7,h8⟩:=bd_ h6
    refine mid (hn:=hn131) 13 5 [.val (.bool true),.elem (.agg [vi ((rd_T64 x11 x13).f0),vi ((rd_T64 x11 x13).f1)]),.call (vi t380),.val (.bool (decide (t380 ≥ 0)))] (And.intro (int_lss (P:=Tryz.prog) (t:=3) (k:=.i64) (x:=(.tmp 13)) (y:=(.tmp 12)) (a:=x13) (b:=x12) (v:=true) (decide_eq_true g1)) (And.intro (iS64_rd (xs:=x11) (i:=x13) g3 g5) (And.intro (ad_71 c7) (int_geq (P:=Tryz.prog) (t:=3) (k:=.i64) (x:=(.tmp 19)) (y:=(.const (.int .i64 0))) (a:=t380) (b:=0) (v:=(decide (t380 ≥ 0))) rfl)))) (by kernel_rfl) ?_
    rcases ite_ h8 with ⟨g9,h10⟩ | ⟨g9,h10⟩
    ·obtain ⟨g11,h12⟩:=ip_ h10
     exact leafBack (hn:=hn131) 7 [.val (.bool true),.go,.elem (.ow false 64 (iS64 (x7 ++ ([(⟨(rd_T64 x11 x13).f0,(rd_T64 x11 x13).f1⟩ : S64)])))),.val (.int .i64 (wrap64 (x13 + 1)))] [(36,55)] (q131_l0_mk h12) (Nat.lt_succ_self k) (And.intro (bool_eql (P:=Tryz.prog) (t:=4) (x:=(.tmp 20)) (y:=(.tmp 21)) (a:=(decide (t380 ≥ 0))) (b:=x2) Tryz.underlying4 (v:=true) g9) (And.intro (iS64_app (N:=8796093022208) (b:=16) (xs:=x7) (ys:=[(⟨(rd_T64 x11 x13).f0,(rd_T64 x11 x13).f1⟩ : S64)]) (by decide) (Nat.succ_le_of_lt g11)) (int_add (P:=Tryz.prog) (t:=3) (k:=.i64) (x:=(.tmp 13)) (y:=(.const (.int .i64 1))) (a:=x13) (b:=1) (c:=(wrap64 (x13 + 1))) (IntWalk.i64_left _)))) (by kernel_rfl)
    ·exact leafBack (hn:=hn131) 7 [.val (.bool false),.val (.int .i64 (wrap64 (x13 + 1)))] [] (q131_l0_mk h10) (Nat.lt_succ_self k) (And.intro (bool_eql (P:=Tryz.prog) (t:=4) (x:=(.tmp 20)) (y:=(.tmp 21)) (a:=(decide (t380 ≥ 0))) (b:=x2) Tryz.underlying4 (v:=false) (Bool.eq_false_iff.2 g9)) (int_add (P:=Tryz.prog) (t:=3) (k:=.i64) (x:=(.tmp 13)) (y:=(.const (.int .i64 1))) (a:=x13) (b:=1) (c:=(wrap64 (x13 + 1))) (IntWalk.i64_left _))) (by kernel_rfl)
   ·obtain rfl:=Option.some.inj h2
    exact leafRet (hn:=hn131) 14 [.val (.bool false)] [] .ret (.inr rfl) (by kernel_rfl) (int_lss (P:=Tryz.prog) (t:=3) (k:=.i64) (x:=(.tmp 13)) (y:=(.tmp 12)) (a:=x13) (b:=x12) (v:=false) (decide_eq_false g1)) (by kernel_rfl))
theorem ad_131 {k:Nat} {l0:List (S64)} {l1:List (S64)} {a2:Bool} {r:List (S64)} (h:spec_tiThose.f k l0 l1 a2 = some r):CallH Tryz.prog 131 [.sl (iS64 l0),.sl (iS64 l1),vb a2] [] (.sl (iS64 r)) []:=by
 unfold spec_tiThose.f at h
 refine call_ok (c:=bodyOf Tryz.f131) (rs:=o131 r) (post:=p131 r) Tryz.func131 rfl rfl rfl (by kernel_rfl) ?_
 show AtP Tryz.prog 29 (bodyOf Tryz.f131) (KR Tryz.prog Tryz.f131.results.toList (o131 r) (p131 r)) [] [] (lookA [(0,.sl (iS64 l0)),(1,.sl (iS64 l1)),(2,vb a2)])
 refine at_ (hn:=hn131) ?_
 obtain ⟨t375,c1,h2⟩:=bd_ h
 exact leafAt (hn:=hn131) 11 [.goT,.nil false 64,.callH [] (.row 40) [(40,.ow false 64 (iS64 t375))],.val (.int .i64 (t375.length:Int))] [] (at131_l0 _ _ (q131_l0_mk h2)) (And.intro (CallH.ren [(500000,40)] rfl rfl (CallH.frz 500000 rfl (ad_83 c1))) (iS64_len (xs:=t375))) (by kernel_rfl)

def grp107 (j:Nat):Prop:=(∀ {l0:List (S64)} {l1:List Int} {l2:List Int} {l3:List (S64)} {l4:List (List Int)} {r:List (List Int)},g107_spec_pzLook.f j l0 l1 l2 l3 l4 = some r → CallH Tryz.prog 107 [.agg [.sl (iS64 l0),.sl (iI .i64 l1)],.sl (iI .i64 l2),.sl (iS64 l3),.loc 1000000 0] [(1000000,.box (.row 1000001)),(1000001,.ow false 25 (iL (iI .i64) l4))] (.tup []) [(500100,.ow false 25 (iL (iI .i64) r)),(1000000,.box (.row 500100))])
theorem use_107 {j:Nat} (H:grp107 j) {l0:List (S64)} {l1:List Int} {l2:List Int} {l3:List (S64)} {l4:List (List Int)} {r:List (List Int)} (h:g107_spec_pzLook.f j l0 l1 l2 l3 l4 = some r):CallH Tryz.prog 107 [.agg [.sl (iS64 l0),.sl (iI .i64 l1)],.sl (iI .i64 l2),.sl (iS64 l3),.loc 1000000 0] [(1000000,.box (.row 1000001)),(1000001,.ow false 25 (iL (iI .i64) l4))] (.tup []) [(500100,.ow false 25 (iL (iI .i64) r)),(1000000,.box (.row 500100))]:=H h
def hn107:Hint:=⟨[(4,[89]),(10,[95]),(12,[1000000,1000001]),(13,[1000001]),(18,[89]),(24,[1000000,1000001]),(25,[1000001]),(27,[112]),(28,[113]),(29,[114]),(30,[1000000,1000001]),(35,[89]),(57,[142]),(59,[700000,1000000]),(75,[160]),(77,[162]),(78,[163]),(81,[166]),(83,[700000,1000000])],[]⟩
def o107 (r:List (List Int)) (KN:Nat):List AV:=[]
def p107 (r:List (List Int)) (KN:Nat):List (Nat × AV):=[(500100,.ow false 25 (iL (iI .i64) r)),(1000000,.box (.row 500100))]
def q107_l0 (r:List (List Int)) (KN:Nat) (k:Nat) (L:List (Nat × AV)):Prop:=k < KN ∧ ∃ (x1:List Int) (x2:List (S64)) (y0:List (List Int)) (y1:List (S64)) (y2:List Int) (x8:Int),L = [(1,.sl (iI .i64 x1)),(2,.sl (iS64 x2)),(3,.loc 1000000 0),(4,.loc 89 0),(8,vi x8),(89,.box (.agg [.sl (iS64 y1),.sl (iI .i64 y2)])),(700000,.ow false 25 (iL (iI .i64) y0)),(1000000,.box (.row 700000))] ∧ g107_spec_pzLook.l0 k x1 x2 y0 y1 y2 x8 = some r
theorem q107_l0_mk {r:List (List Int)} (KN:Nat) {k:Nat} {x1:List Int} {x2:List (S64)} {y0:List (List Int)} {y1:List (S64)} {y2:List Int} {x8:Int} (hkR:k < KN) (h:g107_spec_pzLook.l0 k x1 x2 y0 y1 y2 x8 = some r):q107_l0 r KN k [(1,.sl (iI .i64 x1)),(2,.sl (iS64 x2)),(3,.loc 1000000 0),(4,.loc 89 0),(8,vi x8),(89,.box (.agg [.sl (iS64 y1),.sl (iI .i64 y2)])),(700000,.ow false 25 (iL (iI .i64) y0)),(1000000,.box (.row 700000))]:=⟨hkR,x1,x2,y0,y1,y2,x8,rfl,h⟩
theorem at107_j0 {r:List (List Int)} {KN:Nat} {K0:Nat} (IH:∀ j,j < KN → grp107 j) {k:Nat} {x1:List Int} {x2:List (S64)} {y0:List (List Int)} {y1:List (S64)} {y2:List Int} {x8:Int} (hkR:k < KN) (hk0:k < K0) (h:g107_spec_pzLook.j0 k x1 x2 y0 y1 y2 x8 = some r):AtP Tryz.prog 85 (bodyOf Tryz.f107) (KR Tryz.prog Tryz.f107.results.toList (o107 r KN) (p107 r KN)) [true,true,true,true,false,false,true,true] [upto (q107_l0 r KN) K0] (lookA [(1,.sl (iI .i64 x1)),(2,.sl (iS64 x2)),(3,.loc 1000000 0),(4,.loc 89 0),(8,vi x8),(89,.box (.agg [.sl (iS64 y1),.sl (iI .i64 y2)])),(145,.ow false 25 (iL (iI .i64) y0)),(1000000,.box (.row 145))]):=by
 cases k with
 | zero => simp [g107_spec_pzLook.j0] at h
 | succ k =>
  rw [g107_spec_pzLook.j0] at h
  have hkR:=Nat.lt_of_succ_lt hkR
  have hk0:=Nat.lt_of_succ_lt hk0
  refine at_ (hn:=hn107) ?_
  exact leafBack (hn:=hn107) 1 [.val (.int .i64 (wrap64 (x8 + 1)))] [(700000,145)] (q107_l0_mk KN hkR h) hk0 (int_add (P:=Tryz.prog) (t:=3) (k:=.i64) (x:=(.tmp 33)) (y:=(.const (.int .i64 1))) (a:=x8) (b:=1) (c:=(wrap64 (x8 + 1))) (IntWalk.i64_left _)) (by kernel_rfl)
theorem at107_l0 {r:List (List Int)} {KN:Nat} (IH:∀ j,j < KN → grp107 j):∀ k L,q107_l0 r KN k L → AtP Tryz.prog 85 (bodyOf Tryz.f107) (KR Tryz.prog Tryz.f107.results.toList (o107 r KN) (p107 r KN)) [true,true,true,true,false] [] (lookA L) :=
 at_loop (by kernel_rfl) (fun _ => by kernel_rfl) (q107_l0 r KN) (by
  rintro k _ ⟨hkR,x1,x2,y0,y1,y2,x8,rfl,h⟩
  cases k with
  | zero => simp [g107_spec_pzLook.l0] at h
  | succ k =>
   rw [g107_spec_pzLook.l0] at h
   have hkR:=Nat.lt_of_succ_lt hkR
   refine at_ (hn:=hn107) ?_
   rcases ite_ h with ⟨g1,h2⟩ | ⟨g1,h2⟩
   ·obtain ⟨g3,h4⟩:=ip_ h2
    obtain ⟨g5,h6⟩:=ip_ h4
    refine mid (hn:=hn107) 14 1 [.val (.bool true),.val (.int .i64 (x1.length:Int)),.elem (vi (rd y2 (x1.length:Int)))] (And.intro (int_leq (P:=Tryz.prog) (t:=3) (k:=.i64) (x:=(.tmp 31)) (y:=(.const (.int .i64 9))) (a:=x8) (b:=9) (v:=true) (decide_eq_true g1)) (And.intro (iI_len (k:=.i64) (xs:=x1)) (iI_rd (k:=.i64) (xs:=y2) (i:=(x1.length:Int)) g3 g5))) (by kernel_rfl) ?_
    rcases ite_ h6 with ⟨g7,h8⟩ | ⟨g7,h8⟩
    ·refine mid (hn:=hn107) 0 4 [.val (.bool true)] (int_geq (P:=Tryz.prog) (t:=3) (k:=.i64) (x:=(.tmp 41)) (y:=(.const (.int .i64 0))) (a:=(rd y2 (x1.length:Int))) (b:=0) (v:=true) (decide_eq_true g7)) (by kernel_rfl) ?_
     rcases ite_ h8 with ⟨g9,h10⟩ | ⟨g9,h10⟩
     ·refine mid (hn:=hn107) 7 2 [.val (.bool false),.val (.int .i64 (x1.length:Int))] (And.intro (int_neq (P:=Tryz.prog) (t:=3) (k:=.i64) (x:=(.tmp 44)) (y:=(.tmp 45)) (a:=(rd y2 (x1.length:Int))) (b:=x8) (v:=false) (nbeq_f g9)) (iI_len (k:=.i64) (xs:=x1))) (by kernel_rfl) ?_
      rcases ite_ h10 with ⟨g11,h12⟩ | ⟨g11,h12⟩
      ·obtain ⟨b2,c13,h14⟩:=bd_ h12
       refine mid (hn:=hn107) 5 3 [.val (.bool true),.call (vi b2)] (And.intro (int_eql (P:=Tryz.prog) (t:=3) (k:=.i64) (x:=(.tmp 49)) (y:=(.const (.int .i64 0))) (a:=(x1.length:Int)) (b:=0) (v:=true) (beq_iff_eq.2 g11)) (ad_130 c13)) (by kernel_rfl) ?_
       rcases ite_ h14 with ⟨g15,h16⟩ | ⟨g15,h16⟩
       ·obtain ⟨b3,c17,h18⟩:=bd_ h16
        exact leafAt (hn:=hn107) 9 [.val (.bool true),.go,.callH [1000000,700000] (.tup []) [(145,.ow false 25 (iL (iI .i64) b3)),(1000000,.box (.row 145))]] [] (at107_j0 IH hkR (Nat.lt_succ_self k) h18) (And.intro (int_gtr (P:=Tryz.prog) (t:=3) (k:=.i64) (x:=(.tmp 53)) (y:=(.const (.int .i64 0))) (a:=b2) (b:=0) (v:=true) (decide_eq_true g15)) (CallH.ren [(500100,145),(1000000,1000000),(1000001,700000)] rfl rfl (use_107 (IH _ hkR) c17))) (by kernel_rfl)
       ·exact leafAt (hn:=hn107) 9 [.val (.bool false)] [(145,700000)] (at107_j0 IH hkR (Nat.lt_succ_self k) h16) (int_gtr (P:=Tryz.prog) (t:=3) (k:=.i64) (x:=(.tmp 53)) (y:=(.const (.int .i64 0))) (a:=b2) (b:=0) (v:=false) (decide_eq_false g15)) (by kernel_rfl)
      ·obtain ⟨g19,h20⟩:=ip_ h12
       obtain ⟨g21,h22⟩:=ip_ h20
       obtain ⟨⟨b4_1,b4_2⟩,c23,h24⟩:=bd_ h22
       try dsimp only at h24
       obtain ⟨b5,c25,h26⟩:=bd_ h24
       refine mid (hn:=hn107) 9 3 [.val (.bool false),.val (.int .i64 (x1.length:Int)),.val (.int .i64 (wrap64 ((x1.length:Int) - 1))),.elem (vi (rd x1 (wrap64 ((x1.length:Int) - 1)))),.call (.agg [vi b4_1,vi b4_2]),.call (vi b5)] (And.intro (int_eql (P:=Tryz.prog) (t:=3) (k:=.i64) (x:=(.tmp 49)) (y:=(.const (.int .i64 0))) (a:=(x1.length:Int)) (b:=0) (v:=false) (beq_false_of_ne g11)) (And.intro (And.intro (iI_len (k:=.i64) (xs:=x1)) (And.intro (int_sub (P:=Tryz.prog) (t:=3) (k:=.i64) (x:=(.tmp 63)) (y:=(.const (.int .i64 1))) (a:=(x1.length:Int)) (b:=1) (c:=(wrap64 ((x1.length:Int) - 1))) (IntWalk.i64_left _)) (And.intro (iI_rd (k:=.i64) (xs:=x1) (i:=(wrap64 ((x1.length:Int) - 1))) g19 g21) (ad_109 c23)))) (ad_71 c25))) (by kernel_rfl) ?_
       rcases ite_ h26 with ⟨g27,h28⟩ | ⟨g27,h28⟩
       ·obtain ⟨b6,c29,h30⟩:=bd_ h28
        obtain ⟨g31,h32⟩:=ip_ h30
        obtain ⟨b7,c33,h34⟩:=bd_ h32
        obtain ⟨b8,c35,h36⟩:=bd_ h34
        exact leafAt (hn:=hn107) 6 [.val (.bool true),.callH [] (.row 160) [(160,.ow false 3 (iI .i64 b6))],.go,.elem (.ow false 3 (iI .i64 (b6 ++ ([x8])))),.go,.call (.sl (iS64 b7)),.callH [1000000,700000] (.tup []) [(169,.ow false 25 (iL (iI .i64) b8)),(1000000,.box (.row 169))]] [(145,169)] (at107_j0 IH hkR (Nat.lt_succ_self k) h36) (And.intro (int_geq (P:=Tryz.prog) (t:=3) (k:=.i64) (x:=(.tmp 71)) (y:=(.const (.int .i64 0))) (a:=b5) (b:=0) (v:=true) (decide_eq_true g27)) (And.intro (CallH.ren [(500000,160)] rfl rfl (CallH.frz 500000 rfl (ad_79 c29))) (And.intro (iI_app (k:=.i64) (N:=17592186044416) (b:=8) (xs:=b6) (ys:=[x8]) (by decide) (Nat.succ_le_of_lt g31)) (And.intro (ad_131 c33) (CallH.ren [(500100,169),(1000000,1000000),(1000001,700000)] rfl rfl (use_107 (IH _ hkR) c35)))))) (by kernel_rfl)
       ·exact leafAt (hn:=hn107) 6 [.val (.bool false)] [(145,700000)] (at107_j0 IH hkR (Nat.lt_succ_self k) h28) (int_geq (P:=Tryz.prog) (t:=3) (k:=.i64) (x:=(.tmp 71)) (y:=(.const (.int .i64 0))) (a:=b5) (b:=0) (v:=false) (decide_eq_false g27)) (by kernel_rfl)
     ·exact leafAt (hn:=hn107) 7 [.val (.bool true)] [(145,700000)] (at107_j0 IH hkR (Nat.lt_succ_self k) h10) (int_neq (P:=Tryz.prog) (t:=3) (k:=.i64) (x:=(.tmp 44)) (y:=(.tmp 45)) (a:=(rd y2 (x1.length:Int))) (b:=x8) (v:=true) (nbeq_t g9)) (by kernel_rfl)
    ·refine mid (hn:=hn107) 7 2 [.val (.bool false),.val (.int .i64 (x1.length:Int))] (And.intro (int_geq (P:=Tryz.prog) (t:=3) (k:=.i64) (x:=(.tmp 41)) (y:=(.const (.int .i64 0))) (a:=(rd y2 (x1.length:Int))) (b:=0) (v:=false) (decide_eq_false g7)) (iI_len (k:=.i64) (xs:=x1))) (by kernel_rfl) ?_
     rcases ite_ h8 with ⟨g37,h38⟩ | ⟨g37,h38⟩
     ·obtain ⟨b9,c39,h40⟩:=bd_ h38
      refine mid (hn:=hn107) 5 3 [.val (.bool true),.call (vi b9)] (And.intro (int_eql (P:=Tryz.prog) (t:=3) (k:=.i64) (x:=(.tmp 49)) (y:=(.const (.int .i64 0))) (a:=(x1.length:Int)) (b:=0) (v:=true) (beq_iff_eq.2 g37)) (ad_130 c39)) (by kernel_rfl) ?_
      rcases ite_ h40 with ⟨g41,h42⟩ | ⟨g41,h42⟩
      ·obtain ⟨b10,c43,h44⟩:=bd_ h42
       exact leafAt (hn:=hn107) 9 [.val (.bool true),.go,.callH [1000000,700000] (.tup []) [(145,.ow false 25 (iL (iI .i64) b10)),(1000000,.box (.row 145))]] [] (at107_j0 IH hkR (Nat.lt_succ_self k) h44) (And.intro (int_gtr (P:=Tryz.prog) (t:=3) (k:=.i64) (x:=(.tmp 53)) (y:=(.const (.int .i64 0))) (a:=b9) (b:=0) (v:=true) (decide_eq_true g41)) (CallH.ren [(500100,145),(1000000,1000000),(1000001,700000)] rfl rfl (use_107 (IH _ hkR) c43))) (by kernel_rfl)
      ·exact leafAt (hn:=hn107) 9 [.val (.bool false)] [(145,700000)] (at107_j0 IH hkR (Nat.lt_succ_self k) h42) (int_gtr (P:=Tryz.prog) (t:=3) (k:=.i64) (x:=(.tmp 53)) (y:=(.const (.int .i64 0))) (a:=b9) (b:=0) (v:=false) (decide_eq_false g41)) (by kernel_rfl)
     ·obtain ⟨g45,h46⟩:=ip_ h38
      obtain ⟨g47,h48⟩:=ip_ h46
      obtain ⟨⟨b11_1,b11_2⟩,c49,h50⟩:=bd_ h48
      try dsimp only at h50
      obtain ⟨b12,c51,h52⟩:=bd_ h50
      refine mid (hn:=hn107) 9 3 [.val (.bool false),.val (.int .i64 (x1.length:Int)),.val (.int .i64 (wrap64 ((x1.length:Int) - 1))),.elem (vi (rd x1 (wrap64 ((x1.length:Int) - 1)))),.call (.agg [vi b11_1,vi b11_2]),.call (vi b12)] (And.intro (int_eql (P:=Tryz.prog) (t:=3) (k:=.i64) (x:=(.tmp 49)) (y:=(.const (.int .i64 0))) (a:=(x1.length:Int)) (b:=0) (v:=false) (beq_false_of_ne g37)) (And.intro (And.intro (iI_len (k:=.i64) (xs:=x1)) (And.intro (int_sub (P:=Tryz.prog) (t:=3) (k:=.i64) (x:=(.tmp 63)) (y:=(.const (.int .i64 1))) (a:=(x1.length:Int)) (b:=1) (c:=(wrap64 ((x1.length:Int) - 1))) (IntWalk.i64_left _)) (And.intro (iI_rd (k:=.i64) (xs:=x1) (i:=(wrap64 ((x1.length:Int) - 1))) g45 g47) (ad_109 c49)))) (ad_71 c51))) (by kernel_rfl) ?_
      rcases ite_ h52 with ⟨g53,h54⟩ | ⟨g53,h54⟩
      ·obtain ⟨b13,c55,h56⟩:=bd_ h54
       obtain ⟨g57,h58⟩:=ip_ h56
       obtain ⟨b14,c59,h60⟩:=bd_ h58
       obtain ⟨b15,c61,h62⟩:=bd_ h60
       exact leafAt (hn:=hn107) 6 [.val (.bool true),.callH [] (.row 160) [(160,.ow false 3 (iI .i64 b13))],.go,.elem (.ow false 3 (iI .i64 (b13 ++ ([x8])))),.go,.call (.sl (iS64 b14)),.callH [1000000,700000] (.tup []) [(169,.ow false 25 (iL (iI .i64) b15)),(1000000,.box (.row 169))]] [(145,169)] (at107_j0 IH hkR (Nat.lt_succ_self k) h62) (And.intro (int_geq (P:=Tryz.prog) (t:=3) (k:=.i64) (x:=(.tmp 71)) (y:=(.const (.int .i64 0))) (a:=b12) (b:=0) (v:=true) (decide_eq_true g53)) (And.intro (CallH.ren [(500000,160)] rfl rfl (CallH.frz 500000 rfl (ad_79 c55))) (And.intro (iI_app (k:=.i64) (N:=17592186044416) (b:=8) (xs:=b13) (ys:=[x8]) (by decide) (Nat.succ_le_of_lt g57)) (And.intro (ad_131 c59) (CallH.ren [(500100,169),(1000000,1000000),(1000001,700000)] rfl rfl (use_107 (IH _ hkR) c61)))))) (by kernel_rfl)
      ·exact leafAt (hn:=hn107) 6 [.val (.bool false)] [(145,700000)] (at107_j0 IH hkR (Nat.lt_succ_self k) h54) (int_geq (P:=Tryz.prog) (t:=3) (k:=.i64) (x:=(.tmp 71)) (y:=(.const (.int .i64 0))) (a:=b12) (b:=0) (v:=false) (decide_eq_false g53)) (by kernel_rfl)
   ·obtain rfl:=Option.some.inj h2
    exact leafRet (hn:=hn107) 9 [.val (.bool false)] [(500100,700000)] .normal (.inl rfl) (by kernel_rfl) (int_leq (P:=Tryz.prog) (t:=3) (k:=.i64) (x:=(.tmp 31)) (y:=(.const (.int .i64 9))) (a:=x8) (b:=9) (v:=false) (decide_eq_false g1)) (by kernel_rfl))
theorem adR_107 {KN:Nat} (IH:∀ j,j < KN → grp107 j) {l0:List (S64)} {l1:List Int} {l2:List Int} {l3:List (S64)} {l4:List (List Int)} {r:List (List Int)} (h:g107_spec_pzLook.f KN l0 l1 l2 l3 l4 = some r):CallH Tryz.prog 107 [.agg [.sl (iS64 l0),.sl (iI .i64 l1)],.sl (iI .i64 l2),.sl (iS64 l3),.loc 1000000 0] [(1000000,.box (.row 1000001)),(1000001,.ow false 25 (iL (iI .i64) l4))] (.tup []) [(500100,.ow false 25 (iL (iI .i64) r)),(1000000,.box (.row 500100))]:=by
 obtain ⟨k,hK⟩ : ∃ k,KN = k + 1:=by
  cases KN with
  | zero => simp [g107_spec_pzLook.f] at h
  | succ k => exact ⟨k,rfl⟩
 rw [hK,g107_spec_pzLook.f] at h
 have hkR:k < KN:=by omega
 refine call_ok (c:=bodyOf Tryz.f107) (rs:=o107 r KN) (post:=p107 r KN) Tryz.func107 rfl rfl rfl (by kernel_rfl) ?_
 show AtP Tryz.prog 85 (bodyOf Tryz.f107) (KR Tryz.prog Tryz.f107.results.toList (o107 r KN) (p107 r KN)) [] [] (lookA [(0,.agg [.sl (iS64 l0),.sl (iI .i64 l1)]),(1,.sl (iI .i64 l2)),(2,.sl (iS64 l3)),(3,.loc 1000000 0),(1000000,.box (.row 1000001)),(1000001,.ow false 25 (iL (iI .i64) l4))])
 refine at_ (hn:=hn107) ?_
 refine mid (hn:=hn107) 5 4 [.val (.int .i64 (l4.length:Int))] (iL_len (f:=(iI .i64)) (xs:=l4)) (by kernel_rfl) ?_
 rcases ite_ h with ⟨g1,h2⟩ | ⟨g1,h2⟩
 ·obtain rfl:=Option.some.inj h2
  exact leafRet (hn:=hn107) 5 [.val (.bool true)] [(500100,1000001)] .ret (.inr rfl) (by kernel_rfl) (int_gtr (P:=Tryz.prog) (t:=3) (k:=.i64) (x:=(.tmp 14)) (y:=(.const (.int .i64 200))) (a:=(l4.length:Int)) (b:=200) (v:=true) (decide_eq_true g1)) (by kernel_rfl)
 ·refine mid (hn:=hn107) 7 5 [.val (.bool false),.val (.int .i64 (l2.length:Int)),.val (.int .i64 (l1.length:Int))] (And.intro (int_gtr (P:=Tryz.prog) (t:=3) (k:=.i64) (x:=(.tmp 14)) (y:=(.const (.int .i64 200))) (a:=(l4.length:Int)) (b:=200) (v:=false) (decide_eq_false g1)) (And.intro (iI_len (k:=.i64) (xs:=l2)) (iI_len (k:=.i64) (xs:=l1)))) (by kernel_rfl) ?_
  rcases ite_ h2 with ⟨g3,h4⟩ | ⟨g3,h4⟩
  ·obtain ⟨b1,c5,h6⟩:=bd_ h4
   obtain ⟨g7,h8⟩:=ip_ h6
   obtain rfl:=Option.some.inj h8
   exact leafRet (hn:=hn107) 8 [.val (.bool true),.callH [] (.row 112) [(112,.ow false 3 (iI .i64 b1))],.go,.elem (.ow false 25 (iL (iI .i64) (l4 ++ ([b1]))))] [(500100,114)] .ret (.inr rfl) (by kernel_rfl) (And.intro (int_eql (P:=Tryz.prog) (t:=3) (k:=.i64) (x:=(.tmp 17)) (y:=(.tmp 20)) (a:=(l2.length:Int)) (b:=(l1.length:Int)) (v:=true) (beq_iff_eq.2 g3)) (And.intro (CallH.ren [(500000,112)] rfl rfl (CallH.frz 500000 rfl (ad_79 c5))) (iL_app (f:=(iI .i64)) (N:=5864062014805) (b:=24) (xs:=l4) (ys:=[b1]) (by decide) (Nat.succ_le_of_lt g7)))) (by kernel_rfl)
  ·exact leafAt (hn:=hn107) 9 [.val (.bool false)] [(700000,1000001)] (at107_l0 IH _ _ (q107_l0_mk KN hkR h4)) (int_eql (P:=Tryz.prog) (t:=3) (k:=.i64) (x:=(.tmp 17)) (y:=(.tmp 20)) (a:=(l2.length:Int)) (b:=(l1.length:Int)) (v:=false) (beq_false_of_ne g3)) (by kernel_rfl)
theorem all107 (k:Nat):grp107 k:=Nat.strongRecOn (motive:=grp107) k fun KN IH => (show grp107 KN from fun h => adR_107 IH h)
theorem ad_107 {k:Nat} {l0:List (S64)} {l1:List Int} {l2:List Int} {l3:List (S64)} {l4:List (List Int)} {r:List (List Int)} (h:g107_spec_pzLook.f k l0 l1 l2 l3 l4 = some r):CallH Tryz.prog 107 [.agg [.sl (iS64 l0),.sl (iI .i64 l1)],.sl (iI .i64 l2),.sl (iS64 l3),.loc 1000000 0] [(1000000,.box (.row 1000001)),(1000001,.ow false 25 (iL (iI .i64) l4))] (.tup []) [(500100,.ow false 25 (iL (iI .i64) r)),(1000000,.box (.row 500100))]:=use_107 (all107 k) h

def hn65:Hint:=⟨[(1,[14]),(4,[17,21,801700]),(6,[14]),(10,[21])],[]⟩
def o65 (r:List (List Int) × Bool):List AV:=[.sl (iL (iI .i64) r.1),vb r.2]
def p65 (r:List (List Int) × Bool):List (Nat × AV):=[]
theorem ad_65 {k:Nat} {l0:List (S64)} {l1:List Int} {r1:List (List Int)} {r2:Bool} (h:spec_pzAll.f k l0 l1 = some (r1,r2)):CallH Tryz.prog 65 [.agg [.sl (iS64 l0),.sl (iI .i64 l1)]] [] (.tup [.sl (iL (iI .i64) r1),vb r2]) []:=by
 unfold spec_pzAll.f at h
 refine call_ok (c:=bodyOf Tryz.f65) (rs:=o65 (r1,r2)) (post:=p65 (r1,r2)) Tryz.func65 rfl rfl rfl (by kernel_rfl) ?_
 show AtP Tryz.prog 13 (bodyOf Tryz.f65) (KR Tryz.prog Tryz.f65.results.toList (o65 (r1,r2)) (p65 (r1,r2))) [] [] (lookA [(0,.agg [.sl (iS64 l0),.sl (iI .i64 l1)])])
 refine at_ (hn:=hn65) ?_
 obtain ⟨b1,c1,h2⟩:=bd_ h
 obtain ⟨rfl,rfl⟩:=pr2_ h2
 exact leafRet (hn:=hn65) 13 [.goT,.nl 17 0 false 25 801700,.callH [17,801700] (.tup []) [(21,.ow false 25 (iL (iI .i64) b1)),(17,.box (.row 21))],.val (.int .i64 (b1.length:Int)),.val (.bool (decide ((b1.length:Int) ≤ 200)))] [] .ret (.inr rfl) (by kernel_rfl) (And.intro (CallH.ren [(500100,21),(1000000,17),(1000001,801700)] rfl rfl (ad_107 c1)) (And.intro (iL_len (f:=(iI .i64)) (xs:=b1)) (int_leq (P:=Tryz.prog) (t:=3) (k:=.i64) (x:=(.tmp 11)) (y:=(.const (.int .i64 200))) (a:=(b1.length:Int)) (b:=200) (v:=(decide ((b1.length:Int) ≤ 200))) rfl))) (by kernel_rfl)

def hn36:Hint:=⟨[(1,[12])],[]⟩
def o36 (r:(List (List Int)) × Bool):List AV:=[.sl (iL (iI .i64) r.1),vb r.2]
def p36 (r:(List (List Int)) × Bool):List (Nat × AV):=[]
theorem ad_36 {k:Nat} {l0_0:List (S64)} {l0_1:List Int} {r1:List (List Int)} {r2:Bool} (h:spec_pzAsked.f k l0_0 l0_1 = some (r1,r2)):CallH Tryz.prog 36 [.agg [.sl (iS64 l0_0),.sl (iI .i64 l0_1)]] [] (.tup [.sl (iL (iI .i64) r1),vb r2]) []:=by
 unfold spec_pzAsked.f at h
 refine call_ok (c:=bodyOf Tryz.f36) (rs:=o36 (r1,r2)) (post:=p36 (r1,r2)) Tryz.func36 rfl rfl rfl (by kernel_rfl) ?_
 show AtP Tryz.prog 11 (bodyOf Tryz.f36) (KR Tryz.prog Tryz.f36.results.toList (o36 (r1,r2)) (p36 (r1,r2))) [] [] (lookA [(0,.agg [.sl (iS64 l0_0),.sl (iI .i64 l0_1)])])
 refine at_ (hn:=hn36) ?_
 obtain ⟨t385,c1,h2⟩:=bd_ h
 refine mid (hn:=hn36) 5 2 [.goT,.call (vb t385)] (ad_40 c1) (by kernel_rfl) ?_
 rcases ite_ h2 with ⟨g3,h4⟩ | ⟨g3,h4⟩
 ·subst g3
  obtain ⟨⟨bt386_1,bt386_2⟩,c5,h6⟩:=bd_ h4
  try dsimp only at h6
  obtain ⟨rfl,rfl⟩:=pr2_ h6
  exact leafRet (hn:=hn36) 9 [.call (.tup [.sl (iL (iI .i64) bt386_1),vb bt386_2])] [] .ret (.inr rfl) (by kernel_rfl) (ad_65 c5) (by kernel_rfl)
 ·obtain rfl:=Bool.eq_false_iff.2 g3
  obtain ⟨rfl,rfl⟩:=pr2_ h4
  exact leafRet (hn:=hn36) 8 [.goT] [] .ret (.inr rfl) (by kernel_rfl) True.intro (by kernel_rfl)

def hn7:Hint:=⟨[(1,[15])],[]⟩
def o7 (r:(List (List Int)) × Bool):List AV:=[.sl (iL (iI .i64) r.1),vb r.2]
def p7 (r:(List (List Int)) × Bool):List (Nat × AV):=[]
theorem ad_7 {k:Nat} {l0_0:List (S64)} {l0_1:List Int} {r1:List (List Int)} {r2:Bool} (h:spec_Solutions.f k l0_0 l0_1 = some (r1,r2)):CallH Tryz.prog 7 [.agg [.sl (iS64 l0_0),.sl (iI .i64 l0_1)]] [] (.tup [.sl (iL (iI .i64) r1),vb r2]) []:=by
 unfold spec_Solutions.f at h
 refine call_ok (c:=bodyOf Tryz.f7) (rs:=o7 (r1,r2)) (post:=p7 (r1,r2)) Tryz.func7 rfl rfl rfl (by kernel_rfl) ?_
 show AtP Tryz.prog 14 (bodyOf Tryz.f7) (KR Tryz.prog Tryz.f7.results.toList (o7 (r1,r2)) (p7 (r1,r2))) [] [] (lookA [(0,.agg [.sl (iS64 l0_0),.sl (iI .i64 l0_1)])])
 refine at_ (hn:=hn7) ?_
 obtain ⟨⟨bt391_1,bt391_2⟩,c1,h2⟩:=bd_ h
 try dsimp only at h2
 refine mid (hn:=hn7) 8 1 [.goT,.call (.tup [.sl (iL (iI .i64) bt391_1),vb bt391_2])] (ad_36 c1) (by kernel_rfl) ?_
 rcases ite_ h2 with ⟨g3,h4⟩ | ⟨g3,h4⟩
 ·subst g3
  obtain ⟨rfl,rfl⟩:=pr2_ h4
  exact leafRet (hn:=hn7) 9 [] [] .ret (.inr rfl) (by kernel_rfl) True.intro (by kernel_rfl)
 ·obtain rfl:=Bool.eq_false_iff.2 g3
  obtain ⟨rfl,rfl⟩:=pr2_ h4
  exact leafRet (hn:=hn7) 8 [.goT] [] .ret (.inr rfl) (by kernel_rfl) True.intro (by kernel_rfl)

def hn8:Hint:=⟨[(1,[15])],[]⟩
def o8 (r:Int × Bool):List AV:=[vi r.1,vb r.2]
def p8 (r:Int × Bool):List (Nat × AV):=[]
theorem ad_8 {k:Nat} {l0_0:List (S64)} {l0_1:List Int} {r1:Int} {r2:Bool} (h:impl_CountSolutions.f k l0_0 l0_1 = some (r1,r2)):CallH Tryz.prog 8 [.agg [.sl (iS64 l0_0),.sl (iI .i64 l0_1)]] [] (.tup [vi r1,vb r2]) []:=by
 unfold impl_CountSolutions.f at h
 refine call_ok (c:=bodyOf Tryz.f8) (rs:=o8 (r1,r2)) (post:=p8 (r1,r2)) Tryz.func8 rfl rfl rfl (by kernel_rfl) ?_
 show AtP Tryz.prog 14 (bodyOf Tryz.f8) (KR Tryz.prog Tryz.f8.results.toList (o8 (r1,r2)) (p8 (r1,r2))) [] [] (lookA [(0,.agg [.sl (iS64 l0_0),.sl (iI .i64 l0_1)])])
 refine at_ (hn:=hn8) ?_
 obtain ⟨⟨bt396_1,bt396_2⟩,c1,h2⟩:=bd_ h
 try dsimp only at h2
 obtain ⟨rfl,rfl⟩:=pr2_ h2
 exact leafRet (hn:=hn8) 10 [.call (.tup [.sl (iL (iI .i64) bt396_1),vb bt396_2]),.val (.int .i64 (bt396_1.length:Int))] [] .ret (.inr rfl) (by kernel_rfl) (And.intro (ad_6 c1) (iL_len (f:=(iI .i64)) (xs:=bt396_1))) (by kernel_rfl)

def hn9:Hint:=⟨[(1,[16])],[]⟩
def o9 (r:Int × Bool):List AV:=[vi r.1,vb r.2]
def p9 (r:Int × Bool):List (Nat × AV):=[]
theorem ad_9 {k:Nat} {l0_0:List (S64)} {l0_1:List Int} {r1:Int} {r2:Bool} (h:spec_CountSolutions.f k l0_0 l0_1 = some (r1,r2)):CallH Tryz.prog 9 [.agg [.sl (iS64 l0_0),.sl (iI .i64 l0_1)]] [] (.tup [vi r1,vb r2]) []:=by
 unfold spec_CountSolutions.f at h
 refine call_ok (c:=bodyOf Tryz.f9) (rs:=o9 (r1,r2)) (post:=p9 (r1,r2)) Tryz.func9 rfl rfl rfl (by kernel_rfl) ?_
 show AtP Tryz.prog 15 (bodyOf Tryz.f9) (KR Tryz.prog Tryz.f9.results.toList (o9 (r1,r2)) (p9 (r1,r2))) [] [] (lookA [(0,.agg [.sl (iS64 l0_0),.sl (iI .i64 l0_1)])])
 refine at_ (hn:=hn9) ?_
 obtain ⟨⟨bt401_1,bt401_2⟩,c1,h2⟩:=bd_ h
 try dsimp only at h2
 refine mid (hn:=hn9) 8 1 [.call (.tup [.sl (iL (iI .i64) bt401_1),vb bt401_2])] (ad_36 c1) (by kernel_rfl) ?_
 rcases ite_ h2 with ⟨g3,h4⟩ | ⟨g3,h4⟩
 ·subst g3
  obtain ⟨rfl,rfl⟩:=pr2_ h4
  exact leafRet (hn:=hn9) 9 [.val (.int .i64 (bt401_1.length:Int))] [] .ret (.inr rfl) (by kernel_rfl) (iL_len (f:=(iI .i64)) (xs:=bt401_1)) (by kernel_rfl)
 ·obtain rfl:=Bool.eq_false_iff.2 g3
  obtain ⟨rfl,rfl⟩:=pr2_ h4
  exact leafRet (hn:=hn9) 8 [] [] .ret (.inr rfl) (by kernel_rfl) True.intro (by kernel_rfl)

def hn10:Hint:=⟨[(1,[18])],[]⟩
def o10 (r:List Int × Bool):List AV:=[.sl (iI .i64 r.1),vb r.2]
def p10 (r:List Int × Bool):List (Nat × AV):=[]
theorem ad_10 {k:Nat} {l0_0:List (S64)} {l0_1:List Int} {r1:List Int} {r2:Bool} (h:impl_FirstSolution.f k l0_0 l0_1 = some (r1,r2)):CallH Tryz.prog 10 [.agg [.sl (iS64 l0_0),.sl (iI .i64 l0_1)]] [] (.tup [.sl (iI .i64 r1),vb r2]) []:=by
 unfold impl_FirstSolution.f at h
 refine call_ok (c:=bodyOf Tryz.f10) (rs:=o10 (r1,r2)) (post:=p10 (r1,r2)) Tryz.func10 rfl rfl rfl (by kernel_rfl) ?_
 show AtP Tryz.prog 17 (bodyOf Tryz.f10) (KR Tryz.prog Tryz.f10.results.toList (o10 (r1,r2)) (p10 (r1,r2))) [] [] (lookA [(0,.agg [.sl (iS64 l0_0),.sl (iI .i64 l0_1)])])
 refine at_ (hn:=hn10) ?_
 obtain ⟨⟨bt406_1,bt406_2⟩,c1,h2⟩:=bd_ h
 try dsimp only at h2
 refine mid (hn:=hn10) 8 2 [.goT,.call (.tup [.sl (iL (iI .i64) bt406_1),vb bt406_2]),.val (.int .i64 (bt406_1.length:Int))] (And.intro (ad_6 c1) (iL_len (f:=(iI .i64)) (xs:=bt406_1))) (by kernel_rfl) ?_
 rcases ite_ h2 with ⟨g3,h4⟩ | ⟨g3,h4⟩
 ·obtain ⟨rfl,rfl⟩:=pr2_ h4
  exact leafRet (hn:=hn10) 8 [.val (.bool true),.goT] [] .ret (.inr rfl) (by kernel_rfl) (int_eql (P:=Tryz.prog) (t:=3) (k:=.i64) (x:=(.tmp 12)) (y:=(.const (.int .i64 0))) (a:=(bt406_1.length:Int)) (b:=0) (v:=true) (beq_iff_eq.2 g3)) (by kernel_rfl)
 ·obtain ⟨g5,h6⟩:=ip_ h4
  obtain ⟨rfl,rfl⟩:=pr2_ h6
  exact leafRet (hn:=hn10) 9 [.val (.bool false),.elem (.sl (iI .i64 (rd_L4 bt406_1 0)))] [] .ret (.inr rfl) (by kernel_rfl) (And.intro (int_eql (P:=Tryz.prog) (t:=3) (k:=.i64) (x:=(.tmp 12)) (y:=(.const (.int .i64 0))) (a:=(bt406_1.length:Int)) (b:=0) (v:=false) (beq_false_of_ne g3)) (iL_rd (f:=(iI .i64)) (xs:=bt406_1) (i:=0) (by decide) g5)) (by kernel_rfl)

def hn11:Hint:=⟨[(1,[22])],[]⟩
def o11 (r:List Int × Bool):List AV:=[.sl (iI .i64 r.1),vb r.2]
def p11 (r:List Int × Bool):List (Nat × AV):=[]
theorem ad_11 {k:Nat} {l0_0:List (S64)} {l0_1:List Int} {r1:List Int} {r2:Bool} (h:spec_FirstSolution.f k l0_0 l0_1 = some (r1,r2)):CallH Tryz.prog 11 [.agg [.sl (iS64 l0_0),.sl (iI .i64 l0_1)]] [] (.tup [.sl (iI .i64 r1),vb r2]) []:=by
 unfold spec_FirstSolution.f at h
 refine call_ok (c:=bodyOf Tryz.f11) (rs:=o11 (r1,r2)) (post:=p11 (r1,r2)) Tryz.func11 rfl rfl rfl (by kernel_rfl) ?_
 show AtP Tryz.prog 21 (bodyOf Tryz.f11) (KR Tryz.prog Tryz.f11.results.toList (o11 (r1,r2)) (p11 (r1,r2))) [] [] (lookA [(0,.agg [.sl (iS64 l0_0),.sl (iI .i64 l0_1)])])
 refine at_ (hn:=hn11) ?_
 obtain ⟨⟨bt412_1,bt412_2⟩,c1,h2⟩:=bd_ h
 try dsimp only at h2
 refine mid (hn:=hn11) 8 3 [.goT,.call (.tup [.sl (iL (iI .i64) bt412_1),vb bt412_2])] (ad_36 c1) (by kernel_rfl) ?_
 rcases ite_ h2 with ⟨g3,h4⟩ | ⟨g3,h4⟩
 ·subst g3
  refine mid (hn:=hn11) 0 2 [.val (.int .i64 (bt412_1.length:Int))] (iL_len (f:=(iI .i64)) (xs:=bt412_1)) (by kernel_rfl) ?_
  rcases ite_ h4 with ⟨g5,h6⟩ | ⟨g5,h6⟩
  ·obtain ⟨rfl,rfl⟩:=pr2_ h6
   exact leafRet (hn:=hn11) 8 [.val (.bool true),.goT] [] .ret (.inr rfl) (by kernel_rfl) (int_eql (P:=Tryz.prog) (t:=3) (k:=.i64) (x:=(.tmp 15)) (y:=(.const (.int .i64 0))) (a:=(bt412_1.length:Int)) (b:=0) (v:=true) (beq_iff_eq.2 g5)) (by kernel_rfl)
  ·obtain ⟨g7,h8⟩:=ip_ h6
   obtain ⟨rfl,rfl⟩:=pr2_ h8
   exact leafRet (hn:=hn11) 9 [.val (.bool false),.elem (.sl (iI .i64 (rd_L4 bt412_1 0)))] [] .ret (.inr rfl) (by kernel_rfl) (And.intro (int_eql (P:=Tryz.prog) (t:=3) (k:=.i64) (x:=(.tmp 15)) (y:=(.const (.int .i64 0))) (a:=(bt412_1.length:Int)) (b:=0) (v:=false) (beq_false_of_ne g5)) (iL_rd (f:=(iI .i64)) (xs:=bt412_1) (i:=0) (by decide) g7)) (by kernel_rfl)
 ·obtain rfl:=Bool.eq_false_iff.2 g3
  obtain ⟨rfl,rfl⟩:=pr2_ h4
  exact leafRet (hn:=hn11) 8 [.goT] [] .ret (.inr rfl) (by kernel_rfl) True.intro (by kernel_rfl)

def hn12:Hint:=⟨[(1,[51]),(44,[72]),(46,[72])],[]⟩
def o12 (r:List Int × Bool):List AV:=[.sl (iI .i64 r.1),vb r.2]
def p12 (r:List Int × Bool):List (Nat × AV):=[]
def q12_l0 (r:List Int × Bool) (k:Nat) (L:List (Nat × AV)):Prop:=∃ (x4:List (List Int)) (x6:List Int) (x23:List (List Int)) (x24:Int) (x25:Int),L = [(4,.sl (iL (iI .i64) x4)),(6,.row 72),(23,.sl (iL (iI .i64) x23)),(24,vi x24),(25,vi x25),(72,.ow true 3 (iI .i64 x6))] ∧ impl_SureNumbers.l0 k x4 x6 x23 x24 x25 = some r
theorem q12_l0_mk {r:List Int × Bool} {k:Nat} {x4:List (List Int)} {x6:List Int} {x23:List (List Int)} {x24:Int} {x25:Int} (h:impl_SureNumbers.l0 k x4 x6 x23 x24 x25 = some r):q12_l0 r k [(4,.sl (iL (iI .i64) x4)),(6,.row 72),(23,.sl (iL (iI .i64) x23)),(24,vi x24),(25,vi x25),(72,.ow true 3 (iI .i64 x6))]:=⟨x4,x6,x23,x24,x25,rfl,h⟩
def q12_l1 (r:List Int × Bool) (K0:Nat) (k:Nat) (L:List (Nat × AV)):Prop:=k < K0 ∧ ∃ (x4:List (List Int)) (x6:List Int) (x23:List (List Int)) (x24:Int) (x25:Int) (x29:List Int) (x30:Int) (x31:Int),L = [(4,.sl (iL (iI .i64) x4)),(6,.row 72),(23,.sl (iL (iI .i64) x23)),(24,vi x24),(25,vi x25),(29,.sl (iI .i64 x29)),(30,vi x30),(31,vi x31),(72,.ow true 3 (iI .i64 x6))] ∧ impl_SureNumbers.l1 k x4 x6 x23 x24 x25 x29 x30 x31 = some r
theorem q12_l1_mk {r:List Int × Bool} {K0:Nat} {k:Nat} {x4:List (List Int)} {x6:List Int} {x23:List (List Int)} {x24:Int} {x25:Int} {x29:List Int} {x30:Int} {x31:Int} (hk0:k < K0) (h:impl_SureNumbers.l1 k x4 x6 x23 x24 x25 x29 x30 x31 = some r):q12_l1 r K0 k [(4,.sl (iL (iI .i64) x4)),(6,.row 72),(23,.sl (iL (iI .i64) x23)),(24,vi x24),(25,vi x25),(29,.sl (iI .i64 x29)),(30,vi x30),(31,vi x31),(72,.ow true 3 (iI .i64 x6))]:=⟨hk0,x4,x6,x23,x24,x25,x29,x30,x31,rfl,h⟩
theorem at12_l1 {r:List Int × Bool} {K0:Nat}:∀ k L,q12_l1 r K0 k L → AtP Tryz.prog 50 (bodyOf Tryz.f12) (KR Tryz.prog Tryz.f12.results.toList (o12 r) (p12 r)) [true,true,true,true,false,true,false,false,true,true,false,false,true,true,false] [upto (q12_l0 r) K0] (lookA L) :=
 at_loop (by kernel_rfl) (fun _ => by kernel_rfl) (q12_l1 r K0) (by
  rintro k _ ⟨hk0,x4,x6,x23,x24,x25,x29,x30,x31,rfl,h⟩
  cases k with
  | zero => simp [impl_SureNumbers.l1] at h
  | succ k =>
   rw [impl_SureNumbers.l1] at h
   have hk0:=Nat.lt_of_succ_lt hk0
   refine at_ (hn:=hn12) ?_
   rcases ite_ h with ⟨g1,h2⟩ | ⟨g1,h2⟩
   ·obtain ⟨g3,h4⟩:=ip_ h2
    obtain ⟨g5,h6⟩:=ip_ h4
    obtain ⟨g7,h8⟩:=ip_ h6
    obtain ⟨g9,h10⟩:=ip_ h8
    refine mid (hn:=hn12) 13 7 [.val (.bool true),.elem (vi (rd x29 x31)),.elem (.sl (iI .i64 (rd_L4 x4 0))),.elem (vi (rd (rd_L4 x4 0) x31))] (And.intro (int_lss (P:=Tryz.prog) (t:=3) (k:=.i64) (x:=(.tmp 31)) (y:=(.tmp 30)) (a:=x31) (b:=x30) (v:=true) (decide_eq_true g1)) (And.intro (iI_rd (k:=.i64) (xs:=x29) (i:=x31) g3 g5) (And.intro (iL_rd (f:=(iI .i64)) (xs:=x4) (i:=0) (by decide) g7) (iI_rd (k:=.i64) (xs:=(rd_L4 x4 0)) (i:=x31) g3 g9)))) (by kernel_rfl) ?_
    rcases ite_ h10 with ⟨g11,h12⟩ | ⟨g11,h12⟩
    ·exact leafBack (hn:=hn12) 7 [.val (.bool false),.val (.int .i64 (wrap64 (x31 + 1)))] [] (q12_l1_mk hk0 h12) (Nat.lt_succ_self k) (And.intro (int_neq (P:=Tryz.prog) (t:=3) (k:=.i64) (x:=(.tmp 36)) (y:=(.tmp 42)) (a:=(rd x29 x31)) (b:=(rd (rd_L4 x4 0) x31)) (v:=false) (nbeq_f g11)) (int_add (P:=Tryz.prog) (t:=3) (k:=.i64) (x:=(.tmp 31)) (y:=(.const (.int .i64 1))) (a:=x31) (b:=1) (c:=(wrap64 (x31 + 1))) (IntWalk.i64_left _))) (by kernel_rfl)
    ·obtain ⟨g13,h14⟩:=ip_ h12
     exact leafBack (hn:=hn12) 7 [.val (.bool true),.go,.elem (vi (rd x6 x31)),.elem (.ow true 3 (iI .i64 (x6.set ((x31:Int).toNat) (-1)))),.val (.int .i64 (wrap64 (x31 + 1)))] [] (q12_l1_mk hk0 h14) (Nat.lt_succ_self k) (And.intro (int_neq (P:=Tryz.prog) (t:=3) (k:=.i64) (x:=(.tmp 36)) (y:=(.tmp 42)) (a:=(rd x29 x31)) (b:=(rd (rd_L4 x4 0) x31)) (v:=true) (nbeq_t g11)) (And.intro (And.intro (iI_lt (k:=.i64) (xs:=x6) (i:=x31) g3 g13) (iI_set (k:=.i64) (xs:=x6) (i:=x31) (x:=-1) g3 g13)) (int_add (P:=Tryz.prog) (t:=3) (k:=.i64) (x:=(.tmp 31)) (y:=(.const (.int .i64 1))) (a:=x31) (b:=1) (c:=(wrap64 (x31 + 1))) (IntWalk.i64_left _)))) (by kernel_rfl)
   ·exact leafBack (hn:=hn12) 12 [.val (.bool false),.val (.int .i64 (wrap64 (x25 + 1)))] [] (q12_l0_mk h2) hk0 (And.intro (int_lss (P:=Tryz.prog) (t:=3) (k:=.i64) (x:=(.tmp 31)) (y:=(.tmp 30)) (a:=x31) (b:=x30) (v:=false) (decide_eq_false g1)) (int_add (P:=Tryz.prog) (t:=3) (k:=.i64) (x:=(.tmp 25)) (y:=(.const (.int .i64 1))) (a:=x25) (b:=1) (c:=(wrap64 (x25 + 1))) (IntWalk.i64_left _))) (by kernel_rfl))
theorem at12_l0 {r:List Int × Bool}:∀ k L,q12_l0 r k L → AtP Tryz.prog 50 (bodyOf Tryz.f12) (KR Tryz.prog Tryz.f12.results.toList (o12 r) (p12 r)) [true,true,true,true,false,true,false] [] (lookA L) :=
 at_loop (by kernel_rfl) (fun _ => by kernel_rfl) (q12_l0 r) (by
  rintro k _ ⟨x4,x6,x23,x24,x25,rfl,h⟩
  cases k with
  | zero => simp [impl_SureNumbers.l0] at h
  | succ k =>
   rw [impl_SureNumbers.l0] at h
   refine at_ (hn:=hn12) ?_
   rcases ite_ h with ⟨g1,h2⟩ | ⟨g1,h2⟩
   ·obtain ⟨g3,h4⟩:=ip_ h2
    obtain ⟨g5,h6⟩:=ip_ h4
    exact leafAt (hn:=hn12) 16 [.val (.bool true),.elem (.sl (iI .i64 (rd_L4 x23 x25))),.val (.int .i64 ((rd_L4 x23 x25).length:Int))] [] (at12_l1 _ _ (q12_l1_mk (Nat.lt_succ_self k) h6)) (And.intro (int_lss (P:=Tryz.prog) (t:=3) (k:=.i64) (x:=(.tmp 25)) (y:=(.tmp 24)) (a:=x25) (b:=x24) (v:=true) (decide_eq_true g1)) (And.intro (iL_rd (f:=(iI .i64)) (xs:=x23) (i:=x25) g3 g5) (iI_len (k:=.i64) (xs:=(rd_L4 x23 x25))))) (by kernel_rfl)
   ·obtain rfl:=Option.some.inj h2
    exact leafRet (hn:=hn12) 14 [.val (.bool false),.fz 72] [] .ret (.inr rfl) (by kernel_rfl) (int_lss (P:=Tryz.prog) (t:=3) (k:=.i64) (x:=(.tmp 25)) (y:=(.tmp 24)) (a:=x25) (b:=x24) (v:=false) (decide_eq_false g1)) (by kernel_rfl))
theorem ad_12 {k:Nat} {l0_0:List (S64)} {l0_1:List Int} {r1:List Int} {r2:Bool} (h:impl_SureNumbers.f k l0_0 l0_1 = some (r1,r2)):CallH Tryz.prog 12 [.agg [.sl (iS64 l0_0),.sl (iI .i64 l0_1)]] [] (.tup [.sl (iI .i64 r1),vb r2]) []:=by
 unfold impl_SureNumbers.f at h
 refine call_ok (c:=bodyOf Tryz.f12) (rs:=o12 (r1,r2)) (post:=p12 (r1,r2)) Tryz.func12 rfl rfl rfl (by kernel_rfl) ?_
 show AtP Tryz.prog 50 (bodyOf Tryz.f12) (KR Tryz.prog Tryz.f12.results.toList (o12 (r1,r2)) (p12 (r1,r2))) [] [] (lookA [(0,.agg [.sl (iS64 l0_0),.sl (iI .i64 l0_1)])])
 refine at_ (hn:=hn12) ?_
 obtain ⟨⟨bt418_1,bt418_2⟩,c1,h2⟩:=bd_ h
 try dsimp only at h2
 refine mid (hn:=hn12) 8 2 [.goT,.call (.tup [.sl (iL (iI .i64) bt418_1),vb bt418_2]),.val (.int .i64 (bt418_1.length:Int))] (And.intro (ad_6 c1) (iL_len (f:=(iI .i64)) (xs:=bt418_1))) (by kernel_rfl) ?_
 rcases ite_ h2 with ⟨g3,h4⟩ | ⟨g3,h4⟩
 ·obtain ⟨rfl,rfl⟩:=pr2_ h4
  exact leafRet (hn:=hn12) 8 [.val (.bool true),.goT] [] .ret (.inr rfl) (by kernel_rfl) (int_eql (P:=Tryz.prog) (t:=3) (k:=.i64) (x:=(.tmp 17)) (y:=(.const (.int .i64 0))) (a:=(bt418_1.length:Int)) (b:=0) (v:=true) (beq_iff_eq.2 g3)) (by kernel_rfl)
 ·obtain ⟨g5,h6⟩:=ip_ h4
  obtain ⟨t423,c7,h8⟩:=bd_ h6
  exact leafAt (hn:=hn12) 13 [.val (.bool false),.elem (.sl (iI .i64 (rd_L4 bt418_1 0))),.callH [] (.row 72) [(72,.ow true 3 (iI .i64 t423))],.val (.int .i64 (bt418_1.length:Int))] [] (at12_l0 _ _ (q12_l0_mk h8)) (And.intro (int_eql (P:=Tryz.prog) (t:=3) (k:=.i64) (x:=(.tmp 17)) (y:=(.const (.int .i64 0))) (a:=(bt418_1.length:Int)) (b:=0) (v:=false) (beq_false_of_ne g3)) (And.intro (And.intro (iL_rd (f:=(iI .i64)) (xs:=bt418_1) (i:=0) (by decide) g5) (CallH.ren [(500000,72)] rfl rfl (ad_37 c7))) (iL_len (f:=(iI .i64)) (xs:=bt418_1)))) (by kernel_rfl)

def hn38:Hint:=⟨[(25,[48]),(27,[48]),(31,[48]),(33,[48])],[]⟩
def o38 (r:List Int):List AV:=[.sl (iI .i64 r)]
def p38 (r:List Int):List (Nat × AV):=[]
def q38_l0 (r:List Int) (k:Nat) (L:List (Nat × AV)):Prop:=∃ (x3:List Int) (x12:List (List Int)) (x13:Int) (x14:Int),L = [(3,.row 48),(12,.sl (iL (iI .i64) x12)),(13,vi x13),(14,vi x14),(48,.ow true 3 (iI .i64 x3))] ∧ spec_pzSure.l0 k x3 x12 x13 x14 = some r
theorem q38_l0_mk {r:List Int} {k:Nat} {x3:List Int} {x12:List (List Int)} {x13:Int} {x14:Int} (h:spec_pzSure.l0 k x3 x12 x13 x14 = some r):q38_l0 r k [(3,.row 48),(12,.sl (iL (iI .i64) x12)),(13,vi x13),(14,vi x14),(48,.ow true 3 (iI .i64 x3))]:=⟨x3,x12,x13,x14,rfl,h⟩
def q38_l1 (r:List Int) (K0:Nat) (k:Nat) (L:List (Nat × AV)):Prop:=k < K0 ∧ ∃ (x3:List Int) (x12:List (List Int)) (x13:Int) (x14:Int) (x18:List Int) (x19:Int) (x20:Int),L = [(3,.row 48),(12,.sl (iL (iI .i64) x12)),(13,vi x13),(14,vi x14),(18,.sl (iI .i64 x18)),(19,vi x19),(20,vi x20),(48,.ow true 3 (iI .i64 x3))] ∧ spec_pzSure.l1 k x3 x12 x13 x14 x18 x19 x20 = some r
theorem q38_l1_mk {r:List Int} {K0:Nat} {k:Nat} {x3:List Int} {x12:List (List Int)} {x13:Int} {x14:Int} {x18:List Int} {x19:Int} {x20:Int} (hk0:k < K0) (h:spec_pzSure.l1 k x3 x12 x13 x14 x18 x19 x20 = some r):q38_l1 r K0 k [(3,.row 48),(12,.sl (iL (iI .i64) x12)),(13,vi x13),(14,vi x14),(18,.sl (iI .i64 x18)),(19,vi x19),(20,vi x20),(48,.ow true 3 (iI .i64 x3))]:=⟨hk0,x3,x12,x13,x14,x18,x19,x20,rfl,h⟩
theorem at38_l1 {r:List Int} {K0:Nat}:∀ k L,q38_l1 r K0 k L → AtP Tryz.prog 37 (bodyOf Tryz.f38) (KR Tryz.prog Tryz.f38.results.toList (o38 r) (p38 r)) [true,true,false,true,false,false,true,true,false,false,true,true,false] [upto (q38_l0 r) K0] (lookA L) :=
 at_loop (by kernel_rfl) (fun _ => by kernel_rfl) (q38_l1 r K0) (by
  rintro k _ ⟨hk0,x3,x12,x13,x14,x18,x19,x20,rfl,h⟩
  cases k with
  | zero => simp [spec_pzSure.l1] at h
  | succ k =>
   rw [spec_pzSure.l1] at h
   have hk0:=Nat.lt_of_succ_lt hk0
   refine at_ (hn:=hn38) ?_
   rcases ite_ h with ⟨g1,h2⟩ | ⟨g1,h2⟩
   ·obtain ⟨g3,h4⟩:=ip_ h2
    obtain ⟨g5,h6⟩:=ip_ h4
    obtain ⟨g7,h8⟩:=ip_ h6
    refine mid (hn:=hn38) 13 5 [.val (.bool true),.elem (vi (rd x18 x20)),.go,.elem (vi (rd x3 x20))] (And.intro (int_lss (P:=Tryz.prog) (t:=3) (k:=.i64) (x:=(.tmp 20)) (y:=(.tmp 19)) (a:=x20) (b:=x19) (v:=true) (decide_eq_true g1)) (And.intro (iI_rd (k:=.i64) (xs:=x18) (i:=x20) g3 g5) (And.intro (iI_lt (k:=.i64) (xs:=x3) (i:=x20) g3 g7) (And.right (iI_rd (k:=.i64) (xs:=x3) (i:=x20) g3 g7))))) (by kernel_rfl) ?_
    rcases ite_ h8 with ⟨g9,h10⟩ | ⟨g9,h10⟩
    ·exact leafBack (hn:=hn38) 7 [.val (.bool false),.val (.int .i64 (wrap64 (x20 + 1)))] [] (q38_l1_mk hk0 h10) (Nat.lt_succ_self k) (And.intro (int_neq (P:=Tryz.prog) (t:=3) (k:=.i64) (x:=(.tmp 28)) (y:=(.tmp 29)) (a:=(rd x3 x20)) (b:=(rd x18 x20)) (v:=false) (nbeq_f g9)) (int_add (P:=Tryz.prog) (t:=3) (k:=.i64) (x:=(.tmp 20)) (y:=(.const (.int .i64 1))) (a:=x20) (b:=1) (c:=(wrap64 (x20 + 1))) (IntWalk.i64_left _))) (by kernel_rfl)
    ·exact leafBack (hn:=hn38) 7 [.val (.bool true),.go,.elem (vi (rd x3 x20)),.elem (.ow true 3 (iI .i64 (x3.set ((x20:Int).toNat) (-1)))),.val (.int .i64 (wrap64 (x20 + 1)))] [] (q38_l1_mk hk0 h10) (Nat.lt_succ_self k) (And.intro (int_neq (P:=Tryz.prog) (t:=3) (k:=.i64) (x:=(.tmp 28)) (y:=(.tmp 29)) (a:=(rd x3 x20)) (b:=(rd x18 x20)) (v:=true) (nbeq_t g9)) (And.intro (And.intro (iI_lt (k:=.i64) (xs:=x3) (i:=x20) g3 g7) (iI_set (k:=.i64) (xs:=x3) (i:=x20) (x:=-1) g3 g7)) (int_add (P:=Tryz.prog) (t:=3) (k:=.i64) (x:=(.tmp 20)) (y:=(.const (.int .i64 1))) (a:=x20) (b:=1) (c:=(wrap64 (x20 + 1))) (IntWalk.i64_left _)))) (by kernel_rfl)
   ·exact leafBack (hn:=hn38) 12 [.val (.bool false),.val (.int .i64 (wrap64 (x14 + 1)))] [] (q38_l0_mk h2) hk0 (And.intro (int_lss (P:=Tryz.prog) (t:=3) (k:=.i64) (x:=(.tmp 20)) (y:=(.tmp 19)) (a:=x20) (b:=x19) (v:=false) (decide_eq_false g1)) (int_add (P:=Tryz.prog) (t:=3) (k:=.i64) (x:=(.tmp 14)) (y:=(.const (.int .i64 1))) (a:=x14) (b:=1) (c:=(wrap64 (x14 + 1))) (IntWalk.i64_left _))) (by kernel_rfl))
theorem at38_l0 {r:List Int}:∀ k L,q38_l0 r k L → AtP Tryz.prog 37 (bodyOf Tryz.f38) (KR Tryz.prog Tryz.f38.results.toList (o38 r) (p38 r)) [true,true,false,true,false] [] (lookA L) :=
 at_loop (by kernel_rfl) (fun _ => by kernel_rfl) (q38_l0 r) (by
  rintro k _ ⟨x3,x12,x13,x14,rfl,h⟩
  cases k with
  | zero => simp [spec_pzSure.l0] at h
  | succ k =>
   rw [spec_pzSure.l0] at h
   refine at_ (hn:=hn38) ?_
   rcases ite_ h with ⟨g1,h2⟩ | ⟨g1,h2⟩
   ·obtain ⟨g3,h4⟩:=ip_ h2
    obtain ⟨g5,h6⟩:=ip_ h4
    exact leafAt (hn:=hn38) 16 [.val (.bool true),.elem (.sl (iI .i64 (rd_L4 x12 x14))),.val (.int .i64 ((rd_L4 x12 x14).length:Int))] [] (at38_l1 _ _ (q38_l1_mk (Nat.lt_succ_self k) h6)) (And.intro (int_lss (P:=Tryz.prog) (t:=3) (k:=.i64) (x:=(.tmp 14)) (y:=(.tmp 13)) (a:=x14) (b:=x13) (v:=true) (decide_eq_true g1)) (And.intro (iL_rd (f:=(iI .i64)) (xs:=x12) (i:=x14) g3 g5) (iI_len (k:=.i64) (xs:=(rd_L4 x12 x14))))) (by kernel_rfl)
   ·obtain rfl:=Option.some.inj h2
    exact leafRet (hn:=hn38) 14 [.val (.bool false),.fz 48] [] .ret (.inr rfl) (by kernel_rfl) (int_lss (P:=Tryz.prog) (t:=3) (k:=.i64) (x:=(.tmp 14)) (y:=(.tmp 13)) (a:=x14) (b:=x13) (v:=false) (decide_eq_false g1)) (by kernel_rfl))
theorem ad_38 {k:Nat} {l0:List (List Int)} {r:List Int} (h:spec_pzSure.f k l0 = some r):CallH Tryz.prog 38 [.sl (iL (iI .i64) l0)] [] (.sl (iI .i64 r)) []:=by
 unfold spec_pzSure.f at h
 refine call_ok (c:=bodyOf Tryz.f38) (rs:=o38 r) (post:=p38 r) Tryz.func38 rfl rfl rfl (by kernel_rfl) ?_
 show AtP Tryz.prog 37 (bodyOf Tryz.f38) (KR Tryz.prog Tryz.f38.results.toList (o38 r) (p38 r)) [] [] (lookA [(0,.sl (iL (iI .i64) l0))])
 refine at_ (hn:=hn38) ?_
 obtain ⟨g1,h2⟩:=ip_ h
 obtain ⟨t432,c3,h4⟩:=bd_ h2
 exact leafAt (hn:=hn38) 11 [.goT,.elem (.sl (iI .i64 (rd_L4 l0 0))),.callH [] (.row 48) [(48,.ow true 3 (iI .i64 t432))],.val (.int .i64 (l0.length:Int))] [] (at38_l0 _ _ (q38_l0_mk h4)) (And.intro (And.intro (iL_rd (f:=(iI .i64)) (xs:=l0) (i:=0) (by decide) g1) (CallH.ren [(500000,48)] rfl rfl (ad_79 c3))) (iL_len (f:=(iI .i64)) (xs:=l0))) (by kernel_rfl)

def hn13:Hint:=⟨[(1,[21])],[]⟩
def o13 (r:List Int × Bool):List AV:=[.sl (iI .i64 r.1),vb r.2]
def p13 (r:List Int × Bool):List (Nat × AV):=[]
theorem ad_13 {k:Nat} {l0_0:List (S64)} {l0_1:List Int} {r1:List Int} {r2:Bool} (h:spec_SureNumbers.f k l0_0 l0_1 = some (r1,r2)):CallH Tryz.prog 13 [.agg [.sl (iS64 l0_0),.sl (iI .i64 l0_1)]] [] (.tup [.sl (iI .i64 r1),vb r2]) []:=by
 unfold spec_SureNumbers.f at h
 refine call_ok (c:=bodyOf Tryz.f13) (rs:=o13 (r1,r2)) (post:=p13 (r1,r2)) Tryz.func13 rfl rfl rfl (by kernel_rfl) ?_
 show AtP Tryz.prog 20 (bodyOf Tryz.f13) (KR Tryz.prog Tryz.f13.results.toList (o13 (r1,r2)) (p13 (r1,r2))) [] [] (lookA [(0,.agg [.sl (iS64 l0_0),.sl (iI .i64 l0_1)])])
 refine at_ (hn:=hn13) ?_
 obtain ⟨⟨bt440_1,bt440_2⟩,c1,h2⟩:=bd_ h
 try dsimp only at h2
 refine mid (hn:=hn13) 8 3 [.goT,.call (.tup [.sl (iL (iI .i64) bt440_1),vb bt440_2])] (ad_36 c1) (by kernel_rfl) ?_
 rcases ite_ h2 with ⟨g3,h4⟩ | ⟨g3,h4⟩
 ·subst g3
  refine mid (hn:=hn13) 0 2 [.val (.int .i64 (bt440_1.length:Int))] (iL_len (f:=(iI .i64)) (xs:=bt440_1)) (by kernel_rfl) ?_
  rcases ite_ h4 with ⟨g5,h6⟩ | ⟨g5,h6⟩
  ·obtain ⟨rfl,rfl⟩:=pr2_ h6
   exact leafRet (hn:=hn13) 8 [.val (.bool true),.goT] [] .ret (.inr rfl) (by kernel_rfl) (int_eql (P:=Tryz.prog) (t:=3) (k:=.i64) (x:=(.tmp 15)) (y:=(.const (.int .i64 0))) (a:=(bt440_1.length:Int)) (b:=0) (v:=true) (beq_iff_eq.2 g5)) (by kernel_rfl)
  ·obtain ⟨t444,c7,h8⟩:=bd_ h6
   obtain ⟨rfl,rfl⟩:=pr2_ h8
   exact leafRet (hn:=hn13) 9 [.val (.bool false),.call (.sl (iI .i64 t444))] [] .ret (.inr rfl) (by kernel_rfl) (And.intro (int_eql (P:=Tryz.prog) (t:=3) (k:=.i64) (x:=(.tmp 15)) (y:=(.const (.int .i64 0))) (a:=(bt440_1.length:Int)) (b:=0) (v:=false) (beq_false_of_ne g5)) (ad_38 c7)) (by kernel_rfl)
 ·obtain rfl:=Bool.eq_false_iff.2 g3
  obtain ⟨rfl,rfl⟩:=pr2_ h4
  exact leafRet (hn:=hn13) 8 [.goT] [] .ret (.inr rfl) (by kernel_rfl) True.intro (by kernel_rfl)

def hn14:Hint:=⟨[(1,[35]),(24,[35])],[]⟩
def o14 (r:Int × Int × Bool):List AV:=[vi r.1,vi r.2.1,vb r.2.2]
def p14 (r:Int × Int × Bool):List (Nat × AV):=[]
def q14_l0 (r:Int × Int × Bool) (k:Nat) (L:List (Nat × AV)):Prop:=∃ (x14:List Int) (x15:Int) (x16:Int) (x448000:List (S64)) (x448001:List Int),L = [(1,.loc 35 0),(14,.sl (iI .i64 x14)),(15,vi x15),(16,vi x16),(35,.box (.agg [.sl (iS64 x448000),.sl (iI .i64 x448001)]))] ∧ impl_HintOf.l0 k x14 x15 x16 x448000 x448001 = some r
theorem q14_l0_mk {r:Int × Int × Bool} {k:Nat} {x14:List Int} {x15:Int} {x16:Int} {x448000:List (S64)} {x448001:List Int} (h:impl_HintOf.l0 k x14 x15 x16 x448000 x448001 = some r):q14_l0 r k [(1,.loc 35 0),(14,.sl (iI .i64 x14)),(15,vi x15),(16,vi x16),(35,.box (.agg [.sl (iS64 x448000),.sl (iI .i64 x448001)]))]:=⟨x14,x15,x16,x448000,x448001,rfl,h⟩
theorem at14_l0 {r:Int × Int × Bool}:∀ k L,q14_l0 r k L → AtP Tryz.prog 34 (bodyOf Tryz.f14) (KR Tryz.prog Tryz.f14.results.toList (o14 r) (p14 r)) [true,true,false,true,false] [] (lookA L) :=
 at_loop (by kernel_rfl) (fun _ => by kernel_rfl) (q14_l0 r) (by
  rintro k _ ⟨x14,x15,x16,x448000,x448001,rfl,h⟩
  cases k with
  | zero => simp [impl_HintOf.l0] at h
  | succ k =>
   rw [impl_HintOf.l0] at h
   refine at_ (hn:=hn14) ?_
   rcases ite_ h with ⟨g1,h2⟩ | ⟨g1,h2⟩
   ·obtain ⟨g3,h4⟩:=ip_ h2
    obtain ⟨g5,h6⟩:=ip_ h4
    refine mid (hn:=hn14) 13 1 [.val (.bool true),.elem (vi (rd x14 x16))] (And.intro (int_lss (P:=Tryz.prog) (t:=3) (k:=.i64) (x:=(.tmp 16)) (y:=(.tmp 15)) (a:=x16) (b:=x15) (v:=true) (decide_eq_true g1)) (iI_rd (k:=.i64) (xs:=x14) (i:=x16) g3 g5)) (by kernel_rfl) ?_
    rcases ite_ h6 with ⟨g7,h8⟩ | ⟨g7,h8⟩
    ·exact leafBack (hn:=hn14) 7 [.val (.bool false),.val (.int .i64 (wrap64 (x16 + 1)))] [] (q14_l0_mk h8) (Nat.lt_succ_self k) (And.intro (int_neq (P:=Tryz.prog) (t:=3) (k:=.i64) (x:=(.tmp 21)) (y:=(.const (.int .i64 (-1)))) (a:=(rd x14 x16)) (b:=(-1)) (v:=false) (nbeq_f g7)) (int_add (P:=Tryz.prog) (t:=3) (k:=.i64) (x:=(.tmp 16)) (y:=(.const (.int .i64 1))) (a:=x16) (b:=1) (c:=(wrap64 (x16 + 1))) (IntWalk.i64_left _))) (by kernel_rfl)
    ·obtain ⟨g9,h10⟩:=ip_ h8
     refine mid (hn:=hn14) 0 7 [.val (.bool true),.elem (vi (rd x448001 x16))] (And.intro (int_neq (P:=Tryz.prog) (t:=3) (k:=.i64) (x:=(.tmp 21)) (y:=(.const (.int .i64 (-1)))) (a:=(rd x14 x16)) (b:=(-1)) (v:=true) (nbeq_t g7)) (iI_rd (k:=.i64) (xs:=x448001) (i:=x16) g3 g9)) (by kernel_rfl) ?_
     rcases ite_ h10 with ⟨g11,h12⟩ | ⟨g11,h12⟩
     ·obtain rfl:=Option.some.inj h12
      exact leafRet (hn:=hn14) 12 [.val (.bool true)] [] .ret (.inr rfl) (by kernel_rfl) (int_eql (P:=Tryz.prog) (t:=3) (k:=.i64) (x:=(.tmp 28)) (y:=(.const (.int .i64 (-1)))) (a:=(rd x448001 x16)) (b:=(-1)) (v:=true) (beq_iff_eq.2 g11)) (by kernel_rfl)
     ·exact leafBack (hn:=hn14) 7 [.val (.bool false),.val (.int .i64 (wrap64 (x16 + 1)))] [] (q14_l0_mk h12) (Nat.lt_succ_self k) (And.intro (int_eql (P:=Tryz.prog) (t:=3) (k:=.i64) (x:=(.tmp 28)) (y:=(.const (.int .i64 (-1)))) (a:=(rd x448001 x16)) (b:=(-1)) (v:=false) (beq_false_of_ne g11)) (int_add (P:=Tryz.prog) (t:=3) (k:=.i64) (x:=(.tmp 16)) (y:=(.const (.int .i64 1))) (a:=x16) (b:=1) (c:=(wrap64 (x16 + 1))) (IntWalk.i64_left _))) (by kernel_rfl)
   ·obtain rfl:=Option.some.inj h2
    exact leafRet (hn:=hn14) 14 [.val (.bool false)] [] .ret (.inr rfl) (by kernel_rfl) (int_lss (P:=Tryz.prog) (t:=3) (k:=.i64) (x:=(.tmp 16)) (y:=(.tmp 15)) (a:=x16) (b:=x15) (v:=false) (decide_eq_false g1)) (by kernel_rfl))
theorem ad_14 {k:Nat} {l0_0:List (S64)} {l0_1:List Int} {r1:Int} {r2:Int} {r3:Bool} (h:impl_HintOf.f k l0_0 l0_1 = some (r1,r2,r3)):CallH Tryz.prog 14 [.agg [.sl (iS64 l0_0),.sl (iI .i64 l0_1)]] [] (.tup [vi r1,vi r2,vb r3]) []:=by
 unfold impl_HintOf.f at h
 refine call_ok (c:=bodyOf Tryz.f14) (rs:=o14 (r1,r2,r3)) (post:=p14 (r1,r2,r3)) Tryz.func14 rfl rfl rfl (by kernel_rfl) ?_
 show AtP Tryz.prog 34 (bodyOf Tryz.f14) (KR Tryz.prog Tryz.f14.results.toList (o14 (r1,r2,r3)) (p14 (r1,r2,r3))) [] [] (lookA [(0,.agg [.sl (iS64 l0_0),.sl (iI .i64 l0_1)])])
 refine at_ (hn:=hn14) ?_
 obtain ⟨⟨bt448_1,bt448_2⟩,c1,h2⟩:=bd_ h
 try dsimp only at h2
 exact leafAt (hn:=hn14) 11 [.call (.tup [.sl (iI .i64 bt448_1),vb bt448_2]),.val (.int .i64 (bt448_1.length:Int))] [] (at14_l0 _ _ (q14_l0_mk h2)) (And.intro (ad_12 c1) (iI_len (k:=.i64) (xs:=bt448_1))) (by kernel_rfl)

def hn15:Hint:=⟨[(1,[43]),(29,[43])],[]⟩
def o15 (r:Int × Int × Bool):List AV:=[vi r.1,vi r.2.1,vb r.2.2]
def p15 (r:Int × Int × Bool):List (Nat × AV):=[]
def q15_l0 (r:Int × Int × Bool) (k:Nat) (L:List (Nat × AV)):Prop:=∃ (x22:List Int) (x23:Int) (x24:Int) (x455000:List (S64)) (x455001:List Int),L = [(1,.loc 43 0),(22,.sl (iI .i64 x22)),(23,vi x23),(24,vi x24),(43,.box (.agg [.sl (iS64 x455000),.sl (iI .i64 x455001)]))] ∧ spec_HintOf.l0 k x22 x23 x24 x455000 x455001 = some r
theorem q15_l0_mk {r:Int × Int × Bool} {k:Nat} {x22:List Int} {x23:Int} {x24:Int} {x455000:List (S64)} {x455001:List Int} (h:spec_HintOf.l0 k x22 x23 x24 x455000 x455001 = some r):q15_l0 r k [(1,.loc 43 0),(22,.sl (iI .i64 x22)),(23,vi x23),(24,vi x24),(43,.box (.agg [.sl (iS64 x455000),.sl (iI .i64 x455001)]))]:=⟨x22,x23,x24,x455000,x455001,rfl,h⟩
theorem at15_l0 {r:Int × Int × Bool}:∀ k L,q15_l0 r k L → AtP Tryz.prog 42 (bodyOf Tryz.f15) (KR Tryz.prog Tryz.f15.results.toList (o15 r) (p15 r)) [true,true,true,false,true,false] [] (lookA L) :=
 at_loop (by kernel_rfl) (fun _ => by kernel_rfl) (q15_l0 r) (by
  rintro k _ ⟨x22,x23,x24,x455000,x455001,rfl,h⟩
  cases k with
  | zero => simp [spec_HintOf.l0] at h
  | succ k =>
   rw [spec_HintOf.l0] at h
   refine at_ (hn:=hn15) ?_
   rcases ite_ h with ⟨g1,h2⟩ | ⟨g1,h2⟩
   ·obtain ⟨g3,h4⟩:=ip_ h2
    obtain ⟨g5,h6⟩:=ip_ h4
    obtain ⟨g7,h8⟩:=ip_ h6
    refine mid (hn:=hn15) 13 5 [.val (.bool true),.elem (vi (rd x22 x24)),.elem (vi (rd x455001 x24))] (And.intro (int_lss (P:=Tryz.prog) (t:=3) (k:=.i64) (x:=(.tmp 24)) (y:=(.tmp 23)) (a:=x24) (b:=x23) (v:=true) (decide_eq_true g1)) (And.intro (iI_rd (k:=.i64) (xs:=x22) (i:=x24) g3 g5) (iI_rd (k:=.i64) (xs:=x455001) (i:=x24) g3 g7))) (by kernel_rfl) ?_
    rcases ite_ h8 with ⟨g9,h10⟩ | ⟨g9,h10⟩
    ·refine mid (hn:=hn15) 0 3 [.val (.bool true)] (int_lss (P:=Tryz.prog) (t:=3) (k:=.i64) (x:=(.tmp 33)) (y:=(.const (.int .i64 0))) (a:=(rd x455001 x24)) (b:=0) (v:=true) (decide_eq_true g9)) (by kernel_rfl) ?_
     rcases ite_ h10 with ⟨g11,h12⟩ | ⟨g11,h12⟩
     ·obtain rfl:=Option.some.inj h12
      exact leafRet (hn:=hn15) 12 [.val (.bool true)] [] .ret (.inr rfl) (by kernel_rfl) (int_geq (P:=Tryz.prog) (t:=3) (k:=.i64) (x:=(.tmp 36)) (y:=(.const (.int .i64 0))) (a:=(rd x22 x24)) (b:=0) (v:=true) (decide_eq_true g11)) (by kernel_rfl)
     ·exact leafBack (hn:=hn15) 7 [.val (.bool false),.val (.int .i64 (wrap64 (x24 + 1)))] [] (q15_l0_mk h12) (Nat.lt_succ_self k) (And.intro (int_geq (P:=Tryz.prog) (t:=3) (k:=.i64) (x:=(.tmp 36)) (y:=(.const (.int .i64 0))) (a:=(rd x22 x24)) (b:=0) (v:=false) (decide_eq_false g11)) (int_add (P:=Tryz.prog) (t:=3) (k:=.i64) (x:=(.tmp 24)) (y:=(.const (.int .i64 1))) (a:=x24) (b:=1) (c:=(wrap64 (x24 + 1))) (IntWalk.i64_left _))) (by kernel_rfl)
    ·exact leafBack (hn:=hn15) 7 [.val (.bool false),.val (.int .i64 (wrap64 (x24 + 1)))] [] (q15_l0_mk h10) (Nat.lt_succ_self k) (And.intro (int_lss (P:=Tryz.prog) (t:=3) (k:=.i64) (x:=(.tmp 33)) (y:=(.const (.int .i64 0))) (a:=(rd x455001 x24)) (b:=0) (v:=false) (decide_eq_false g9)) (int_add (P:=Tryz.prog) (t:=3) (k:=.i64) (x:=(.tmp 24)) (y:=(.const (.int .i64 1))) (a:=x24) (b:=1) (c:=(wrap64 (x24 + 1))) (IntWalk.i64_left _))) (by kernel_rfl)
   ·obtain rfl:=Option.some.inj h2
    exact leafRet (hn:=hn15) 14 [.val (.bool false)] [] .ret (.inr rfl) (by kernel_rfl) (int_lss (P:=Tryz.prog) (t:=3) (k:=.i64) (x:=(.tmp 24)) (y:=(.tmp 23)) (a:=x24) (b:=x23) (v:=false) (decide_eq_false g1)) (by kernel_rfl))
theorem at15_j0 {r:Int × Int × Bool} {k:Nat} {x5:List (List Int)} {x20:Bool} {x455000:List (S64)} {x455001:List Int} (h:spec_HintOf.j0 k x5 x20 x455000 x455001 = some r):AtP Tryz.prog 42 (bodyOf Tryz.f15) (KR Tryz.prog Tryz.f15.results.toList (o15 r) (p15 r)) [true,true,false,true] [] (lookA [(1,.loc 43 0),(5,.sl (iL (iI .i64) x5)),(20,vb x20),(43,.box (.agg [.sl (iS64 x455000),.sl (iI .i64 x455001)]))]):=by
 cases k with
 | zero => simp [spec_HintOf.j0] at h
 | succ k =>
  rw [spec_HintOf.j0] at h
  refine at_ (hn:=hn15) ?_
  rcases ite_ h with ⟨g1,h2⟩ | ⟨g1,h2⟩
  ·subst g1
   obtain rfl:=Option.some.inj h2
   exact leafRet (hn:=hn15) 6 [] [] .ret (.inr rfl) (by kernel_rfl) True.intro (by kernel_rfl)
  ·obtain rfl:=Bool.eq_false_iff.2 g1
   obtain ⟨t459,c3,h4⟩:=bd_ h2
   exact leafAt (hn:=hn15) 8 [.call (.sl (iI .i64 t459)),.val (.int .i64 (t459.length:Int))] [] (at15_l0 _ _ (q15_l0_mk h4)) (And.intro (ad_38 c3) (iI_len (k:=.i64) (xs:=t459))) (by kernel_rfl)
theorem ad_15 {k:Nat} {l0_0:List (S64)} {l0_1:List Int} {r1:Int} {r2:Int} {r3:Bool} (h:spec_HintOf.f k l0_0 l0_1 = some (r1,r2,r3)):CallH Tryz.prog 15 [.agg [.sl (iS64 l0_0),.sl (iI .i64 l0_1)]] [] (.tup [vi r1,vi r2,vb r3]) []:=by
 unfold spec_HintOf.f at h
 refine call_ok (c:=bodyOf Tryz.f15) (rs:=o15 (r1,r2,r3)) (post:=p15 (r1,r2,r3)) Tryz.func15 rfl rfl rfl (by kernel_rfl) ?_
 show AtP Tryz.prog 42 (bodyOf Tryz.f15) (KR Tryz.prog Tryz.f15.results.toList (o15 (r1,r2,r3)) (p15 (r1,r2,r3))) [] [] (lookA [(0,.agg [.sl (iS64 l0_0),.sl (iI .i64 l0_1)])])
 refine at_ (hn:=hn15) ?_
 obtain ⟨⟨bt455_1,bt455_2⟩,c1,h2⟩:=bd_ h
 try dsimp only at h2
 refine mid (hn:=hn15) 8 3 [.call (.tup [.sl (iL (iI .i64) bt455_1),vb bt455_2])] (ad_36 c1) (by kernel_rfl) ?_
 rcases ite_ h2 with ⟨g3,h4⟩ | ⟨g3,h4⟩
 ·subst g3
  exact leafAt (hn:=hn15) 2 [.val (.int .i64 (bt455_1.length:Int)),.val (.bool ((bt455_1.length:Int) == 0))] [] (at15_j0 h4) (And.intro (iL_len (f:=(iI .i64)) (xs:=bt455_1)) (int_eql (P:=Tryz.prog) (t:=3) (k:=.i64) (x:=(.tmp 18)) (y:=(.const (.int .i64 0))) (a:=(bt455_1.length:Int)) (b:=0) (v:=((bt455_1.length:Int) == 0)) rfl)) (by kernel_rfl)
 ·obtain rfl:=Bool.eq_false_iff.2 g3
  exact leafAt (hn:=hn15) 2 [] [] (at15_j0 h4) True.intro (by kernel_rfl)

def hn39:Hint:=⟨[],[]⟩
def o39 (r:Int):List AV:=[vi r]
def p39 (r:Int):List (Nat × AV):=[]
theorem ad_39 {a0:Bool} {r:Int} (h:impl_bit.f a0 = some r):CallH Tryz.prog 39 [vb a0] [] (vi r) []:=by
 unfold impl_bit.f at h
 refine call_ok (c:=bodyOf Tryz.f39) (rs:=o39 r) (post:=p39 r) Tryz.func39 rfl rfl rfl (by kernel_rfl) ?_
 show AtP Tryz.prog 4 (bodyOf Tryz.f39) (KR Tryz.prog Tryz.f39.results.toList (o39 r) (p39 r)) [] [] (lookA [(0,vb a0)])
 refine at_ (hn:=hn39) ?_
 rcases ite_ h with ⟨g1,h2⟩ | ⟨g1,h2⟩
 ·subst g1
  obtain rfl:=Option.some.inj h2
  exact leafRet (hn:=hn39) 13 [] [] .ret (.inr rfl) (by kernel_rfl) True.intro (by kernel_rfl)
 ·obtain rfl:=Bool.eq_false_iff.2 g1
  obtain rfl:=Option.some.inj h2
  exact leafRet (hn:=hn39) 14 [] [] .ret (.inr rfl) (by kernel_rfl) True.intro (by kernel_rfl)

def hn16:Hint:=⟨[(1,[25]),(10,[25])],[]⟩
def o16 (r:Int × Bool):List AV:=[vi r.1,vb r.2]
def p16 (r:Int × Bool):List (Nat × AV):=[]
def q16_l0 (r:Int × Bool) (k:Nat) (L:List (Nat × AV)):Prop:=∃ (x4:Int) (x11:List Int) (x12:Int) (x13:Int),L = [(4,vi x4),(11,.sl (iI .i64 x11)),(12,vi x12),(13,vi x13)] ∧ impl_CountGaps.l0 k x4 x11 x12 x13 = some r
theorem q16_l0_mk {r:Int × Bool} {k:Nat} {x4:Int} {x11:List Int} {x12:Int} {x13:Int} (h:impl_CountGaps.l0 k x4 x11 x12 x13 = some r):q16_l0 r k [(4,vi x4),(11,.sl (iI .i64 x11)),(12,vi x12),(13,vi x13)]:=⟨x4,x11,x12,x13,rfl,h⟩
theorem at16_l0 {r:Int × Bool}:∀ k L,q16_l0 r k L → AtP Tryz.prog 24 (bodyOf Tryz.f16) (KR Tryz.prog Tryz.f16.results.toList (o16 r) (p16 r)) [true,true,true,false,true,false] [] (lookA L) :=
 at_loop (by kernel_rfl) (fun _ => by kernel_rfl) (q16_l0 r) (by
  rintro k _ ⟨x4,x11,x12,x13,rfl,h⟩
  cases k with
  | zero => simp [impl_CountGaps.l0] at h
  | succ k =>
   rw [impl_CountGaps.l0] at h
   refine at_ (hn:=hn16) ?_
   rcases ite_ h with ⟨g1,h2⟩ | ⟨g1,h2⟩
   ·obtain ⟨g3,h4⟩:=ip_ h2
    obtain ⟨g5,h6⟩:=ip_ h4
    obtain ⟨t467,c7,h8⟩:=bd_ h6
    exact leafBack (hn:=hn16) 16 [.val (.bool true),.elem (vi (rd x11 x13)),.val (.bool ((rd x11 x13) == (-1))),.call (vi t467),.val (.int .i64 (wrap64 (x4 + t467))),.val (.int .i64 (wrap64 (x13 + 1)))] [] (q16_l0_mk h8) (Nat.lt_succ_self k) (And.intro (int_lss (P:=Tryz.prog) (t:=3) (k:=.i64) (x:=(.tmp 13)) (y:=(.tmp 12)) (a:=x13) (b:=x12) (v:=true) (decide_eq_true g1)) (And.intro (iI_rd (k:=.i64) (xs:=x11) (i:=x13) g3 g5) (And.intro (And.intro (int_eql (P:=Tryz.prog) (t:=3) (k:=.i64) (x:=(.tmp 18)) (y:=(.const (.int .i64 (-1)))) (a:=(rd x11 x13)) (b:=(-1)) (v:=((rd x11 x13) == (-1))) rfl) (And.intro (ad_39 c7) (int_add (P:=Tryz.prog) (t:=3) (k:=.i64) (x:=(.tmp 17)) (y:=(.tmp 20)) (a:=x4) (b:=t467) (c:=(wrap64 (x4 + t467))) (IntWalk.i64_left _)))) (int_add (P:=Tryz.prog) (t:=3) (k:=.i64) (x:=(.tmp 13)) (y:=(.const (.int .i64 1))) (a:=x13) (b:=1) (c:=(wrap64 (x13 + 1))) (IntWalk.i64_left _))))) (by kernel_rfl)
   ·obtain rfl:=Option.some.inj h2
    exact leafRet (hn:=hn16) 14 [.val (.bool false)] [] .ret (.inr rfl) (by kernel_rfl) (int_lss (P:=Tryz.prog) (t:=3) (k:=.i64) (x:=(.tmp 13)) (y:=(.tmp 12)) (a:=x13) (b:=x12) (v:=false) (decide_eq_false g1)) (by kernel_rfl))
theorem ad_16 {k:Nat} {l0_0:List (S64)} {l0_1:List Int} {r1:Int} {r2:Bool} (h:impl_CountGaps.f k l0_0 l0_1 = some (r1,r2)):CallH Tryz.prog 16 [.agg [.sl (iS64 l0_0),.sl (iI .i64 l0_1)]] [] (.tup [vi r1,vb r2]) []:=by
 unfold impl_CountGaps.f at h
 refine call_ok (c:=bodyOf Tryz.f16) (rs:=o16 (r1,r2)) (post:=p16 (r1,r2)) Tryz.func16 rfl rfl rfl (by kernel_rfl) ?_
 show AtP Tryz.prog 24 (bodyOf Tryz.f16) (KR Tryz.prog Tryz.f16.results.toList (o16 (r1,r2)) (p16 (r1,r2))) [] [] (lookA [(0,.agg [.sl (iS64 l0_0),.sl (iI .i64 l0_1)])])
 refine at_ (hn:=hn16) ?_
 obtain ⟨t465,c1,h2⟩:=bd_ h
 refine mid (hn:=hn16) 5 2 [.call (vb t465)] (ad_22 c1) (by kernel_rfl) ?_
 rcases ite_ h2 with ⟨g3,h4⟩ | ⟨g3,h4⟩
 ·subst g3
  exact leafAt (hn:=hn16) 13 [.val (.int .i64 (l0_1.length:Int))] [] (at16_l0 _ _ (q16_l0_mk h4)) (iI_len (k:=.i64) (xs:=l0_1)) (by kernel_rfl)
 ·obtain rfl:=Bool.eq_false_iff.2 g3
  obtain ⟨rfl,rfl⟩:=pr2_ h4
  exact leafRet (hn:=hn16) 8 [] [] .ret (.inr rfl) (by kernel_rfl) True.intro (by kernel_rfl)

def hn17:Hint:=⟨[(1,[24]),(10,[24])],[]⟩
def o17 (r:Int × Bool):List AV:=[vi r.1,vb r.2]
def p17 (r:Int × Bool):List (Nat × AV):=[]
def q17_l0 (r:Int × Bool) (k:Nat) (L:List (Nat × AV)):Prop:=∃ (x4:Int) (x11:List Int) (x12:Int) (x13:Int),L = [(4,vi x4),(11,.sl (iI .i64 x11)),(12,vi x12),(13,vi x13)] ∧ spec_CountGaps.l0 k x4 x11 x12 x13 = some r
theorem q17_l0_mk {r:Int × Bool} {k:Nat} {x4:Int} {x11:List Int} {x12:Int} {x13:Int} (h:spec_CountGaps.l0 k x4 x11 x12 x13 = some r):q17_l0 r k [(4,vi x4),(11,.sl (iI .i64 x11)),(12,vi x12),(13,vi x13)]:=⟨x4,x11,x12,x13,rfl,h⟩
theorem at17_l0 {r:Int × Bool}:∀ k L,q17_l0 r k L → AtP Tryz.prog 23 (bodyOf Tryz.f17) (KR Tryz.prog Tryz.f17.results.toList (o17 r) (p17 r)) [true,true,true,false,true,false] [] (lookA L) :=
 at_loop (by kernel_rfl) (fun _ => by kernel_rfl) (q17_l0 r) (by
  rintro k _ ⟨x4,x11,x12,x13,rfl,h⟩
  cases k with
  | zero => simp [spec_CountGaps.l0] at h
  | succ k =>
   rw [spec_CountGaps.l0] at h
   refine at_ (hn:=hn17) ?_
   rcases ite_ h with ⟨g1,h2⟩ | ⟨g1,h2⟩
   ·obtain ⟨g3,h4⟩:=ip_ h2
    obtain ⟨g5,h6⟩:=ip_ h4
    refine mid (hn:=hn17) 13 1 [.val (.bool true),.elem (vi (rd x11 x13))] (And.intro (int_lss (P:=Tryz.prog) (t:=3) (k:=.i64) (x:=(.tmp 13)) (y:=(.tmp 12)) (a:=x13) (b:=x12) (v:=true) (decide_eq_true g1)) (iI_rd (k:=.i64) (xs:=x11) (i:=x13) g3 g5)) (by kernel_rfl) ?_
    rcases ite_ h6 with ⟨g7,h8⟩ | ⟨g7,h8⟩
    ·exact leafBack (hn:=hn17) 7 [.val (.bool true),.val (.int .i64 (wrap64 (x4 + 1))),.val (.int .i64 (wrap64 (x13 + 1)))] [] (q17_l0_mk h8) (Nat.lt_succ_self k) (And.intro (int_lss (P:=Tryz.prog) (t:=3) (k:=.i64) (x:=(.tmp 17)) (y:=(.const (.int .i64 0))) (a:=(rd x11 x13)) (b:=0) (v:=true) (decide_eq_true g7)) (And.intro (int_add (P:=Tryz.prog) (t:=3) (k:=.i64) (x:=(.tmp 19)) (y:=(.const (.int .i64 1))) (a:=x4) (b:=1) (c:=(wrap64 (x4 + 1))) (IntWalk.i64_left _)) (int_add (P:=Tryz.prog) (t:=3) (k:=.i64) (x:=(.tmp 13)) (y:=(.const (.int .i64 1))) (a:=x13) (b:=1) (c:=(wrap64 (x13 + 1))) (IntWalk.i64_left _)))) (by kernel_rfl)
    ·exact leafBack (hn:=hn17) 7 [.val (.bool false),.val (.int .i64 (wrap64 (x13 + 1)))] [] (q17_l0_mk h8) (Nat.lt_succ_self k) (And.intro (int_lss (P:=Tryz.prog) (t:=3) (k:=.i64) (x:=(.tmp 17)) (y:=(.const (.int .i64 0))) (a:=(rd x11 x13)) (b:=0) (v:=false) (decide_eq_false g7)) (int_add (P:=Tryz.prog) (t:=3) (k:=.i64) (x:=(.tmp 13)) (y:=(.const (.int .i64 1))) (a:=x13) (b:=1) (c:=(wrap64 (x13 + 1))) (IntWalk.i64_left _))) (by kernel_rfl)
   ·obtain rfl:=Option.some.inj h2
    exact leafRet (hn:=hn17) 14 [.val (.bool false)] [] .ret (.inr rfl) (by kernel_rfl) (int_lss (P:=Tryz.prog) (t:=3) (k:=.i64) (x:=(.tmp 13)) (y:=(.tmp 12)) (a:=x13) (b:=x12) (v:=false) (decide_eq_false g1)) (by kernel_rfl))
theorem ad_17 {k:Nat} {l0_0:List (S64)} {l0_1:List Int} {r1:Int} {r2:Bool} (h:spec_CountGaps.f k l0_0 l0_1 = some (r1,r2)):CallH Tryz.prog 17 [.agg [.sl (iS64 l0_0),.sl (iI .i64 l0_1)]] [] (.tup [vi r1,vb r2]) []:=by
 unfold spec_CountGaps.f at h
 refine call_ok (c:=bodyOf Tryz.f17) (rs:=o17 (r1,r2)) (post:=p17 (r1,r2)) Tryz.func17 rfl rfl rfl (by kernel_rfl) ?_
 show AtP Tryz.prog 23 (bodyOf Tryz.f17) (KR Tryz.prog Tryz.f17.results.toList (o17 (r1,r2)) (p17 (r1,r2))) [] [] (lookA [(0,.agg [.sl (iS64 l0_0),.sl (iI .i64 l0_1)])])
 refine at_ (hn:=hn17) ?_
 obtain ⟨t469,c1,h2⟩:=bd_ h
 refine mid (hn:=hn17) 5 2 [.call (vb t469)] (ad_40 c1) (by kernel_rfl) ?_
 rcases ite_ h2 with ⟨g3,h4⟩ | ⟨g3,h4⟩
 ·subst g3
  exact leafAt (hn:=hn17) 13 [.val (.int .i64 (l0_1.length:Int))] [] (at17_l0 _ _ (q17_l0_mk h4)) (iI_len (k:=.i64) (xs:=l0_1)) (by kernel_rfl)
 ·obtain rfl:=Bool.eq_false_iff.2 g3
  obtain ⟨rfl,rfl⟩:=pr2_ h4
  exact leafRet (hn:=hn17) 8 [] [] .ret (.inr rfl) (by kernel_rfl) True.intro (by kernel_rfl)

def hn84:Hint:=⟨[(3,[14]),(7,[14]),(11,[24])],[]⟩
def o84 (r:ByteArray):List AV:=[.val (.string r)]
def p84 (r:ByteArray):List (Nat × AV):=[]
theorem ad_84 {a0_0:Int} {a0_1:Int} {r:ByteArray} (h:impl_Tile_digits.f a0_0 a0_1 = some r):CallH Tryz.prog 84 [.agg [vi a0_0,vi a0_1]] [] (.val (.string r)) []:=by
 unfold impl_Tile_digits.f at h
 refine call_ok (c:=bodyOf Tryz.f84) (rs:=o84 r) (post:=p84 r) Tryz.func84 rfl rfl rfl (by kernel_rfl) ?_
 show AtP Tryz.prog 13 (bodyOf Tryz.f84) (KR Tryz.prog Tryz.f84.results.toList (o84 r) (p84 r)) [] [] (lookA [(0,.agg [vi a0_0,vi a0_1])])
 refine at_ (hn:=hn84) ?_
 obtain rfl:=Option.some.inj h
 exact leafRet (hn:=hn84) 7 [.val (.int .i64 (wrap64 (48 + a0_0))),.val (.int .u8 (((wrap64 (48 + a0_0))) % 256)),.val (.int .i64 (wrap64 (48 + a0_1))),.val (.int .u8 (((wrap64 (48 + a0_1))) % 256)),.go,.elem (.val (.string (strOfNums ([(((wrap64 (48 + a0_0))) % 256),(((wrap64 (48 + a0_1))) % 256)]))))] [] .ret (.inr rfl) (by kernel_rfl) (And.intro (int_add (P:=Tryz.prog) (t:=3) (k:=.i64) (x:=(.const (.int .i64 48))) (y:=(.tmp 4)) (a:=48) (b:=a0_0) (c:=(wrap64 (48 + a0_0))) (IntWalk.i64_left _)) (And.intro (conv_3_5 (a:=(wrap64 (48 + a0_0)))) (And.intro (int_add (P:=Tryz.prog) (t:=3) (k:=.i64) (x:=(.const (.int .i64 48))) (y:=(.tmp 8)) (a:=48) (b:=a0_1) (c:=(wrap64 (48 + a0_1))) (IntWalk.i64_left _)) (And.intro (conv_3_5 (a:=(wrap64 (48 + a0_1)))) (conv_22_9_str (xs:=[(((wrap64 (48 + a0_0))) % 256),(((wrap64 (48 + a0_1))) % 256)])))))) (by kernel_rfl)

def hn41:Hint:=⟨[(5,[29]),(16,[33]),(19,[43]),(22,[33])],[]⟩
def o41 (r:ByteArray):List AV:=[.val (.string r)]
def p41 (r:ByteArray):List (Nat × AV):=[]
def q41_l0 (r:ByteArray) (k:Nat) (L:List (Nat × AV)):Prop:=∃ (x3:List ByteArray) (x10:List (S64)) (x11:Int) (x12:Int),L = [(3,.row 33),(10,.sl (iS64 x10)),(11,vi x11),(12,vi x12),(33,.ow false 9 (iStr x3))] ∧ impl_handText.l0 k x3 x10 x11 x12 = some r
theorem q41_l0_mk {r:ByteArray} {k:Nat} {x3:List ByteArray} {x10:List (S64)} {x11:Int} {x12:Int} (h:impl_handText.l0 k x3 x10 x11 x12 = some r):q41_l0 r k [(3,.row 33),(10,.sl (iS64 x10)),(11,vi x11),(12,vi x12),(33,.ow false 9 (iStr x3))]:=⟨x3,x10,x11,x12,rfl,h⟩
theorem at41_l0 {r:ByteArray}:∀ k L,q41_l0 r k L → AtP Tryz.prog 24 (bodyOf Tryz.f41) (KR Tryz.prog Tryz.f41.results.toList (o41 r) (p41 r)) [true,true,true,false,true,false] [] (lookA L) :=
 at_loop (by kernel_rfl) (fun _ => by kernel_rfl) (q41_l0 r) (by
  rintro k _ ⟨x3,x10,x11,x12,rfl,h⟩
  cases k with
  | zero => simp [impl_handText.l0] at h
  | succ k =>
   rw [impl_handText.l0] at h
   refine at_ (hn:=hn41) ?_
   rcases ite_ h with ⟨g1,h2⟩ | ⟨g1,h2⟩
   ·obtain ⟨g3,h4⟩:=ip_ h2
    obtain ⟨g5,h6⟩:=ip_ h4
    obtain ⟨t480,c7,h8⟩:=bd_ h6
    obtain ⟨g9,h10⟩:=ip_ h8
    exact leafBack (hn:=hn41) 16 [.val (.bool true),.elem (.agg [vi ((rd_T64 x10 x12).f0),vi ((rd_T64 x10 x12).f1)]),.call (.val (.string t480)),.go,.elem (.ow false 9 (iStr (x3 ++ ([t480])))),.val (.int .i64 (wrap64 (x12 + 1)))] [(33,44)] (q41_l0_mk h10) (Nat.lt_succ_self k) (And.intro (int_lss (P:=Tryz.prog) (t:=3) (k:=.i64) (x:=(.tmp 12)) (y:=(.tmp 11)) (a:=x12) (b:=x11) (v:=true) (decide_eq_true g1)) (And.intro (iS64_rd (xs:=x10) (i:=x12) g3 g5) (And.intro (And.intro (ad_84 c7) (iStr_app (N:=8796093022208) (b:=16) (xs:=x3) (ys:=[t480]) (by decide) (Nat.succ_le_of_lt g9))) (int_add (P:=Tryz.prog) (t:=3) (k:=.i64) (x:=(.tmp 12)) (y:=(.const (.int .i64 1))) (a:=x12) (b:=1) (c:=(wrap64 (x12 + 1))) (IntWalk.i64_left _))))) (by kernel_rfl)
   ·obtain ⟨t484,c11,h12⟩:=bd_ h2
    obtain rfl:=Option.some.inj h12
    exact leafRet (hn:=hn41) 14 [.val (.bool false),.call (.val (.string t484))] [] .ret (.inr rfl) (by kernel_rfl) (And.intro (int_lss (P:=Tryz.prog) (t:=3) (k:=.i64) (x:=(.tmp 12)) (y:=(.tmp 11)) (a:=x12) (b:=x11) (v:=false) (decide_eq_false g1)) (ad_85 c11)) (by kernel_rfl))
theorem ad_41 {k:Nat} {l0:List (S64)} {r:ByteArray} (h:impl_handText.f k l0 = some r):CallH Tryz.prog 41 [.sl (iS64 l0)] [] (.val (.string r)) []:=by
 unfold impl_handText.f at h
 refine call_ok (c:=bodyOf Tryz.f41) (rs:=o41 r) (post:=p41 r) Tryz.func41 rfl rfl rfl (by kernel_rfl) ?_
 show AtP Tryz.prog 24 (bodyOf Tryz.f41) (KR Tryz.prog Tryz.f41.results.toList (o41 r) (p41 r)) [] [] (lookA [(0,.sl (iS64 l0))])
 refine at_ (hn:=hn41) ?_
 refine mid (hn:=hn41) 5 2 [.val (.int .i64 (l0.length:Int))] (iS64_len (xs:=l0)) (by kernel_rfl) ?_
 rcases ite_ h with ⟨g1,h2⟩ | ⟨g1,h2⟩
 ·obtain rfl:=Option.some.inj h2
  exact leafRet (hn:=hn41) 8 [.val (.bool true)] [] .ret (.inr rfl) (by kernel_rfl) (int_eql (P:=Tryz.prog) (t:=3) (k:=.i64) (x:=(.tmp 7)) (y:=(.const (.int .i64 0))) (a:=(l0.length:Int)) (b:=0) (v:=true) (beq_iff_eq.2 g1)) (by kernel_rfl)
 ·exact leafAt (hn:=hn41) 13 [.val (.bool false),.go,.val (.int .i64 (l0.length:Int))] [] (at41_l0 _ _ (q41_l0_mk h2)) (And.intro (int_eql (P:=Tryz.prog) (t:=3) (k:=.i64) (x:=(.tmp 7)) (y:=(.const (.int .i64 0))) (a:=(l0.length:Int)) (b:=0) (v:=false) (beq_false_of_ne g1)) (iS64_len (xs:=l0))) (by kernel_rfl)

def hn42:Hint:=⟨[(15,[33]),(16,[43]),(18,[33]),(22,[49]),(25,[33])],[]⟩
def o42 (r:ByteArray):List AV:=[.val (.string r)]
def p42 (r:ByteArray):List (Nat × AV):=[]
def q42_l0 (r:ByteArray) (k:Nat) (L:List (Nat × AV)):Prop:=∃ (x3:List Int) (x7:List Int) (x8:Int) (x9:Int),L = [(3,.row 33),(7,.sl (iI .i64 x7)),(8,vi x8),(9,vi x9),(33,.ow false 5 (iI .u8 x3))] ∧ impl_chainText.l0 k x3 x7 x8 x9 = some r
theorem q42_l0_mk {r:ByteArray} {k:Nat} {x3:List Int} {x7:List Int} {x8:Int} {x9:Int} (h:impl_chainText.l0 k x3 x7 x8 x9 = some r):q42_l0 r k [(3,.row 33),(7,.sl (iI .i64 x7)),(8,vi x8),(9,vi x9),(33,.ow false 5 (iI .u8 x3))]:=⟨x3,x7,x8,x9,rfl,h⟩
theorem at42_l0 {r:ByteArray}:∀ k L,q42_l0 r k L → AtP Tryz.prog 27 (bodyOf Tryz.f42) (KR Tryz.prog Tryz.f42.results.toList (o42 r) (p42 r)) [true,true,false,true,false] [] (lookA L) :=
 at_loop (by kernel_rfl) (fun _ => by kernel_rfl) (q42_l0 r) (by
  rintro k _ ⟨x3,x7,x8,x9,rfl,h⟩
  cases k with
  | zero => simp [impl_chainText.l0] at h
  | succ k =>
   rw [impl_chainText.l0] at h
   refine at_ (hn:=hn42) ?_
   rcases ite_ h with ⟨g1,h2⟩ | ⟨g1,h2⟩
   ·obtain ⟨g3,h4⟩:=ip_ h2
    obtain ⟨g5,h6⟩:=ip_ h4
    refine mid (hn:=hn42) 13 1 [.val (.bool true),.elem (vi (rd x7 x9))] (And.intro (int_lss (P:=Tryz.prog) (t:=3) (k:=.i64) (x:=(.tmp 9)) (y:=(.tmp 8)) (a:=x9) (b:=x8) (v:=true) (decide_eq_true g1)) (iI_rd (k:=.i64) (xs:=x7) (i:=x9) g3 g5)) (by kernel_rfl) ?_
    rcases ite_ h6 with ⟨g7,h8⟩ | ⟨g7,h8⟩
    ·obtain ⟨g9,h10⟩:=ip_ h8
     exact leafBack (hn:=hn42) 7 [.val (.bool true),.go,.elem (.ow false 5 (iI .u8 (x3 ++ ([46])))),.val (.int .i64 (wrap64 (x9 + 1)))] [(33,44)] (q42_l0_mk h10) (Nat.lt_succ_self k) (And.intro (int_lss (P:=Tryz.prog) (t:=3) (k:=.i64) (x:=(.tmp 13)) (y:=(.const (.int .i64 0))) (a:=(rd x7 x9)) (b:=0) (v:=true) (decide_eq_true g7)) (And.intro (iI_app (k:=.u8) (N:=140737488355328) (b:=1) (xs:=x3) (ys:=[46]) (by decide) (Nat.succ_le_of_lt g9)) (int_add (P:=Tryz.prog) (t:=3) (k:=.i64) (x:=(.tmp 9)) (y:=(.const (.int .i64 1))) (a:=x9) (b:=1) (c:=(wrap64 (x9 + 1))) (IntWalk.i64_left _)))) (by kernel_rfl)
    ·obtain ⟨g11,h12⟩:=ip_ h8
     exact leafBack (hn:=hn42) 7 [.val (.bool false),.val (.int .i64 (wrap64 (48 + (rd x7 x9)))),.val (.int .u8 (((wrap64 (48 + (rd x7 x9)))) % 256)),.go,.elem (.ow false 5 (iI .u8 (x3 ++ ([(((wrap64 (48 + (rd x7 x9)))) % 256)])))),.val (.int .i64 (wrap64 (x9 + 1)))] [(33,50)] (q42_l0_mk h12) (Nat.lt_succ_self k) (And.intro (int_lss (P:=Tryz.prog) (t:=3) (k:=.i64) (x:=(.tmp 13)) (y:=(.const (.int .i64 0))) (a:=(rd x7 x9)) (b:=0) (v:=false) (decide_eq_false g7)) (And.intro (And.intro (int_add (P:=Tryz.prog) (t:=3) (k:=.i64) (x:=(.const (.int .i64 48))) (y:=(.tmp 19)) (a:=48) (b:=(rd x7 x9)) (c:=(wrap64 (48 + (rd x7 x9)))) (IntWalk.i64_left _)) (And.intro (conv_3_5 (a:=(wrap64 (48 + (rd x7 x9))))) (iI_app (k:=.u8) (N:=140737488355328) (b:=1) (xs:=x3) (ys:=[(((wrap64 (48 + (rd x7 x9)))) % 256)]) (by decide) (Nat.succ_le_of_lt g11)))) (int_add (P:=Tryz.prog) (t:=3) (k:=.i64) (x:=(.tmp 9)) (y:=(.const (.int .i64 1))) (a:=x9) (b:=1) (c:=(wrap64 (x9 + 1))) (IntWalk.i64_left _)))) (by kernel_rfl)
   ·obtain rfl:=Option.some.inj h2
    exact leafRet (hn:=hn42) 14 [.val (.bool false),.elem (.val (.string (strOfNums x3)))] [] .ret (.inr rfl) (by kernel_rfl) (And.intro (int_lss (P:=Tryz.prog) (t:=3) (k:=.i64) (x:=(.tmp 9)) (y:=(.tmp 8)) (a:=x9) (b:=x8) (v:=false) (decide_eq_false g1)) (conv_22_9_str (xs:=x3))) (by kernel_rfl))
theorem ad_42 {k:Nat} {l0:List Int} {r:ByteArray} (h:impl_chainText.f k l0 = some r):CallH Tryz.prog 42 [.sl (iI .i64 l0)] [] (.val (.string r)) []:=by
 unfold impl_chainText.f at h
 refine call_ok (c:=bodyOf Tryz.f42) (rs:=o42 r) (post:=p42 r) Tryz.func42 rfl rfl rfl (by kernel_rfl) ?_
 show AtP Tryz.prog 27 (bodyOf Tryz.f42) (KR Tryz.prog Tryz.f42.results.toList (o42 r) (p42 r)) [] [] (lookA [(0,.sl (iI .i64 l0))])
 refine at_ (hn:=hn42) ?_
 exact leafAt (hn:=hn42) 11 [.go,.val (.int .i64 (l0.length:Int))] [] (at42_l0 _ _ (q42_l0_mk h)) (iI_len (k:=.i64) (xs:=l0)) (by kernel_rfl)

def hn18:Hint:=⟨[(1,[16]),(7,[16]),(11,[16])],[]⟩
def o18 (r:ByteArray × Bool):List AV:=[.val (.string r.1),vb r.2]
def p18 (r:ByteArray × Bool):List (Nat × AV):=[]
theorem ad_18 {k:Nat} {l0_0:List (S64)} {l0_1:List Int} {r1:ByteArray} {r2:Bool} (h:impl_PuzzleText.f k l0_0 l0_1 = some (r1,r2)):CallH Tryz.prog 18 [.agg [.sl (iS64 l0_0),.sl (iI .i64 l0_1)]] [] (.tup [.val (.string r1),vb r2]) []:=by
 unfold impl_PuzzleText.f at h
 refine call_ok (c:=bodyOf Tryz.f18) (rs:=o18 (r1,r2)) (post:=p18 (r1,r2)) Tryz.func18 rfl rfl rfl (by kernel_rfl) ?_
 show AtP Tryz.prog 15 (bodyOf Tryz.f18) (KR Tryz.prog Tryz.f18.results.toList (o18 (r1,r2)) (p18 (r1,r2))) [] [] (lookA [(0,.agg [.sl (iS64 l0_0),.sl (iI .i64 l0_1)])])
 refine at_ (hn:=hn18) ?_
 obtain ⟨t496,c1,h2⟩:=bd_ h
 refine mid (hn:=hn18) 5 2 [.call (vb t496)] (ad_22 c1) (by kernel_rfl) ?_
 rcases ite_ h2 with ⟨g3,h4⟩ | ⟨g3,h4⟩
 ·subst g3
  obtain ⟨t497,c5,h6⟩:=bd_ h4
  obtain ⟨g7,h8⟩:=ip_ h6
  obtain ⟨t498,c9,h10⟩:=bd_ h8
  obtain ⟨g11,h12⟩:=ip_ h10
  obtain ⟨rfl,rfl⟩:=pr2_ h12
  exact leafRet (hn:=hn18) 9 [.call (.val (.string t497)),.val (.string (t497 ++ (⟨#[58]⟩ : ByteArray))),.call (.val (.string t498)),.val (.string ((t497 ++ (⟨#[58]⟩ : ByteArray)) ++ t498))] [] .ret (.inr rfl) (by kernel_rfl) (And.intro (ad_41 c5) (And.intro (str_add (P:=Tryz.prog) (t:=9) (x:=(.tmp 9)) (y:=(.const (.string (⟨#[58]⟩ : ByteArray)))) (a:=t497) (b:=(⟨#[58]⟩ : ByteArray)) g7) (And.intro (ad_42 c9) (str_add (P:=Tryz.prog) (t:=9) (x:=(.tmp 10)) (y:=(.tmp 13)) (a:=(t497 ++ (⟨#[58]⟩ : ByteArray))) (b:=t498) g11)))) (by kernel_rfl)
 ·obtain rfl:=Bool.eq_false_iff.2 g3
  obtain ⟨rfl,rfl⟩:=pr2_ h4
  exact leafRet (hn:=hn18) 8 [] [] .ret (.inr rfl) (by kernel_rfl) True.intro (by kernel_rfl)

def grp87 (j:Nat):Prop:=(∀ {a0:Int} {r:ByteArray},spec_l1Num.f j a0 = some r → CallH Tryz.prog 87 [vi a0] [] (.val (.string r)) [])
theorem use_87 {j:Nat} (H:grp87 j) {a0:Int} {r:ByteArray} (h:spec_l1Num.f j a0 = some r):CallH Tryz.prog 87 [vi a0] [] (.val (.string r)) []:=H h
def hn87:Hint:=⟨[(8,[28]),(17,[37])],[]⟩
def o87 (r:ByteArray) (KN:Nat):List AV:=[.val (.string r)]
def p87 (r:ByteArray) (KN:Nat):List (Nat × AV):=[]
theorem adR_87 {KN:Nat} (IH:∀ j,j < KN → grp87 j) {a0:Int} {r:ByteArray} (h:spec_l1Num.f KN a0 = some r):CallH Tryz.prog 87 [vi a0] [] (.val (.string r)) []:=by
 obtain ⟨k,hK⟩ : ∃ k,KN = k + 1:=by
  cases KN with
  | zero => simp [spec_l1Num.f] at h
  | succ k => exact ⟨k,rfl⟩
 rw [hK,spec_l1Num.f] at h
 have hkR:k < KN:=by omega
 refine call_ok (c:=bodyOf Tryz.f87) (rs:=o87 r KN) (post:=p87 r KN) Tryz.func87 rfl rfl rfl (by kernel_rfl) ?_
 show AtP Tryz.prog 20 (bodyOf Tryz.f87) (KR Tryz.prog Tryz.f87.results.toList (o87 r KN) (p87 r KN)) [] [] (lookA [(0,vi a0)])
 refine at_ (hn:=hn87) ?_
 rcases ite_ h with ⟨g1,h2⟩ | ⟨g1,h2⟩
 ·obtain rfl:=Option.some.inj h2
  exact leafRet (hn:=hn87) 13 [.val (.bool true),.val (.int .i64 (wrap64 (48 + a0))),.val (.int .u8 (((wrap64 (48 + a0))) % 256)),.go,.elem (.val (.string (strOfNums ([(((wrap64 (48 + a0))) % 256)]))))] [] .ret (.inr rfl) (by kernel_rfl) (And.intro (int_lss (P:=Tryz.prog) (t:=3) (k:=.i64) (x:=(.tmp 3)) (y:=(.const (.int .i64 10))) (a:=a0) (b:=10) (v:=true) (decide_eq_true g1)) (And.intro (int_add (P:=Tryz.prog) (t:=3) (k:=.i64) (x:=(.const (.int .i64 48))) (y:=(.tmp 5)) (a:=48) (b:=a0) (c:=(wrap64 (48 + a0))) (IntWalk.i64_left _)) (And.intro (conv_3_5 (a:=(wrap64 (48 + a0)))) (conv_22_9_str (xs:=[(((wrap64 (48 + a0))) % 256)]))))) (by kernel_rfl)
 ·obtain ⟨b1,c3,h4⟩:=bd_ h2
  obtain ⟨g5,h6⟩:=ip_ h4
  obtain rfl:=Option.some.inj h6
  exact leafRet (hn:=hn87) 14 [.val (.bool false),.val (.int .i64 (wrap64 (Int.tdiv a0 10))),.call (.val (.string b1)),.val (.int .i64 (Int.tmod a0 10)),.val (.int .i64 (wrap64 (48 + (Int.tmod a0 10)))),.val (.int .u8 (((wrap64 (48 + (Int.tmod a0 10)))) % 256)),.go,.elem (.val (.string (strOfNums ([(((wrap64 (48 + (Int.tmod a0 10)))) % 256)])))),.val (.string (b1 ++ (strOfNums ([(((wrap64 (48 + (Int.tmod a0 10)))) % 256)]))))] [] .ret (.inr rfl) (by kernel_rfl) (And.intro (int_lss (P:=Tryz.prog) (t:=3) (k:=.i64) (x:=(.tmp 3)) (y:=(.const (.int .i64 10))) (a:=a0) (b:=10) (v:=false) (decide_eq_false g1)) (And.intro (int_quo (P:=Tryz.prog) (t:=3) (k:=.i64) (x:=(.tmp 10)) (y:=(.const (.int .i64 10))) (a:=a0) (b:=10) (c:=(wrap64 (Int.tdiv a0 10))) (by decide) (IntWalk.i64_left _)) (And.intro (use_87 (IH _ hkR) c3) (And.intro (int_rem (P:=Tryz.prog) (t:=3) (k:=.i64) (x:=(.tmp 13)) (y:=(.const (.int .i64 10))) (a:=a0) (b:=10) (c:=(Int.tmod a0 10)) (by decide) rfl) (And.intro (int_add (P:=Tryz.prog) (t:=3) (k:=.i64) (x:=(.const (.int .i64 48))) (y:=(.tmp 14)) (a:=48) (b:=(Int.tmod a0 10)) (c:=(wrap64 (48 + (Int.tmod a0 10)))) (IntWalk.i64_left _)) (And.intro (conv_3_5 (a:=(wrap64 (48 + (Int.tmod a0 10))))) (And.intro (conv_22_9_str (xs:=[(((wrap64 (48 + (Int.tmod a0 10)))) % 256)])) (str_add (P:=Tryz.prog) (t:=9) (x:=(.tmp 12)) (y:=(.tmp 18)) (a:=b1) (b:=(strOfNums ([(((wrap64 (48 + (Int.tmod a0 10)))) % 256)]))) g5)))))))) (by kernel_rfl)
theorem all87 (k:Nat):grp87 k:=Nat.strongRecOn (motive:=grp87) k fun KN IH => (show grp87 KN from fun h => adR_87 IH h)
theorem ad_87 {k:Nat} {a0:Int} {r:ByteArray} (h:spec_l1Num.f k a0 = some r):CallH Tryz.prog 87 [vi a0] [] (.val (.string r)) []:=use_87 (all87 k) h
end Go.Proofs.YtgdefohillhdoaaGreatDoor.QFnPuzzlesFilled
