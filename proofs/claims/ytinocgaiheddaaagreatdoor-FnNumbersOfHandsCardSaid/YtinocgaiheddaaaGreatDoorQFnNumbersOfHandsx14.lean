/- Contracts of the functions, checked by the interpreter. No conditions. -/
import Derived.Test.YtinocgaiheddaaaGreatDoorQFnNumbersOfHandsx0
import Derived.Test.YtinocgaiheddaaaGreatDoorQFnNumbersOfHandsx1
import Derived.Test.YtinocgaiheddaaaGreatDoorQFnNumbersOfHandsx2
import Derived.Test.YtinocgaiheddaaaGreatDoorQFnNumbersOfHandsx3
import Derived.Test.YtinocgaiheddaaaGreatDoorQFnNumbersOfHandsx4
import Derived.Test.YtinocgaiheddaaaGreatDoorQFnNumbersOfHandsx5
import Derived.Test.YtinocgaiheddaaaGreatDoorQFnNumbersOfHandsx6
import Derived.Test.YtinocgaiheddaaaGreatDoorQFnNumbersOfHandsx7
import Derived.Test.YtinocgaiheddaaaGreatDoorQFnNumbersOfHandsx8
import Derived.Test.YtinocgaiheddaaaGreatDoorQFnNumbersOfHandsx9
import Derived.Test.YtinocgaiheddaaaGreatDoorQFnNumbersOfHandsx10
import Derived.Test.YtinocgaiheddaaaGreatDoorQFnNumbersOfHandsx11
import Derived.Test.YtinocgaiheddaaaGreatDoorQFnNumbersOfHandsx12
import Derived.Test.YtinocgaiheddaaaGreatDoorQFnNumbersOfHandsx13
import Derived.Test.YtinocgaiheddaaaGreatDoorHeapB
import Derived.Laws.StructEq
namespace Go.Proofs.YtinocgaiheddaaaGreatDoor.QFnNumbersOfHands
open Go.RowKit Go.Rh Go.Proofs.YtinocgaiheddaaaGreatDoorW.PrintWords Go.Proofs.YtinocgaiheddaaaGreatDoorW.PrintLast Go.Proofs.YtinocgaiheddaaaGreatDoorW.PrintMore
set_option linter.unusedVariables false
set_option linter.unusedSimpArgs false
instance : MemFact:=⟨some (0,fun v => ∃ m,v = .int .i64 m)⟩
theorem wrap_u8 (z:Int):IntKind.wrap .u8 z = z % 256:=by
  simp [IntKind.wrap]
  rfl
theorem len0:((([] : List AV).length:Nat):Int) = 0:=rfl
theorem iI_len {k:IntKind} {xs:List Int}:(((iI k xs).length:Nat):Int) = (xs.length:Int):=by simp [iI]
theorem iI_rd {k:IntKind} {xs:List Int} {i:Int} (h0:0 ≤ i) (h1:i < (xs.length:Int)):0 ≤ i ∧ (iI k xs)[i.toNat]? = some (.val (.int k (rd xs i))):=get_of (f:=fun z => .val (.int k z)) (d:=0) h0 h1
theorem iI_take {k:IntKind} {xs:List Int} {b:Int} (h1:0 ≤ b) (h2:b ≤ (xs.length:Int)):SubIs 1 (iI k xs) 0 b (iI k (xs.take b.toNat)):=sub_take (f:=fun z => .val (.int k z)) (fun _ => rfl) h1 h2
theorem iI_drop {k:IntKind} {xs:List Int} {a:Int} (h0:0 ≤ a) (h1:a ≤ (xs.length:Int)):SubIs 1 (iI k xs) a (iI k xs).length (iI k (xs.drop a.toNat)):=sub_drop (f:=fun z => .val (.int k z)) (fun _ => rfl) h0 h1
theorem iI_app {k:IntKind} {b N:Nat} {xs ys:List Int} (hN:N * b ≤ 140737488355328) (h:xs.length + ys.length ≤ N):AppIs 1 b (iI k xs) (iI k ys) (iI k (xs ++ ys)):=app_of (f:=fun z => .val (.int k z)) (fun _ => rfl) hN h
theorem iStr_len {xs:List ByteArray}:(((iStr xs).length:Nat):Int) = (xs.length:Int):=by simp [iStr]
theorem iStr_rd {xs:List ByteArray} {i:Int} (h0:0 ≤ i) (h1:i < (xs.length:Int)):0 ≤ i ∧ (iStr xs)[i.toNat]? = some (.val (.string (rdOf ByteArray.empty xs i))):=get_of (f:=fun z => .val (.string z)) (d:=ByteArray.empty) h0 h1
theorem iStr_app {b N:Nat} {xs ys:List ByteArray} (hN:N * b ≤ 140737488355328) (h:xs.length + ys.length ≤ N):AppIs 1 b (iStr xs) (iStr ys) (iStr (xs ++ ys)):=app_of (f:=fun z => .val (.string z)) (fun _ => rfl) hN h
theorem clr_of {α:Type} {f:α → AV} {xs:List α} {d:α} {i:Int} (h0:0 ≤ i) (h1:i < (xs.length:Int)):i.toNat < (xs.map f).length ∧ (xs.take i.toNat ++ List.replicate (xs.length - i.toNat) d).map f = (xs.map f).take i.toNat ++ List.replicate ((xs.map f).length - i.toNat) (f d):=⟨by rw [List.length_map]; omega,by rw [List.map_append,List.map_take,List.map_replicate,List.length_map]⟩
theorem iI_set {k:IntKind} {xs:List Int} {i x:Int} (h0:0 ≤ i) (h1:i < (xs.length:Int)):(iI k xs)[i.toNat]? = some (.val (.int k (rd xs i))) ∧ iI k (xs.set i.toNat x) = (iI k xs).set i.toNat (.val (.int k x)):=set_of (f:=fun z => .val (.int k z)) (d:=0) h0 h1
theorem iI_lt {k:IntKind} {xs:List Int} {i:Int} (h0:0 ≤ i) (h1:i < (xs.length:Int)):0 ≤ i ∧ i.toNat < (iI k xs).length:=lt_of (f:=fun z => .val (.int k z)) h0 h1
structure FlatE {α : Type} (d : Kd α) (enc : α → AV) (cells : α → List Value) : Prop where
  k:∀ {w x cs},d.K w x cs → cs = cells x
  mk_:∀ w x,d.K w x (cells x)
  cs:∀ w ok x,Cs w ok (enc x) (cells x)
  un:∀ {w ok x cs},Cs w ok (enc x) cs → cs = cells x
  pos:0 < d.sz
theorem one_un {w:World} {ok:Nat → Nat → Prop} {v:Value} {cs:List Value} (h:Cs w ok (.val v) cs):cs = [v]:=by
  cases h with
  | one _ u _ hr => rw [(rep_val hr).1]
theorem flat_int (k:IntKind):FlatE (Kd.int k) (fun z => .val (.int k z)) (fun z => [.int k z]) :=
  ⟨fun h => h,fun _ _ => rfl,fun _ _ _ => .one _ _ rfl (.val _ rfl),fun h => one_un h,Nat.one_pos⟩
theorem flat_string:FlatE Kd.string (fun z => .val (.string z)) (fun z => [.string z]) :=
  ⟨fun h => h,fun _ _ => rfl,fun _ _ _ => .one _ _ rfl (.val _ rfl),fun h => one_un h,Nat.one_pos⟩
theorem agg_un {w:World} {ok:Nat → Nat → Prop} {l:List AV} {vs cs:List Value} (hv:valsOf l = some vs) (h:Cs w ok (.agg l) cs):cs = vs:=by
  cases h with
  | one _ _ hx _ => cases hx
  | agg _ _ hl ho h =>
    have:=valsOf_eq hv
    subst this
    exact vals_rep (by simpa using hl) h
theorem arg_of {α:Type} {d:Kd α} {enc:α → AV} {cells:α → List Value} (F:FlatE d enc cells) {w:World} {ok:Nat → Nat → Prop} {xs:List α} {v:Value} (h:Rep w ok (.sl (xs.map enc)) v) :
    ∃ A c,v = .slice A xs.length c ∧ xs.length ≤ c ∧ Kd.C d w A xs.length xs:=by
  obtain ⟨A,c,sz,ad,cs,h1,h2,h3,h4,h5,h6⟩:=rep_sl h
  simp only [List.length_map] at h1 h2 h3 h5 h6
  refine ⟨A,c,h1,h2.1,rfl,h2.2,fun hn => ⟨ad,(h3 hn).1,fun j p hj => ?_⟩⟩
  have hlt:=(List.getElem?_eq_some_iff.1 hj).1
  have hc:=F.un (h4 j (enc p) (by rw [List.getElem?_map,hj]; rfl))
  have hk:=F.mk_ w p
  have hl:=d.K_len hk
  have hsz:sz = d.sz:=by rw [← h5 j hlt,hc,hl]
  exact ⟨cells p,hl,hk,fun i u hu => by rw [← hsz,add_eq (h3 hn).2.1]; exact h6 j hlt i u (by rw [hc]; exact hu)⟩
theorem rep_of {α:Type} {d:Kd α} {enc:α → AV} {cells:α → List Value} (F:FlatE d enc cells) {w:World} {ok:Nat → Nat → Prop} {xs:List α} {A:Option Addr} {c:Nat} (h:Kd.C d w A xs.length xs) (hc:xs.length ≤ c) (hp:0 < d.sz)
    (hok:∀ ad,A = some ad → ad.block < w.heap.size → ∀ o,ok ad.block o):Rep w ok (.sl (xs.map enc)) (.slice A xs.length c):=by
  obtain ⟨_,h1,h2⟩:=h
  by_cases hn:0 < xs.length
  · obtain ⟨ad,rfl,h3⟩:=h2 hn
    have hcell:∀ (j:Nat) (p:α),xs[j]? = some p → (cells p).length = d.sz ∧ ∀ i u,(cells p)[i]? = some u → w.cell? (ad.add (j * d.sz + i)) = some u:=by
      intro j p hj
      obtain ⟨cs,g1,g2,g3⟩:=h3 j p hj
      rw [F.k g2] at g1 g3
      exact ⟨g1,g3⟩
    have h0:=hcell 0 xs[0] (List.getElem?_eq_getElem hn)
    have hb:ad.block < w.heap.size ∧ ad.spot = none:=by
      have hl:0 < (cells xs[0]).length:=by rw [h0.1]; exact hp
      have:=h0.2 0 _ (List.getElem?_eq_getElem hl)
      have hadd:ad.add (0 * d.sz + 0) = ad:=by rw [Nat.zero_mul]; rfl
      rw [hadd] at this
      unfold World.cell? at this
      split at this
      · rename_i cs t f hb
        refine ⟨(Array.getElem?_eq_some_iff.1 hb).1,?_⟩
        split at this
        · cases this
        · rename_i hs
          cases hsp:ad.spot with
          | none => rfl
          | some x => rw [hsp] at hs; exact absurd rfl hs
      · cases this
    refine .sl _ _ _ _ d.sz ad (fun i => (xs[i]?.map cells).getD []) (by simp) ⟨hc,h1⟩ (fun _ => ⟨rfl,hb.2,fun k _ => hok ad rfl hb.1 _⟩) (fun i x hx => ?_) (fun i hi => ?_) (fun i hi j u hu => ?_)
    · rw [List.getElem?_map] at hx
      obtain ⟨p,hp2,rfl⟩:=Option.map_eq_some_iff.1 hx
      rw [hp2]
      exact F.cs w ok p
    · rw [List.getElem?_eq_getElem hi]
      exact (hcell i _ (List.getElem?_eq_getElem hi)).1
    · rw [List.getElem?_eq_getElem hi] at hu
      rw [← add_eq hb.2]
      exact (hcell i _ (List.getElem?_eq_getElem hi)).2 j u hu
  · have h0:xs.length = 0:=by omega
    have hl:=List.length_eq_zero_iff.1 h0
    subst hl
    exact .sl [] A 0 c 0 ⟨0,0,none⟩ (fun _ => []) rfl ⟨hc,h1⟩ (fun h => absurd h (Nat.lt_irrefl _)) (fun i x hx => by simp at hx) (fun i hi => absurd hi (Nat.not_lt_zero _)) (fun i hi => absurd hi (Nat.not_lt_zero _))
theorem res_of {α:Type} {d:Kd α} {enc:α → AV} {cells:α → List Value} (F:FlatE d enc cells) {w':World} {base e:Nat} {ok:Nat → Nat → Prop} {okp:Nat → Prop} {xs:List α} {v:Value} (h:Kd.R d e w' base okp v xs) :
    Rep w' (fun b o => ok b o ∨ (base ≤ b ∧ b < w'.heap.size)) (.sl (xs.map enc)) v:=by
  obtain ⟨A,c,he,hl,hc⟩:=Kd.R_reads h
  have hb:=Kd.R_bound h
  rw [he]
  refine rep_of F hc hl F.pos fun ad hA hlt o => .inr ⟨?_,hlt⟩
  have:=hb.1 ad.block (by rw [he,hA]; rfl)
  exact this.2.1
theorem own_of {α:Type} {P:Program} {d:Kd α} {enc:α → AV} {cells:α → List Value} (F:FlatE d enc cells) {w':World} {base e:Nat} {okp:Nat → Prop} {xs:List α} {v:Value} (hi:(P.info? e).map (·.size) = some d.sz) (h:Kd.R d e w' base okp v xs) :
    ∃ sz inner,w'.ownsRow base e sz v (xs.map enc).length inner ∧ 0 < sz ∧ (P.info? e).map (·.size) = some sz ∧ ∀ (ok':Nat → Nat → Prop) (i:Nat) (x:AV),(xs.map enc)[i]? = some x → Cs w' ok' x ((inner.drop (i * sz)).take sz):=by
  obtain ⟨h0,inner,ho,hr⟩:=h
  refine ⟨d.sz,inner,by rw [List.length_map]; exact ho,F.pos,hi,fun ok' i x hx => ?_⟩
  rw [List.getElem?_map] at hx
  obtain ⟨p,hp,rfl⟩:=Option.map_eq_some_iff.1 hx
  rw [F.k (d.K_of_M (hr.2 i p hp))]
  exact F.cs _ _ _
theorem idx_str {P:Program} {t:TypeId} (hu:P.underlying t = some .string) {x:ByteArray} {k:IntKind} {i:Int} (h0:0 ≤ i) (h1:i < (x.size:Int)):IdxIs P t (.string x) (.int k i) (.int .u8 (bt x i)):=by
  intro w
  rw [run_index_string w t x k i hu,dif_pos ⟨h0,h1⟩,bt_at]
def iS43 (xs:List S43):List AV:=xs.map fun z => .agg [.val (.int .i64 z.f0),.val (.int .i64 z.f1)]
theorem iS43_len {xs:List S43}:(((iS43 xs).length:Nat):Int) = (xs.length:Int):=by simp [iS43]
theorem iS43_rd {xs:List S43} {i:Int} (h0:0 ≤ i) (h1:i < (xs.length:Int)):0 ≤ i ∧ (iS43 xs)[i.toNat]? = some (.agg [.val (.int .i64 ((rd_T43 xs i).f0)),.val (.int .i64 ((rd_T43 xs i).f1))]):=get_of (f:=fun z:S43 => .agg [.val (.int .i64 z.f0),.val (.int .i64 z.f1)]) (d:=z43) h0 h1
theorem iS43_take {xs:List S43} {b:Int} (h1:0 ≤ b) (h2:b ≤ (xs.length:Int)):SubIs 2 (iS43 xs) 0 b (iS43 (xs.take b.toNat)):=sub_take (f:=fun z:S43 => .agg [.val (.int .i64 z.f0),.val (.int .i64 z.f1)]) (fun _ => rfl) h1 h2
theorem iS43_app {b N:Nat} {xs ys:List S43} (hN:N * b ≤ 140737488355328) (h:xs.length + ys.length ≤ N):AppIs 2 b (iS43 xs) (iS43 ys) (iS43 (xs ++ ys)):=app_of (f:=fun z:S43 => .agg [.val (.int .i64 z.f0),.val (.int .i64 z.f1)]) (fun _ => rfl) hN h
theorem iS43_set {xs:List S43} {i:Int} {x:S43} (h0:0 ≤ i) (h1:i < (xs.length:Int)):(iS43 xs)[i.toNat]? = some (.agg [.val (.int .i64 ((rd_T43 xs i).f0)),.val (.int .i64 ((rd_T43 xs i).f1))]) ∧ iS43 (xs.set i.toNat x) = (iS43 xs).set i.toNat (.agg [.val (.int .i64 x.f0),.val (.int .i64 x.f1)]):=set_of (f:=fun z:S43 => .agg [.val (.int .i64 z.f0),.val (.int .i64 z.f1)]) (d:=z43) h0 h1
theorem iS43_clr {xs:List S43} {i:Int} (h0:0 ≤ i) (h1:i < (xs.length:Int)):i.toNat < (iS43 xs).length ∧ iS43 (xs.take i.toNat ++ List.replicate (xs.length - i.toNat) z43) = (iS43 xs).take i.toNat ++ List.replicate ((iS43 xs).length - i.toNat) (.agg [.val (.int .i64 z43.f0),.val (.int .i64 z43.f1)]):=clr_of (f:=fun z:S43 => .agg [.val (.int .i64 z.f0),.val (.int .i64 z.f1)]) (d:=z43) h0 h1
theorem iS43_lt {xs:List S43} {i:Int} (h0:0 ≤ i) (h1:i < (xs.length:Int)):0 ≤ i ∧ i.toNat < (iS43 xs).length:=lt_of (f:=fun z:S43 => .agg [.val (.int .i64 z.f0),.val (.int .i64 z.f1)]) h0 h1
theorem flat_43:FlatE k43 (fun z => .agg [.val (.int .i64 z.f0),.val (.int .i64 z.f1)]) (fun z => [.int .i64 z.f0,.int .i64 z.f1]) :=
  ⟨fun h => k43_open h,fun w x => k43_mk w x,fun w ok x => .agg _ _ rfl (by intro x hx; simp at hx; rcases hx with rfl | rfl <;> rfl) (by
    intro i x v hx hv
    match i with
    | 0 => simp only [List.getElem?_cons_succ,List.getElem?_cons_zero,Option.some.injEq] at hx hv; subst hx hv; exact .val _ rfl
    | 1 => simp only [List.getElem?_cons_succ,List.getElem?_cons_zero,Option.some.injEq] at hx hv; subst hx hv; exact .val _ rfl
    | i + 2 => simp at hx),fun h => agg_un rfl h,by decide⟩
theorem agg_43_eql {x y:Operand} {a0 b0:Int} {a1 b1:Int} {v:Bool} (h:((a0 == b0) && (a1 == b1)) = v):BinIs Tryz.prog .eql 43 x y (.agg [.int .i64 a0,.int .i64 a1].toArray) (.agg [.int .i64 b0,.int .i64 b1].toArray) (.bool v):=by
  intro w
  have hu:=Tryz.underlying43
  subst h
  by_cases g0:a0 = b0 <;> by_cases g1:a1 = b1 <;> simp_all [go_sem]
theorem agg_43_neq {x y:Operand} {a0 b0:Int} {a1 b1:Int} {v:Bool} (h:(!((a0 == b0) && (a1 == b1))) = v):BinIs Tryz.prog .neq 43 x y (.agg [.int .i64 a0,.int .i64 a1].toArray) (.agg [.int .i64 b0,.int .i64 b1].toArray) (.bool v):=by
  intro w
  have hu:=Tryz.underlying43
  subst h
  by_cases g0:a0 = b0 <;> by_cases g1:a1 = b1 <;> simp_all [go_sem]
theorem build_43_2 {p0:Int} {p1:Int}:BuildIs Tryz.prog 43 #[(0,.int .i64 p0),(1,.int .i64 p1)] (.agg [.int .i64 p0,.int .i64 p1].toArray):=by
  intro w
  simp [go_sem,Instr.build]
theorem conv_3_49 {a:Int}:ConvIs Tryz.prog 3 49 (.int .i64 a) (.int .u64 (IntKind.wrap .u64 a)):=by
  rw [← show IntKind.wrap .u64 a = IntKind.wrap .u64 a from rfl]
  exact conv_int (by rw [Tryz.underlying3]; rfl) Tryz.underlying49
theorem conv_5_3 {a:Int}:ConvIs Tryz.prog 5 3 (.int .u8 a) (.int .i64 (wrap64 a)):=by
  rw [← IntWalk.i64_left]
  exact conv_int (by rw [Tryz.underlying5]; rfl) Tryz.underlying3
theorem conv_5_3_m {z:Int}:ConvIs Tryz.prog 5 3 (.int .u8 (z % 256)) (.int .i64 (z % 256)):=by
  have h:wrap64 (z % 256) = z % 256:=by
    unfold wrap64
    omega
  have h2:ConvIs Tryz.prog 5 3 (.int .u8 (z % 256)) (.int .i64 (IntKind.wrap .i64 (z % 256))):=conv_int (by rw [Tryz.underlying5]; rfl) Tryz.underlying3
  rw [IntWalk.i64_left,h] at h2
  exact h2
theorem conv_49_3 {a:Int}:ConvIs Tryz.prog 49 3 (.int .u64 a) (.int .i64 (wrap64 a)):=by
  rw [← IntWalk.i64_left]
  exact conv_int (by rw [Tryz.underlying49]; rfl) Tryz.underlying3
theorem max_i64_3_3_ff_3 {a b:Int}:CalIs Tryz.prog .max #[3,3] 3 #[false,false] #[.int .i64 a,.int .i64 b] (.int .i64 (mx a b)):=by
  intro w
  simp [go_sem,builtin]
  unfold mx
  omega
theorem min_i64_3_3_ff_3 {a b:Int}:CalIs Tryz.prog .min #[3,3] 3 #[false,false] #[.int .i64 a,.int .i64 b] (.int .i64 (mn a b)):=by
  intro w
  simp [go_sem,builtin]
  unfold mn
  omega
theorem ad_16 {k:Nat} {l0:List (S43)} {r:Bool} (h:impl_IsHand.f k l0 = some r):CallH Tryz.prog 16 [.sl (iS43 l0)] [] (vb r) [] :=
  callOk_res Tryz.func16 rfl rfl rfl fun w ok vs hok hv hglob_ => by
    cases hv with
    | cons h1_ t1_ =>
     cases t1_
     obtain ⟨A0,c0,rfl,hc0,hr0⟩:=arg_of flat_43 h1_
     exact (impl_IsHand.calls k A0 c0 l0 r w hr0 hc0 h).mono (by rintro e w' ⟨rfl,hb_⟩; exact ⟨_,rfl,(rep_resV rfl),hb_⟩)

theorem ad_60 {l0:List Int} {a1:Int} {a2:Int} {r:Bool} (h:impl_areWithin.f l0 a1 a2 = some r):CallH Tryz.prog 60 [.sl (iI .i64 l0),vi a1,vi a2] [] (vb r) [] :=
  callOk_res Tryz.func60 rfl rfl rfl fun w ok vs hok hv hglob_ => by
    cases hv with
    | cons h1_ t1_ =>
     cases t1_ with
     | cons h2_ t2_ =>
      cases t2_ with
      | cons h3_ t3_ =>
       cases t3_
       obtain ⟨A0,c0,rfl,_hc0,hr0⟩:=arg_of (flat_int .i64) h1_
       obtain rfl:=toV_rep rfl h2_
       obtain rfl:=toV_rep rfl h3_
       exact (impl_areWithin.calls A0 c0 l0 a1 a2 r w hr0 _hc0 h).mono (by rintro e w' ⟨rfl,hb_⟩; exact ⟨_,rfl,(rep_resV rfl),hb_⟩)

theorem ad_63 {l0:List S43} {r:List S43} (h:impl_sorted.f l0 = some r):CallH Tryz.prog 63 [.sl (iS43 l0)] [] (.row 500000) [(500000,.ow true 43 (iS43 r))] :=
  callOk_own Tryz.func63 rfl rfl rfl fun w ok vs hok hv hglob_ => by
    cases hv with
    | cons h1_ t1_ =>
     cases t1_
     obtain ⟨A0,c0,rfl,hc0,hr0⟩:=arg_of flat_43 h1_
     exact (impl_sorted.calls A0 c0 l0 r w hr0 hc0 h).mono (by rintro e w' ⟨v0_,rfl,hRv0_,hb_⟩; exact ⟨_,rfl,(own_of flat_43 (by kernel_rfl) hRv0_),hb_⟩)

theorem ad_70 {a0_0:Int} {a0_1:Int} {r:ByteArray} (h:impl_Tile_digits.f a0_0 a0_1 = some r):CallH Tryz.prog 70 [.agg [vi a0_0,vi a0_1]] [] (.val (.string r)) [] :=
  callOk_res Tryz.func70 rfl rfl rfl fun w ok vs hok hv hglob_ => by
    cases hv with
    | cons h1_ t1_ =>
     cases t1_
     obtain rfl:=toV_rep rfl h1_
     exact (impl_Tile_digits.calls a0_0 a0_1 r w h).mono (by rintro e w' ⟨rfl,hb_⟩; exact ⟨_,rfl,(rep_resV rfl),hb_⟩)

theorem ad_71 {l0:List ByteArray} {a1:ByteArray} {r:ByteArray} (h:strings_Join.f l0 a1 = some r):CallH Tryz.prog 71 [.sl (iStr l0),.val (.string a1)] [] (.val (.string r)) [] :=
  callOk_res Tryz.func71 rfl rfl rfl fun w ok vs hok hv hglob_ => by
    cases hv with
    | cons h1_ t1_ =>
     cases t1_ with
     | cons h2_ t2_ =>
      cases t2_
      obtain ⟨A0,c0,rfl,hc0,hr0⟩:=arg_of flat_string h1_
      obtain rfl:=toV_rep rfl h2_
      exact (strings_Join.calls A0 c0 l0 a1 r w hr0 hc0 h).mono (by rintro e w' ⟨rfl,hb_⟩; exact ⟨_,rfl,(rep_resV rfl),hb_⟩)

theorem ad_72 {k:Nat} {a0:Int} {r:ByteArray} (h:spec_l1Num.f k a0 = some r):CallH Tryz.prog 72 [vi a0] [] (.val (.string r)) [] :=
  callOk_res Tryz.func72 rfl rfl rfl fun w ok vs hok hv hglob_ => by
    cases hv with
    | cons h1_ t1_ =>
     cases t1_
     obtain rfl:=toV_rep rfl h1_
     exact (spec_l1Num.calls k a0 r w h).mono (by rintro e w' ⟨rfl,hb_⟩; exact ⟨_,rfl,(rep_resV rfl),hb_⟩)

theorem ad_50 {l0:ByteArray} {l1:ByteArray} {r:List ByteArray} (h:strings_Split.f l0 l1 = some r):CallH Tryz.prog 50 [.val (.string l0),.val (.string l1)] [] (.sl (iStr r)) [] :=
  callOk_res Tryz.func50 rfl rfl rfl fun w ok vs hok hv hglob_ => by
    cases hv with
    | cons h1_ t1_ =>
     cases t1_ with
     | cons h2_ t2_ =>
      cases t2_
      obtain rfl:=toV_rep rfl h1_
      obtain rfl:=toV_rep rfl h2_
      exact (strings_Split.calls l0 l1 r w h (glob_int (hglob_ _ _ rfl))).mono (by rintro e w' ⟨v0_,rfl,hRv0_,hb_⟩; exact ⟨_,rfl,(res_of flat_string hRv0_),hb_⟩)

theorem ad_25 {k:Nat} {l0:List Int} {r:ByteArray} (h:spec_DrawParseHand.f k l0 = some r):CallH Tryz.prog 25 [.sl (iI .u8 l0)] [] (.val (.string r)) [] :=
  callOk_res Tryz.func25 rfl rfl rfl fun w ok vs hok hv hglob_ => by
    cases hv with
    | cons h1_ t1_ =>
     cases t1_
     obtain ⟨A0,c0,rfl,hc0,hr0⟩:=arg_of (flat_int .u8) h1_
     exact (spec_DrawParseHand.calls k A0 c0 l0 r w hr0 hc0 h).mono (by rintro e w' ⟨rfl,hb_⟩; exact ⟨_,rfl,(rep_resV rfl),hb_⟩)

def hn4:Hint:=⟨[],[]⟩
def o4 (r:Bool):List AV:=[vb r]
def p4 (r:Bool):List (Nat × AV):=[]
set_option maxRecDepth 100000 in
theorem ad_4 {l0:List Int} {l1:List Int} {r:Bool} (h:laws_big.f l0 l1 = some r):CallH Tryz.prog 4 [.sl (iI .u8 l0),.sl (iI .u8 l1)] [] (vb r) []:=by
 unfold laws_big.f at h
 refine call_ok (c:=bodyOf Tryz.f4) (rs:=o4 r) (post:=p4 r) Tryz.func4 rfl rfl rfl (by kernel_rfl) ?_
 show AtP Tryz.prog 16 (bodyOf Tryz.f4) (KR Tryz.prog Tryz.f4.results.toList (o4 r) (p4 r)) [] [] (lookA [(0,.sl (iI .u8 l0)),(1,.sl (iI .u8 l1))])
 rcases ite_ h with ⟨g1,h2⟩ | ⟨g1,h2⟩
 ·obtain rfl:=Option.some.inj h2
  exact leafRet (hn:=hn4) 7 [.val (.int .i64 (l0.length:Int)),.val (.bool true)] [] .ret (.inr rfl) (by kernel_rfl) (And.intro (iI_len (k:=.u8) (xs:=l0)) (int_gtr (P:=Tryz.prog) (t:=3) (k:=.i64) (x:=(.tmp 6)) (y:=(.const (.int .i64 1048576))) (a:=(l0.length:Int)) (b:=1048576) (v:=true) (decide_eq_true g1))) (by kernel_rfl)
 ·obtain rfl:=Option.some.inj h2
  exact leafRet (hn:=hn4) 7 [.val (.int .i64 (l0.length:Int)),.val (.bool false),.val (.int .i64 (l1.length:Int)),.val (.int .i64 (l0.length:Int)),.val (.int .i64 (wrap64 (1048576 - (l0.length:Int)))),.val (.bool (decide ((l1.length:Int) > (wrap64 (1048576 - (l0.length:Int))))))] [] .ret (.inr rfl) (by kernel_rfl) (And.intro (iI_len (k:=.u8) (xs:=l0)) (And.intro (int_gtr (P:=Tryz.prog) (t:=3) (k:=.i64) (x:=(.tmp 6)) (y:=(.const (.int .i64 1048576))) (a:=(l0.length:Int)) (b:=1048576) (v:=false) (decide_eq_false g1)) (And.intro (iI_len (k:=.u8) (xs:=l1)) (And.intro (iI_len (k:=.u8) (xs:=l0)) (And.intro (int_sub (P:=Tryz.prog) (t:=3) (k:=.i64) (x:=(.const (.int .i64 1048576))) (y:=(.tmp 12)) (a:=1048576) (b:=(l0.length:Int)) (c:=(wrap64 (1048576 - (l0.length:Int)))) (IntWalk.i64_left _)) (int_gtr (P:=Tryz.prog) (t:=3) (k:=.i64) (x:=(.tmp 10)) (y:=(.tmp 13)) (a:=(l1.length:Int)) (b:=(wrap64 (1048576 - (l0.length:Int)))) (v:=(decide ((l1.length:Int) > (wrap64 (1048576 - (l0.length:Int)))))) rfl)))))) (by kernel_rfl)

def hn59:Hint:=⟨[(6,[1000000]),(10,[1000000]),(16,[1000000]),(20,[1000000]),(27,[1000000]),(31,[1000000]),(35,[1000000]),(43,[1000000]),(46,[1000000]),(50,[1000000]),(57,[1000000])],[]⟩
def o59 (r:Int × Int × Int) (s0_0:List Int) (s0_1:Int) (s0_2:Int):List AV:=[vi r.1]
def p59 (r:Int × Int × Int) (s0_0:List Int) (s0_1:Int) (s0_2:Int):List (Nat × AV):=[(1000000,.box (.agg [.sl (iI .u8 s0_0),vi r.2.1,.val (.int .u64 r.2.2)]))]
set_option maxRecDepth 100000 in
theorem ad_59 {s0_0:List Int} {s0_1:Int} {s0_2:Int} {r1:Int} {r2:Int} {r3:Int} (h:spec_l1Cur_next.f s0_0 s0_1 s0_2 = some (r1,r2,r3)):CallH Tryz.prog 59 [.loc 1000000 0] [(1000000,.box (.agg [.sl (iI .u8 s0_0),vi s0_1,.val (.int .u64 s0_2)]))] (vi r1) [(1000000,.box (.agg [.sl (iI .u8 s0_0),vi r2,.val (.int .u64 r3)]))]:=by
 unfold spec_l1Cur_next.f at h
 refine call_ok (c:=bodyOf Tryz.f59) (rs:=o59 (r1,r2,r3) s0_0 s0_1 s0_2) (post:=p59 (r1,r2,r3) s0_0 s0_1 s0_2) Tryz.func59 rfl rfl rfl (by kernel_rfl) ?_
 show AtP Tryz.prog 62 (bodyOf Tryz.f59) (KR Tryz.prog Tryz.f59.results.toList (o59 (r1,r2,r3) s0_0 s0_1 s0_2) (p59 (r1,r2,r3) s0_0 s0_1 s0_2)) [] [] (lookA [(0,.loc 1000000 0),(1000000,.box (.agg [.sl (iI .u8 s0_0),vi s0_1,.val (.int .u64 s0_2)]))])
 rcases ite_ h with ⟨g1,h2⟩ | ⟨g1,h2⟩
 ·obtain ⟨g3,h4⟩:=ip_ h2
  rcases ite_ h4 with ⟨g5,h6⟩ | ⟨g5,h6⟩
  ·obtain ⟨rfl,rfl,rfl⟩:=pr3_ h6
   exact leafRet (hn:=hn59) 29 [.val (.int .i64 (s0_0.length:Int)),.val (.bool true),.elem (.val (.int .u8 (rd s0_0 s0_1))),.val (.int .i64 (wrap64 (rd s0_0 s0_1))),.val (.int .i64 (wrap64 (s0_1 + 1))),.val (.int .u64 (IntKind.wrap .u64 (s0_2 * 6364136223846793005))),.val (.int .u64 (IntKind.wrap .u64 (wrap64 (rd s0_0 s0_1)))),.val (.int .u64 (IntKind.wrap .u64 ((IntKind.wrap .u64 (s0_2 * 6364136223846793005)) + (IntKind.wrap .u64 (wrap64 (rd s0_0 s0_1)))))),.val (.int .u64 (IntKind.wrap .u64 ((IntKind.wrap .u64 ((IntKind.wrap .u64 (s0_2 * 6364136223846793005)) + (IntKind.wrap .u64 (wrap64 (rd s0_0 s0_1))))) + 1442695040888963407))),.val (.int .i64 (s0_0.length:Int)),.val (.bool true)] [] .ret (.inr rfl) (by kernel_rfl) (And.intro (And.intro (iI_len (k:=.u8) (xs:=s0_0)) (int_lss (P:=Tryz.prog) (t:=3) (k:=.i64) (x:=(.tmp 7)) (y:=(.tmp 12)) (a:=s0_1) (b:=(s0_0.length:Int)) (v:=true) (decide_eq_true g1))) (And.intro (And.intro (iI_rd (k:=.u8) (xs:=s0_0) (i:=s0_1) g3 g1) (conv_5_3 (a:=(rd s0_0 s0_1)))) (And.intro (int_add (P:=Tryz.prog) (t:=3) (k:=.i64) (x:=(.tmp 28)) (y:=(.const (.int .i64 1))) (a:=s0_1) (b:=1) (c:=(wrap64 (s0_1 + 1))) (IntWalk.i64_left _)) (And.intro (And.intro (int_mul (P:=Tryz.prog) (t:=49) (k:=.u64) (x:=(.tmp 36)) (y:=(.const (.int .u64 6364136223846793005))) (a:=s0_2) (b:=6364136223846793005) (c:=(IntKind.wrap .u64 (s0_2 * 6364136223846793005))) rfl) (And.intro (conv_3_49 (a:=(wrap64 (rd s0_0 s0_1)))) (And.intro (int_add (P:=Tryz.prog) (t:=49) (k:=.u64) (x:=(.tmp 37)) (y:=(.tmp 39)) (a:=(IntKind.wrap .u64 (s0_2 * 6364136223846793005))) (b:=(IntKind.wrap .u64 (wrap64 (rd s0_0 s0_1)))) (c:=(IntKind.wrap .u64 ((IntKind.wrap .u64 (s0_2 * 6364136223846793005)) + (IntKind.wrap .u64 (wrap64 (rd s0_0 s0_1)))))) rfl) (int_add (P:=Tryz.prog) (t:=49) (k:=.u64) (x:=(.tmp 40)) (y:=(.const (.int .u64 1442695040888963407))) (a:=(IntKind.wrap .u64 ((IntKind.wrap .u64 (s0_2 * 6364136223846793005)) + (IntKind.wrap .u64 (wrap64 (rd s0_0 s0_1)))))) (b:=1442695040888963407) (c:=(IntKind.wrap .u64 ((IntKind.wrap .u64 ((IntKind.wrap .u64 (s0_2 * 6364136223846793005)) + (IntKind.wrap .u64 (wrap64 (rd s0_0 s0_1))))) + 1442695040888963407))) rfl)))) (And.intro (iI_len (k:=.u8) (xs:=s0_0)) (int_leq (P:=Tryz.prog) (t:=3) (k:=.i64) (x:=(.tmp 47)) (y:=(.tmp 52)) (a:=(wrap64 (s0_1 + 1))) (b:=(s0_0.length:Int)) (v:=true) (decide_eq_true g5))))))) (by kernel_rfl)
  ·obtain ⟨rfl,rfl,rfl⟩:=pr3_ h6
   exact leafRet (hn:=hn59) 30 [.val (.int .i64 (s0_0.length:Int)),.val (.bool true),.elem (.val (.int .u8 (rd s0_0 s0_1))),.val (.int .i64 (wrap64 (rd s0_0 s0_1))),.val (.int .i64 (wrap64 (s0_1 + 1))),.val (.int .u64 (IntKind.wrap .u64 (s0_2 * 6364136223846793005))),.val (.int .u64 (IntKind.wrap .u64 (wrap64 (rd s0_0 s0_1)))),.val (.int .u64 (IntKind.wrap .u64 ((IntKind.wrap .u64 (s0_2 * 6364136223846793005)) + (IntKind.wrap .u64 (wrap64 (rd s0_0 s0_1)))))),.val (.int .u64 (IntKind.wrap .u64 ((IntKind.wrap .u64 ((IntKind.wrap .u64 (s0_2 * 6364136223846793005)) + (IntKind.wrap .u64 (wrap64 (rd s0_0 s0_1))))) + 1442695040888963407))),.val (.int .i64 (s0_0.length:Int)),.val (.bool false),.val (.int .u64 ((IntKind.wrap .u64 ((IntKind.wrap .u64 ((IntKind.wrap .u64 (s0_2 * 6364136223846793005)) + (IntKind.wrap .u64 (wrap64 (rd s0_0 s0_1))))) + 1442695040888963407)) / 1099511627776)),.val (.int .u64 (Go.bits .and .u64 ((IntKind.wrap .u64 ((IntKind.wrap .u64 ((IntKind.wrap .u64 (s0_2 * 6364136223846793005)) + (IntKind.wrap .u64 (wrap64 (rd s0_0 s0_1))))) + 1442695040888963407)) / 1099511627776) 255)),.val (.int .i64 (wrap64 (Go.bits .and .u64 ((IntKind.wrap .u64 ((IntKind.wrap .u64 ((IntKind.wrap .u64 (s0_2 * 6364136223846793005)) + (IntKind.wrap .u64 (wrap64 (rd s0_0 s0_1))))) + 1442695040888963407)) / 1099511627776) 255)))] [] .ret (.inr rfl) (by kernel_rfl) (And.intro (And.intro (iI_len (k:=.u8) (xs:=s0_0)) (int_lss (P:=Tryz.prog) (t:=3) (k:=.i64) (x:=(.tmp 7)) (y:=(.tmp 12)) (a:=s0_1) (b:=(s0_0.length:Int)) (v:=true) (decide_eq_true g1))) (And.intro (And.intro (iI_rd (k:=.u8) (xs:=s0_0) (i:=s0_1) g3 g1) (conv_5_3 (a:=(rd s0_0 s0_1)))) (And.intro (int_add (P:=Tryz.prog) (t:=3) (k:=.i64) (x:=(.tmp 28)) (y:=(.const (.int .i64 1))) (a:=s0_1) (b:=1) (c:=(wrap64 (s0_1 + 1))) (IntWalk.i64_left _)) (And.intro (And.intro (int_mul (P:=Tryz.prog) (t:=49) (k:=.u64) (x:=(.tmp 36)) (y:=(.const (.int .u64 6364136223846793005))) (a:=s0_2) (b:=6364136223846793005) (c:=(IntKind.wrap .u64 (s0_2 * 6364136223846793005))) rfl) (And.intro (conv_3_49 (a:=(wrap64 (rd s0_0 s0_1)))) (And.intro (int_add (P:=Tryz.prog) (t:=49) (k:=.u64) (x:=(.tmp 37)) (y:=(.tmp 39)) (a:=(IntKind.wrap .u64 (s0_2 * 6364136223846793005))) (b:=(IntKind.wrap .u64 (wrap64 (rd s0_0 s0_1)))) (c:=(IntKind.wrap .u64 ((IntKind.wrap .u64 (s0_2 * 6364136223846793005)) + (IntKind.wrap .u64 (wrap64 (rd s0_0 s0_1)))))) rfl) (int_add (P:=Tryz.prog) (t:=49) (k:=.u64) (x:=(.tmp 40)) (y:=(.const (.int .u64 1442695040888963407))) (a:=(IntKind.wrap .u64 ((IntKind.wrap .u64 (s0_2 * 6364136223846793005)) + (IntKind.wrap .u64 (wrap64 (rd s0_0 s0_1)))))) (b:=1442695040888963407) (c:=(IntKind.wrap .u64 ((IntKind.wrap .u64 ((IntKind.wrap .u64 (s0_2 * 6364136223846793005)) + (IntKind.wrap .u64 (wrap64 (rd s0_0 s0_1))))) + 1442695040888963407))) rfl)))) (And.intro (And.intro (iI_len (k:=.u8) (xs:=s0_0)) (int_leq (P:=Tryz.prog) (t:=3) (k:=.i64) (x:=(.tmp 47)) (y:=(.tmp 52)) (a:=(wrap64 (s0_1 + 1))) (b:=(s0_0.length:Int)) (v:=false) (decide_eq_false g5))) (And.intro (int_shr (P:=Tryz.prog) (t:=49) (k:=.u64) (x:=(.tmp 58)) (y:=(.const (.int .u64 40))) (a:=(IntKind.wrap .u64 ((IntKind.wrap .u64 ((IntKind.wrap .u64 (s0_2 * 6364136223846793005)) + (IntKind.wrap .u64 (wrap64 (rd s0_0 s0_1))))) + 1442695040888963407))) (b:=40) (c:=((IntKind.wrap .u64 ((IntKind.wrap .u64 ((IntKind.wrap .u64 (s0_2 * 6364136223846793005)) + (IntKind.wrap .u64 (wrap64 (rd s0_0 s0_1))))) + 1442695040888963407)) / 1099511627776)) (k':=.u64) (by decide) rfl) (And.intro (int_and (P:=Tryz.prog) (t:=49) (k:=.u64) (x:=(.tmp 59)) (y:=(.const (.int .u64 255))) (a:=((IntKind.wrap .u64 ((IntKind.wrap .u64 ((IntKind.wrap .u64 (s0_2 * 6364136223846793005)) + (IntKind.wrap .u64 (wrap64 (rd s0_0 s0_1))))) + 1442695040888963407)) / 1099511627776)) (b:=255) (c:=(Go.bits .and .u64 ((IntKind.wrap .u64 ((IntKind.wrap .u64 ((IntKind.wrap .u64 (s0_2 * 6364136223846793005)) + (IntKind.wrap .u64 (wrap64 (rd s0_0 s0_1))))) + 1442695040888963407)) / 1099511627776) 255)) rfl) (conv_49_3 (a:=(Go.bits .and .u64 ((IntKind.wrap .u64 ((IntKind.wrap .u64 ((IntKind.wrap .u64 (s0_2 * 6364136223846793005)) + (IntKind.wrap .u64 (wrap64 (rd s0_0 s0_1))))) + 1442695040888963407)) / 1099511627776) 255)))))))))) (by kernel_rfl)
 ·rcases ite_ h2 with ⟨g7,h8⟩ | ⟨g7,h8⟩
  ·obtain ⟨rfl,rfl,rfl⟩:=pr3_ h8
   exact leafRet (hn:=hn59) 29 [.val (.int .i64 (s0_0.length:Int)),.val (.bool false),.val (.int .i64 (wrap64 (s0_1 + 1))),.val (.int .u64 (IntKind.wrap .u64 (s0_2 * 6364136223846793005))),.val (.int .u64 (IntKind.wrap .u64 0)),.val (.int .u64 (IntKind.wrap .u64 (IntKind.wrap .u64 (s0_2 * 6364136223846793005)))),.val (.int .u64 (IntKind.wrap .u64 ((IntKind.wrap .u64 (IntKind.wrap .u64 (s0_2 * 6364136223846793005))) + 1442695040888963407))),.val (.int .i64 (s0_0.length:Int)),.val (.bool true)] [] .ret (.inr rfl) (by kernel_rfl) (And.intro (And.intro (iI_len (k:=.u8) (xs:=s0_0)) (int_lss (P:=Tryz.prog) (t:=3) (k:=.i64) (x:=(.tmp 7)) (y:=(.tmp 12)) (a:=s0_1) (b:=(s0_0.length:Int)) (v:=false) (decide_eq_false g1))) (And.intro (int_add (P:=Tryz.prog) (t:=3) (k:=.i64) (x:=(.tmp 28)) (y:=(.const (.int .i64 1))) (a:=s0_1) (b:=1) (c:=(wrap64 (s0_1 + 1))) (IntWalk.i64_left _)) (And.intro (And.intro (int_mul (P:=Tryz.prog) (t:=49) (k:=.u64) (x:=(.tmp 36)) (y:=(.const (.int .u64 6364136223846793005))) (a:=s0_2) (b:=6364136223846793005) (c:=(IntKind.wrap .u64 (s0_2 * 6364136223846793005))) rfl) (And.intro (conv_3_49 (a:=0)) (And.intro (int_add (P:=Tryz.prog) (t:=49) (k:=.u64) (x:=(.tmp 37)) (y:=(.tmp 39)) (a:=(IntKind.wrap .u64 (s0_2 * 6364136223846793005))) (b:=(IntKind.wrap .u64 0)) (c:=(IntKind.wrap .u64 (IntKind.wrap .u64 (s0_2 * 6364136223846793005)))) u64_add0) (int_add (P:=Tryz.prog) (t:=49) (k:=.u64) (x:=(.tmp 40)) (y:=(.const (.int .u64 1442695040888963407))) (a:=(IntKind.wrap .u64 (IntKind.wrap .u64 (s0_2 * 6364136223846793005)))) (b:=1442695040888963407) (c:=(IntKind.wrap .u64 ((IntKind.wrap .u64 (IntKind.wrap .u64 (s0_2 * 6364136223846793005))) + 1442695040888963407))) rfl)))) (And.intro (iI_len (k:=.u8) (xs:=s0_0)) (int_leq (P:=Tryz.prog) (t:=3) (k:=.i64) (x:=(.tmp 47)) (y:=(.tmp 52)) (a:=(wrap64 (s0_1 + 1))) (b:=(s0_0.length:Int)) (v:=true) (decide_eq_true g7)))))) (by kernel_rfl)
  ·obtain ⟨rfl,rfl,rfl⟩:=pr3_ h8
   exact leafRet (hn:=hn59) 30 [.val (.int .i64 (s0_0.length:Int)),.val (.bool false),.val (.int .i64 (wrap64 (s0_1 + 1))),.val (.int .u64 (IntKind.wrap .u64 (s0_2 * 6364136223846793005))),.val (.int .u64 (IntKind.wrap .u64 0)),.val (.int .u64 (IntKind.wrap .u64 (IntKind.wrap .u64 (s0_2 * 6364136223846793005)))),.val (.int .u64 (IntKind.wrap .u64 ((IntKind.wrap .u64 (IntKind.wrap .u64 (s0_2 * 6364136223846793005))) + 1442695040888963407))),.val (.int .i64 (s0_0.length:Int)),.val (.bool false),.val (.int .u64 ((IntKind.wrap .u64 ((IntKind.wrap .u64 (IntKind.wrap .u64 (s0_2 * 6364136223846793005))) + 1442695040888963407)) / 1099511627776)),.val (.int .u64 (Go.bits .and .u64 ((IntKind.wrap .u64 ((IntKind.wrap .u64 (IntKind.wrap .u64 (s0_2 * 6364136223846793005))) + 1442695040888963407)) / 1099511627776) 255)),.val (.int .i64 (wrap64 (Go.bits .and .u64 ((IntKind.wrap .u64 ((IntKind.wrap .u64 (IntKind.wrap .u64 (s0_2 * 6364136223846793005))) + 1442695040888963407)) / 1099511627776) 255)))] [] .ret (.inr rfl) (by kernel_rfl) (And.intro (And.intro (iI_len (k:=.u8) (xs:=s0_0)) (int_lss (P:=Tryz.prog) (t:=3) (k:=.i64) (x:=(.tmp 7)) (y:=(.tmp 12)) (a:=s0_1) (b:=(s0_0.length:Int)) (v:=false) (decide_eq_false g1))) (And.intro (int_add (P:=Tryz.prog) (t:=3) (k:=.i64) (x:=(.tmp 28)) (y:=(.const (.int .i64 1))) (a:=s0_1) (b:=1) (c:=(wrap64 (s0_1 + 1))) (IntWalk.i64_left _)) (And.intro (And.intro (int_mul (P:=Tryz.prog) (t:=49) (k:=.u64) (x:=(.tmp 36)) (y:=(.const (.int .u64 6364136223846793005))) (a:=s0_2) (b:=6364136223846793005) (c:=(IntKind.wrap .u64 (s0_2 * 6364136223846793005))) rfl) (And.intro (conv_3_49 (a:=0)) (And.intro (int_add (P:=Tryz.prog) (t:=49) (k:=.u64) (x:=(.tmp 37)) (y:=(.tmp 39)) (a:=(IntKind.wrap .u64 (s0_2 * 6364136223846793005))) (b:=(IntKind.wrap .u64 0)) (c:=(IntKind.wrap .u64 (IntKind.wrap .u64 (s0_2 * 6364136223846793005)))) u64_add0) (int_add (P:=Tryz.prog) (t:=49) (k:=.u64) (x:=(.tmp 40)) (y:=(.const (.int .u64 1442695040888963407))) (a:=(IntKind.wrap .u64 (IntKind.wrap .u64 (s0_2 * 6364136223846793005)))) (b:=1442695040888963407) (c:=(IntKind.wrap .u64 ((IntKind.wrap .u64 (IntKind.wrap .u64 (s0_2 * 6364136223846793005))) + 1442695040888963407))) rfl)))) (And.intro (And.intro (iI_len (k:=.u8) (xs:=s0_0)) (int_leq (P:=Tryz.prog) (t:=3) (k:=.i64) (x:=(.tmp 47)) (y:=(.tmp 52)) (a:=(wrap64 (s0_1 + 1))) (b:=(s0_0.length:Int)) (v:=false) (decide_eq_false g7))) (And.intro (int_shr (P:=Tryz.prog) (t:=49) (k:=.u64) (x:=(.tmp 58)) (y:=(.const (.int .u64 40))) (a:=(IntKind.wrap .u64 ((IntKind.wrap .u64 (IntKind.wrap .u64 (s0_2 * 6364136223846793005))) + 1442695040888963407))) (b:=40) (c:=((IntKind.wrap .u64 ((IntKind.wrap .u64 (IntKind.wrap .u64 (s0_2 * 6364136223846793005))) + 1442695040888963407)) / 1099511627776)) (k':=.u64) (by decide) rfl) (And.intro (int_and (P:=Tryz.prog) (t:=49) (k:=.u64) (x:=(.tmp 59)) (y:=(.const (.int .u64 255))) (a:=((IntKind.wrap .u64 ((IntKind.wrap .u64 (IntKind.wrap .u64 (s0_2 * 6364136223846793005))) + 1442695040888963407)) / 1099511627776)) (b:=255) (c:=(Go.bits .and .u64 ((IntKind.wrap .u64 ((IntKind.wrap .u64 (IntKind.wrap .u64 (s0_2 * 6364136223846793005))) + 1442695040888963407)) / 1099511627776) 255)) rfl) (conv_49_3 (a:=(Go.bits .and .u64 ((IntKind.wrap .u64 ((IntKind.wrap .u64 (IntKind.wrap .u64 (s0_2 * 6364136223846793005))) + 1442695040888963407)) / 1099511627776) 255))))))))) (by kernel_rfl)

def hn28:Hint:=⟨[(8,[1000000]),(14,[1000000])],[]⟩
def o28 (r:Int × Int × Int) (s0_0:List Int) (s0_1:Int) (s0_2:Int):List AV:=[vi r.1]
def p28 (r:Int × Int × Int) (s0_0:List Int) (s0_1:Int) (s0_2:Int):List (Nat × AV):=[(1000000,.box (.agg [.sl (iI .u8 s0_0),vi r.2.1,.val (.int .u64 r.2.2)]))]
set_option maxRecDepth 100000 in
theorem ad_28 {s0_0:List Int} {s0_1:Int} {s0_2:Int} {a1:Int} {r1:Int} {r2:Int} {r3:Int} (h:spec_l1Cur_pick.f s0_0 s0_1 s0_2 a1 = some (r1,r2,r3)):CallH Tryz.prog 28 [.loc 1000000 0,vi a1] [(1000000,.box (.agg [.sl (iI .u8 s0_0),vi s0_1,.val (.int .u64 s0_2)]))] (vi r1) [(1000000,.box (.agg [.sl (iI .u8 s0_0),vi r2,.val (.int .u64 r3)]))]:=by
 unfold spec_l1Cur_pick.f at h
 refine call_ok (c:=bodyOf Tryz.f28) (rs:=o28 (r1,r2,r3) s0_0 s0_1 s0_2) (post:=p28 (r1,r2,r3) s0_0 s0_1 s0_2) Tryz.func28 rfl rfl rfl (by kernel_rfl) ?_
 show AtP Tryz.prog 20 (bodyOf Tryz.f28) (KR Tryz.prog Tryz.f28.results.toList (o28 (r1,r2,r3) s0_0 s0_1 s0_2) (p28 (r1,r2,r3) s0_0 s0_1 s0_2)) [] [] (lookA [(0,.loc 1000000 0),(1,vi a1),(1000000,.box (.agg [.sl (iI .u8 s0_0),vi s0_1,.val (.int .u64 s0_2)]))])
 rcases ite_ h with ⟨g1,h2⟩ | ⟨g1,h2⟩
 ·obtain ⟨rfl,rfl,rfl⟩:=pr3_ h2
  exact leafRet (hn:=hn28) 13 [.val (.bool true)] [] .ret (.inr rfl) (by kernel_rfl) (int_leq (P:=Tryz.prog) (t:=3) (k:=.i64) (x:=(.tmp 6)) (y:=(.const (.int .i64 1))) (a:=a1) (b:=1) (v:=true) (decide_eq_true g1)) (by kernel_rfl)
 ·obtain ⟨⟨bt102_1,bt102_2,bt102_3⟩,c3,h4⟩:=bd_ h2
  try dsimp only at h4
  rcases ite_ h4 with ⟨g5,h6⟩ | ⟨g5,h6⟩
  ·obtain ⟨⟨bt105_1,bt105_2,bt105_3⟩,c7,h8⟩:=bd_ h6
   try dsimp only at h8
   obtain ⟨g9,h10⟩:=in_ h8
   obtain ⟨rfl,rfl,rfl⟩:=pr3_ h10
   exact leafRet (hn:=hn28) 24 [.val (.bool false),.callH [1000000] (vi bt102_1) [(1000000,.box (.agg [.sl (iI .u8 s0_0),vi bt102_2,.val (.int .u64 bt102_3)]))],.val (.bool true),.val (.int .i64 (wrap64 (bt102_1 * 256))),.callH [1000000] (vi bt105_1) [(1000000,.box (.agg [.sl (iI .u8 s0_0),vi bt105_2,.val (.int .u64 bt105_3)]))],.val (.int .i64 (wrap64 ((wrap64 (bt102_1 * 256)) + bt105_1))),.val (.int .i64 (Int.tmod (wrap64 ((wrap64 (bt102_1 * 256)) + bt105_1)) a1))] [] .ret (.inr rfl) (by kernel_rfl) (And.intro (int_leq (P:=Tryz.prog) (t:=3) (k:=.i64) (x:=(.tmp 6)) (y:=(.const (.int .i64 1))) (a:=a1) (b:=1) (v:=false) (decide_eq_false g1)) (And.intro (CallH.ren [(1000000,1000000)] rfl rfl (ad_59 c3)) (And.intro (int_gtr (P:=Tryz.prog) (t:=3) (k:=.i64) (x:=(.tmp 10)) (y:=(.const (.int .i64 200))) (a:=a1) (b:=200) (v:=true) (decide_eq_true g5)) (And.intro (And.intro (int_mul (P:=Tryz.prog) (t:=3) (k:=.i64) (x:=(.tmp 12)) (y:=(.const (.int .i64 256))) (a:=bt102_1) (b:=256) (c:=(wrap64 (bt102_1 * 256))) (IntWalk.i64_left _)) (And.intro (CallH.ren [(1000000,1000000)] rfl rfl (ad_59 c7)) (int_add (P:=Tryz.prog) (t:=3) (k:=.i64) (x:=(.tmp 13)) (y:=(.tmp 15)) (a:=(wrap64 (bt102_1 * 256))) (b:=bt105_1) (c:=(wrap64 ((wrap64 (bt102_1 * 256)) + bt105_1))) (IntWalk.i64_left _)))) (int_rem (P:=Tryz.prog) (t:=3) (k:=.i64) (x:=(.tmp 17)) (y:=(.tmp 18)) (a:=(wrap64 ((wrap64 (bt102_1 * 256)) + bt105_1))) (b:=a1) (c:=(Int.tmod (wrap64 ((wrap64 (bt102_1 * 256)) + bt105_1)) a1)) g9 rfl))))) (by kernel_rfl)
  ·obtain ⟨g11,h12⟩:=in_ h6
   obtain ⟨rfl,rfl,rfl⟩:=pr3_ h12
   exact leafRet (hn:=hn28) 24 [.val (.bool false),.callH [1000000] (vi bt102_1) [(1000000,.box (.agg [.sl (iI .u8 s0_0),vi bt102_2,.val (.int .u64 bt102_3)]))],.val (.bool false),.val (.int .i64 (Int.tmod bt102_1 a1))] [] .ret (.inr rfl) (by kernel_rfl) (And.intro (int_leq (P:=Tryz.prog) (t:=3) (k:=.i64) (x:=(.tmp 6)) (y:=(.const (.int .i64 1))) (a:=a1) (b:=1) (v:=false) (decide_eq_false g1)) (And.intro (CallH.ren [(1000000,1000000)] rfl rfl (ad_59 c3)) (And.intro (int_gtr (P:=Tryz.prog) (t:=3) (k:=.i64) (x:=(.tmp 10)) (y:=(.const (.int .i64 200))) (a:=a1) (b:=200) (v:=false) (decide_eq_false g5)) (int_rem (P:=Tryz.prog) (t:=3) (k:=.i64) (x:=(.tmp 17)) (y:=(.tmp 18)) (a:=bt102_1) (b:=a1) (c:=(Int.tmod bt102_1 a1)) g11 rfl)))) (by kernel_rfl)

def hn66:Hint:=⟨[],[]⟩
def o66 (r:Int):List AV:=[vi r]
def p66 (r:Int):List (Nat × AV):=[]
set_option maxRecDepth 100000 in
theorem ad_66 {a0:Int} {a1:Int} {r:Int} (h:spec_l1Least.f a0 a1 = some r):CallH Tryz.prog 66 [vi a0,vi a1] [] (vi r) []:=by
 unfold spec_l1Least.f at h
 refine call_ok (c:=bodyOf Tryz.f66) (rs:=o66 r) (post:=p66 r) Tryz.func66 rfl rfl rfl (by kernel_rfl) ?_
 show AtP Tryz.prog 10 (bodyOf Tryz.f66) (KR Tryz.prog Tryz.f66.results.toList (o66 r) (p66 r)) [] [] (lookA [(0,vi a0),(1,vi a1)])
 rcases ite_ h with ⟨g1,h2⟩ | ⟨g1,h2⟩
 ·obtain rfl:=Option.some.inj h2
  exact leafRet (hn:=hn66) 13 [.val (.bool true)] [] .ret (.inr rfl) (by kernel_rfl) (int_lss (P:=Tryz.prog) (t:=3) (k:=.i64) (x:=(.tmp 5)) (y:=(.tmp 6)) (a:=a0) (b:=a1) (v:=true) (decide_eq_true g1)) (by kernel_rfl)
 ·obtain rfl:=Option.some.inj h2
  exact leafRet (hn:=hn66) 14 [.val (.bool false)] [] .ret (.inr rfl) (by kernel_rfl) (int_lss (P:=Tryz.prog) (t:=3) (k:=.i64) (x:=(.tmp 5)) (y:=(.tmp 6)) (a:=a0) (b:=a1) (v:=false) (decide_eq_false g1)) (by kernel_rfl)

def hn67:Hint:=⟨[],[]⟩
def o67 (r:Int):List AV:=[vi r]
def p67 (r:Int):List (Nat × AV):=[]
set_option maxRecDepth 100000 in
theorem ad_67 {a0:Int} {a1:Int} {r:Int} (h:spec_l1Most.f a0 a1 = some r):CallH Tryz.prog 67 [vi a0,vi a1] [] (vi r) []:=by
 unfold spec_l1Most.f at h
 refine call_ok (c:=bodyOf Tryz.f67) (rs:=o67 r) (post:=p67 r) Tryz.func67 rfl rfl rfl (by kernel_rfl) ?_
 show AtP Tryz.prog 10 (bodyOf Tryz.f67) (KR Tryz.prog Tryz.f67.results.toList (o67 r) (p67 r)) [] [] (lookA [(0,vi a0),(1,vi a1)])
 rcases ite_ h with ⟨g1,h2⟩ | ⟨g1,h2⟩
 ·obtain rfl:=Option.some.inj h2
  exact leafRet (hn:=hn67) 13 [.val (.bool true)] [] .ret (.inr rfl) (by kernel_rfl) (int_gtr (P:=Tryz.prog) (t:=3) (k:=.i64) (x:=(.tmp 5)) (y:=(.tmp 6)) (a:=a0) (b:=a1) (v:=true) (decide_eq_true g1)) (by kernel_rfl)
 ·obtain rfl:=Option.some.inj h2
  exact leafRet (hn:=hn67) 14 [.val (.bool false)] [] .ret (.inr rfl) (by kernel_rfl) (int_gtr (P:=Tryz.prog) (t:=3) (k:=.i64) (x:=(.tmp 5)) (y:=(.tmp 6)) (a:=a0) (b:=a1) (v:=false) (decide_eq_false g1)) (by kernel_rfl)

def hn34:Hint:=⟨[(4,[16])],[]⟩
def o34 (r:Int × Int):List AV:=[.agg [vi r.1,vi r.2]]
def p34 (r:Int × Int):List (Nat × AV):=[]
set_option maxRecDepth 100000 in
theorem ad_34 {a0:Int} {a1:Int} {r1:Int} {r2:Int} (h:spec_tiOf.f a0 a1 = some (r1,r2)):CallH Tryz.prog 34 [vi a0,vi a1] [] (.agg [vi r1,vi r2]) []:=by
 unfold spec_tiOf.f at h
 refine call_ok (c:=bodyOf Tryz.f34) (rs:=o34 (r1,r2)) (post:=p34 (r1,r2)) Tryz.func34 rfl rfl rfl (by kernel_rfl) ?_
 show AtP Tryz.prog 12 (bodyOf Tryz.f34) (KR Tryz.prog Tryz.f34.results.toList (o34 (r1,r2)) (p34 (r1,r2))) [] [] (lookA [(0,vi a0),(1,vi a1)])
 obtain ⟨t109,c1,h2⟩:=bd_ h
 obtain ⟨t110,c3,h4⟩:=bd_ h2
 obtain ⟨rfl,rfl⟩:=pr2_ h4
 exact leafRet (hn:=hn34) 7 [.call (vi t109),.call (vi t110),.elem (.agg [vi t109,vi t110])] [] .ret (.inr rfl) (by kernel_rfl) (And.intro (ad_66 c1) (And.intro (ad_67 c3) (build_43_2 (p0:=t109) (p1:=t110)))) (by kernel_rfl)

def hn65:Hint:=⟨[(3,[22]),(6,[25])],[]⟩
def o65 (r:Int):List AV:=[vi r]
def p65 (r:Int):List (Nat × AV):=[]
def q65_l0 (r:Int) (k:Nat) (L:List (Nat × AV)):Prop:=∃ (x7:List (S43)) (x8:Int) (x9:Int) (x112000:Int) (x112001:Int),L = [(3,.loc 22 0),(7,.sl (iS43 x7)),(8,vi x8),(9,vi x9),(22,.box (.agg [vi x112000,vi x112001]))] ∧ spec_tiPlace.l0 k x7 x8 x9 x112000 x112001 = some r
theorem q65_l0_mk {r:Int} {k:Nat} {x7:List (S43)} {x8:Int} {x9:Int} {x112000:Int} {x112001:Int} (h:spec_tiPlace.l0 k x7 x8 x9 x112000 x112001 = some r):q65_l0 r k [(3,.loc 22 0),(7,.sl (iS43 x7)),(8,vi x8),(9,vi x9),(22,.box (.agg [vi x112000,vi x112001]))]:=⟨x7,x8,x9,x112000,x112001,rfl,h⟩
set_option maxRecDepth 100000 in
theorem at65_l0 {r:Int}:∀ k L,q65_l0 r k L → AtP Tryz.prog 19 (bodyOf Tryz.f65) (KR Tryz.prog Tryz.f65.results.toList (o65 r) (p65 r)) [true,false,true,false] [] (lookA L) :=
 at_loop (by kernel_rfl) (fun _ => by kernel_rfl) (q65_l0 r) (by
  rintro k _ ⟨x7,x8,x9,x112000,x112001,rfl,h⟩
  cases k with
  | zero => simp [spec_tiPlace.l0] at h
  | succ k =>
   rw [spec_tiPlace.l0] at h
   rcases ite_ h with ⟨g1,h2⟩ | ⟨g1,h2⟩
   ·obtain ⟨g3,h4⟩:=ip_ h2
    obtain ⟨g5,h6⟩:=ip_ h4
    rcases ite_ h6 with ⟨g7,h8⟩ | ⟨g7,h8⟩
    ·obtain rfl:=Option.some.inj h8
     exact leafRet (hn:=hn65) 25 [.val (.bool true),.elem (.agg [vi ((rd_T43 x7 x9).f0),vi ((rd_T43 x7 x9).f1)]),.val (.bool true)] [] .ret (.inr rfl) (by kernel_rfl) (And.intro (int_lss (P:=Tryz.prog) (t:=3) (k:=.i64) (x:=(.tmp 9)) (y:=(.tmp 8)) (a:=x9) (b:=x8) (v:=true) (decide_eq_true g1)) (And.intro (iS43_rd (xs:=x7) (i:=x9) g3 g5) (agg_43_eql (x:=(.tmp 14)) (y:=(.tmp 15)) (a0:=((rd_T43 x7 x9).f0)) (b0:=x112000) (a1:=((rd_T43 x7 x9).f1)) (b1:=x112001) (v:=true) g7))) (by kernel_rfl)
    ·exact leafBack (hn:=hn65) 20 [.val (.bool true),.elem (.agg [vi ((rd_T43 x7 x9).f0),vi ((rd_T43 x7 x9).f1)]),.val (.bool false),.val (.int .i64 (wrap64 (x9 + 1)))] [] (q65_l0_mk h8) (Nat.lt_succ_self k) (And.intro (int_lss (P:=Tryz.prog) (t:=3) (k:=.i64) (x:=(.tmp 9)) (y:=(.tmp 8)) (a:=x9) (b:=x8) (v:=true) (decide_eq_true g1)) (And.intro (iS43_rd (xs:=x7) (i:=x9) g3 g5) (And.intro (agg_43_eql (x:=(.tmp 14)) (y:=(.tmp 15)) (a0:=((rd_T43 x7 x9).f0)) (b0:=x112000) (a1:=((rd_T43 x7 x9).f1)) (b1:=x112001) (v:=false) (Bool.eq_false_iff.2 g7)) (int_add (P:=Tryz.prog) (t:=3) (k:=.i64) (x:=(.tmp 9)) (y:=(.const (.int .i64 1))) (a:=x9) (b:=1) (c:=(wrap64 (x9 + 1))) (IntWalk.i64_left _))))) (by kernel_rfl)
   ·obtain rfl:=Option.some.inj h2
    exact leafRet (hn:=hn65) 14 [.val (.bool false)] [] .ret (.inr rfl) (by kernel_rfl) (int_lss (P:=Tryz.prog) (t:=3) (k:=.i64) (x:=(.tmp 9)) (y:=(.tmp 8)) (a:=x9) (b:=x8) (v:=false) (decide_eq_false g1)) (by kernel_rfl))
set_option maxRecDepth 100000 in
theorem ad_65 {k:Nat} {l0:List (S43)} {a1_0:Int} {a1_1:Int} {r:Int} (h:spec_tiPlace.f k l0 a1_0 a1_1 = some r):CallH Tryz.prog 65 [.sl (iS43 l0),.agg [vi a1_0,vi a1_1]] [] (vi r) []:=by
 unfold spec_tiPlace.f at h
 refine call_ok (c:=bodyOf Tryz.f65) (rs:=o65 r) (post:=p65 r) Tryz.func65 rfl rfl rfl (by kernel_rfl) ?_
 show AtP Tryz.prog 19 (bodyOf Tryz.f65) (KR Tryz.prog Tryz.f65.results.toList (o65 r) (p65 r)) [] [] (lookA [(0,.sl (iS43 l0)),(1,.agg [vi a1_0,vi a1_1])])
 exact leafAt (hn:=hn65) 8 [.val (.int .i64 (l0.length:Int))] [] (at65_l0 _ _ (q65_l0_mk h)) (iS43_len (xs:=l0)) (by kernel_rfl)

def hn53:Hint:=⟨[(9,[45]),(10,[1000000]),(18,[1000000]),(22,[1000000]),(27,[43]),(31,[43]),(33,[69])],[]⟩
def o53 (r:(List (S43)) × Int × Int) (s0_0:List Int) (s0_1:Int) (s0_2:Int):List AV:=[.row 500000]
def p53 (r:(List (S43)) × Int × Int) (s0_0:List Int) (s0_1:Int) (s0_2:Int):List (Nat × AV):=[(1000000,.box (.agg [.sl (iI .u8 s0_0),vi r.2.1,.val (.int .u64 r.2.2)])),(500000,.ow false 43 (iS43 r.1))]
def q53_l0 (r:(List (S43)) × Int × Int) (s0_0:List Int) (s0_1:Int) (s0_2:Int) (k:Nat) (L:List (Nat × AV)):Prop:=∃ (x2:Int) (x7:List (S43)) (x8:Int) (x1001:Int) (x1002:Int),L = [(0,.loc 1000000 0),(2,vi x2),(7,.row 43),(8,vi x8),(43,.ow false 43 (iS43 x7)),(1000000,.box (.agg [.sl (iI .u8 s0_0),vi x1001,.val (.int .u64 x1002)]))] ∧ spec_l1Cur_sureHand.l0 k x2 x7 x8 s0_0 x1001 x1002 = some r
theorem q53_l0_mk {r:(List (S43)) × Int × Int} (s0_0:List Int) (s0_1:Int) (s0_2:Int) {k:Nat} {x2:Int} {x7:List (S43)} {x8:Int} {x1001:Int} {x1002:Int} (h:spec_l1Cur_sureHand.l0 k x2 x7 x8 s0_0 x1001 x1002 = some r):q53_l0 r s0_0 s0_1 s0_2 k [(0,.loc 1000000 0),(2,vi x2),(7,.row 43),(8,vi x8),(43,.ow false 43 (iS43 x7)),(1000000,.box (.agg [.sl (iI .u8 s0_0),vi x1001,.val (.int .u64 x1002)]))]:=⟨x2,x7,x8,x1001,x1002,rfl,h⟩
set_option maxRecDepth 100000 in
theorem at53_l0 {r:(List (S43)) × Int × Int} {s0_0:List Int} {s0_1:Int} {s0_2:Int}:∀ k L,q53_l0 r s0_0 s0_1 s0_2 k L → AtP Tryz.prog 36 (bodyOf Tryz.f53) (KR Tryz.prog Tryz.f53.results.toList (o53 r s0_0 s0_1 s0_2) (p53 r s0_0 s0_1 s0_2)) [true,true,false,true,false] [] (lookA L) :=
 at_loop (by kernel_rfl) (fun _ => by kernel_rfl) (q53_l0 r s0_0 s0_1 s0_2) (by
  rintro k _ ⟨x2,x7,x8,x1001,x1002,rfl,h⟩
  cases k with
  | zero => simp [spec_l1Cur_sureHand.l0] at h
  | succ k =>
   rw [spec_l1Cur_sureHand.l0] at h
   rcases ite_ h with ⟨g1,h2⟩ | ⟨g1,h2⟩
   ·obtain ⟨⟨bt117_1,bt117_2,bt117_3⟩,c3,h4⟩:=bd_ h2
    try dsimp only at h4
    obtain ⟨⟨bt120_1,bt120_2,bt120_3⟩,c5,h6⟩:=bd_ h4
    try dsimp only at h6
    obtain ⟨⟨bt123_1,bt123_2⟩,c7,h8⟩:=bd_ h6
    try dsimp only at h8
    obtain ⟨t126,c9,h10⟩:=bd_ h8
    rcases ite_ h10 with ⟨g11,h12⟩ | ⟨g11,h12⟩
    ·obtain ⟨g13,h14⟩:=ip_ h12
     exact leafBack (hn:=hn53) 20 [.val (.bool true),.val (.int .i64 (wrap64 (x2 + 1))),.callH [1000000] (vi bt117_1) [(1000000,.box (.agg [.sl (iI .u8 s0_0),vi bt117_2,.val (.int .u64 bt117_3)]))],.val (.int .i64 (wrap64 (x2 + 1))),.callH [1000000] (vi bt120_1) [(1000000,.box (.agg [.sl (iI .u8 s0_0),vi bt120_2,.val (.int .u64 bt120_3)]))],.call (.agg [vi bt123_1,vi bt123_2]),.call (vi t126),.val (.bool true),.go,.elem (.ow false 43 (iS43 (x7 ++ ([(⟨bt123_1,bt123_2⟩ : S43)])))),.val (.int .i64 (wrap64 (x8 - 1)))] [(43,70)] (q53_l0_mk s0_0 s0_1 s0_2 h14) (Nat.lt_succ_self k) (And.intro (int_gtr (P:=Tryz.prog) (t:=3) (k:=.i64) (x:=(.tmp 14)) (y:=(.const (.int .i64 0))) (a:=x8) (b:=0) (v:=true) (decide_eq_true g1)) (And.intro (And.intro (int_add (P:=Tryz.prog) (t:=3) (k:=.i64) (x:=(.tmp 19)) (y:=(.const (.int .i64 1))) (a:=x2) (b:=1) (c:=(wrap64 (x2 + 1))) (IntWalk.i64_left _)) (And.intro (CallH.ren [(1000000,1000000)] rfl rfl (ad_28 c3)) (And.intro (int_add (P:=Tryz.prog) (t:=3) (k:=.i64) (x:=(.tmp 23)) (y:=(.const (.int .i64 1))) (a:=x2) (b:=1) (c:=(wrap64 (x2 + 1))) (IntWalk.i64_left _)) (And.intro (CallH.ren [(1000000,1000000)] rfl rfl (ad_28 c5)) (ad_34 c7))))) (And.intro (And.intro (ad_65 c9) (int_lss (P:=Tryz.prog) (t:=3) (k:=.i64) (x:=(.tmp 29)) (y:=(.const (.int .i64 0))) (a:=t126) (b:=0) (v:=true) (decide_eq_true g11))) (And.intro (iS43_app (N:=8796093022208) (b:=16) (xs:=x7) (ys:=[(⟨bt123_1,bt123_2⟩ : S43)]) (by decide) (Nat.succ_le_of_lt g13)) (int_sub (P:=Tryz.prog) (t:=3) (k:=.i64) (x:=(.tmp 16)) (y:=(.const (.int .i64 1))) (a:=x8) (b:=1) (c:=(wrap64 (x8 - 1))) (IntWalk.i64_left _)))))) (by kernel_rfl)
    ·exact leafBack (hn:=hn53) 20 [.val (.bool true),.val (.int .i64 (wrap64 (x2 + 1))),.callH [1000000] (vi bt117_1) [(1000000,.box (.agg [.sl (iI .u8 s0_0),vi bt117_2,.val (.int .u64 bt117_3)]))],.val (.int .i64 (wrap64 (x2 + 1))),.callH [1000000] (vi bt120_1) [(1000000,.box (.agg [.sl (iI .u8 s0_0),vi bt120_2,.val (.int .u64 bt120_3)]))],.call (.agg [vi bt123_1,vi bt123_2]),.call (vi t126),.val (.bool false),.val (.int .i64 (wrap64 (x8 - 1)))] [] (q53_l0_mk s0_0 s0_1 s0_2 h12) (Nat.lt_succ_self k) (And.intro (int_gtr (P:=Tryz.prog) (t:=3) (k:=.i64) (x:=(.tmp 14)) (y:=(.const (.int .i64 0))) (a:=x8) (b:=0) (v:=true) (decide_eq_true g1)) (And.intro (And.intro (int_add (P:=Tryz.prog) (t:=3) (k:=.i64) (x:=(.tmp 19)) (y:=(.const (.int .i64 1))) (a:=x2) (b:=1) (c:=(wrap64 (x2 + 1))) (IntWalk.i64_left _)) (And.intro (CallH.ren [(1000000,1000000)] rfl rfl (ad_28 c3)) (And.intro (int_add (P:=Tryz.prog) (t:=3) (k:=.i64) (x:=(.tmp 23)) (y:=(.const (.int .i64 1))) (a:=x2) (b:=1) (c:=(wrap64 (x2 + 1))) (IntWalk.i64_left _)) (And.intro (CallH.ren [(1000000,1000000)] rfl rfl (ad_28 c5)) (ad_34 c7))))) (And.intro (And.intro (ad_65 c9) (int_lss (P:=Tryz.prog) (t:=3) (k:=.i64) (x:=(.tmp 29)) (y:=(.const (.int .i64 0))) (a:=t126) (b:=0) (v:=false) (decide_eq_false g11))) (int_sub (P:=Tryz.prog) (t:=3) (k:=.i64) (x:=(.tmp 16)) (y:=(.const (.int .i64 1))) (a:=x8) (b:=1) (c:=(wrap64 (x8 - 1))) (IntWalk.i64_left _))))) (by kernel_rfl)
   ·obtain rfl:=Option.some.inj h2
    exact leafRet (hn:=hn53) 14 [.val (.bool false)] [(500000,43)] .ret (.inr rfl) (by kernel_rfl) (int_gtr (P:=Tryz.prog) (t:=3) (k:=.i64) (x:=(.tmp 14)) (y:=(.const (.int .i64 0))) (a:=x8) (b:=0) (v:=false) (decide_eq_false g1)) (by kernel_rfl))
set_option maxRecDepth 100000 in
theorem ad_53 {k:Nat} {s0_0:List Int} {s0_1:Int} {s0_2:Int} {a1:Int} {a2:Int} {r1:List (S43)} {r2:Int} {r3:Int} (h:spec_l1Cur_sureHand.f k s0_0 s0_1 s0_2 a1 a2 = some (r1,r2,r3)):CallH Tryz.prog 53 [.loc 1000000 0,vi a1,vi a2] [(1000000,.box (.agg [.sl (iI .u8 s0_0),vi s0_1,.val (.int .u64 s0_2)]))] (.row 500000) [(1000000,.box (.agg [.sl (iI .u8 s0_0),vi r2,.val (.int .u64 r3)])),(500000,.ow false 43 (iS43 r1))]:=by
 unfold spec_l1Cur_sureHand.f at h
 refine call_ok (c:=bodyOf Tryz.f53) (rs:=o53 (r1,r2,r3) s0_0 s0_1 s0_2) (post:=p53 (r1,r2,r3) s0_0 s0_1 s0_2) Tryz.func53 rfl rfl rfl (by kernel_rfl) ?_
 show AtP Tryz.prog 36 (bodyOf Tryz.f53) (KR Tryz.prog Tryz.f53.results.toList (o53 (r1,r2,r3) s0_0 s0_1 s0_2) (p53 (r1,r2,r3) s0_0 s0_1 s0_2)) [] [] (lookA [(0,.loc 1000000 0),(1,vi a1),(2,vi a2),(1000000,.box (.agg [.sl (iI .u8 s0_0),vi s0_1,.val (.int .u64 s0_2)]))])
 obtain ⟨⟨bt114_1,bt114_2,bt114_3⟩,c1,h2⟩:=bd_ h
 try dsimp only at h2
 exact leafAt (hn:=hn53) 11 [.nil false 43,.nil false 43,.val (.int .i64 (wrap64 (a1 + 1))),.callH [1000000] (vi bt114_1) [(1000000,.box (.agg [.sl (iI .u8 s0_0),vi bt114_2,.val (.int .u64 bt114_3)]))]] [] (at53_l0 _ _ (q53_l0_mk s0_0 s0_1 s0_2 h2)) (And.intro (int_add (P:=Tryz.prog) (t:=3) (k:=.i64) (x:=(.tmp 11)) (y:=(.const (.int .i64 1))) (a:=a1) (b:=1) (c:=(wrap64 (a1 + 1))) (IntWalk.i64_left _)) (CallH.ren [(1000000,1000000)] rfl rfl (ad_28 c1))) (by kernel_rfl)

def hn29:Hint:=⟨[(6,[1000000])],[]⟩
def o29 (r:Int × Int × Int) (s0_0:List Int) (s0_1:Int) (s0_2:Int):List AV:=[vi r.1]
def p29 (r:Int × Int × Int) (s0_0:List Int) (s0_1:Int) (s0_2:Int):List (Nat × AV):=[(1000000,.box (.agg [.sl (iI .u8 s0_0),vi r.2.1,.val (.int .u64 r.2.2)]))]
set_option maxRecDepth 100000 in
theorem ad_29 {s0_0:List Int} {s0_1:Int} {s0_2:Int} {l1:List Int} {r1:Int} {r2:Int} {r3:Int} (h:spec_l1Cur_among.f s0_0 s0_1 s0_2 l1 = some (r1,r2,r3)):CallH Tryz.prog 29 [.loc 1000000 0,.sl (iI .i64 l1)] [(1000000,.box (.agg [.sl (iI .u8 s0_0),vi s0_1,.val (.int .u64 s0_2)]))] (vi r1) [(1000000,.box (.agg [.sl (iI .u8 s0_0),vi r2,.val (.int .u64 r3)]))]:=by
 unfold spec_l1Cur_among.f at h
 refine call_ok (c:=bodyOf Tryz.f29) (rs:=o29 (r1,r2,r3) s0_0 s0_1 s0_2) (post:=p29 (r1,r2,r3) s0_0 s0_1 s0_2) Tryz.func29 rfl rfl rfl (by kernel_rfl) ?_
 show AtP Tryz.prog 12 (bodyOf Tryz.f29) (KR Tryz.prog Tryz.f29.results.toList (o29 (r1,r2,r3) s0_0 s0_1 s0_2) (p29 (r1,r2,r3) s0_0 s0_1 s0_2)) [] [] (lookA [(0,.loc 1000000 0),(1,.sl (iI .i64 l1)),(1000000,.box (.agg [.sl (iI .u8 s0_0),vi s0_1,.val (.int .u64 s0_2)]))])
 obtain ⟨⟨bt130_1,bt130_2,bt130_3⟩,c1,h2⟩:=bd_ h
 try dsimp only at h2
 obtain ⟨g3,h4⟩:=ip_ h2
 obtain ⟨g5,h6⟩:=ip_ h4
 obtain ⟨rfl,rfl,rfl⟩:=pr3_ h6
 exact leafRet (hn:=hn29) 7 [.val (.int .i64 (l1.length:Int)),.callH [1000000] (vi bt130_1) [(1000000,.box (.agg [.sl (iI .u8 s0_0),vi bt130_2,.val (.int .u64 bt130_3)]))],.elem (vi (rd l1 bt130_1))] [] .ret (.inr rfl) (by kernel_rfl) (And.intro (iI_len (k:=.i64) (xs:=l1)) (And.intro (CallH.ren [(1000000,1000000)] rfl rfl (ad_28 c1)) (iI_rd (k:=.i64) (xs:=l1) (i:=bt130_1) g3 g5))) (by kernel_rfl)

def hn54:Hint:=⟨[(5,[1000000])],[]⟩
def o54 (r:Bool × Int × Int) (s0_0:List Int) (s0_1:Int) (s0_2:Int):List AV:=[vb r.1]
def p54 (r:Bool × Int × Int) (s0_0:List Int) (s0_1:Int) (s0_2:Int):List (Nat × AV):=[(1000000,.box (.agg [.sl (iI .u8 s0_0),vi r.2.1,.val (.int .u64 r.2.2)]))]
set_option maxRecDepth 100000 in
theorem ad_54 {s0_0:List Int} {s0_1:Int} {s0_2:Int} {a1:Int} {r1:Bool} {r2:Int} {r3:Int} (h:spec_l1Cur_one.f s0_0 s0_1 s0_2 a1 = some (r1,r2,r3)):CallH Tryz.prog 54 [.loc 1000000 0,vi a1] [(1000000,.box (.agg [.sl (iI .u8 s0_0),vi s0_1,.val (.int .u64 s0_2)]))] (vb r1) [(1000000,.box (.agg [.sl (iI .u8 s0_0),vi r2,.val (.int .u64 r3)]))]:=by
 unfold spec_l1Cur_one.f at h
 refine call_ok (c:=bodyOf Tryz.f54) (rs:=o54 (r1,r2,r3) s0_0 s0_1 s0_2) (post:=p54 (r1,r2,r3) s0_0 s0_1 s0_2) Tryz.func54 rfl rfl rfl (by kernel_rfl) ?_
 show AtP Tryz.prog 9 (bodyOf Tryz.f54) (KR Tryz.prog Tryz.f54.results.toList (o54 (r1,r2,r3) s0_0 s0_1 s0_2) (p54 (r1,r2,r3) s0_0 s0_1 s0_2)) [] [] (lookA [(0,.loc 1000000 0),(1,vi a1),(1000000,.box (.agg [.sl (iI .u8 s0_0),vi s0_1,.val (.int .u64 s0_2)]))])
 obtain ⟨⟨bt134_1,bt134_2,bt134_3⟩,c1,h2⟩:=bd_ h
 try dsimp only at h2
 obtain ⟨rfl,rfl,rfl⟩:=pr3_ h2
 exact leafRet (hn:=hn54) 7 [.callH [1000000] (vi bt134_1) [(1000000,.box (.agg [.sl (iI .u8 s0_0),vi bt134_2,.val (.int .u64 bt134_3)]))],.val (.bool (bt134_1 == 0))] [] .ret (.inr rfl) (by kernel_rfl) (And.intro (CallH.ren [(1000000,1000000)] rfl rfl (ad_28 c1)) (int_eql (P:=Tryz.prog) (t:=3) (k:=.i64) (x:=(.tmp 7)) (y:=(.const (.int .i64 0))) (a:=bt134_1) (b:=0) (v:=(bt134_1 == 0)) rfl)) (by kernel_rfl)

def hn57:Hint:=⟨[(2,[19]),(3,[1000000]),(5,[1000000]),(6,[23]),(8,[1000000]),(9,[26]),(12,[1000000]),(14,[1000000])],[]⟩
def o57 (r:Int × Int × Int × Int) (s0_0:List Int) (s0_1:Int) (s0_2:Int):List AV:=[.agg [vi r.1,vi r.2.1]]
def p57 (r:Int × Int × Int × Int) (s0_0:List Int) (s0_1:Int) (s0_2:Int):List (Nat × AV):=[(1000000,.box (.agg [.sl (iI .u8 s0_0),vi r.2.2.1,.val (.int .u64 r.2.2.2)]))]
set_option maxRecDepth 100000 in
theorem ad_57 {s0_0:List Int} {s0_1:Int} {s0_2:Int} {r1:Int} {r2:Int} {r3:Int} {r4:Int} (h:spec_l1Cur_tile.f s0_0 s0_1 s0_2 = some (r1,r2,r3,r4)):CallH Tryz.prog 57 [.loc 1000000 0] [(1000000,.box (.agg [.sl (iI .u8 s0_0),vi s0_1,.val (.int .u64 s0_2)]))] (.agg [vi r1,vi r2]) [(1000000,.box (.agg [.sl (iI .u8 s0_0),vi r3,.val (.int .u64 r4)]))]:=by
 unfold spec_l1Cur_tile.f at h
 refine call_ok (c:=bodyOf Tryz.f57) (rs:=o57 (r1,r2,r3,r4) s0_0 s0_1 s0_2) (post:=p57 (r1,r2,r3,r4) s0_0 s0_1 s0_2) Tryz.func57 rfl rfl rfl (by kernel_rfl) ?_
 show AtP Tryz.prog 17 (bodyOf Tryz.f57) (KR Tryz.prog Tryz.f57.results.toList (o57 (r1,r2,r3,r4) s0_0 s0_1 s0_2) (p57 (r1,r2,r3,r4) s0_0 s0_1 s0_2)) [] [] (lookA [(0,.loc 1000000 0),(1000000,.box (.agg [.sl (iI .u8 s0_0),vi s0_1,.val (.int .u64 s0_2)]))])
 obtain ⟨⟨bt138_1,bt138_2,bt138_3⟩,c1,h2⟩:=bd_ h
 try dsimp only at h2
 rcases ite_ h2 with ⟨g3,h4⟩ | ⟨g3,h4⟩
 ·subst g3
  obtain ⟨⟨bt144_1,bt144_2,bt144_3⟩,c5,h6⟩:=bd_ h4
  try dsimp only at h6
  obtain ⟨⟨bt150_1,bt150_2,bt150_3⟩,c7,h8⟩:=bd_ h6
  try dsimp only at h8
  obtain ⟨rfl,rfl,rfl,rfl⟩:=pr4_ h8
  exact leafRet (hn:=hn57) 13 [.callH [1000000] (vb true) [(1000000,.box (.agg [.sl (iI .u8 s0_0),vi bt138_2,.val (.int .u64 bt138_3)]))],.go,.callH [1000000] (vi bt144_1) [(1000000,.box (.agg [.sl (iI .u8 s0_0),vi bt144_2,.val (.int .u64 bt144_3)]))],.go,.callH [1000000] (vi bt150_1) [(1000000,.box (.agg [.sl (iI .u8 s0_0),vi bt150_2,.val (.int .u64 bt150_3)]))],.elem (.agg [vi bt144_1,vi bt150_1])] [] .ret (.inr rfl) (by kernel_rfl) (And.intro (CallH.ren [(1000000,1000000)] rfl rfl (ad_54 c1)) (And.intro (CallH.ren [(1000000,1000000)] rfl rfl (ad_29 c5)) (And.intro (CallH.ren [(1000000,1000000)] rfl rfl (ad_29 c7)) (build_43_2 (p0:=bt144_1) (p1:=bt150_1))))) (by kernel_rfl)
 ·obtain rfl:=Bool.eq_false_iff.2 g3
  obtain ⟨⟨bt153_1,bt153_2,bt153_3⟩,c9,h10⟩:=bd_ h4
  try dsimp only at h10
  obtain ⟨⟨bt156_1,bt156_2,bt156_3⟩,c11,h12⟩:=bd_ h10
  try dsimp only at h12
  obtain ⟨⟨bt159_1,bt159_2⟩,c13,h14⟩:=bd_ h12
  try dsimp only at h14
  obtain ⟨rfl,rfl,rfl,rfl⟩:=pr4_ h14
  exact leafRet (hn:=hn57) 14 [.callH [1000000] (vb false) [(1000000,.box (.agg [.sl (iI .u8 s0_0),vi bt138_2,.val (.int .u64 bt138_3)]))],.callH [1000000] (vi bt153_1) [(1000000,.box (.agg [.sl (iI .u8 s0_0),vi bt153_2,.val (.int .u64 bt153_3)]))],.callH [1000000] (vi bt156_1) [(1000000,.box (.agg [.sl (iI .u8 s0_0),vi bt156_2,.val (.int .u64 bt156_3)]))],.call (.agg [vi bt159_1,vi bt159_2])] [] .ret (.inr rfl) (by kernel_rfl) (And.intro (CallH.ren [(1000000,1000000)] rfl rfl (ad_54 c1)) (And.intro (CallH.ren [(1000000,1000000)] rfl rfl (ad_28 c9)) (And.intro (CallH.ren [(1000000,1000000)] rfl rfl (ad_28 c11)) (ad_34 c13)))) (by kernel_rfl)

def hn58:Hint:=⟨[(17,[27]),(21,[45])],[]⟩
def o58 (r:(List (S43))):List AV:=[.row 500000]
def p58 (r:(List (S43))):List (Nat × AV):=[(500000,.ow false 43 (iS43 r))]
def q58_l0 (r:(List (S43))) (k:Nat) (L:List (Nat × AV)):Prop:=∃ (x0:Int) (x3:List (S43)) (x4:Int),L = [(0,vi x0),(3,.row 27),(4,vi x4),(27,.ow false 43 (iS43 x3))] ∧ spec_tiSet.l0 k x0 x3 x4 = some r
theorem q58_l0_mk {r:(List (S43))} {k:Nat} {x0:Int} {x3:List (S43)} {x4:Int} (h:spec_tiSet.l0 k x0 x3 x4 = some r):q58_l0 r k [(0,vi x0),(3,.row 27),(4,vi x4),(27,.ow false 43 (iS43 x3))]:=⟨x0,x3,x4,rfl,h⟩
def q58_l1 (r:(List (S43))) (K0:Nat) (k:Nat) (L:List (Nat × AV)):Prop:=k < K0 ∧ ∃ (x0:Int) (x3:List (S43)) (x4:Int) (x5:Int),L = [(0,vi x0),(3,.row 27),(4,vi x4),(5,vi x5),(27,.ow false 43 (iS43 x3))] ∧ spec_tiSet.l1 k x0 x3 x4 x5 = some r
theorem q58_l1_mk {r:(List (S43))} {K0:Nat} {k:Nat} {x0:Int} {x3:List (S43)} {x4:Int} {x5:Int} (hk0:k < K0) (h:spec_tiSet.l1 k x0 x3 x4 x5 = some r):q58_l1 r K0 k [(0,vi x0),(3,.row 27),(4,vi x4),(5,vi x5),(27,.ow false 43 (iS43 x3))]:=⟨hk0,x0,x3,x4,x5,rfl,h⟩
set_option maxRecDepth 100000 in
theorem at58_l1 {r:(List (S43))} {K0:Nat}:∀ k L,q58_l1 r K0 k L → AtP Tryz.prog 24 (bodyOf Tryz.f58) (KR Tryz.prog Tryz.f58.results.toList (o58 r) (p58 r)) [true,true,false,true,false,false,true,false,false,true,false] [upto (q58_l0 r) K0] (lookA L) :=
 at_loop (by kernel_rfl) (fun _ => by kernel_rfl) (q58_l1 r K0) (by
  rintro k _ ⟨hk0,x0,x3,x4,x5,rfl,h⟩
  cases k with
  | zero => simp [spec_tiSet.l1] at h
  | succ k =>
   rw [spec_tiSet.l1] at h
   have hk0:=Nat.lt_of_succ_lt hk0
   rcases ite_ h with ⟨g1,h2⟩ | ⟨g1,h2⟩
   ·obtain ⟨g3,h4⟩:=ip_ h2
    exact leafBack (hn:=hn58) 13 [.val (.bool true),.elem (.agg [vi x4,vi x5]),.go,.elem (.ow false 43 (iS43 (x3 ++ ([(⟨x4,x5⟩ : S43)])))),.val (.int .i64 (wrap64 (x5 + 1)))] [(27,46)] (q58_l1_mk hk0 h4) (Nat.lt_succ_self k) (And.intro (int_leq (P:=Tryz.prog) (t:=3) (k:=.i64) (x:=(.tmp 12)) (y:=(.tmp 13)) (a:=x5) (b:=x0) (v:=true) (decide_eq_true g1)) (And.intro (And.intro (build_43_2 (p0:=x4) (p1:=x5)) (iS43_app (N:=8796093022208) (b:=16) (xs:=x3) (ys:=[(⟨x4,x5⟩ : S43)]) (by decide) (Nat.succ_le_of_lt g3))) (int_add (P:=Tryz.prog) (t:=3) (k:=.i64) (x:=(.tmp 15)) (y:=(.const (.int .i64 1))) (a:=x5) (b:=1) (c:=(wrap64 (x5 + 1))) (IntWalk.i64_left _)))) (by kernel_rfl)
   ·exact leafBack (hn:=hn58) 12 [.val (.bool false),.val (.int .i64 (wrap64 (x4 + 1)))] [] (q58_l0_mk h2) hk0 (And.intro (int_leq (P:=Tryz.prog) (t:=3) (k:=.i64) (x:=(.tmp 12)) (y:=(.tmp 13)) (a:=x5) (b:=x0) (v:=false) (decide_eq_false g1)) (int_add (P:=Tryz.prog) (t:=3) (k:=.i64) (x:=(.tmp 9)) (y:=(.const (.int .i64 1))) (a:=x4) (b:=1) (c:=(wrap64 (x4 + 1))) (IntWalk.i64_left _))) (by kernel_rfl))
set_option maxRecDepth 100000 in
theorem at58_l0 {r:(List (S43))}:∀ k L,q58_l0 r k L → AtP Tryz.prog 24 (bodyOf Tryz.f58) (KR Tryz.prog Tryz.f58.results.toList (o58 r) (p58 r)) [true,true,false,true,false] [] (lookA L) :=
 at_loop (by kernel_rfl) (fun _ => by kernel_rfl) (q58_l0 r) (by
  rintro k _ ⟨x0,x3,x4,rfl,h⟩
  cases k with
  | zero => simp [spec_tiSet.l0] at h
  | succ k =>
   rw [spec_tiSet.l0] at h
   rcases ite_ h with ⟨g1,h2⟩ | ⟨g1,h2⟩
   ·exact leafAt (hn:=hn58) 13 [.val (.bool true)] [] (at58_l1 _ _ (q58_l1_mk (Nat.lt_succ_self k) h2)) (int_leq (P:=Tryz.prog) (t:=3) (k:=.i64) (x:=(.tmp 6)) (y:=(.tmp 7)) (a:=x4) (b:=x0) (v:=true) (decide_eq_true g1)) (by kernel_rfl)
   ·obtain rfl:=Option.some.inj h2
    exact leafRet (hn:=hn58) 14 [.val (.bool false)] [(500000,27)] .ret (.inr rfl) (by kernel_rfl) (int_leq (P:=Tryz.prog) (t:=3) (k:=.i64) (x:=(.tmp 6)) (y:=(.tmp 7)) (a:=x4) (b:=x0) (v:=false) (decide_eq_false g1)) (by kernel_rfl))
set_option maxRecDepth 100000 in
theorem ad_58 {k:Nat} {a0:Int} {r:List (S43)} (h:spec_tiSet.f k a0 = some r):CallH Tryz.prog 58 [vi a0] [] (.row 500000) [(500000,.ow false 43 (iS43 r))]:=by
 unfold spec_tiSet.f at h
 refine call_ok (c:=bodyOf Tryz.f58) (rs:=o58 r) (post:=p58 r) Tryz.func58 rfl rfl rfl (by kernel_rfl) ?_
 show AtP Tryz.prog 24 (bodyOf Tryz.f58) (KR Tryz.prog Tryz.f58.results.toList (o58 r) (p58 r)) [] [] (lookA [(0,vi a0)])
 exact leafAt (hn:=hn58) 11 [.nil false 43,.nil false 43] [] (at58_l0 _ _ (q58_l0_mk h)) True.intro (by kernel_rfl)

def hn27:Hint:=⟨[(8,[1000000]),(12,[1000000]),(16,[55]),(17,[1000000]),(19,[63]),(23,[55]),(26,[55]),(27,[55]),(30,[74]),(34,[1000000]),(39,[83]),(41,[85])],[]⟩
def o27 (r:(List (S43)) × Int × Int) (s0_0:List Int) (s0_1:Int) (s0_2:Int):List AV:=[.sl (iS43 r.1)]
def p27 (r:(List (S43)) × Int × Int) (s0_0:List Int) (s0_1:Int) (s0_2:Int):List (Nat × AV):=[(1000000,.box (.agg [.sl (iI .u8 s0_0),vi r.2.1,.val (.int .u64 r.2.2)]))]
set_option maxRecDepth 100000 in
theorem ad_27 {k:Nat} {s0_0:List Int} {s0_1:Int} {s0_2:Int} {a1:Int} {a2:Int} {r1:List (S43)} {r2:Int} {r3:Int} (h:spec_l1Cur_hand.f k s0_0 s0_1 s0_2 a1 a2 = some (r1,r2,r3)):CallH Tryz.prog 27 [.loc 1000000 0,vi a1,vi a2] [(1000000,.box (.agg [.sl (iI .u8 s0_0),vi s0_1,.val (.int .u64 s0_2)]))] (.sl (iS43 r1)) [(1000000,.box (.agg [.sl (iI .u8 s0_0),vi r2,.val (.int .u64 r3)]))]:=by
 unfold spec_l1Cur_hand.f at h
 refine call_ok (c:=bodyOf Tryz.f27) (rs:=o27 (r1,r2,r3) s0_0 s0_1 s0_2) (post:=p27 (r1,r2,r3) s0_0 s0_1 s0_2) Tryz.func27 rfl rfl rfl (by kernel_rfl) ?_
 show AtP Tryz.prog 44 (bodyOf Tryz.f27) (KR Tryz.prog Tryz.f27.results.toList (o27 (r1,r2,r3) s0_0 s0_1 s0_2) (p27 (r1,r2,r3) s0_0 s0_1 s0_2)) [] [] (lookA [(0,.loc 1000000 0),(1,vi a1),(2,vi a2),(1000000,.box (.agg [.sl (iI .u8 s0_0),vi s0_1,.val (.int .u64 s0_2)]))])
 obtain ⟨⟨bt164_1,bt164_2,bt164_3⟩,c1,h2⟩:=bd_ h
 try dsimp only at h2
 obtain ⟨⟨bt169_1,bt169_2,bt169_3⟩,c3,h4⟩:=bd_ h2
 try dsimp only at h4
 rcases ite_ h4 with ⟨g5,h6⟩ | ⟨g5,h6⟩
 ·obtain ⟨⟨bt172_1,bt172_2,bt172_3,bt172_4⟩,c7,h8⟩:=bd_ h6
  try dsimp only at h8
  obtain ⟨g9,h10⟩:=ip_ h8
  obtain ⟨rfl,rfl,rfl⟩:=pr3_ h10
  exact leafRet (hn:=hn27) 21 [.goT,.callH [1000000] (.row 55) [(1000000,.box (.agg [.sl (iI .u8 s0_0),vi bt164_2,.val (.int .u64 bt164_3)])),(55,.ow false 43 (iS43 bt164_1))],.callH [1000000] (vi bt169_1) [(1000000,.box (.agg [.sl (iI .u8 s0_0),vi bt169_2,.val (.int .u64 bt169_3)]))],.val (.bool true),.callH [1000000] (.agg [vi bt172_1,vi bt172_2]) [(1000000,.box (.agg [.sl (iI .u8 s0_0),vi bt172_3,.val (.int .u64 bt172_4)]))],.go,.elem (.ow false 43 (iS43 (bt164_1 ++ ([(⟨bt172_1,bt172_2⟩ : S43)]))))] [] .ret (.inr rfl) (by kernel_rfl) (And.intro (CallH.ren [(500000,55),(1000000,1000000)] rfl rfl (ad_53 c1)) (And.intro (CallH.ren [(1000000,1000000)] rfl rfl (ad_28 c3)) (And.intro (int_eql (P:=Tryz.prog) (t:=3) (k:=.i64) (x:=(.tmp 13)) (y:=(.const (.int .i64 0))) (a:=bt169_1) (b:=0) (v:=true) (beq_iff_eq.2 g5)) (And.intro (CallH.ren [(1000000,1000000)] rfl rfl (ad_57 c7)) (iS43_app (N:=8796093022208) (b:=16) (xs:=bt164_1) (ys:=[(⟨bt172_1,bt172_2⟩ : S43)]) (by decide) (Nat.succ_le_of_lt g9)))))) (by kernel_rfl)
 ·rcases ite_ h6 with ⟨g11,h12⟩ | ⟨g11,h12⟩
  ·rcases ite_ h12 with ⟨g13,h14⟩ | ⟨g13,h14⟩
   ·obtain ⟨g15,h16⟩:=ip_ h14
    obtain ⟨g17,h18⟩:=ip_ h16
    obtain ⟨rfl,rfl,rfl⟩:=pr3_ h18
    exact leafRet (hn:=hn27) 29 [.goT,.callH [1000000] (.row 55) [(1000000,.box (.agg [.sl (iI .u8 s0_0),vi bt164_2,.val (.int .u64 bt164_3)])),(55,.ow false 43 (iS43 bt164_1))],.callH [1000000] (vi bt169_1) [(1000000,.box (.agg [.sl (iI .u8 s0_0),vi bt169_2,.val (.int .u64 bt169_3)]))],.val (.bool false),.val (.bool true),.val (.int .i64 (bt164_1.length:Int)),.val (.bool true),.elem (.agg [vi ((rd_T43 bt164_1 0).f0),vi ((rd_T43 bt164_1 0).f1)]),.go,.elem (.ow false 43 (iS43 (bt164_1 ++ ([(⟨(rd_T43 bt164_1 0).f0,(rd_T43 bt164_1 0).f1⟩ : S43)]))))] [] .ret (.inr rfl) (by kernel_rfl) (And.intro (CallH.ren [(500000,55),(1000000,1000000)] rfl rfl (ad_53 c1)) (And.intro (CallH.ren [(1000000,1000000)] rfl rfl (ad_28 c3)) (And.intro (int_eql (P:=Tryz.prog) (t:=3) (k:=.i64) (x:=(.tmp 13)) (y:=(.const (.int .i64 0))) (a:=bt169_1) (b:=0) (v:=false) (beq_false_of_ne g5)) (And.intro (int_eql (P:=Tryz.prog) (t:=3) (k:=.i64) (x:=(.tmp 13)) (y:=(.const (.int .i64 1))) (a:=bt169_1) (b:=1) (v:=true) (beq_iff_eq.2 g11)) (And.intro (And.intro (iS43_len (xs:=bt164_1)) (int_gtr (P:=Tryz.prog) (t:=3) (k:=.i64) (x:=(.tmp 24)) (y:=(.const (.int .i64 0))) (a:=(bt164_1.length:Int)) (b:=0) (v:=true) (decide_eq_true (by omega)))) (And.intro (iS43_rd (xs:=bt164_1) (i:=0) (by decide) g15) (iS43_app (N:=8796093022208) (b:=16) (xs:=bt164_1) (ys:=[(⟨(rd_T43 bt164_1 0).f0,(rd_T43 bt164_1 0).f1⟩ : S43)]) (by decide) (Nat.succ_le_of_lt g17)))))))) (by kernel_rfl)
   ·obtain ⟨rfl,rfl,rfl⟩:=pr3_ h14
    exact leafRet (hn:=hn27) 30 [.goT,.callH [1000000] (.row 55) [(1000000,.box (.agg [.sl (iI .u8 s0_0),vi bt164_2,.val (.int .u64 bt164_3)])),(55,.ow false 43 (iS43 bt164_1))],.callH [1000000] (vi bt169_1) [(1000000,.box (.agg [.sl (iI .u8 s0_0),vi bt169_2,.val (.int .u64 bt169_3)]))],.val (.bool false),.val (.bool true),.val (.int .i64 (bt164_1.length:Int)),.val (.bool false)] [] .ret (.inr rfl) (by kernel_rfl) (And.intro (CallH.ren [(500000,55),(1000000,1000000)] rfl rfl (ad_53 c1)) (And.intro (CallH.ren [(1000000,1000000)] rfl rfl (ad_28 c3)) (And.intro (int_eql (P:=Tryz.prog) (t:=3) (k:=.i64) (x:=(.tmp 13)) (y:=(.const (.int .i64 0))) (a:=bt169_1) (b:=0) (v:=false) (beq_false_of_ne g5)) (And.intro (int_eql (P:=Tryz.prog) (t:=3) (k:=.i64) (x:=(.tmp 13)) (y:=(.const (.int .i64 1))) (a:=bt169_1) (b:=1) (v:=true) (beq_iff_eq.2 g11)) (And.intro (iS43_len (xs:=bt164_1)) (int_gtr (P:=Tryz.prog) (t:=3) (k:=.i64) (x:=(.tmp 24)) (y:=(.const (.int .i64 0))) (a:=(bt164_1.length:Int)) (b:=0) (v:=false) (decide_eq_false g13))))))) (by kernel_rfl)
  ·rcases ite_ h12 with ⟨g19,h20⟩ | ⟨g19,h20⟩
   ·obtain ⟨⟨bt183_1,bt183_2,bt183_3⟩,c21,h22⟩:=bd_ h20
    try dsimp only at h22
    obtain ⟨t186,c23,h24⟩:=bd_ h22
    obtain ⟨rfl,rfl,rfl⟩:=pr3_ h24
    exact leafRet (hn:=hn27) 29 [.goT,.callH [1000000] (.row 55) [(1000000,.box (.agg [.sl (iI .u8 s0_0),vi bt164_2,.val (.int .u64 bt164_3)])),(55,.ow false 43 (iS43 bt164_1))],.callH [1000000] (vi bt169_1) [(1000000,.box (.agg [.sl (iI .u8 s0_0),vi bt169_2,.val (.int .u64 bt169_3)]))],.val (.bool false),.val (.bool false),.val (.bool true),.callH [1000000] (vi bt183_1) [(1000000,.box (.agg [.sl (iI .u8 s0_0),vi bt183_2,.val (.int .u64 bt183_3)]))],.callH [] (.row 80) [(80,.ow false 43 (iS43 t186))]] [] .ret (.inr rfl) (by kernel_rfl) (And.intro (CallH.ren [(500000,55),(1000000,1000000)] rfl rfl (ad_53 c1)) (And.intro (CallH.ren [(1000000,1000000)] rfl rfl (ad_28 c3)) (And.intro (int_eql (P:=Tryz.prog) (t:=3) (k:=.i64) (x:=(.tmp 13)) (y:=(.const (.int .i64 0))) (a:=bt169_1) (b:=0) (v:=false) (beq_false_of_ne g5)) (And.intro (int_eql (P:=Tryz.prog) (t:=3) (k:=.i64) (x:=(.tmp 13)) (y:=(.const (.int .i64 1))) (a:=bt169_1) (b:=1) (v:=false) (beq_false_of_ne g11)) (And.intro (int_eql (P:=Tryz.prog) (t:=3) (k:=.i64) (x:=(.tmp 13)) (y:=(.const (.int .i64 2))) (a:=bt169_1) (b:=2) (v:=true) (beq_iff_eq.2 g19)) (And.intro (CallH.ren [(1000000,1000000)] rfl rfl (ad_28 c21)) (CallH.ren [(500000,80)] rfl rfl (ad_58 c23)))))))) (by kernel_rfl)
   ·rcases ite_ h20 with ⟨g25,h26⟩ | ⟨g25,h26⟩
    ·obtain ⟨t189,c27,h28⟩:=bd_ h26
     obtain ⟨g29,h30⟩:=ip_ h28
     obtain ⟨rfl,rfl,rfl⟩:=pr3_ h30
     exact leafRet (hn:=hn27) 33 [.goT,.callH [1000000] (.row 55) [(1000000,.box (.agg [.sl (iI .u8 s0_0),vi bt164_2,.val (.int .u64 bt164_3)])),(55,.ow false 43 (iS43 bt164_1))],.callH [1000000] (vi bt169_1) [(1000000,.box (.agg [.sl (iI .u8 s0_0),vi bt169_2,.val (.int .u64 bt169_3)]))],.val (.bool false),.val (.bool false),.val (.bool false),.val (.bool true),.callH [] (.row 83) [(83,.ow false 43 (iS43 t189))],.go,.go,.elem (.ow false 43 (iS43 (t189 ++ ([(⟨0,0⟩ : S43)]))))] [] .ret (.inr rfl) (by kernel_rfl) (And.intro (CallH.ren [(500000,55),(1000000,1000000)] rfl rfl (ad_53 c1)) (And.intro (CallH.ren [(1000000,1000000)] rfl rfl (ad_28 c3)) (And.intro (int_eql (P:=Tryz.prog) (t:=3) (k:=.i64) (x:=(.tmp 13)) (y:=(.const (.int .i64 0))) (a:=bt169_1) (b:=0) (v:=false) (beq_false_of_ne g5)) (And.intro (int_eql (P:=Tryz.prog) (t:=3) (k:=.i64) (x:=(.tmp 13)) (y:=(.const (.int .i64 1))) (a:=bt169_1) (b:=1) (v:=false) (beq_false_of_ne g11)) (And.intro (int_eql (P:=Tryz.prog) (t:=3) (k:=.i64) (x:=(.tmp 13)) (y:=(.const (.int .i64 2))) (a:=bt169_1) (b:=2) (v:=false) (beq_false_of_ne g19)) (And.intro (int_eql (P:=Tryz.prog) (t:=3) (k:=.i64) (x:=(.tmp 13)) (y:=(.const (.int .i64 3))) (a:=bt169_1) (b:=3) (v:=true) (beq_iff_eq.2 g25)) (And.intro (CallH.ren [(500000,83)] rfl rfl (ad_58 c27)) (iS43_app (N:=8796093022208) (b:=16) (xs:=t189) (ys:=[(⟨0,0⟩ : S43)]) (by decide) (Nat.succ_le_of_lt g29))))))))) (by kernel_rfl)
    ·obtain ⟨rfl,rfl,rfl⟩:=pr3_ h26
     exact leafRet (hn:=hn27) 34 [.goT,.callH [1000000] (.row 55) [(1000000,.box (.agg [.sl (iI .u8 s0_0),vi bt164_2,.val (.int .u64 bt164_3)])),(55,.ow false 43 (iS43 bt164_1))],.callH [1000000] (vi bt169_1) [(1000000,.box (.agg [.sl (iI .u8 s0_0),vi bt169_2,.val (.int .u64 bt169_3)]))],.val (.bool false),.val (.bool false),.val (.bool false),.val (.bool false)] [] .ret (.inr rfl) (by kernel_rfl) (And.intro (CallH.ren [(500000,55),(1000000,1000000)] rfl rfl (ad_53 c1)) (And.intro (CallH.ren [(1000000,1000000)] rfl rfl (ad_28 c3)) (And.intro (int_eql (P:=Tryz.prog) (t:=3) (k:=.i64) (x:=(.tmp 13)) (y:=(.const (.int .i64 0))) (a:=bt169_1) (b:=0) (v:=false) (beq_false_of_ne g5)) (And.intro (int_eql (P:=Tryz.prog) (t:=3) (k:=.i64) (x:=(.tmp 13)) (y:=(.const (.int .i64 1))) (a:=bt169_1) (b:=1) (v:=false) (beq_false_of_ne g11)) (And.intro (int_eql (P:=Tryz.prog) (t:=3) (k:=.i64) (x:=(.tmp 13)) (y:=(.const (.int .i64 2))) (a:=bt169_1) (b:=2) (v:=false) (beq_false_of_ne g19)) (int_eql (P:=Tryz.prog) (t:=3) (k:=.i64) (x:=(.tmp 13)) (y:=(.const (.int .i64 3))) (a:=bt169_1) (b:=3) (v:=false) (beq_false_of_ne g25))))))) (by kernel_rfl)

def hn74:Hint:=⟨[],[]⟩
def o74 (r:Bool):List AV:=[vb r]
def p74 (r:Bool):List (Nat × AV):=[]
set_option maxRecDepth 100000 in
theorem ad_74 {a0:Int} {a1:Int} {a2:Int} {r:Bool} (h:impl_within.f a0 a1 a2 = some r):CallH Tryz.prog 74 [vi a0,vi a1,vi a2] [] (vb r) []:=by
 unfold impl_within.f at h
 refine call_ok (c:=bodyOf Tryz.f74) (rs:=o74 r) (post:=p74 r) Tryz.func74 rfl rfl rfl (by kernel_rfl) ?_
 show AtP Tryz.prog 15 (bodyOf Tryz.f74) (KR Tryz.prog Tryz.f74.results.toList (o74 r) (p74 r)) [] [] (lookA [(0,vi a0),(1,vi a1),(2,vi a2)])
 rcases ite_ h with ⟨g1,h2⟩ | ⟨g1,h2⟩
 ·obtain rfl:=Option.some.inj h2
  exact leafRet (hn:=hn74) 7 [.val (.bool true),.val (.bool (decide (a0 ≤ a2)))] [] .ret (.inr rfl) (by kernel_rfl) (And.intro (int_leq (P:=Tryz.prog) (t:=3) (k:=.i64) (x:=(.tmp 7)) (y:=(.tmp 8)) (a:=a1) (b:=a0) (v:=true) (decide_eq_true g1)) (int_leq (P:=Tryz.prog) (t:=3) (k:=.i64) (x:=(.tmp 11)) (y:=(.tmp 12)) (a:=a0) (b:=a2) (v:=(decide (a0 ≤ a2))) rfl)) (by kernel_rfl)
 ·obtain rfl:=Option.some.inj h2
  exact leafRet (hn:=hn74) 7 [.val (.bool false)] [] .ret (.inr rfl) (by kernel_rfl) (int_leq (P:=Tryz.prog) (t:=3) (k:=.i64) (x:=(.tmp 7)) (y:=(.tmp 8)) (a:=a1) (b:=a0) (v:=false) (decide_eq_false g1)) (by kernel_rfl)

def hn43:Hint:=⟨[(3,[14]),(5,[14]),(9,[14])],[]⟩
def o43 (r:Bool):List AV:=[vb r]
def p43 (r:Bool):List (Nat × AV):=[]
def hn42:Hint:=⟨[(1,[7])],[]⟩
def o42 (r:Bool):List AV:=[vb r]
def p42 (r:Bool):List (Nat × AV):=[]
def hn93:Hint:=⟨[(3,[22])],[]⟩
def o93 (r:Int):List AV:=[vi r]
def p93 (r:Int):List (Nat × AV):=[]
def q93_l0 (r:Int) (k:Nat) (L:List (Nat × AV)):Prop:=∃ (x0:List (S43)) (x7:Int) (x8:Int) (x246000:Int) (x246001:Int),L = [(0,.sl (iS43 x0)),(3,.loc 22 0),(7,vi x7),(8,vi x8),(22,.box (.agg [vi x246000,vi x246001]))] ∧ slices_Index_impl_Tile_impl_Tile.l0 k x0 x7 x8 x246000 x246001 = some r
def hn75:Hint:=⟨[(3,[12])],[]⟩
def o75 (r:Bool):List AV:=[vb r]
def p75 (r:Bool):List (Nat × AV):=[]
def hn44:Hint:=⟨[(4,[22])],[]⟩
def o44 (r:Bool):List AV:=[vb r]
def p44 (r:Bool):List (Nat × AV):=[]
def q44_l0 (r:Bool) (k:Nat) (L:List (Nat × AV)):Prop:=∃ (x0:List (S43)) (x5:List (S43)) (x6:Int) (x7:Int),L = [(0,.sl (iS43 x0)),(5,.sl (iS43 x5)),(6,vi x6),(7,vi x7)] ∧ impl_areDifferent_impl_Tile.l0 k x0 x5 x6 x7 = some r
def hn98:Hint:=⟨[],[]⟩
def o98 (r:Int):List AV:=[vi r]
def p98 (r:Int):List (Nat × AV):=[]
def q98_l0 (r:Int) (k:Nat) (L:List (Nat × AV)):Prop:=∃ (x0:List Int) (x1:Int) (x7:Int) (x8:Int),L = [(0,.sl (iI .i64 x0)),(1,vi x1),(7,vi x7),(8,vi x8)] ∧ slices_Index_int_int.l0 k x0 x1 x7 x8 = some r
theorem q98_l0_mk {r:Int} {k:Nat} {x0:List Int} {x1:Int} {x7:Int} {x8:Int} (h:slices_Index_int_int.l0 k x0 x1 x7 x8 = some r):q98_l0 r k [(0,.sl (iI .i64 x0)),(1,vi x1),(7,vi x7),(8,vi x8)]:=⟨x0,x1,x7,x8,rfl,h⟩
set_option maxRecDepth 100000 in
theorem at98_l0 {r:Int}:∀ k L,q98_l0 r k L → AtP Tryz.prog 19 (bodyOf Tryz.f98) (KR Tryz.prog Tryz.f98.results.toList (o98 r) (p98 r)) [true,false,true,false] [] (lookA L) :=
 at_loop (by kernel_rfl) (fun _ => by kernel_rfl) (q98_l0 r) (by
  rintro k _ ⟨x0,x1,x7,x8,rfl,h⟩
  cases k with
  | zero => simp [slices_Index_int_int.l0] at h
  | succ k =>
   rw [slices_Index_int_int.l0] at h
   rcases ite_ h with ⟨g1,h2⟩ | ⟨g1,h2⟩
   ·obtain ⟨g3,h4⟩:=ip_ h2
    obtain ⟨g5,h6⟩:=ip_ h4
    rcases ite_ h6 with ⟨g7,h8⟩ | ⟨g7,h8⟩
    ·obtain rfl:=Option.some.inj h8
     exact leafRet (hn:=hn98) 25 [.val (.bool true),.elem (vi (rd x0 x8)),.val (.bool true)] [] .ret (.inr rfl) (by kernel_rfl) (And.intro (int_lss (P:=Tryz.prog) (t:=3) (k:=.i64) (x:=(.tmp 8)) (y:=(.tmp 7)) (a:=x8) (b:=x7) (v:=true) (decide_eq_true g1)) (And.intro (iI_rd (k:=.i64) (xs:=x0) (i:=x8) g3 g5) (int_eql (P:=Tryz.prog) (t:=3) (k:=.i64) (x:=(.tmp 11)) (y:=(.tmp 15)) (a:=x1) (b:=(rd x0 x8)) (v:=true) (beq_iff_eq.2 g7)))) (by kernel_rfl)
    ·exact leafBack (hn:=hn98) 20 [.val (.bool true),.elem (vi (rd x0 x8)),.val (.bool false),.val (.int .i64 (wrap64 (x8 + 1)))] [] (q98_l0_mk h8) (Nat.lt_succ_self k) (And.intro (int_lss (P:=Tryz.prog) (t:=3) (k:=.i64) (x:=(.tmp 8)) (y:=(.tmp 7)) (a:=x8) (b:=x7) (v:=true) (decide_eq_true g1)) (And.intro (And.intro (iI_rd (k:=.i64) (xs:=x0) (i:=x8) g3 g5) (int_eql (P:=Tryz.prog) (t:=3) (k:=.i64) (x:=(.tmp 11)) (y:=(.tmp 15)) (a:=x1) (b:=(rd x0 x8)) (v:=false) (beq_false_of_ne g7))) (int_add (P:=Tryz.prog) (t:=3) (k:=.i64) (x:=(.tmp 8)) (y:=(.const (.int .i64 1))) (a:=x8) (b:=1) (c:=(wrap64 (x8 + 1))) (IntWalk.i64_left _)))) (by kernel_rfl)
   ·obtain rfl:=Option.some.inj h2
    exact leafRet (hn:=hn98) 14 [.val (.bool false)] [] .ret (.inr rfl) (by kernel_rfl) (int_lss (P:=Tryz.prog) (t:=3) (k:=.i64) (x:=(.tmp 8)) (y:=(.tmp 7)) (a:=x8) (b:=x7) (v:=false) (decide_eq_false g1)) (by kernel_rfl))
set_option maxRecDepth 100000 in
theorem ad_98 {k:Nat} {l0:List Int} {a1:Int} {r:Int} (h:slices_Index_int_int.f k l0 a1 = some r):CallH Tryz.prog 98 [.sl (iI .i64 l0),vi a1] [] (vi r) []:=by
 unfold slices_Index_int_int.f at h
 refine call_ok (c:=bodyOf Tryz.f98) (rs:=o98 r) (post:=p98 r) Tryz.func98 rfl rfl rfl (by kernel_rfl) ?_
 show AtP Tryz.prog 19 (bodyOf Tryz.f98) (KR Tryz.prog Tryz.f98.results.toList (o98 r) (p98 r)) [] [] (lookA [(0,.sl (iI .i64 l0)),(1,vi a1)])
 exact leafAt (hn:=hn98) 8 [.val (.int .i64 (l0.length:Int))] [] (at98_l0 _ _ (q98_l0_mk h)) (iI_len (k:=.i64) (xs:=l0)) (by kernel_rfl)

def hn85:Hint:=⟨[],[]⟩
def o85 (r:Bool):List AV:=[vb r]
def p85 (r:Bool):List (Nat × AV):=[]
set_option maxRecDepth 100000 in
theorem ad_85 {k:Nat} {l0:List Int} {a1:Int} {r:Bool} (h:slices_Contains_int_int.f k l0 a1 = some r):CallH Tryz.prog 85 [.sl (iI .i64 l0),vi a1] [] (vb r) []:=by
 unfold slices_Contains_int_int.f at h
 refine call_ok (c:=bodyOf Tryz.f85) (rs:=o85 r) (post:=p85 r) Tryz.func85 rfl rfl rfl (by kernel_rfl) ?_
 show AtP Tryz.prog 9 (bodyOf Tryz.f85) (KR Tryz.prog Tryz.f85.results.toList (o85 r) (p85 r)) [] [] (lookA [(0,.sl (iI .i64 l0)),(1,vi a1)])
 obtain ⟨t257,c1,h2⟩:=bd_ h
 obtain rfl:=Option.some.inj h2
 exact leafRet (hn:=hn85) 7 [.call (vi t257),.val (.bool (decide (t257 ≥ 0)))] [] .ret (.inr rfl) (by kernel_rfl) (And.intro (ad_98 c1) (int_geq (P:=Tryz.prog) (t:=3) (k:=.i64) (x:=(.tmp 7)) (y:=(.const (.int .i64 0))) (a:=t257) (b:=0) (v:=(decide (t257 ≥ 0))) rfl)) (by kernel_rfl)

def hn61:Hint:=⟨[],[]⟩
def o61 (r:Bool):List AV:=[vb r]
def p61 (r:Bool):List (Nat × AV):=[]
def q61_l0 (r:Bool) (k:Nat) (L:List (Nat × AV)):Prop:=∃ (x0:List Int) (x5:List Int) (x6:Int) (x7:Int),L = [(0,.sl (iI .i64 x0)),(5,.sl (iI .i64 x5)),(6,vi x6),(7,vi x7)] ∧ impl_areDifferent_int.l0 k x0 x5 x6 x7 = some r
theorem q61_l0_mk {r:Bool} {k:Nat} {x0:List Int} {x5:List Int} {x6:Int} {x7:Int} (h:impl_areDifferent_int.l0 k x0 x5 x6 x7 = some r):q61_l0 r k [(0,.sl (iI .i64 x0)),(5,.sl (iI .i64 x5)),(6,vi x6),(7,vi x7)]:=⟨x0,x5,x6,x7,rfl,h⟩
set_option maxRecDepth 100000 in
theorem at61_l0 {r:Bool}:∀ k L,q61_l0 r k L → AtP Tryz.prog 18 (bodyOf Tryz.f61) (KR Tryz.prog Tryz.f61.results.toList (o61 r) (p61 r)) [true,false,true,false] [] (lookA L) :=
 at_loop (by kernel_rfl) (fun _ => by kernel_rfl) (q61_l0 r) (by
  rintro k _ ⟨x0,x5,x6,x7,rfl,h⟩
  cases k with
  | zero => simp [impl_areDifferent_int.l0] at h
  | succ k =>
   rw [impl_areDifferent_int.l0] at h
   rcases ite_ h with ⟨g1,h2⟩ | ⟨g1,h2⟩
   ·obtain ⟨g3,h4⟩:=ip_ h2
    obtain ⟨g5,h6⟩:=ip_ h4
    obtain ⟨g7,h8⟩:=ip_ h6
    obtain ⟨t260,c9,h10⟩:=bd_ h8
    rcases ite_ h10 with ⟨g11,h12⟩ | ⟨g11,h12⟩
    ·subst g11
     obtain rfl:=Option.some.inj h12
     exact leafRet (hn:=hn61) 25 [.val (.bool true),.elem (vi (rd x5 x7)),.elem (.sl (iI .i64 (x0.take (x7:Int).toNat))),.call (vb true)] [] .ret (.inr rfl) (by kernel_rfl) (And.intro (int_lss (P:=Tryz.prog) (t:=3) (k:=.i64) (x:=(.tmp 7)) (y:=(.tmp 6)) (a:=x7) (b:=x6) (v:=true) (decide_eq_true g1)) (And.intro (iI_rd (k:=.i64) (xs:=x5) (i:=x7) g3 g5) (And.intro (iI_take (k:=.i64) (xs:=x0) (b:=x7) g3 g7) (ad_85 c9)))) (by kernel_rfl)
    ·obtain rfl:=Bool.eq_false_iff.2 g11
     exact leafBack (hn:=hn61) 20 [.val (.bool true),.elem (vi (rd x5 x7)),.elem (.sl (iI .i64 (x0.take (x7:Int).toNat))),.call (vb false),.val (.int .i64 (wrap64 (x7 + 1)))] [] (q61_l0_mk h12) (Nat.lt_succ_self k) (And.intro (int_lss (P:=Tryz.prog) (t:=3) (k:=.i64) (x:=(.tmp 7)) (y:=(.tmp 6)) (a:=x7) (b:=x6) (v:=true) (decide_eq_true g1)) (And.intro (iI_rd (k:=.i64) (xs:=x5) (i:=x7) g3 g5) (And.intro (And.intro (iI_take (k:=.i64) (xs:=x0) (b:=x7) g3 g7) (ad_85 c9)) (int_add (P:=Tryz.prog) (t:=3) (k:=.i64) (x:=(.tmp 7)) (y:=(.const (.int .i64 1))) (a:=x7) (b:=1) (c:=(wrap64 (x7 + 1))) (IntWalk.i64_left _))))) (by kernel_rfl)
   ·obtain rfl:=Option.some.inj h2
    exact leafRet (hn:=hn61) 14 [.val (.bool false)] [] .ret (.inr rfl) (by kernel_rfl) (int_lss (P:=Tryz.prog) (t:=3) (k:=.i64) (x:=(.tmp 7)) (y:=(.tmp 6)) (a:=x7) (b:=x6) (v:=false) (decide_eq_false g1)) (by kernel_rfl))
set_option maxRecDepth 100000 in
theorem ad_61 {k:Nat} {l0:List Int} {r:Bool} (h:impl_areDifferent_int.f k l0 = some r):CallH Tryz.prog 61 [.sl (iI .i64 l0)] [] (vb r) []:=by
 unfold impl_areDifferent_int.f at h
 refine call_ok (c:=bodyOf Tryz.f61) (rs:=o61 r) (post:=p61 r) Tryz.func61 rfl rfl rfl (by kernel_rfl) ?_
 show AtP Tryz.prog 18 (bodyOf Tryz.f61) (KR Tryz.prog Tryz.f61.results.toList (o61 r) (p61 r)) [] [] (lookA [(0,.sl (iI .i64 l0))])
 exact leafAt (hn:=hn61) 8 [.val (.int .i64 (l0.length:Int))] [] (at61_l0 _ _ (q61_l0_mk h)) (iI_len (k:=.i64) (xs:=l0)) (by kernel_rfl)

def hn30:Hint:=⟨[],[]⟩
def o30 (r:Bool):List AV:=[vb r]
def p30 (r:Bool):List (Nat × AV):=[]
set_option maxRecDepth 100000 in
theorem ad_30 {k:Nat} {l0:List Int} {r:Bool} (h:impl_areNames.f k l0 = some r):CallH Tryz.prog 30 [.sl (iI .i64 l0)] [] (vb r) []:=by
 unfold impl_areNames.f at h
 refine call_ok (c:=bodyOf Tryz.f30) (rs:=o30 r) (post:=p30 r) Tryz.func30 rfl rfl rfl (by kernel_rfl) ?_
 show AtP Tryz.prog 14 (bodyOf Tryz.f30) (KR Tryz.prog Tryz.f30.results.toList (o30 r) (p30 r)) [] [] (lookA [(0,.sl (iI .i64 l0))])
 rcases ite_ h with ⟨g1,h2⟩ | ⟨g1,h2⟩
 ·obtain ⟨t261,c3,h4⟩:=bd_ h2
  rcases ite_ h4 with ⟨g5,h6⟩ | ⟨g5,h6⟩
  ·subst g5
   obtain ⟨t262,c7,h8⟩:=bd_ h6
   obtain rfl:=Option.some.inj h8
   exact leafRet (hn:=hn30) 7 [.val (.int .i64 (l0.length:Int)),.val (.bool true),.call (vb true),.call (vb t262)] [] .ret (.inr rfl) (by kernel_rfl) (And.intro (iI_len (k:=.i64) (xs:=l0)) (And.intro (int_eql (P:=Tryz.prog) (t:=3) (k:=.i64) (x:=(.tmp 4)) (y:=(.const (.int .i64 10))) (a:=(l0.length:Int)) (b:=10) (v:=true) (beq_iff_eq.2 g1)) (And.intro (ad_60 c3) (ad_61 c7)))) (by kernel_rfl)
  ·obtain rfl:=Bool.eq_false_iff.2 g5
   obtain rfl:=Option.some.inj h6
   exact leafRet (hn:=hn30) 7 [.val (.int .i64 (l0.length:Int)),.val (.bool true),.call (vb false)] [] .ret (.inr rfl) (by kernel_rfl) (And.intro (iI_len (k:=.i64) (xs:=l0)) (And.intro (int_eql (P:=Tryz.prog) (t:=3) (k:=.i64) (x:=(.tmp 4)) (y:=(.const (.int .i64 10))) (a:=(l0.length:Int)) (b:=10) (v:=true) (beq_iff_eq.2 g1)) (ad_60 c3))) (by kernel_rfl)
 ·obtain rfl:=Option.some.inj h2
  exact leafRet (hn:=hn30) 7 [.val (.int .i64 (l0.length:Int)),.val (.bool false)] [] .ret (.inr rfl) (by kernel_rfl) (And.intro (iI_len (k:=.i64) (xs:=l0)) (int_eql (P:=Tryz.prog) (t:=3) (k:=.i64) (x:=(.tmp 4)) (y:=(.const (.int .i64 10))) (a:=(l0.length:Int)) (b:=10) (v:=false) (beq_false_of_ne g1))) (by kernel_rfl)

def hn86:Hint:=⟨[(4,[16])],[]⟩
def o86 (r:Int × Int):List AV:=[.agg [vi r.1,vi r.2]]
def p86 (r:Int × Int):List (Nat × AV):=[]
set_option maxRecDepth 100000 in
theorem ad_86 {a0:Int} {a1:Int} {r1:Int} {r2:Int} (h:impl_tile.f a0 a1 = some (r1,r2)):CallH Tryz.prog 86 [vi a0,vi a1] [] (.agg [vi r1,vi r2]) []:=by
 unfold impl_tile.f at h
 refine call_ok (c:=bodyOf Tryz.f86) (rs:=o86 (r1,r2)) (post:=p86 (r1,r2)) Tryz.func86 rfl rfl rfl (by kernel_rfl) ?_
 show AtP Tryz.prog 12 (bodyOf Tryz.f86) (KR Tryz.prog Tryz.f86.results.toList (o86 (r1,r2)) (p86 (r1,r2))) [] [] (lookA [(0,vi a0),(1,vi a1)])
 obtain ⟨rfl,rfl⟩:=pr2_ h
 exact leafRet (hn:=hn86) 7 [.val (.int .i64 (mn a0 a1)),.val (.int .i64 (mx a0 a1)),.elem (.agg [vi (mn a0 a1),vi (mx a0 a1)])] [] .ret (.inr rfl) (by kernel_rfl) (And.intro (min_i64_3_3_ff_3 (a:=a0) (b:=a1)) (And.intro (max_i64_3_3_ff_3 (a:=a0) (b:=a1)) (build_43_2 (p0:=(mn a0 a1)) (p1:=(mx a0 a1))))) (by kernel_rfl)

def hn62:Hint:=⟨[(4,[20]),(6,[18]),(11,[18])],[]⟩
def o62 (r:Int × Int):List AV:=[.agg [vi r.1,vi r.2]]
def p62 (r:Int × Int):List (Nat × AV):=[]
set_option maxRecDepth 100000 in
theorem ad_62 {a0_0:Int} {a0_1:Int} {l1:List Int} {r1:Int} {r2:Int} (h:impl_Tile_renamed.f a0_0 a0_1 l1 = some (r1,r2)):CallH Tryz.prog 62 [.agg [vi a0_0,vi a0_1],.sl (iI .i64 l1)] [] (.agg [vi r1,vi r2]) []:=by
 unfold impl_Tile_renamed.f at h
 refine call_ok (c:=bodyOf Tryz.f62) (rs:=o62 (r1,r2)) (post:=p62 (r1,r2)) Tryz.func62 rfl rfl rfl (by kernel_rfl) ?_
 show AtP Tryz.prog 16 (bodyOf Tryz.f62) (KR Tryz.prog Tryz.f62.results.toList (o62 (r1,r2)) (p62 (r1,r2))) [] [] (lookA [(0,.agg [vi a0_0,vi a0_1]),(1,.sl (iI .i64 l1))])
 obtain ⟨g1,h2⟩:=ip_ h
 obtain ⟨g3,h4⟩:=ip_ h2
 obtain ⟨g5,h6⟩:=ip_ h4
 obtain ⟨g7,h8⟩:=ip_ h6
 obtain ⟨⟨bt268_1,bt268_2⟩,c9,h10⟩:=bd_ h8
 try dsimp only at h10
 obtain ⟨rfl,rfl⟩:=pr2_ h10
 exact leafRet (hn:=hn62) 7 [.elem (vi (rd l1 a0_0)),.elem (vi (rd l1 a0_1)),.call (.agg [vi bt268_1,vi bt268_2])] [] .ret (.inr rfl) (by kernel_rfl) (And.intro (iI_rd (k:=.i64) (xs:=l1) (i:=a0_0) g1 g3) (And.intro (iI_rd (k:=.i64) (xs:=l1) (i:=a0_1) g5 g7) (ad_86 c9))) (by kernel_rfl)

def hn89:Hint:=⟨[(5,[22]),(7,[23]),(10,[22]),(12,[23]),(15,[22]),(17,[23])],[]⟩
def o89 (r:Int):List AV:=[vi r]
def p89 (r:Int):List (Nat × AV):=[]
def hn31:Hint:=⟨[(7,[31]),(15,[32]),(19,[43]),(22,[32])],[]⟩
def o31 (r:(List (S43))):List AV:=[.sl (iS43 r)]
def p31 (r:(List (S43))):List (Nat × AV):=[]
def q31_l0 (r:(List (S43))) (k:Nat) (L:List (Nat × AV)):Prop:=∃ (x1:List Int) (x5:List (S43)) (x9:List (S43)) (x10:Int) (x11:Int),L = [(1,.sl (iI .i64 x1)),(5,.row 32),(9,.sl (iS43 x9)),(10,vi x10),(11,vi x11),(32,.ow false 43 (iS43 x5))] ∧ impl_renamedHand.l0 k x1 x5 x9 x10 x11 = some r
theorem q31_l0_mk {r:(List (S43))} {k:Nat} {x1:List Int} {x5:List (S43)} {x9:List (S43)} {x10:Int} {x11:Int} (h:impl_renamedHand.l0 k x1 x5 x9 x10 x11 = some r):q31_l0 r k [(1,.sl (iI .i64 x1)),(5,.row 32),(9,.sl (iS43 x9)),(10,vi x10),(11,vi x11),(32,.ow false 43 (iS43 x5))]:=⟨x1,x5,x9,x10,x11,rfl,h⟩
set_option maxRecDepth 100000 in
theorem at31_l0 {r:(List (S43))}:∀ k L,q31_l0 r k L → AtP Tryz.prog 24 (bodyOf Tryz.f31) (KR Tryz.prog Tryz.f31.results.toList (o31 r) (p31 r)) [true,true,false,true,false] [] (lookA L) :=
 at_loop (by kernel_rfl) (fun _ => by kernel_rfl) (q31_l0 r) (by
  rintro k _ ⟨x1,x5,x9,x10,x11,rfl,h⟩
  cases k with
  | zero => simp [impl_renamedHand.l0] at h
  | succ k =>
   rw [impl_renamedHand.l0] at h
   rcases ite_ h with ⟨g1,h2⟩ | ⟨g1,h2⟩
   ·obtain ⟨g3,h4⟩:=ip_ h2
    obtain ⟨g5,h6⟩:=ip_ h4
    obtain ⟨⟨bt277_1,bt277_2⟩,c7,h8⟩:=bd_ h6
    try dsimp only at h8
    obtain ⟨g9,h10⟩:=ip_ h8
    exact leafBack (hn:=hn31) 16 [.val (.bool true),.elem (.agg [vi ((rd_T43 x9 x11).f0),vi ((rd_T43 x9 x11).f1)]),.call (.agg [vi bt277_1,vi bt277_2]),.go,.elem (.ow false 43 (iS43 (x5 ++ ([(⟨bt277_1,bt277_2⟩ : S43)])))),.val (.int .i64 (wrap64 (x11 + 1)))] [(32,44)] (q31_l0_mk h10) (Nat.lt_succ_self k) (And.intro (int_lss (P:=Tryz.prog) (t:=3) (k:=.i64) (x:=(.tmp 11)) (y:=(.tmp 10)) (a:=x11) (b:=x10) (v:=true) (decide_eq_true g1)) (And.intro (iS43_rd (xs:=x9) (i:=x11) g3 g5) (And.intro (And.intro (ad_62 c7) (iS43_app (N:=8796093022208) (b:=16) (xs:=x5) (ys:=[(⟨bt277_1,bt277_2⟩ : S43)]) (by decide) (Nat.succ_le_of_lt g9))) (int_add (P:=Tryz.prog) (t:=3) (k:=.i64) (x:=(.tmp 11)) (y:=(.const (.int .i64 1))) (a:=x11) (b:=1) (c:=(wrap64 (x11 + 1))) (IntWalk.i64_left _))))) (by kernel_rfl)
   ·obtain ⟨t282,c11,h12⟩:=bd_ h2
    obtain rfl:=Option.some.inj h12
    exact leafRet (hn:=hn31) 14 [.val (.bool false),.callH [] (.row 47) [(47,.ow true 43 (iS43 t282))],.fz 47] [] .ret (.inr rfl) (by kernel_rfl) (And.intro (int_lss (P:=Tryz.prog) (t:=3) (k:=.i64) (x:=(.tmp 11)) (y:=(.tmp 10)) (a:=x11) (b:=x10) (v:=false) (decide_eq_false g1)) (CallH.ren [(500000,47)] rfl rfl (ad_63 c11))) (by kernel_rfl))
set_option maxRecDepth 100000 in
theorem ad_31 {k:Nat} {l0:List (S43)} {l1:List Int} {r:List (S43)} (h:impl_renamedHand.f k l0 l1 = some r):CallH Tryz.prog 31 [.sl (iS43 l0),.sl (iI .i64 l1)] [] (.sl (iS43 r)) []:=by
 unfold impl_renamedHand.f at h
 refine call_ok (c:=bodyOf Tryz.f31) (rs:=o31 r) (post:=p31 r) Tryz.func31 rfl rfl rfl (by kernel_rfl) ?_
 show AtP Tryz.prog 24 (bodyOf Tryz.f31) (KR Tryz.prog Tryz.f31.results.toList (o31 r) (p31 r)) [] [] (lookA [(0,.sl (iS43 l0)),(1,.sl (iI .i64 l1))])
 exact leafAt (hn:=hn31) 11 [.goT,.go,.val (.int .i64 (l0.length:Int))] [] (at31_l0 _ _ (q31_l0_mk h)) (iS43_len (xs:=l0)) (by kernel_rfl)

def hn6:Hint:=⟨[],[]⟩
def o6 (r:(List (S43)) × Bool):List AV:=[.sl (iS43 r.1),vb r.2]
def p6 (r:(List (S43)) × Bool):List (Nat × AV):=[]
set_option maxRecDepth 100000 in
theorem ad_6 {k:Nat} {l0:List (S43)} {l1:List Int} {r1:List (S43)} {r2:Bool} (h:impl_RenameHand.f k l0 l1 = some (r1,r2)):CallH Tryz.prog 6 [.sl (iS43 l0),.sl (iI .i64 l1)] [] (.tup [.sl (iS43 r1),vb r2]) []:=by
 unfold impl_RenameHand.f at h
 refine call_ok (c:=bodyOf Tryz.f6) (rs:=o6 (r1,r2)) (post:=p6 (r1,r2)) Tryz.func6 rfl rfl rfl (by kernel_rfl) ?_
 show AtP Tryz.prog 17 (bodyOf Tryz.f6) (KR Tryz.prog Tryz.f6.results.toList (o6 (r1,r2)) (p6 (r1,r2))) [] [] (lookA [(0,.sl (iS43 l0)),(1,.sl (iI .i64 l1))])
 obtain ⟨t285,c1,h2⟩:=bd_ h
 rcases ite_ h2 with ⟨g3,h4⟩ | ⟨g3,h4⟩
 ·subst g3
  obtain ⟨t286,c5,h6⟩:=bd_ h4
  rcases ite_ h6 with ⟨g7,h8⟩ | ⟨g7,h8⟩
  ·subst g7
   obtain ⟨t287,c9,h10⟩:=bd_ h8
   obtain ⟨rfl,rfl⟩:=pr2_ h10
   exact leafRet (hn:=hn6) 14 [.goT,.call (vb true),.call (vb true),.call (.sl (iS43 t287))] [] .ret (.inr rfl) (by kernel_rfl) (And.intro (And.intro (ad_16 c1) (ad_30 c5)) (ad_31 c9)) (by kernel_rfl)
  ·obtain rfl:=Bool.eq_false_iff.2 g7
   obtain ⟨rfl,rfl⟩:=pr2_ h8
   exact leafRet (hn:=hn6) 13 [.goT,.call (vb true),.call (vb false),.goT] [] .ret (.inr rfl) (by kernel_rfl) (And.intro (ad_16 c1) (ad_30 c5)) (by kernel_rfl)
 ·obtain rfl:=Bool.eq_false_iff.2 g3
  obtain ⟨rfl,rfl⟩:=pr2_ h4
  exact leafRet (hn:=hn6) 13 [.goT,.call (vb false),.goT] [] .ret (.inr rfl) (by kernel_rfl) (ad_16 c1) (by kernel_rfl)

def hn81:Hint:=⟨[],[]⟩
def o81 (r:Bool):List AV:=[vb r]
def p81 (r:Bool):List (Nat × AV):=[]
set_option maxRecDepth 100000 in
theorem ad_81 {a0:Int} {a1:Int} {a2:Int} {r:Bool} (h:spec_l1In.f a0 a1 a2 = some r):CallH Tryz.prog 81 [vi a0,vi a1,vi a2] [] (vb r) []:=by
 unfold spec_l1In.f at h
 refine call_ok (c:=bodyOf Tryz.f81) (rs:=o81 r) (post:=p81 r) Tryz.func81 rfl rfl rfl (by kernel_rfl) ?_
 show AtP Tryz.prog 15 (bodyOf Tryz.f81) (KR Tryz.prog Tryz.f81.results.toList (o81 r) (p81 r)) [] [] (lookA [(0,vi a0),(1,vi a1),(2,vi a2)])
 rcases ite_ h with ⟨g1,h2⟩ | ⟨g1,h2⟩
 ·obtain rfl:=Option.some.inj h2
  exact leafRet (hn:=hn81) 7 [.val (.bool true),.val (.bool (decide (a0 ≤ a2)))] [] .ret (.inr rfl) (by kernel_rfl) (And.intro (int_geq (P:=Tryz.prog) (t:=3) (k:=.i64) (x:=(.tmp 7)) (y:=(.tmp 8)) (a:=a0) (b:=a1) (v:=true) (decide_eq_true g1)) (int_leq (P:=Tryz.prog) (t:=3) (k:=.i64) (x:=(.tmp 11)) (y:=(.tmp 12)) (a:=a0) (b:=a2) (v:=(decide (a0 ≤ a2))) rfl)) (by kernel_rfl)
 ·obtain rfl:=Option.some.inj h2
  exact leafRet (hn:=hn81) 7 [.val (.bool false)] [] .ret (.inr rfl) (by kernel_rfl) (int_geq (P:=Tryz.prog) (t:=3) (k:=.i64) (x:=(.tmp 7)) (y:=(.tmp 8)) (a:=a0) (b:=a1) (v:=false) (decide_eq_false g1)) (by kernel_rfl)

def hn64:Hint:=⟨[(3,[14]),(5,[14]),(9,[14])],[]⟩
def o64 (r:Bool):List AV:=[vb r]
def p64 (r:Bool):List (Nat × AV):=[]
set_option maxRecDepth 100000 in
theorem ad_64 {a0_0:Int} {a0_1:Int} {r:Bool} (h:spec_tiGood.f a0_0 a0_1 = some r):CallH Tryz.prog 64 [.agg [vi a0_0,vi a0_1]] [] (vb r) []:=by
 unfold spec_tiGood.f at h
 refine call_ok (c:=bodyOf Tryz.f64) (rs:=o64 r) (post:=p64 r) Tryz.func64 rfl rfl rfl (by kernel_rfl) ?_
 show AtP Tryz.prog 13 (bodyOf Tryz.f64) (KR Tryz.prog Tryz.f64.results.toList (o64 r) (p64 r)) [] [] (lookA [(0,.agg [vi a0_0,vi a0_1])])
 obtain ⟨t291,c1,h2⟩:=bd_ h
 rcases ite_ h2 with ⟨g3,h4⟩ | ⟨g3,h4⟩
 ·subst g3
  obtain rfl:=Option.some.inj h4
  exact leafRet (hn:=hn64) 7 [.call (vb true),.val (.bool (decide (a0_1 ≤ 9)))] [] .ret (.inr rfl) (by kernel_rfl) (And.intro (ad_81 c1) (int_leq (P:=Tryz.prog) (t:=3) (k:=.i64) (x:=(.tmp 10)) (y:=(.const (.int .i64 9))) (a:=a0_1) (b:=9) (v:=(decide (a0_1 ≤ 9))) rfl)) (by kernel_rfl)
 ·obtain rfl:=Bool.eq_false_iff.2 g3
  obtain rfl:=Option.some.inj h4
  exact leafRet (hn:=hn64) 7 [.call (vb false)] [] .ret (.inr rfl) (by kernel_rfl) (ad_81 c1) (by kernel_rfl)

def hn32:Hint:=⟨[(4,[31])],[]⟩
def o32 (r:Bool):List AV:=[vb r]
def p32 (r:Bool):List (Nat × AV):=[]
def q32_l0 (r:Bool) (k:Nat) (L:List (Nat × AV)):Prop:=∃ (x0:List (S43)) (x8:List (S43)) (x9:Int) (x10:Int),L = [(0,.sl (iS43 x0)),(8,.sl (iS43 x8)),(9,vi x9),(10,vi x10)] ∧ spec_tiHand.l0 k x0 x8 x9 x10 = some r
theorem q32_l0_mk {r:Bool} {k:Nat} {x0:List (S43)} {x8:List (S43)} {x9:Int} {x10:Int} (h:spec_tiHand.l0 k x0 x8 x9 x10 = some r):q32_l0 r k [(0,.sl (iS43 x0)),(8,.sl (iS43 x8)),(9,vi x9),(10,vi x10)]:=⟨x0,x8,x9,x10,rfl,h⟩
set_option maxRecDepth 100000 in
theorem at32_l0 {r:Bool}:∀ k L,q32_l0 r k L → AtP Tryz.prog 27 (bodyOf Tryz.f32) (KR Tryz.prog Tryz.f32.results.toList (o32 r) (p32 r)) [true,true,false,true,false] [] (lookA L) :=
 at_loop (by kernel_rfl) (fun _ => by kernel_rfl) (q32_l0 r) (by
  rintro k _ ⟨x0,x8,x9,x10,rfl,h⟩
  cases k with
  | zero => simp [spec_tiHand.l0] at h
  | succ k =>
   rw [spec_tiHand.l0] at h
   rcases ite_ h with ⟨g1,h2⟩ | ⟨g1,h2⟩
   ·obtain ⟨g3,h4⟩:=ip_ h2
    obtain ⟨g5,h6⟩:=ip_ h4
    obtain ⟨t294,c7,h8⟩:=bd_ h6
    rcases ite_ h8 with ⟨g9,h10⟩ | ⟨g9,h10⟩
    ·subst g9
     obtain ⟨g11,h12⟩:=ip_ h10
     obtain ⟨t299,c13,h14⟩:=bd_ h12
     rcases ite_ h14 with ⟨g15,h16⟩ | ⟨g15,h16⟩
     ·obtain rfl:=Option.some.inj h16
      exact leafRet (hn:=hn32) 25 [.val (.bool true),.elem (.agg [vi ((rd_T43 x8 x10).f0),vi ((rd_T43 x8 x10).f1)]),.call (vb true),.elem (.sl (iS43 (x0.take (x10:Int).toNat))),.call (vi t299),.val (.bool true)] [] .ret (.inr rfl) (by kernel_rfl) (And.intro (int_lss (P:=Tryz.prog) (t:=3) (k:=.i64) (x:=(.tmp 10)) (y:=(.tmp 9)) (a:=x10) (b:=x9) (v:=true) (decide_eq_true g1)) (And.intro (iS43_rd (xs:=x8) (i:=x10) g3 g5) (And.intro (ad_64 c7) (And.intro (iS43_take (xs:=x0) (b:=x10) g3 g11) (And.intro (ad_65 c13) (int_geq (P:=Tryz.prog) (t:=3) (k:=.i64) (x:=(.tmp 23)) (y:=(.const (.int .i64 0))) (a:=t299) (b:=0) (v:=true) (decide_eq_true g15))))))) (by kernel_rfl)
     ·exact leafBack (hn:=hn32) 20 [.val (.bool true),.elem (.agg [vi ((rd_T43 x8 x10).f0),vi ((rd_T43 x8 x10).f1)]),.call (vb true),.elem (.sl (iS43 (x0.take (x10:Int).toNat))),.call (vi t299),.val (.bool false),.val (.int .i64 (wrap64 (x10 + 1)))] [] (q32_l0_mk h16) (Nat.lt_succ_self k) (And.intro (int_lss (P:=Tryz.prog) (t:=3) (k:=.i64) (x:=(.tmp 10)) (y:=(.tmp 9)) (a:=x10) (b:=x9) (v:=true) (decide_eq_true g1)) (And.intro (iS43_rd (xs:=x8) (i:=x10) g3 g5) (And.intro (And.intro (ad_64 c7) (And.intro (iS43_take (xs:=x0) (b:=x10) g3 g11) (And.intro (ad_65 c13) (int_geq (P:=Tryz.prog) (t:=3) (k:=.i64) (x:=(.tmp 23)) (y:=(.const (.int .i64 0))) (a:=t299) (b:=0) (v:=false) (decide_eq_false g15))))) (int_add (P:=Tryz.prog) (t:=3) (k:=.i64) (x:=(.tmp 10)) (y:=(.const (.int .i64 1))) (a:=x10) (b:=1) (c:=(wrap64 (x10 + 1))) (IntWalk.i64_left _))))) (by kernel_rfl)
    ·obtain rfl:=Bool.eq_false_iff.2 g9
     obtain rfl:=Option.some.inj h10
     exact leafRet (hn:=hn32) 25 [.val (.bool true),.elem (.agg [vi ((rd_T43 x8 x10).f0),vi ((rd_T43 x8 x10).f1)]),.call (vb false)] [] .ret (.inr rfl) (by kernel_rfl) (And.intro (int_lss (P:=Tryz.prog) (t:=3) (k:=.i64) (x:=(.tmp 10)) (y:=(.tmp 9)) (a:=x10) (b:=x9) (v:=true) (decide_eq_true g1)) (And.intro (iS43_rd (xs:=x8) (i:=x10) g3 g5) (ad_64 c7))) (by kernel_rfl)
   ·obtain rfl:=Option.some.inj h2
    exact leafRet (hn:=hn32) 14 [.val (.bool false)] [] .ret (.inr rfl) (by kernel_rfl) (int_lss (P:=Tryz.prog) (t:=3) (k:=.i64) (x:=(.tmp 10)) (y:=(.tmp 9)) (a:=x10) (b:=x9) (v:=false) (decide_eq_false g1)) (by kernel_rfl))
set_option maxRecDepth 100000 in
theorem ad_32 {k:Nat} {l0:List (S43)} {r:Bool} (h:spec_tiHand.f k l0 = some r):CallH Tryz.prog 32 [.sl (iS43 l0)] [] (vb r) []:=by
 unfold spec_tiHand.f at h
 refine call_ok (c:=bodyOf Tryz.f32) (rs:=o32 r) (post:=p32 r) Tryz.func32 rfl rfl rfl (by kernel_rfl) ?_
 show AtP Tryz.prog 27 (bodyOf Tryz.f32) (KR Tryz.prog Tryz.f32.results.toList (o32 r) (p32 r)) [] [] (lookA [(0,.sl (iS43 l0))])
 rcases ite_ h with ⟨g1,h2⟩ | ⟨g1,h2⟩
 ·obtain rfl:=Option.some.inj h2
  exact leafRet (hn:=hn32) 13 [.val (.int .i64 (l0.length:Int)),.val (.bool true)] [] .ret (.inr rfl) (by kernel_rfl) (And.intro (iS43_len (xs:=l0)) (int_gtr (P:=Tryz.prog) (t:=3) (k:=.i64) (x:=(.tmp 6)) (y:=(.const (.int .i64 55))) (a:=(l0.length:Int)) (b:=55) (v:=true) (decide_eq_true g1))) (by kernel_rfl)
 ·exact leafAt (hn:=hn32) 15 [.val (.int .i64 (l0.length:Int)),.val (.bool false),.val (.int .i64 (l0.length:Int))] [] (at32_l0 _ _ (q32_l0_mk h2)) (And.intro (And.intro (iS43_len (xs:=l0)) (int_gtr (P:=Tryz.prog) (t:=3) (k:=.i64) (x:=(.tmp 6)) (y:=(.const (.int .i64 55))) (a:=(l0.length:Int)) (b:=55) (v:=false) (decide_eq_false g1))) (iS43_len (xs:=l0))) (by kernel_rfl)

def hn33:Hint:=⟨[],[]⟩
def o33 (r:Bool):List AV:=[vb r]
def p33 (r:Bool):List (Nat × AV):=[]
def q33_l0 (r:Bool) (k:Nat) (L:List (Nat × AV)):Prop:=∃ (x1:Int) (x7:List Int) (x8:Int) (x9:Int),L = [(1,vi x1),(7,.sl (iI .i64 x7)),(8,vi x8),(9,vi x9)] ∧ spec_l1Has.l0 k x1 x7 x8 x9 = some r
theorem q33_l0_mk {r:Bool} {k:Nat} {x1:Int} {x7:List Int} {x8:Int} {x9:Int} (h:spec_l1Has.l0 k x1 x7 x8 x9 = some r):q33_l0 r k [(1,vi x1),(7,.sl (iI .i64 x7)),(8,vi x8),(9,vi x9)]:=⟨x1,x7,x8,x9,rfl,h⟩
set_option maxRecDepth 100000 in
theorem at33_l0 {r:Bool}:∀ k L,q33_l0 r k L → AtP Tryz.prog 17 (bodyOf Tryz.f33) (KR Tryz.prog Tryz.f33.results.toList (o33 r) (p33 r)) [true,false,true,false] [] (lookA L) :=
 at_loop (by kernel_rfl) (fun _ => by kernel_rfl) (q33_l0 r) (by
  rintro k _ ⟨x1,x7,x8,x9,rfl,h⟩
  cases k with
  | zero => simp [spec_l1Has.l0] at h
  | succ k =>
   rw [spec_l1Has.l0] at h
   rcases ite_ h with ⟨g1,h2⟩ | ⟨g1,h2⟩
   ·obtain ⟨g3,h4⟩:=ip_ h2
    obtain ⟨g5,h6⟩:=ip_ h4
    rcases ite_ h6 with ⟨g7,h8⟩ | ⟨g7,h8⟩
    ·obtain rfl:=Option.some.inj h8
     exact leafRet (hn:=hn33) 25 [.val (.bool true),.elem (vi (rd x7 x9)),.val (.bool true)] [] .ret (.inr rfl) (by kernel_rfl) (And.intro (int_lss (P:=Tryz.prog) (t:=3) (k:=.i64) (x:=(.tmp 9)) (y:=(.tmp 8)) (a:=x9) (b:=x8) (v:=true) (decide_eq_true g1)) (And.intro (iI_rd (k:=.i64) (xs:=x7) (i:=x9) g3 g5) (int_eql (P:=Tryz.prog) (t:=3) (k:=.i64) (x:=(.tmp 13)) (y:=(.tmp 14)) (a:=(rd x7 x9)) (b:=x1) (v:=true) (beq_iff_eq.2 g7)))) (by kernel_rfl)
    ·exact leafBack (hn:=hn33) 20 [.val (.bool true),.elem (vi (rd x7 x9)),.val (.bool false),.val (.int .i64 (wrap64 (x9 + 1)))] [] (q33_l0_mk h8) (Nat.lt_succ_self k) (And.intro (int_lss (P:=Tryz.prog) (t:=3) (k:=.i64) (x:=(.tmp 9)) (y:=(.tmp 8)) (a:=x9) (b:=x8) (v:=true) (decide_eq_true g1)) (And.intro (iI_rd (k:=.i64) (xs:=x7) (i:=x9) g3 g5) (And.intro (int_eql (P:=Tryz.prog) (t:=3) (k:=.i64) (x:=(.tmp 13)) (y:=(.tmp 14)) (a:=(rd x7 x9)) (b:=x1) (v:=false) (beq_false_of_ne g7)) (int_add (P:=Tryz.prog) (t:=3) (k:=.i64) (x:=(.tmp 9)) (y:=(.const (.int .i64 1))) (a:=x9) (b:=1) (c:=(wrap64 (x9 + 1))) (IntWalk.i64_left _))))) (by kernel_rfl)
   ·obtain rfl:=Option.some.inj h2
    exact leafRet (hn:=hn33) 14 [.val (.bool false)] [] .ret (.inr rfl) (by kernel_rfl) (int_lss (P:=Tryz.prog) (t:=3) (k:=.i64) (x:=(.tmp 9)) (y:=(.tmp 8)) (a:=x9) (b:=x8) (v:=false) (decide_eq_false g1)) (by kernel_rfl))
set_option maxRecDepth 100000 in
theorem ad_33 {k:Nat} {l0:List Int} {a1:Int} {r:Bool} (h:spec_l1Has.f k l0 a1 = some r):CallH Tryz.prog 33 [.sl (iI .i64 l0),vi a1] [] (vb r) []:=by
 unfold spec_l1Has.f at h
 refine call_ok (c:=bodyOf Tryz.f33) (rs:=o33 r) (post:=p33 r) Tryz.func33 rfl rfl rfl (by kernel_rfl) ?_
 show AtP Tryz.prog 17 (bodyOf Tryz.f33) (KR Tryz.prog Tryz.f33.results.toList (o33 r) (p33 r)) [] [] (lookA [(0,.sl (iI .i64 l0)),(1,vi a1)])
 exact leafAt (hn:=hn33) 8 [.val (.int .i64 (l0.length:Int))] [] (at33_l0 _ _ (q33_l0_mk h)) (iI_len (k:=.i64) (xs:=l0)) (by kernel_rfl)

def hn68:Hint:=⟨[(9,[38]),(11,[40]),(23,[36]),(25,[54])],[]⟩
def o68 (r:(List (S43))):List AV:=[.sl (iS43 r)]
def p68 (r:(List (S43))):List (Nat × AV):=[]
def q68_l0 (r:(List (S43))) (k:Nat) (L:List (Nat × AV)):Prop:=∃ (x1:List (S43)) (x2:Bool) (x7:List (S43)) (x11:List (S43)) (x12:Int) (x13:Int),L = [(1,.sl (iS43 x1)),(2,vb x2),(7,.row 36),(11,.row 40),(12,vi x12),(13,vi x13),(36,.ow false 43 (iS43 x7)),(40,.ow false 43 (iS43 x11))] ∧ spec_tiPick.l0 k x1 x2 x7 x11 x12 x13 = some r
theorem q68_l0_mk {r:(List (S43))} {k:Nat} {x1:List (S43)} {x2:Bool} {x7:List (S43)} {x11:List (S43)} {x12:Int} {x13:Int} (h:spec_tiPick.l0 k x1 x2 x7 x11 x12 x13 = some r):q68_l0 r k [(1,.sl (iS43 x1)),(2,vb x2),(7,.row 36),(11,.row 40),(12,vi x12),(13,vi x13),(36,.ow false 43 (iS43 x7)),(40,.ow false 43 (iS43 x11))]:=⟨x1,x2,x7,x11,x12,x13,rfl,h⟩
set_option maxRecDepth 100000 in
theorem at68_l0 {r:(List (S43))}:∀ k L,q68_l0 r k L → AtP Tryz.prog 29 (bodyOf Tryz.f68) (KR Tryz.prog Tryz.f68.results.toList (o68 r) (p68 r)) [true,true,false,true,false] [] (lookA L) :=
 at_loop (by kernel_rfl) (fun _ => by kernel_rfl) (q68_l0 r) (by
  rintro k _ ⟨x1,x2,x7,x11,x12,x13,rfl,h⟩
  cases k with
  | zero => simp [spec_tiPick.l0] at h
  | succ k =>
   rw [spec_tiPick.l0] at h
   rcases ite_ h with ⟨g1,h2⟩ | ⟨g1,h2⟩
   ·obtain ⟨g3,h4⟩:=ip_ h2
    obtain ⟨g5,h6⟩:=ip_ h4
    obtain ⟨t306,c7,h8⟩:=bd_ h6
    rcases ite_ h8 with ⟨g9,h10⟩ | ⟨g9,h10⟩
    ·obtain ⟨g11,h12⟩:=ip_ h10
     exact leafBack (hn:=hn68) 20 [.val (.bool true),.elem (.agg [vi ((rd_T43 x11 x13).f0),vi ((rd_T43 x11 x13).f1)]),.call (vi t306),.val (.bool (decide (t306 ≥ 0))),.val (.bool true),.go,.elem (.ow false 43 (iS43 (x7 ++ ([(⟨(rd_T43 x11 x13).f0,(rd_T43 x11 x13).f1⟩ : S43)])))),.val (.int .i64 (wrap64 (x13 + 1)))] [(36,55)] (q68_l0_mk h12) (Nat.lt_succ_self k) (And.intro (int_lss (P:=Tryz.prog) (t:=3) (k:=.i64) (x:=(.tmp 13)) (y:=(.tmp 12)) (a:=x13) (b:=x12) (v:=true) (decide_eq_true g1)) (And.intro (iS43_rd (xs:=x11) (i:=x13) g3 g5) (And.intro (And.intro (ad_65 c7) (And.intro (int_geq (P:=Tryz.prog) (t:=3) (k:=.i64) (x:=(.tmp 19)) (y:=(.const (.int .i64 0))) (a:=t306) (b:=0) (v:=(decide (t306 ≥ 0))) rfl) (bool_eql (P:=Tryz.prog) (t:=4) (x:=(.tmp 20)) (y:=(.tmp 21)) (a:=(decide (t306 ≥ 0))) (b:=x2) Tryz.underlying4 (v:=true) g9))) (And.intro (iS43_app (N:=8796093022208) (b:=16) (xs:=x7) (ys:=[(⟨(rd_T43 x11 x13).f0,(rd_T43 x11 x13).f1⟩ : S43)]) (by decide) (Nat.succ_le_of_lt g11)) (int_add (P:=Tryz.prog) (t:=3) (k:=.i64) (x:=(.tmp 13)) (y:=(.const (.int .i64 1))) (a:=x13) (b:=1) (c:=(wrap64 (x13 + 1))) (IntWalk.i64_left _)))))) (by kernel_rfl)
    ·exact leafBack (hn:=hn68) 20 [.val (.bool true),.elem (.agg [vi ((rd_T43 x11 x13).f0),vi ((rd_T43 x11 x13).f1)]),.call (vi t306),.val (.bool (decide (t306 ≥ 0))),.val (.bool false),.val (.int .i64 (wrap64 (x13 + 1)))] [] (q68_l0_mk h10) (Nat.lt_succ_self k) (And.intro (int_lss (P:=Tryz.prog) (t:=3) (k:=.i64) (x:=(.tmp 13)) (y:=(.tmp 12)) (a:=x13) (b:=x12) (v:=true) (decide_eq_true g1)) (And.intro (iS43_rd (xs:=x11) (i:=x13) g3 g5) (And.intro (And.intro (ad_65 c7) (And.intro (int_geq (P:=Tryz.prog) (t:=3) (k:=.i64) (x:=(.tmp 19)) (y:=(.const (.int .i64 0))) (a:=t306) (b:=0) (v:=(decide (t306 ≥ 0))) rfl) (bool_eql (P:=Tryz.prog) (t:=4) (x:=(.tmp 20)) (y:=(.tmp 21)) (a:=(decide (t306 ≥ 0))) (b:=x2) Tryz.underlying4 (v:=false) (Bool.eq_false_iff.2 g9)))) (int_add (P:=Tryz.prog) (t:=3) (k:=.i64) (x:=(.tmp 13)) (y:=(.const (.int .i64 1))) (a:=x13) (b:=1) (c:=(wrap64 (x13 + 1))) (IntWalk.i64_left _))))) (by kernel_rfl)
   ·obtain rfl:=Option.some.inj h2
    exact leafRet (hn:=hn68) 14 [.val (.bool false)] [] .ret (.inr rfl) (by kernel_rfl) (int_lss (P:=Tryz.prog) (t:=3) (k:=.i64) (x:=(.tmp 13)) (y:=(.tmp 12)) (a:=x13) (b:=x12) (v:=false) (decide_eq_false g1)) (by kernel_rfl))
set_option maxRecDepth 100000 in
theorem ad_68 {k:Nat} {a0:Int} {l1:List (S43)} {a2:Bool} {r:List (S43)} (h:spec_tiPick.f k a0 l1 a2 = some r):CallH Tryz.prog 68 [vi a0,.sl (iS43 l1),vb a2] [] (.sl (iS43 r)) []:=by
 unfold spec_tiPick.f at h
 refine call_ok (c:=bodyOf Tryz.f68) (rs:=o68 r) (post:=p68 r) Tryz.func68 rfl rfl rfl (by kernel_rfl) ?_
 show AtP Tryz.prog 29 (bodyOf Tryz.f68) (KR Tryz.prog Tryz.f68.results.toList (o68 r) (p68 r)) [] [] (lookA [(0,vi a0),(1,.sl (iS43 l1)),(2,vb a2)])
 obtain ⟨t301,c1,h2⟩:=bd_ h
 exact leafAt (hn:=hn68) 11 [.goT,.nil false 43,.callH [] (.row 40) [(40,.ow false 43 (iS43 t301))],.val (.int .i64 (t301.length:Int))] [] (at68_l0 _ _ (q68_l0_mk h2)) (And.intro (CallH.ren [(500000,40)] rfl rfl (ad_58 c1)) (iS43_len (xs:=t301))) (by kernel_rfl)

def hn35:Hint:=⟨[],[]⟩
def o35 (r:(List (S43))):List AV:=[.sl (iS43 r)]
def p35 (r:(List (S43))):List (Nat × AV):=[]
set_option maxRecDepth 100000 in
theorem ad_35 {k:Nat} {l0:List (S43)} {r:List (S43)} (h:spec_tiSort.f k l0 = some r):CallH Tryz.prog 35 [.sl (iS43 l0)] [] (.sl (iS43 r)) []:=by
 unfold spec_tiSort.f at h
 refine call_ok (c:=bodyOf Tryz.f35) (rs:=o35 r) (post:=p35 r) Tryz.func35 rfl rfl rfl (by kernel_rfl) ?_
 show AtP Tryz.prog 5 (bodyOf Tryz.f35) (KR Tryz.prog Tryz.f35.results.toList (o35 r) (p35 r)) [] [] (lookA [(0,.sl (iS43 l0))])
 obtain ⟨t310,c1,h2⟩:=bd_ h
 obtain rfl:=Option.some.inj h2
 exact leafRet (hn:=hn35) 7 [.goT,.call (.sl (iS43 t310))] [] .ret (.inr rfl) (by kernel_rfl) (ad_68 c1) (by kernel_rfl)

def hn7:Hint:=⟨[(9,[60]),(34,[58]),(36,[60]),(41,[60]),(46,[97]),(49,[58])],[]⟩
def o7 (r:(List (S43)) × Bool):List AV:=[.sl (iS43 r.1),vb r.2]
def p7 (r:(List (S43)) × Bool):List (Nat × AV):=[]
def q7_l0 (r:(List (S43)) × Bool) (k:Nat) (L:List (Nat × AV)):Prop:=∃ (x0:List (S43)) (x1:List Int) (x19:Int) (x20:Int),L = [(0,.sl (iS43 x0)),(1,.sl (iI .i64 x1)),(19,vi x19),(20,vi x20)] ∧ spec_RenameHand.l0 k x0 x1 x19 x20 = some r
theorem q7_l0_mk {r:(List (S43)) × Bool} {k:Nat} {x0:List (S43)} {x1:List Int} {x19:Int} {x20:Int} (h:spec_RenameHand.l0 k x0 x1 x19 x20 = some r):q7_l0 r k [(0,.sl (iS43 x0)),(1,.sl (iI .i64 x1)),(19,vi x19),(20,vi x20)]:=⟨x0,x1,x19,x20,rfl,h⟩
def q7_l1 (r:(List (S43)) × Bool) (k:Nat) (L:List (Nat × AV)):Prop:=∃ (x1:List Int) (x7:List (S43)) (x28:List (S43)) (x29:Int) (x30:Int),L = [(1,.sl (iI .i64 x1)),(7,.row 58),(28,.sl (iS43 x28)),(29,vi x29),(30,vi x30),(58,.ow false 43 (iS43 x7))] ∧ spec_RenameHand.l1 k x1 x7 x28 x29 x30 = some r
theorem q7_l1_mk {r:(List (S43)) × Bool} {k:Nat} {x1:List Int} {x7:List (S43)} {x28:List (S43)} {x29:Int} {x30:Int} (h:spec_RenameHand.l1 k x1 x7 x28 x29 x30 = some r):q7_l1 r k [(1,.sl (iI .i64 x1)),(7,.row 58),(28,.sl (iS43 x28)),(29,vi x29),(30,vi x30),(58,.ow false 43 (iS43 x7))]:=⟨x1,x7,x28,x29,x30,rfl,h⟩
set_option maxRecDepth 100000 in
theorem at7_l1 {r:(List (S43)) × Bool}:∀ k L,q7_l1 r k L → AtP Tryz.prog 51 (bodyOf Tryz.f7) (KR Tryz.prog Tryz.f7.results.toList (o7 r) (p7 r)) [true,true,true,true,false,true,false] [] (lookA L) :=
 at_loop (by kernel_rfl) (fun _ => by kernel_rfl) (q7_l1 r) (by
  rintro k _ ⟨x1,x7,x28,x29,x30,rfl,h⟩
  cases k with
  | zero => simp [spec_RenameHand.l1] at h
  | succ k =>
   rw [spec_RenameHand.l1] at h
   rcases ite_ h with ⟨g1,h2⟩ | ⟨g1,h2⟩
   ·obtain ⟨g3,h4⟩:=ip_ h2
    obtain ⟨g5,h6⟩:=ip_ h4
    obtain ⟨g7,h8⟩:=ip_ h6
    obtain ⟨g9,h10⟩:=ip_ h8
    obtain ⟨g11,h12⟩:=ip_ h10
    obtain ⟨g13,h14⟩:=ip_ h12
    obtain ⟨⟨bt319_1,bt319_2⟩,c15,h16⟩:=bd_ h14
    try dsimp only at h16
    obtain ⟨g17,h18⟩:=ip_ h16
    exact leafBack (hn:=hn7) 16 [.val (.bool true),.elem (.agg [vi ((rd_T43 x28 x30).f0),vi ((rd_T43 x28 x30).f1)]),.elem (vi (rd x1 ((rd_T43 x28 x30).f0))),.elem (vi (rd x1 ((rd_T43 x28 x30).f1))),.call (.agg [vi bt319_1,vi bt319_2]),.go,.elem (.ow false 43 (iS43 (x7 ++ ([(⟨bt319_1,bt319_2⟩ : S43)])))),.val (.int .i64 (wrap64 (x30 + 1)))] [(58,98)] (q7_l1_mk h18) (Nat.lt_succ_self k) (And.intro (int_lss (P:=Tryz.prog) (t:=3) (k:=.i64) (x:=(.tmp 30)) (y:=(.tmp 29)) (a:=x30) (b:=x29) (v:=true) (decide_eq_true g1)) (And.intro (iS43_rd (xs:=x28) (i:=x30) g3 g5) (And.intro (And.intro (iI_rd (k:=.i64) (xs:=x1) (i:=((rd_T43 x28 x30).f0)) g7 g9) (And.intro (iI_rd (k:=.i64) (xs:=x1) (i:=((rd_T43 x28 x30).f1)) g11 g13) (And.intro (ad_34 c15) (iS43_app (N:=8796093022208) (b:=16) (xs:=x7) (ys:=[(⟨bt319_1,bt319_2⟩ : S43)]) (by decide) (Nat.succ_le_of_lt g17))))) (int_add (P:=Tryz.prog) (t:=3) (k:=.i64) (x:=(.tmp 30)) (y:=(.const (.int .i64 1))) (a:=x30) (b:=1) (c:=(wrap64 (x30 + 1))) (IntWalk.i64_left _))))) (by kernel_rfl)
   ·obtain ⟨t324,c19,h20⟩:=bd_ h2
    obtain rfl:=Option.some.inj h20
    exact leafRet (hn:=hn7) 14 [.val (.bool false),.call (.sl (iS43 t324))] [] .ret (.inr rfl) (by kernel_rfl) (And.intro (int_lss (P:=Tryz.prog) (t:=3) (k:=.i64) (x:=(.tmp 30)) (y:=(.tmp 29)) (a:=x30) (b:=x29) (v:=false) (decide_eq_false g1)) (ad_35 c19)) (by kernel_rfl))
set_option maxRecDepth 100000 in
theorem at7_l0 {r:(List (S43)) × Bool}:∀ k L,q7_l0 r k L → AtP Tryz.prog 51 (bodyOf Tryz.f7) (KR Tryz.prog Tryz.f7.results.toList (o7 r) (p7 r)) [true,true,false,true,false] [] (lookA L) :=
 at_loop (by kernel_rfl) (fun _ => by kernel_rfl) (q7_l0 r) (by
  rintro k _ ⟨x0,x1,x19,x20,rfl,h⟩
  cases k with
  | zero => simp [spec_RenameHand.l0] at h
  | succ k =>
   rw [spec_RenameHand.l0] at h
   rcases ite_ h with ⟨g1,h2⟩ | ⟨g1,h2⟩
   ·obtain ⟨t314,c3,h4⟩:=bd_ h2
    rcases ite_ h4 with ⟨g5,h6⟩ | ⟨g5,h6⟩
    ·subst g5
     exact leafBack (hn:=hn7) 20 [.val (.bool true),.call (vb true),.val (.int .i64 (wrap64 (x20 + 1)))] [] (q7_l0_mk h6) (Nat.lt_succ_self k) (And.intro (int_lss (P:=Tryz.prog) (t:=3) (k:=.i64) (x:=(.tmp 20)) (y:=(.tmp 19)) (a:=x20) (b:=x19) (v:=true) (decide_eq_true g1)) (And.intro (ad_33 c3) (int_add (P:=Tryz.prog) (t:=3) (k:=.i64) (x:=(.tmp 20)) (y:=(.const (.int .i64 1))) (a:=x20) (b:=1) (c:=(wrap64 (x20 + 1))) (IntWalk.i64_left _)))) (by kernel_rfl)
    ·obtain rfl:=Bool.eq_false_iff.2 g5
     obtain rfl:=Option.some.inj h6
     exact leafRet (hn:=hn7) 25 [.val (.bool true),.call (vb false),.goT] [] .ret (.inr rfl) (by kernel_rfl) (And.intro (int_lss (P:=Tryz.prog) (t:=3) (k:=.i64) (x:=(.tmp 20)) (y:=(.tmp 19)) (a:=x20) (b:=x19) (v:=true) (decide_eq_true g1)) (ad_33 c3)) (by kernel_rfl)
   ·exact leafAt (hn:=hn7) 18 [.val (.bool false),.nil false 43,.val (.int .i64 (x0.length:Int))] [] (at7_l1 _ _ (q7_l1_mk h2)) (And.intro (int_lss (P:=Tryz.prog) (t:=3) (k:=.i64) (x:=(.tmp 20)) (y:=(.tmp 19)) (a:=x20) (b:=x19) (v:=false) (decide_eq_false g1)) (iS43_len (xs:=x0))) (by kernel_rfl))
set_option maxRecDepth 100000 in
theorem at7_j0 {r:(List (S43)) × Bool} {k:Nat} {x0:List (S43)} {x1:List Int} {x17:Bool} (h:spec_RenameHand.j0 k x0 x1 x17 = some r):AtP Tryz.prog 51 (bodyOf Tryz.f7) (KR Tryz.prog Tryz.f7.results.toList (o7 r) (p7 r)) [true,false,true] [] (lookA [(0,.sl (iS43 x0)),(1,.sl (iI .i64 x1)),(17,vb x17)]):=by
 cases k with
 | zero => simp [spec_RenameHand.j0] at h
 | succ k =>
  rw [spec_RenameHand.j0] at h
  rcases ite_ h with ⟨g1,h2⟩ | ⟨g1,h2⟩
  ·subst g1
   obtain rfl:=Option.some.inj h2
   exact leafRet (hn:=hn7) 6 [.goT] [] .ret (.inr rfl) (by kernel_rfl) True.intro (by kernel_rfl)
  ·obtain rfl:=Bool.eq_false_iff.2 g1
   exact leafAt (hn:=hn7) 8 [.val (.int .i64 (x1.length:Int))] [] (at7_l0 _ _ (q7_l0_mk h2)) (iI_len (k:=.i64) (xs:=x1)) (by kernel_rfl)
set_option maxRecDepth 100000 in
theorem ad_7 {k:Nat} {l0:List (S43)} {l1:List Int} {r1:List (S43)} {r2:Bool} (h:spec_RenameHand.f k l0 l1 = some (r1,r2)):CallH Tryz.prog 7 [.sl (iS43 l0),.sl (iI .i64 l1)] [] (.tup [.sl (iS43 r1),vb r2]) []:=by
 unfold spec_RenameHand.f at h
 refine call_ok (c:=bodyOf Tryz.f7) (rs:=o7 (r1,r2)) (post:=p7 (r1,r2)) Tryz.func7 rfl rfl rfl (by kernel_rfl) ?_
 show AtP Tryz.prog 51 (bodyOf Tryz.f7) (KR Tryz.prog Tryz.f7.results.toList (o7 (r1,r2)) (p7 (r1,r2))) [] [] (lookA [(0,.sl (iS43 l0)),(1,.sl (iI .i64 l1))])
 obtain ⟨t313,c1,h2⟩:=bd_ h
 rcases ite_ h2 with ⟨g3,h4⟩ | ⟨g3,h4⟩
 ·subst g3
  exact leafAt (hn:=hn7) 7 [.goT,.call (vb true),.val (.int .i64 (l1.length:Int)),.val (.bool (!((l1.length:Int) == 10)))] [] (at7_j0 h4) (And.intro (ad_32 c1) (And.intro (iI_len (k:=.i64) (xs:=l1)) (int_neq (P:=Tryz.prog) (t:=3) (k:=.i64) (x:=(.tmp 15)) (y:=(.const (.int .i64 10))) (a:=(l1.length:Int)) (b:=10) (v:=(!((l1.length:Int) == 10))) rfl))) (by kernel_rfl)
 ·obtain rfl:=Bool.eq_false_iff.2 g3
  exact leafAt (hn:=hn7) 7 [.goT,.call (vb false)] [] (at7_j0 h4) (ad_32 c1) (by kernel_rfl)

def hn76:Hint:=⟨[],[]⟩
def o76 (r:Int):List AV:=[vi r]
def p76 (r:Int):List (Nat × AV):=[]
set_option maxRecDepth 100000 in
theorem ad_76 {a0:Bool} {r:Int} (h:impl_bit.f a0 = some r):CallH Tryz.prog 76 [vb a0] [] (vi r) []:=by
 unfold impl_bit.f at h
 refine call_ok (c:=bodyOf Tryz.f76) (rs:=o76 r) (post:=p76 r) Tryz.func76 rfl rfl rfl (by kernel_rfl) ?_
 show AtP Tryz.prog 4 (bodyOf Tryz.f76) (KR Tryz.prog Tryz.f76.results.toList (o76 r) (p76 r)) [] [] (lookA [(0,vb a0)])
 rcases ite_ h with ⟨g1,h2⟩ | ⟨g1,h2⟩
 ·subst g1
  obtain rfl:=Option.some.inj h2
  exact leafRet (hn:=hn76) 13 [] [] .ret (.inr rfl) (by kernel_rfl) True.intro (by kernel_rfl)
 ·obtain rfl:=Bool.eq_false_iff.2 g1
  obtain rfl:=Option.some.inj h2
  exact leafRet (hn:=hn76) 14 [] [] .ret (.inr rfl) (by kernel_rfl) True.intro (by kernel_rfl)

def hn46:Hint:=⟨[(7,[36]),(15,[36]),(20,[36])],[]⟩
def o46 (r:Int):List AV:=[vi r]
def p46 (r:Int):List (Nat × AV):=[]
def q46_l0 (r:Int) (k:Nat) (L:List (Nat × AV)):Prop:=∃ (x1:Int) (x5:Int) (x8:List (S43)) (x9:Int) (x10:Int),L = [(1,vi x1),(5,vi x5),(8,.sl (iS43 x8)),(9,vi x9),(10,vi x10)] ∧ impl_times.l0 k x1 x5 x8 x9 x10 = some r
theorem q46_l0_mk {r:Int} {k:Nat} {x1:Int} {x5:Int} {x8:List (S43)} {x9:Int} {x10:Int} (h:impl_times.l0 k x1 x5 x8 x9 x10 = some r):q46_l0 r k [(1,vi x1),(5,vi x5),(8,.sl (iS43 x8)),(9,vi x9),(10,vi x10)]:=⟨x1,x5,x8,x9,x10,rfl,h⟩
set_option maxRecDepth 100000 in
theorem at46_l0 {r:Int}:∀ k L,q46_l0 r k L → AtP Tryz.prog 29 (bodyOf Tryz.f46) (KR Tryz.prog Tryz.f46.results.toList (o46 r) (p46 r)) [true,true,false,true,false] [] (lookA L) :=
 at_loop (by kernel_rfl) (fun _ => by kernel_rfl) (q46_l0 r) (by
  rintro k _ ⟨x1,x5,x8,x9,x10,rfl,h⟩
  cases k with
  | zero => simp [impl_times.l0] at h
  | succ k =>
   rw [impl_times.l0] at h
   rcases ite_ h with ⟨g1,h2⟩ | ⟨g1,h2⟩
   ·obtain ⟨g3,h4⟩:=ip_ h2
    obtain ⟨g5,h6⟩:=ip_ h4
    obtain ⟨t329,c7,h8⟩:=bd_ h6
    obtain ⟨t330,c9,h10⟩:=bd_ h8
    exact leafBack (hn:=hn46) 16 [.val (.bool true),.elem (.agg [vi ((rd_T43 x8 x10).f0),vi ((rd_T43 x8 x10).f1)]),.val (.bool (((rd_T43 x8 x10).f0) == x1)),.call (vi t329),.val (.bool (((rd_T43 x8 x10).f1) == x1)),.call (vi t330),.val (.int .i64 (wrap64 (t329 + t330))),.val (.int .i64 (wrap64 (x5 + (wrap64 (t329 + t330))))),.val (.int .i64 (wrap64 (x10 + 1)))] [] (q46_l0_mk h10) (Nat.lt_succ_self k) (And.intro (int_lss (P:=Tryz.prog) (t:=3) (k:=.i64) (x:=(.tmp 10)) (y:=(.tmp 9)) (a:=x10) (b:=x9) (v:=true) (decide_eq_true g1)) (And.intro (iS43_rd (xs:=x8) (i:=x10) g3 g5) (And.intro (And.intro (int_eql (P:=Tryz.prog) (t:=3) (k:=.i64) (x:=(.tmp 16)) (y:=(.tmp 17)) (a:=((rd_T43 x8 x10).f0)) (b:=x1) (v:=(((rd_T43 x8 x10).f0) == x1)) rfl) (And.intro (ad_76 c7) (And.intro (int_eql (P:=Tryz.prog) (t:=3) (k:=.i64) (x:=(.tmp 21)) (y:=(.tmp 22)) (a:=((rd_T43 x8 x10).f1)) (b:=x1) (v:=(((rd_T43 x8 x10).f1) == x1)) rfl) (And.intro (ad_76 c9) (And.intro (int_add (P:=Tryz.prog) (t:=3) (k:=.i64) (x:=(.tmp 19)) (y:=(.tmp 24)) (a:=t329) (b:=t330) (c:=(wrap64 (t329 + t330))) (IntWalk.i64_left _)) (int_add (P:=Tryz.prog) (t:=3) (k:=.i64) (x:=(.tmp 14)) (y:=(.tmp 25)) (a:=x5) (b:=(wrap64 (t329 + t330))) (c:=(wrap64 (x5 + (wrap64 (t329 + t330))))) (IntWalk.i64_left _))))))) (int_add (P:=Tryz.prog) (t:=3) (k:=.i64) (x:=(.tmp 10)) (y:=(.const (.int .i64 1))) (a:=x10) (b:=1) (c:=(wrap64 (x10 + 1))) (IntWalk.i64_left _))))) (by kernel_rfl)
   ·obtain rfl:=Option.some.inj h2
    exact leafRet (hn:=hn46) 14 [.val (.bool false)] [] .ret (.inr rfl) (by kernel_rfl) (int_lss (P:=Tryz.prog) (t:=3) (k:=.i64) (x:=(.tmp 10)) (y:=(.tmp 9)) (a:=x10) (b:=x9) (v:=false) (decide_eq_false g1)) (by kernel_rfl))
set_option maxRecDepth 100000 in
theorem ad_46 {k:Nat} {l0:List (S43)} {a1:Int} {r:Int} (h:impl_times.f k l0 a1 = some r):CallH Tryz.prog 46 [.sl (iS43 l0),vi a1] [] (vi r) []:=by
 unfold impl_times.f at h
 refine call_ok (c:=bodyOf Tryz.f46) (rs:=o46 r) (post:=p46 r) Tryz.func46 rfl rfl rfl (by kernel_rfl) ?_
 show AtP Tryz.prog 29 (bodyOf Tryz.f46) (KR Tryz.prog Tryz.f46.results.toList (o46 r) (p46 r)) [] [] (lookA [(0,.sl (iS43 l0)),(1,vi a1)])
 exact leafAt (hn:=hn46) 11 [.val (.int .i64 (l0.length:Int))] [] (at46_l0 _ _ (q46_l0_mk h)) (iS43_len (xs:=l0)) (by kernel_rfl)

def hn36:Hint:=⟨[(13,[24]),(15,[34])],[]⟩
def o36 (r:List Int):List AV:=[.sl (iI .i64 r)]
def p36 (r:List Int):List (Nat × AV):=[]
def q36_l0 (r:List Int) (k:Nat) (L:List (Nat × AV)):Prop:=∃ (x0:List (S43)) (x3:List Int) (x6:Int),L = [(0,.sl (iS43 x0)),(3,.row 24),(6,vi x6),(24,.ow false 3 (iI .i64 x3))] ∧ impl_numbers.l0 k x0 x3 x6 = some r
theorem q36_l0_mk {r:List Int} {k:Nat} {x0:List (S43)} {x3:List Int} {x6:Int} (h:impl_numbers.l0 k x0 x3 x6 = some r):q36_l0 r k [(0,.sl (iS43 x0)),(3,.row 24),(6,vi x6),(24,.ow false 3 (iI .i64 x3))]:=⟨x0,x3,x6,rfl,h⟩
set_option maxRecDepth 100000 in
theorem at36_l0 {r:List Int}:∀ k L,q36_l0 r k L → AtP Tryz.prog 19 (bodyOf Tryz.f36) (KR Tryz.prog Tryz.f36.results.toList (o36 r) (p36 r)) [true,true,false,true,false] [] (lookA L) :=
 at_loop (by kernel_rfl) (fun _ => by kernel_rfl) (q36_l0 r) (by
  rintro k _ ⟨x0,x3,x6,rfl,h⟩
  cases k with
  | zero => simp [impl_numbers.l0] at h
  | succ k =>
   rw [impl_numbers.l0] at h
   rcases ite_ h with ⟨g1,h2⟩ | ⟨g1,h2⟩
   ·obtain ⟨t334,c3,h4⟩:=bd_ h2
    rcases ite_ h4 with ⟨g5,h6⟩ | ⟨g5,h6⟩
    ·obtain ⟨g7,h8⟩:=ip_ h6
     exact leafBack (hn:=hn36) 20 [.val (.bool true),.call (vi t334),.val (.bool true),.go,.elem (.ow false 3 (iI .i64 (x3 ++ ([x6])))),.val (.int .i64 (wrap64 (x6 + 1)))] [(24,35)] (q36_l0_mk h8) (Nat.lt_succ_self k) (And.intro (int_lss (P:=Tryz.prog) (t:=3) (k:=.i64) (x:=(.tmp 6)) (y:=(.const (.int .i64 10))) (a:=x6) (b:=10) (v:=true) (decide_eq_true g1)) (And.intro (And.intro (ad_46 c3) (int_gtr (P:=Tryz.prog) (t:=3) (k:=.i64) (x:=(.tmp 11)) (y:=(.const (.int .i64 0))) (a:=t334) (b:=0) (v:=true) (decide_eq_true g5))) (And.intro (iI_app (k:=.i64) (N:=17592186044416) (b:=8) (xs:=x3) (ys:=[x6]) (by decide) (Nat.succ_le_of_lt g7)) (int_add (P:=Tryz.prog) (t:=3) (k:=.i64) (x:=(.tmp 6)) (y:=(.const (.int .i64 1))) (a:=x6) (b:=1) (c:=(wrap64 (x6 + 1))) (IntWalk.i64_left _))))) (by kernel_rfl)
    ·exact leafBack (hn:=hn36) 20 [.val (.bool true),.call (vi t334),.val (.bool false),.val (.int .i64 (wrap64 (x6 + 1)))] [] (q36_l0_mk h6) (Nat.lt_succ_self k) (And.intro (int_lss (P:=Tryz.prog) (t:=3) (k:=.i64) (x:=(.tmp 6)) (y:=(.const (.int .i64 10))) (a:=x6) (b:=10) (v:=true) (decide_eq_true g1)) (And.intro (And.intro (ad_46 c3) (int_gtr (P:=Tryz.prog) (t:=3) (k:=.i64) (x:=(.tmp 11)) (y:=(.const (.int .i64 0))) (a:=t334) (b:=0) (v:=false) (decide_eq_false g5))) (int_add (P:=Tryz.prog) (t:=3) (k:=.i64) (x:=(.tmp 6)) (y:=(.const (.int .i64 1))) (a:=x6) (b:=1) (c:=(wrap64 (x6 + 1))) (IntWalk.i64_left _)))) (by kernel_rfl)
   ·obtain rfl:=Option.some.inj h2
    exact leafRet (hn:=hn36) 14 [.val (.bool false)] [] .ret (.inr rfl) (by kernel_rfl) (int_lss (P:=Tryz.prog) (t:=3) (k:=.i64) (x:=(.tmp 6)) (y:=(.const (.int .i64 10))) (a:=x6) (b:=10) (v:=false) (decide_eq_false g1)) (by kernel_rfl))
set_option maxRecDepth 100000 in
theorem ad_36 {k:Nat} {l0:List (S43)} {r:List Int} (h:impl_numbers.f k l0 = some r):CallH Tryz.prog 36 [.sl (iS43 l0)] [] (.sl (iI .i64 r)) []:=by
 unfold impl_numbers.f at h
 refine call_ok (c:=bodyOf Tryz.f36) (rs:=o36 r) (post:=p36 r) Tryz.func36 rfl rfl rfl (by kernel_rfl) ?_
 show AtP Tryz.prog 19 (bodyOf Tryz.f36) (KR Tryz.prog Tryz.f36.results.toList (o36 r) (p36 r)) [] [] (lookA [(0,.sl (iS43 l0))])
 exact leafAt (hn:=hn36) 11 [.goT,.go] [] (at36_l0 _ _ (q36_l0_mk h)) True.intro (by kernel_rfl)

def hn8:Hint:=⟨[],[]⟩
def o8 (r:List Int × Bool):List AV:=[.sl (iI .i64 r.1),vb r.2]
def p8 (r:List Int × Bool):List (Nat × AV):=[]
set_option maxRecDepth 100000 in
theorem ad_8 {k:Nat} {l0:List (S43)} {r1:List Int} {r2:Bool} (h:impl_NumbersOf.f k l0 = some (r1,r2)):CallH Tryz.prog 8 [.sl (iS43 l0)] [] (.tup [.sl (iI .i64 r1),vb r2]) []:=by
 unfold impl_NumbersOf.f at h
 refine call_ok (c:=bodyOf Tryz.f8) (rs:=o8 (r1,r2)) (post:=p8 (r1,r2)) Tryz.func8 rfl rfl rfl (by kernel_rfl) ?_
 show AtP Tryz.prog 9 (bodyOf Tryz.f8) (KR Tryz.prog Tryz.f8.results.toList (o8 (r1,r2)) (p8 (r1,r2))) [] [] (lookA [(0,.sl (iS43 l0))])
 obtain ⟨t338,c1,h2⟩:=bd_ h
 rcases ite_ h2 with ⟨g3,h4⟩ | ⟨g3,h4⟩
 ·subst g3
  obtain ⟨t339,c5,h6⟩:=bd_ h4
  obtain ⟨rfl,rfl⟩:=pr2_ h6
  exact leafRet (hn:=hn8) 14 [.goT,.call (vb true),.call (.sl (iI .i64 t339))] [] .ret (.inr rfl) (by kernel_rfl) (And.intro (ad_16 c1) (ad_36 c5)) (by kernel_rfl)
 ·obtain rfl:=Bool.eq_false_iff.2 g3
  obtain ⟨rfl,rfl⟩:=pr2_ h4
  exact leafRet (hn:=hn8) 13 [.goT,.call (vb false),.goT] [] .ret (.inr rfl) (by kernel_rfl) (ad_16 c1) (by kernel_rfl)

def hn37:Hint:=⟨[(7,[35]),(14,[35]),(20,[35])],[]⟩
def o37 (r:Int):List AV:=[vi r]
def p37 (r:Int):List (Nat × AV):=[]
def q37_l0 (r:Int) (k:Nat) (L:List (Nat × AV)):Prop:=∃ (x1:Int) (x5:Int) (x8:List (S43)) (x9:Int) (x10:Int),L = [(1,vi x1),(5,vi x5),(8,.sl (iS43 x8)),(9,vi x9),(10,vi x10)] ∧ spec_tiTimes.l0 k x1 x5 x8 x9 x10 = some r
theorem q37_l0_mk {r:Int} {k:Nat} {x1:Int} {x5:Int} {x8:List (S43)} {x9:Int} {x10:Int} (h:spec_tiTimes.l0 k x1 x5 x8 x9 x10 = some r):q37_l0 r k [(1,vi x1),(5,vi x5),(8,.sl (iS43 x8)),(9,vi x9),(10,vi x10)]:=⟨x1,x5,x8,x9,x10,rfl,h⟩
set_option maxRecDepth 100000 in
theorem at37_l0 {r:Int}:∀ k L,q37_l0 r k L → AtP Tryz.prog 28 (bodyOf Tryz.f37) (KR Tryz.prog Tryz.f37.results.toList (o37 r) (p37 r)) [true,true,false,true,false] [] (lookA L) :=
 at_loop (by kernel_rfl) (fun _ => by kernel_rfl) (q37_l0 r) (by
  rintro k _ ⟨x1,x5,x8,x9,x10,rfl,h⟩
  cases k with
  | zero => simp [spec_tiTimes.l0] at h
  | succ k =>
   rw [spec_tiTimes.l0] at h
   rcases ite_ h with ⟨g1,h2⟩ | ⟨g1,h2⟩
   ·obtain ⟨g3,h4⟩:=ip_ h2
    obtain ⟨g5,h6⟩:=ip_ h4
    rcases ite_ h6 with ⟨g7,h8⟩ | ⟨g7,h8⟩
    ·rcases ite_ h8 with ⟨g9,h10⟩ | ⟨g9,h10⟩
     ·exact leafBack (hn:=hn37) 27 [.val (.bool true),.elem (.agg [vi ((rd_T43 x8 x10).f0),vi ((rd_T43 x8 x10).f1)]),.val (.bool true),.val (.int .i64 (wrap64 (x5 + 1))),.val (.bool true),.val (.int .i64 (wrap64 ((wrap64 (x5 + 1)) + 1))),.val (.int .i64 (wrap64 (x10 + 1)))] [] (q37_l0_mk h10) (Nat.lt_succ_self k) (And.intro (int_lss (P:=Tryz.prog) (t:=3) (k:=.i64) (x:=(.tmp 10)) (y:=(.tmp 9)) (a:=x10) (b:=x9) (v:=true) (decide_eq_true g1)) (And.intro (iS43_rd (xs:=x8) (i:=x10) g3 g5) (And.intro (int_eql (P:=Tryz.prog) (t:=3) (k:=.i64) (x:=(.tmp 15)) (y:=(.tmp 16)) (a:=((rd_T43 x8 x10).f0)) (b:=x1) (v:=true) (beq_iff_eq.2 g7)) (And.intro (int_add (P:=Tryz.prog) (t:=3) (k:=.i64) (x:=(.tmp 18)) (y:=(.const (.int .i64 1))) (a:=x5) (b:=1) (c:=(wrap64 (x5 + 1))) (IntWalk.i64_left _)) (And.intro (int_eql (P:=Tryz.prog) (t:=3) (k:=.i64) (x:=(.tmp 21)) (y:=(.tmp 22)) (a:=((rd_T43 x8 x10).f1)) (b:=x1) (v:=true) (beq_iff_eq.2 g9)) (And.intro (int_add (P:=Tryz.prog) (t:=3) (k:=.i64) (x:=(.tmp 24)) (y:=(.const (.int .i64 1))) (a:=(wrap64 (x5 + 1))) (b:=1) (c:=(wrap64 ((wrap64 (x5 + 1)) + 1))) (IntWalk.i64_left _)) (int_add (P:=Tryz.prog) (t:=3) (k:=.i64) (x:=(.tmp 10)) (y:=(.const (.int .i64 1))) (a:=x10) (b:=1) (c:=(wrap64 (x10 + 1))) (IntWalk.i64_left _)))))))) (by kernel_rfl)
     ·exact leafBack (hn:=hn37) 27 [.val (.bool true),.elem (.agg [vi ((rd_T43 x8 x10).f0),vi ((rd_T43 x8 x10).f1)]),.val (.bool true),.val (.int .i64 (wrap64 (x5 + 1))),.val (.bool false),.val (.int .i64 (wrap64 (x10 + 1)))] [] (q37_l0_mk h10) (Nat.lt_succ_self k) (And.intro (int_lss (P:=Tryz.prog) (t:=3) (k:=.i64) (x:=(.tmp 10)) (y:=(.tmp 9)) (a:=x10) (b:=x9) (v:=true) (decide_eq_true g1)) (And.intro (iS43_rd (xs:=x8) (i:=x10) g3 g5) (And.intro (int_eql (P:=Tryz.prog) (t:=3) (k:=.i64) (x:=(.tmp 15)) (y:=(.tmp 16)) (a:=((rd_T43 x8 x10).f0)) (b:=x1) (v:=true) (beq_iff_eq.2 g7)) (And.intro (int_add (P:=Tryz.prog) (t:=3) (k:=.i64) (x:=(.tmp 18)) (y:=(.const (.int .i64 1))) (a:=x5) (b:=1) (c:=(wrap64 (x5 + 1))) (IntWalk.i64_left _)) (And.intro (int_eql (P:=Tryz.prog) (t:=3) (k:=.i64) (x:=(.tmp 21)) (y:=(.tmp 22)) (a:=((rd_T43 x8 x10).f1)) (b:=x1) (v:=false) (beq_false_of_ne g9)) (int_add (P:=Tryz.prog) (t:=3) (k:=.i64) (x:=(.tmp 10)) (y:=(.const (.int .i64 1))) (a:=x10) (b:=1) (c:=(wrap64 (x10 + 1))) (IntWalk.i64_left _))))))) (by kernel_rfl)
    ·rcases ite_ h8 with ⟨g11,h12⟩ | ⟨g11,h12⟩
     ·exact leafBack (hn:=hn37) 27 [.val (.bool true),.elem (.agg [vi ((rd_T43 x8 x10).f0),vi ((rd_T43 x8 x10).f1)]),.val (.bool false),.val (.bool true),.val (.int .i64 (wrap64 (x5 + 1))),.val (.int .i64 (wrap64 (x10 + 1)))] [] (q37_l0_mk h12) (Nat.lt_succ_self k) (And.intro (int_lss (P:=Tryz.prog) (t:=3) (k:=.i64) (x:=(.tmp 10)) (y:=(.tmp 9)) (a:=x10) (b:=x9) (v:=true) (decide_eq_true g1)) (And.intro (iS43_rd (xs:=x8) (i:=x10) g3 g5) (And.intro (int_eql (P:=Tryz.prog) (t:=3) (k:=.i64) (x:=(.tmp 15)) (y:=(.tmp 16)) (a:=((rd_T43 x8 x10).f0)) (b:=x1) (v:=false) (beq_false_of_ne g7)) (And.intro (int_eql (P:=Tryz.prog) (t:=3) (k:=.i64) (x:=(.tmp 21)) (y:=(.tmp 22)) (a:=((rd_T43 x8 x10).f1)) (b:=x1) (v:=true) (beq_iff_eq.2 g11)) (And.intro (int_add (P:=Tryz.prog) (t:=3) (k:=.i64) (x:=(.tmp 24)) (y:=(.const (.int .i64 1))) (a:=x5) (b:=1) (c:=(wrap64 (x5 + 1))) (IntWalk.i64_left _)) (int_add (P:=Tryz.prog) (t:=3) (k:=.i64) (x:=(.tmp 10)) (y:=(.const (.int .i64 1))) (a:=x10) (b:=1) (c:=(wrap64 (x10 + 1))) (IntWalk.i64_left _))))))) (by kernel_rfl)
     ·exact leafBack (hn:=hn37) 27 [.val (.bool true),.elem (.agg [vi ((rd_T43 x8 x10).f0),vi ((rd_T43 x8 x10).f1)]),.val (.bool false),.val (.bool false),.val (.int .i64 (wrap64 (x10 + 1)))] [] (q37_l0_mk h12) (Nat.lt_succ_self k) (And.intro (int_lss (P:=Tryz.prog) (t:=3) (k:=.i64) (x:=(.tmp 10)) (y:=(.tmp 9)) (a:=x10) (b:=x9) (v:=true) (decide_eq_true g1)) (And.intro (iS43_rd (xs:=x8) (i:=x10) g3 g5) (And.intro (int_eql (P:=Tryz.prog) (t:=3) (k:=.i64) (x:=(.tmp 15)) (y:=(.tmp 16)) (a:=((rd_T43 x8 x10).f0)) (b:=x1) (v:=false) (beq_false_of_ne g7)) (And.intro (int_eql (P:=Tryz.prog) (t:=3) (k:=.i64) (x:=(.tmp 21)) (y:=(.tmp 22)) (a:=((rd_T43 x8 x10).f1)) (b:=x1) (v:=false) (beq_false_of_ne g11)) (int_add (P:=Tryz.prog) (t:=3) (k:=.i64) (x:=(.tmp 10)) (y:=(.const (.int .i64 1))) (a:=x10) (b:=1) (c:=(wrap64 (x10 + 1))) (IntWalk.i64_left _)))))) (by kernel_rfl)
   ·obtain rfl:=Option.some.inj h2
    exact leafRet (hn:=hn37) 14 [.val (.bool false)] [] .ret (.inr rfl) (by kernel_rfl) (int_lss (P:=Tryz.prog) (t:=3) (k:=.i64) (x:=(.tmp 10)) (y:=(.tmp 9)) (a:=x10) (b:=x9) (v:=false) (decide_eq_false g1)) (by kernel_rfl))
set_option maxRecDepth 100000 in
theorem ad_37 {k:Nat} {l0:List (S43)} {a1:Int} {r:Int} (h:spec_tiTimes.f k l0 a1 = some r):CallH Tryz.prog 37 [.sl (iS43 l0),vi a1] [] (vi r) []:=by
 unfold spec_tiTimes.f at h
 refine call_ok (c:=bodyOf Tryz.f37) (rs:=o37 r) (post:=p37 r) Tryz.func37 rfl rfl rfl (by kernel_rfl) ?_
 show AtP Tryz.prog 28 (bodyOf Tryz.f37) (KR Tryz.prog Tryz.f37.results.toList (o37 r) (p37 r)) [] [] (lookA [(0,.sl (iS43 l0)),(1,vi a1)])
 exact leafAt (hn:=hn37) 11 [.val (.int .i64 (l0.length:Int))] [] (at37_l0 _ _ (q37_l0_mk h)) (iS43_len (xs:=l0)) (by kernel_rfl)

def hn9:Hint:=⟨[(17,[26]),(19,[41])],[]⟩
def o9 (r:List Int × Bool):List AV:=[.sl (iI .i64 r.1),vb r.2]
def p9 (r:List Int × Bool):List (Nat × AV):=[]
def q9_l0 (r:List Int × Bool) (k:Nat) (L:List (Nat × AV)):Prop:=∃ (x0:List (S43)) (x4:List Int) (x5:Int),L = [(0,.sl (iS43 x0)),(4,.row 26),(5,vi x5),(26,.ow false 3 (iI .i64 x4))] ∧ spec_NumbersOf.l0 k x0 x4 x5 = some r
theorem q9_l0_mk {r:List Int × Bool} {k:Nat} {x0:List (S43)} {x4:List Int} {x5:Int} (h:spec_NumbersOf.l0 k x0 x4 x5 = some r):q9_l0 r k [(0,.sl (iS43 x0)),(4,.row 26),(5,vi x5),(26,.ow false 3 (iI .i64 x4))]:=⟨x0,x4,x5,rfl,h⟩
set_option maxRecDepth 100000 in
theorem at9_l0 {r:List Int × Bool}:∀ k L,q9_l0 r k L → AtP Tryz.prog 22 (bodyOf Tryz.f9) (KR Tryz.prog Tryz.f9.results.toList (o9 r) (p9 r)) [true,true,true,false,true,false] [] (lookA L) :=
 at_loop (by kernel_rfl) (fun _ => by kernel_rfl) (q9_l0 r) (by
  rintro k _ ⟨x0,x4,x5,rfl,h⟩
  cases k with
  | zero => simp [spec_NumbersOf.l0] at h
  | succ k =>
   rw [spec_NumbersOf.l0] at h
   rcases ite_ h with ⟨g1,h2⟩ | ⟨g1,h2⟩
   ·obtain ⟨t345,c3,h4⟩:=bd_ h2
    rcases ite_ h4 with ⟨g5,h6⟩ | ⟨g5,h6⟩
    ·obtain ⟨g7,h8⟩:=ip_ h6
     exact leafBack (hn:=hn9) 17 [.val (.bool true),.call (vi t345),.val (.bool true),.go,.elem (.ow false 3 (iI .i64 (x4 ++ ([x5])))),.val (.int .i64 (wrap64 (x5 + 1)))] [(26,42)] (q9_l0_mk h8) (Nat.lt_succ_self k) (And.intro (int_leq (P:=Tryz.prog) (t:=3) (k:=.i64) (x:=(.tmp 9)) (y:=(.const (.int .i64 9))) (a:=x5) (b:=9) (v:=true) (decide_eq_true g1)) (And.intro (And.intro (ad_37 c3) (int_gtr (P:=Tryz.prog) (t:=3) (k:=.i64) (x:=(.tmp 15)) (y:=(.const (.int .i64 0))) (a:=t345) (b:=0) (v:=true) (decide_eq_true g5))) (And.intro (iI_app (k:=.i64) (N:=17592186044416) (b:=8) (xs:=x4) (ys:=[x5]) (by decide) (Nat.succ_le_of_lt g7)) (int_add (P:=Tryz.prog) (t:=3) (k:=.i64) (x:=(.tmp 11)) (y:=(.const (.int .i64 1))) (a:=x5) (b:=1) (c:=(wrap64 (x5 + 1))) (IntWalk.i64_left _))))) (by kernel_rfl)
    ·exact leafBack (hn:=hn9) 17 [.val (.bool true),.call (vi t345),.val (.bool false),.val (.int .i64 (wrap64 (x5 + 1)))] [] (q9_l0_mk h6) (Nat.lt_succ_self k) (And.intro (int_leq (P:=Tryz.prog) (t:=3) (k:=.i64) (x:=(.tmp 9)) (y:=(.const (.int .i64 9))) (a:=x5) (b:=9) (v:=true) (decide_eq_true g1)) (And.intro (And.intro (ad_37 c3) (int_gtr (P:=Tryz.prog) (t:=3) (k:=.i64) (x:=(.tmp 15)) (y:=(.const (.int .i64 0))) (a:=t345) (b:=0) (v:=false) (decide_eq_false g5))) (int_add (P:=Tryz.prog) (t:=3) (k:=.i64) (x:=(.tmp 11)) (y:=(.const (.int .i64 1))) (a:=x5) (b:=1) (c:=(wrap64 (x5 + 1))) (IntWalk.i64_left _)))) (by kernel_rfl)
   ·obtain rfl:=Option.some.inj h2
    exact leafRet (hn:=hn9) 14 [.val (.bool false)] [] .ret (.inr rfl) (by kernel_rfl) (int_leq (P:=Tryz.prog) (t:=3) (k:=.i64) (x:=(.tmp 9)) (y:=(.const (.int .i64 9))) (a:=x5) (b:=9) (v:=false) (decide_eq_false g1)) (by kernel_rfl))
set_option maxRecDepth 100000 in
theorem ad_9 {k:Nat} {l0:List (S43)} {r1:List Int} {r2:Bool} (h:spec_NumbersOf.f k l0 = some (r1,r2)):CallH Tryz.prog 9 [.sl (iS43 l0)] [] (.tup [.sl (iI .i64 r1),vb r2]) []:=by
 unfold spec_NumbersOf.f at h
 refine call_ok (c:=bodyOf Tryz.f9) (rs:=o9 (r1,r2)) (post:=p9 (r1,r2)) Tryz.func9 rfl rfl rfl (by kernel_rfl) ?_
 show AtP Tryz.prog 22 (bodyOf Tryz.f9) (KR Tryz.prog Tryz.f9.results.toList (o9 (r1,r2)) (p9 (r1,r2))) [] [] (lookA [(0,.sl (iS43 l0))])
 obtain ⟨t344,c1,h2⟩:=bd_ h
 rcases ite_ h2 with ⟨g3,h4⟩ | ⟨g3,h4⟩
 ·subst g3
  exact leafAt (hn:=hn9) 18 [.goT,.call (vb true),.nil false 3] [] (at9_l0 _ _ (q9_l0_mk h4)) (ad_32 c1) (by kernel_rfl)
 ·obtain rfl:=Bool.eq_false_iff.2 g3
  obtain ⟨rfl,rfl⟩:=pr2_ h4
  exact leafRet (hn:=hn9) 13 [.goT,.call (vb false),.goT] [] .ret (.inr rfl) (by kernel_rfl) (ad_32 c1) (by kernel_rfl)

def hn69:Hint:=⟨[(3,[9]),(5,[9])],[]⟩
def o69 (r:Bool):List AV:=[vb r]
def p69 (r:Bool):List (Nat × AV):=[]
set_option maxRecDepth 100000 in
theorem ad_69 {a0_0:Int} {a0_1:Int} {r:Bool} (h:impl_isDouble.f a0_0 a0_1 = some r):CallH Tryz.prog 69 [.agg [vi a0_0,vi a0_1]] [] (vb r) []:=by
 unfold impl_isDouble.f at h
 refine call_ok (c:=bodyOf Tryz.f69) (rs:=o69 r) (post:=p69 r) Tryz.func69 rfl rfl rfl (by kernel_rfl) ?_
 show AtP Tryz.prog 8 (bodyOf Tryz.f69) (KR Tryz.prog Tryz.f69.results.toList (o69 r) (p69 r)) [] [] (lookA [(0,.agg [vi a0_0,vi a0_1])])
 obtain rfl:=Option.some.inj h
 exact leafRet (hn:=hn69) 7 [.val (.bool (a0_0 == a0_1))] [] .ret (.inr rfl) (by kernel_rfl) (int_eql (P:=Tryz.prog) (t:=3) (k:=.i64) (x:=(.tmp 4)) (y:=(.tmp 6)) (a:=a0_0) (b:=a0_1) (v:=(a0_0 == a0_1)) rfl) (by kernel_rfl)

def hn38:Hint:=⟨[(5,[28]),(8,[31]),(12,[31]),(16,[29]),(17,[28]),(19,[42])],[]⟩
def o38 (r:List Int):List AV:=[.sl (iI .i64 r)]
def p38 (r:List Int):List (Nat × AV):=[]
def q38_l0 (r:List Int) (k:Nat) (L:List (Nat × AV)):Prop:=∃ (x3:List Int) (x8:List (S43)) (x9:Int) (x10:Int),L = [(3,.row 29),(8,.row 31),(9,vi x9),(10,vi x10),(29,.ow false 3 (iI .i64 x3)),(31,.ow true 43 (iS43 x8))] ∧ impl_doubles.l0 k x3 x8 x9 x10 = some r
theorem q38_l0_mk {r:List Int} {k:Nat} {x3:List Int} {x8:List (S43)} {x9:Int} {x10:Int} (h:impl_doubles.l0 k x3 x8 x9 x10 = some r):q38_l0 r k [(3,.row 29),(8,.row 31),(9,vi x9),(10,vi x10),(29,.ow false 3 (iI .i64 x3)),(31,.ow true 43 (iS43 x8))]:=⟨x3,x8,x9,x10,rfl,h⟩
set_option maxRecDepth 100000 in
theorem at38_l0 {r:List Int}:∀ k L,q38_l0 r k L → AtP Tryz.prog 23 (bodyOf Tryz.f38) (KR Tryz.prog Tryz.f38.results.toList (o38 r) (p38 r)) [true,true,false,true,false] [] (lookA L) :=
 at_loop (by kernel_rfl) (fun _ => by kernel_rfl) (q38_l0 r) (by
  rintro k _ ⟨x3,x8,x9,x10,rfl,h⟩
  cases k with
  | zero => simp [impl_doubles.l0] at h
  | succ k =>
   rw [impl_doubles.l0] at h
   rcases ite_ h with ⟨g1,h2⟩ | ⟨g1,h2⟩
   ·obtain ⟨g3,h4⟩:=ip_ h2
    obtain ⟨g5,h6⟩:=ip_ h4
    obtain ⟨t358,c7,h8⟩:=bd_ h6
    rcases ite_ h8 with ⟨g9,h10⟩ | ⟨g9,h10⟩
    ·subst g9
     obtain ⟨g11,h12⟩:=ip_ h10
     exact leafBack (hn:=hn38) 20 [.val (.bool true),.go,.elem (.agg [vi ((rd_T43 x8 x10).f0),vi ((rd_T43 x8 x10).f1)]),.call (vb true),.go,.elem (.ow false 3 (iI .i64 (x3 ++ ([(rd_T43 x8 x10).f0])))),.val (.int .i64 (wrap64 (x10 + 1)))] [(29,43)] (q38_l0_mk h12) (Nat.lt_succ_self k) (And.intro (int_lss (P:=Tryz.prog) (t:=3) (k:=.i64) (x:=(.tmp 10)) (y:=(.tmp 9)) (a:=x10) (b:=x9) (v:=true) (decide_eq_true g1)) (And.intro (And.intro (iS43_lt (xs:=x8) (i:=x10) g3 g5) (And.right (iS43_rd (xs:=x8) (i:=x10) g3 g5))) (And.intro (ad_69 c7) (And.intro (iI_app (k:=.i64) (N:=17592186044416) (b:=8) (xs:=x3) (ys:=[(rd_T43 x8 x10).f0]) (by decide) (Nat.succ_le_of_lt g11)) (int_add (P:=Tryz.prog) (t:=3) (k:=.i64) (x:=(.tmp 10)) (y:=(.const (.int .i64 1))) (a:=x10) (b:=1) (c:=(wrap64 (x10 + 1))) (IntWalk.i64_left _)))))) (by kernel_rfl)
    ·obtain rfl:=Bool.eq_false_iff.2 g9
     exact leafBack (hn:=hn38) 20 [.val (.bool true),.go,.elem (.agg [vi ((rd_T43 x8 x10).f0),vi ((rd_T43 x8 x10).f1)]),.call (vb false),.val (.int .i64 (wrap64 (x10 + 1)))] [] (q38_l0_mk h10) (Nat.lt_succ_self k) (And.intro (int_lss (P:=Tryz.prog) (t:=3) (k:=.i64) (x:=(.tmp 10)) (y:=(.tmp 9)) (a:=x10) (b:=x9) (v:=true) (decide_eq_true g1)) (And.intro (And.intro (iS43_lt (xs:=x8) (i:=x10) g3 g5) (And.right (iS43_rd (xs:=x8) (i:=x10) g3 g5))) (And.intro (ad_69 c7) (int_add (P:=Tryz.prog) (t:=3) (k:=.i64) (x:=(.tmp 10)) (y:=(.const (.int .i64 1))) (a:=x10) (b:=1) (c:=(wrap64 (x10 + 1))) (IntWalk.i64_left _))))) (by kernel_rfl)
   ·obtain rfl:=Option.some.inj h2
    exact leafRet (hn:=hn38) 14 [.val (.bool false)] [] .ret (.inr rfl) (by kernel_rfl) (int_lss (P:=Tryz.prog) (t:=3) (k:=.i64) (x:=(.tmp 10)) (y:=(.tmp 9)) (a:=x10) (b:=x9) (v:=false) (decide_eq_false g1)) (by kernel_rfl))
set_option maxRecDepth 100000 in
theorem ad_38 {k:Nat} {l0:List (S43)} {r:List Int} (h:impl_doubles.f k l0 = some r):CallH Tryz.prog 38 [.sl (iS43 l0)] [] (.sl (iI .i64 r)) []:=by
 unfold impl_doubles.f at h
 refine call_ok (c:=bodyOf Tryz.f38) (rs:=o38 r) (post:=p38 r) Tryz.func38 rfl rfl rfl (by kernel_rfl) ?_
 show AtP Tryz.prog 23 (bodyOf Tryz.f38) (KR Tryz.prog Tryz.f38.results.toList (o38 r) (p38 r)) [] [] (lookA [(0,.sl (iS43 l0))])
 obtain ⟨t353,c1,h2⟩:=bd_ h
 exact leafAt (hn:=hn38) 11 [.goT,.go,.callH [] (.row 31) [(31,.ow true 43 (iS43 t353))],.val (.int .i64 (t353.length:Int))] [] (at38_l0 _ _ (q38_l0_mk h2)) (And.intro (CallH.ren [(500000,31)] rfl rfl (ad_63 c1)) (iS43_len (xs:=t353))) (by kernel_rfl)

def hn10:Hint:=⟨[],[]⟩
def o10 (r:List Int × Bool):List AV:=[.sl (iI .i64 r.1),vb r.2]
def p10 (r:List Int × Bool):List (Nat × AV):=[]
set_option maxRecDepth 100000 in
theorem ad_10 {k:Nat} {l0:List (S43)} {r1:List Int} {r2:Bool} (h:impl_DoublesOf.f k l0 = some (r1,r2)):CallH Tryz.prog 10 [.sl (iS43 l0)] [] (.tup [.sl (iI .i64 r1),vb r2]) []:=by
 unfold impl_DoublesOf.f at h
 refine call_ok (c:=bodyOf Tryz.f10) (rs:=o10 (r1,r2)) (post:=p10 (r1,r2)) Tryz.func10 rfl rfl rfl (by kernel_rfl) ?_
 show AtP Tryz.prog 9 (bodyOf Tryz.f10) (KR Tryz.prog Tryz.f10.results.toList (o10 (r1,r2)) (p10 (r1,r2))) [] [] (lookA [(0,.sl (iS43 l0))])
 obtain ⟨t362,c1,h2⟩:=bd_ h
 rcases ite_ h2 with ⟨g3,h4⟩ | ⟨g3,h4⟩
 ·subst g3
  obtain ⟨t363,c5,h6⟩:=bd_ h4
  obtain ⟨rfl,rfl⟩:=pr2_ h6
  exact leafRet (hn:=hn10) 14 [.goT,.call (vb true),.call (.sl (iI .i64 t363))] [] .ret (.inr rfl) (by kernel_rfl) (And.intro (ad_16 c1) (ad_38 c5)) (by kernel_rfl)
 ·obtain rfl:=Bool.eq_false_iff.2 g3
  obtain ⟨rfl,rfl⟩:=pr2_ h4
  exact leafRet (hn:=hn10) 13 [.goT,.call (vb false),.goT] [] .ret (.inr rfl) (by kernel_rfl) (ad_16 c1) (by kernel_rfl)

def hn11:Hint:=⟨[(6,[35]),(17,[35]),(19,[35]),(22,[33]),(23,[35]),(25,[54])],[]⟩
def o11 (r:List Int × Bool):List AV:=[.sl (iI .i64 r.1),vb r.2]
def p11 (r:List Int × Bool):List (Nat × AV):=[]
def q11_l0 (r:List Int × Bool) (k:Nat) (L:List (Nat × AV)):Prop:=∃ (x4:List Int) (x11:List (S43)) (x12:Int) (x13:Int),L = [(4,.row 33),(11,.sl (iS43 x11)),(12,vi x12),(13,vi x13),(33,.ow false 3 (iI .i64 x4))] ∧ spec_DoublesOf.l0 k x4 x11 x12 x13 = some r
theorem q11_l0_mk {r:List Int × Bool} {k:Nat} {x4:List Int} {x11:List (S43)} {x12:Int} {x13:Int} (h:spec_DoublesOf.l0 k x4 x11 x12 x13 = some r):q11_l0 r k [(4,.row 33),(11,.sl (iS43 x11)),(12,vi x12),(13,vi x13),(33,.ow false 3 (iI .i64 x4))]:=⟨x4,x11,x12,x13,rfl,h⟩
set_option maxRecDepth 100000 in
theorem at11_l0 {r:List Int × Bool}:∀ k L,q11_l0 r k L → AtP Tryz.prog 29 (bodyOf Tryz.f11) (KR Tryz.prog Tryz.f11.results.toList (o11 r) (p11 r)) [true,true,true,false,true,false] [] (lookA L) :=
 at_loop (by kernel_rfl) (fun _ => by kernel_rfl) (q11_l0 r) (by
  rintro k _ ⟨x4,x11,x12,x13,rfl,h⟩
  cases k with
  | zero => simp [spec_DoublesOf.l0] at h
  | succ k =>
   rw [spec_DoublesOf.l0] at h
   rcases ite_ h with ⟨g1,h2⟩ | ⟨g1,h2⟩
   ·obtain ⟨g3,h4⟩:=ip_ h2
    obtain ⟨g5,h6⟩:=ip_ h4
    rcases ite_ h6 with ⟨g7,h8⟩ | ⟨g7,h8⟩
    ·obtain ⟨g9,h10⟩:=ip_ h8
     exact leafBack (hn:=hn11) 20 [.val (.bool true),.elem (.agg [vi ((rd_T43 x11 x13).f0),vi ((rd_T43 x11 x13).f1)]),.val (.bool true),.go,.elem (.ow false 3 (iI .i64 (x4 ++ ([(rd_T43 x11 x13).f0])))),.val (.int .i64 (wrap64 (x13 + 1)))] [(33,55)] (q11_l0_mk h10) (Nat.lt_succ_self k) (And.intro (int_lss (P:=Tryz.prog) (t:=3) (k:=.i64) (x:=(.tmp 13)) (y:=(.tmp 12)) (a:=x13) (b:=x12) (v:=true) (decide_eq_true g1)) (And.intro (iS43_rd (xs:=x11) (i:=x13) g3 g5) (And.intro (int_eql (P:=Tryz.prog) (t:=3) (k:=.i64) (x:=(.tmp 18)) (y:=(.tmp 20)) (a:=((rd_T43 x11 x13).f0)) (b:=((rd_T43 x11 x13).f1)) (v:=true) (beq_iff_eq.2 g7)) (And.intro (iI_app (k:=.i64) (N:=17592186044416) (b:=8) (xs:=x4) (ys:=[(rd_T43 x11 x13).f0]) (by decide) (Nat.succ_le_of_lt g9)) (int_add (P:=Tryz.prog) (t:=3) (k:=.i64) (x:=(.tmp 13)) (y:=(.const (.int .i64 1))) (a:=x13) (b:=1) (c:=(wrap64 (x13 + 1))) (IntWalk.i64_left _)))))) (by kernel_rfl)
    ·exact leafBack (hn:=hn11) 20 [.val (.bool true),.elem (.agg [vi ((rd_T43 x11 x13).f0),vi ((rd_T43 x11 x13).f1)]),.val (.bool false),.val (.int .i64 (wrap64 (x13 + 1)))] [] (q11_l0_mk h8) (Nat.lt_succ_self k) (And.intro (int_lss (P:=Tryz.prog) (t:=3) (k:=.i64) (x:=(.tmp 13)) (y:=(.tmp 12)) (a:=x13) (b:=x12) (v:=true) (decide_eq_true g1)) (And.intro (iS43_rd (xs:=x11) (i:=x13) g3 g5) (And.intro (int_eql (P:=Tryz.prog) (t:=3) (k:=.i64) (x:=(.tmp 18)) (y:=(.tmp 20)) (a:=((rd_T43 x11 x13).f0)) (b:=((rd_T43 x11 x13).f1)) (v:=false) (beq_false_of_ne g7)) (int_add (P:=Tryz.prog) (t:=3) (k:=.i64) (x:=(.tmp 13)) (y:=(.const (.int .i64 1))) (a:=x13) (b:=1) (c:=(wrap64 (x13 + 1))) (IntWalk.i64_left _))))) (by kernel_rfl)
   ·obtain rfl:=Option.some.inj h2
    exact leafRet (hn:=hn11) 14 [.val (.bool false)] [] .ret (.inr rfl) (by kernel_rfl) (int_lss (P:=Tryz.prog) (t:=3) (k:=.i64) (x:=(.tmp 13)) (y:=(.tmp 12)) (a:=x13) (b:=x12) (v:=false) (decide_eq_false g1)) (by kernel_rfl))
set_option maxRecDepth 100000 in
theorem ad_11 {k:Nat} {l0:List (S43)} {r1:List Int} {r2:Bool} (h:spec_DoublesOf.f k l0 = some (r1,r2)):CallH Tryz.prog 11 [.sl (iS43 l0)] [] (.tup [.sl (iI .i64 r1),vb r2]) []:=by
 unfold spec_DoublesOf.f at h
 refine call_ok (c:=bodyOf Tryz.f11) (rs:=o11 (r1,r2)) (post:=p11 (r1,r2)) Tryz.func11 rfl rfl rfl (by kernel_rfl) ?_
 show AtP Tryz.prog 29 (bodyOf Tryz.f11) (KR Tryz.prog Tryz.f11.results.toList (o11 (r1,r2)) (p11 (r1,r2))) [] [] (lookA [(0,.sl (iS43 l0))])
 obtain ⟨t366,c1,h2⟩:=bd_ h
 rcases ite_ h2 with ⟨g3,h4⟩ | ⟨g3,h4⟩
 ·subst g3
  obtain ⟨t367,c5,h6⟩:=bd_ h4
  exact leafAt (hn:=hn11) 18 [.goT,.call (vb true),.nil false 3,.call (.sl (iS43 t367)),.val (.int .i64 (t367.length:Int))] [] (at11_l0 _ _ (q11_l0_mk h6)) (And.intro (ad_32 c1) (And.intro (ad_35 c5) (iS43_len (xs:=t367)))) (by kernel_rfl)
 ·obtain rfl:=Bool.eq_false_iff.2 g3
  obtain ⟨rfl,rfl⟩:=pr2_ h4
  exact leafRet (hn:=hn11) 13 [.goT,.call (vb false),.goT] [] .ret (.inr rfl) (by kernel_rfl) (ad_32 c1) (by kernel_rfl)

def hn39:Hint:=⟨[(5,[29]),(16,[33]),(19,[43]),(22,[33])],[]⟩
def o39 (r:ByteArray):List AV:=[.val (.string r)]
def p39 (r:ByteArray):List (Nat × AV):=[]
def q39_l0 (r:ByteArray) (k:Nat) (L:List (Nat × AV)):Prop:=∃ (x3:List ByteArray) (x10:List (S43)) (x11:Int) (x12:Int),L = [(3,.row 33),(10,.sl (iS43 x10)),(11,vi x11),(12,vi x12),(33,.ow false 9 (iStr x3))] ∧ impl_handText.l0 k x3 x10 x11 x12 = some r
theorem q39_l0_mk {r:ByteArray} {k:Nat} {x3:List ByteArray} {x10:List (S43)} {x11:Int} {x12:Int} (h:impl_handText.l0 k x3 x10 x11 x12 = some r):q39_l0 r k [(3,.row 33),(10,.sl (iS43 x10)),(11,vi x11),(12,vi x12),(33,.ow false 9 (iStr x3))]:=⟨x3,x10,x11,x12,rfl,h⟩
set_option maxRecDepth 100000 in
theorem at39_l0 {r:ByteArray}:∀ k L,q39_l0 r k L → AtP Tryz.prog 24 (bodyOf Tryz.f39) (KR Tryz.prog Tryz.f39.results.toList (o39 r) (p39 r)) [true,true,true,false,true,false] [] (lookA L) :=
 at_loop (by kernel_rfl) (fun _ => by kernel_rfl) (q39_l0 r) (by
  rintro k _ ⟨x3,x10,x11,x12,rfl,h⟩
  cases k with
  | zero => simp [impl_handText.l0] at h
  | succ k =>
   rw [impl_handText.l0] at h
   rcases ite_ h with ⟨g1,h2⟩ | ⟨g1,h2⟩
   ·obtain ⟨g3,h4⟩:=ip_ h2
    obtain ⟨g5,h6⟩:=ip_ h4
    obtain ⟨t384,c7,h8⟩:=bd_ h6
    obtain ⟨g9,h10⟩:=ip_ h8
    exact leafBack (hn:=hn39) 16 [.val (.bool true),.elem (.agg [vi ((rd_T43 x10 x12).f0),vi ((rd_T43 x10 x12).f1)]),.call (.val (.string t384)),.go,.elem (.ow false 9 (iStr (x3 ++ ([t384])))),.val (.int .i64 (wrap64 (x12 + 1)))] [(33,44)] (q39_l0_mk h10) (Nat.lt_succ_self k) (And.intro (int_lss (P:=Tryz.prog) (t:=3) (k:=.i64) (x:=(.tmp 12)) (y:=(.tmp 11)) (a:=x12) (b:=x11) (v:=true) (decide_eq_true g1)) (And.intro (iS43_rd (xs:=x10) (i:=x12) g3 g5) (And.intro (And.intro (ad_70 c7) (iStr_app (N:=8796093022208) (b:=16) (xs:=x3) (ys:=[t384]) (by decide) (Nat.succ_le_of_lt g9))) (int_add (P:=Tryz.prog) (t:=3) (k:=.i64) (x:=(.tmp 12)) (y:=(.const (.int .i64 1))) (a:=x12) (b:=1) (c:=(wrap64 (x12 + 1))) (IntWalk.i64_left _))))) (by kernel_rfl)
   ·obtain ⟨t388,c11,h12⟩:=bd_ h2
    obtain rfl:=Option.some.inj h12
    exact leafRet (hn:=hn39) 14 [.val (.bool false),.call (.val (.string t388))] [] .ret (.inr rfl) (by kernel_rfl) (And.intro (int_lss (P:=Tryz.prog) (t:=3) (k:=.i64) (x:=(.tmp 12)) (y:=(.tmp 11)) (a:=x12) (b:=x11) (v:=false) (decide_eq_false g1)) (ad_71 c11)) (by kernel_rfl))
set_option maxRecDepth 100000 in
theorem ad_39 {k:Nat} {l0:List (S43)} {r:ByteArray} (h:impl_handText.f k l0 = some r):CallH Tryz.prog 39 [.sl (iS43 l0)] [] (.val (.string r)) []:=by
 unfold impl_handText.f at h
 refine call_ok (c:=bodyOf Tryz.f39) (rs:=o39 r) (post:=p39 r) Tryz.func39 rfl rfl rfl (by kernel_rfl) ?_
 show AtP Tryz.prog 24 (bodyOf Tryz.f39) (KR Tryz.prog Tryz.f39.results.toList (o39 r) (p39 r)) [] [] (lookA [(0,.sl (iS43 l0))])
 rcases ite_ h with ⟨g1,h2⟩ | ⟨g1,h2⟩
 ·obtain rfl:=Option.some.inj h2
  exact leafRet (hn:=hn39) 13 [.val (.int .i64 (l0.length:Int)),.val (.bool true)] [] .ret (.inr rfl) (by kernel_rfl) (And.intro (iS43_len (xs:=l0)) (int_eql (P:=Tryz.prog) (t:=3) (k:=.i64) (x:=(.tmp 7)) (y:=(.const (.int .i64 0))) (a:=(l0.length:Int)) (b:=0) (v:=true) (beq_iff_eq.2 g1))) (by kernel_rfl)
 ·exact leafAt (hn:=hn39) 18 [.val (.int .i64 (l0.length:Int)),.val (.bool false),.go,.val (.int .i64 (l0.length:Int))] [] (at39_l0 _ _ (q39_l0_mk h2)) (And.intro (And.intro (iS43_len (xs:=l0)) (int_eql (P:=Tryz.prog) (t:=3) (k:=.i64) (x:=(.tmp 7)) (y:=(.const (.int .i64 0))) (a:=(l0.length:Int)) (b:=0) (v:=false) (beq_false_of_ne g1))) (iS43_len (xs:=l0))) (by kernel_rfl)

def hn12:Hint:=⟨[],[]⟩
def o12 (r:ByteArray × Bool):List AV:=[.val (.string r.1),vb r.2]
def p12 (r:ByteArray × Bool):List (Nat × AV):=[]
set_option maxRecDepth 100000 in
theorem ad_12 {k:Nat} {l0:List (S43)} {r1:ByteArray} {r2:Bool} (h:impl_HandText.f k l0 = some (r1,r2)):CallH Tryz.prog 12 [.sl (iS43 l0)] [] (.tup [.val (.string r1),vb r2]) []:=by
 unfold impl_HandText.f at h
 refine call_ok (c:=bodyOf Tryz.f12) (rs:=o12 (r1,r2)) (post:=p12 (r1,r2)) Tryz.func12 rfl rfl rfl (by kernel_rfl) ?_
 show AtP Tryz.prog 9 (bodyOf Tryz.f12) (KR Tryz.prog Tryz.f12.results.toList (o12 (r1,r2)) (p12 (r1,r2))) [] [] (lookA [(0,.sl (iS43 l0))])
 obtain ⟨t389,c1,h2⟩:=bd_ h
 rcases ite_ h2 with ⟨g3,h4⟩ | ⟨g3,h4⟩
 ·subst g3
  obtain ⟨t390,c5,h6⟩:=bd_ h4
  obtain ⟨rfl,rfl⟩:=pr2_ h6
  exact leafRet (hn:=hn12) 14 [.call (vb true),.call (.val (.string t390))] [] .ret (.inr rfl) (by kernel_rfl) (And.intro (ad_16 c1) (ad_39 c5)) (by kernel_rfl)
 ·obtain rfl:=Bool.eq_false_iff.2 g3
  obtain ⟨rfl,rfl⟩:=pr2_ h4
  exact leafRet (hn:=hn12) 13 [.call (vb false)] [] .ret (.inr rfl) (by kernel_rfl) (ad_16 c1) (by kernel_rfl)

def hn40:Hint:=⟨[(5,[36]),(21,[36]),(24,[36])],[]⟩
def o40 (r:ByteArray):List AV:=[.val (.string r)]
def p40 (r:ByteArray):List (Nat × AV):=[]
def q40_l0 (r:ByteArray) (k:Nat) (L:List (Nat × AV)):Prop:=∃ (x3:ByteArray) (x9:List (S43)) (x10:Int) (x11:Int),L = [(3,.val (.string x3)),(9,.sl (iS43 x9)),(10,vi x10),(11,vi x11)] ∧ spec_tiText.l0 k x3 x9 x10 x11 = some r
theorem q40_l0_mk {r:ByteArray} {k:Nat} {x3:ByteArray} {x9:List (S43)} {x10:Int} {x11:Int} (h:spec_tiText.l0 k x3 x9 x10 x11 = some r):q40_l0 r k [(3,.val (.string x3)),(9,.sl (iS43 x9)),(10,vi x10),(11,vi x11)]:=⟨x3,x9,x10,x11,rfl,h⟩
set_option maxRecDepth 100000 in
theorem at40_l0 {r:ByteArray}:∀ k L,q40_l0 r k L → AtP Tryz.prog 31 (bodyOf Tryz.f40) (KR Tryz.prog Tryz.f40.results.toList (o40 r) (p40 r)) [true,true,true,false,true,false] [] (lookA L) :=
 at_loop (by kernel_rfl) (fun _ => by kernel_rfl) (q40_l0 r) (by
  rintro k _ ⟨x3,x9,x10,x11,rfl,h⟩
  cases k with
  | zero => simp [spec_tiText.l0] at h
  | succ k =>
   rw [spec_tiText.l0] at h
   rcases ite_ h with ⟨g1,h2⟩ | ⟨g1,h2⟩
   ·obtain ⟨g3,h4⟩:=ip_ h2
    obtain ⟨g5,h6⟩:=ip_ h4
    rcases ite_ h6 with ⟨g7,h8⟩ | ⟨g7,h8⟩
    ·obtain ⟨g9,h10⟩:=ip_ h8
     obtain ⟨t400,c11,h12⟩:=bd_ h10
     obtain ⟨t401,c13,h14⟩:=bd_ h12
     obtain ⟨g15,h16⟩:=ip_ h14
     obtain ⟨g17,h18⟩:=ip_ h16
     exact leafBack (hn:=hn40) 23 [.val (.bool true),.elem (.agg [vi ((rd_T43 x9 x11).f0),vi ((rd_T43 x9 x11).f1)]),.val (.bool true),.val (.string (x3 ++ (⟨#[44]⟩ : ByteArray))),.call (.val (.string t400)),.call (.val (.string t401)),.val (.string (t400 ++ t401)),.val (.string ((x3 ++ (⟨#[44]⟩ : ByteArray)) ++ (t400 ++ t401))),.val (.int .i64 (wrap64 (x11 + 1)))] [] (q40_l0_mk h18) (Nat.lt_succ_self k) (And.intro (int_lss (P:=Tryz.prog) (t:=3) (k:=.i64) (x:=(.tmp 11)) (y:=(.tmp 10)) (a:=x11) (b:=x10) (v:=true) (decide_eq_true g1)) (And.intro (iS43_rd (xs:=x9) (i:=x11) g3 g5) (And.intro (int_gtr (P:=Tryz.prog) (t:=3) (k:=.i64) (x:=(.tmp 16)) (y:=(.const (.int .i64 0))) (a:=x11) (b:=0) (v:=true) (decide_eq_true g7)) (And.intro (str_add (P:=Tryz.prog) (t:=9) (x:=(.tmp 18)) (y:=(.const (.string (⟨#[44]⟩ : ByteArray)))) (a:=x3) (b:=(⟨#[44]⟩ : ByteArray)) g9) (And.intro (And.intro (ad_72 c11) (And.intro (ad_72 c13) (And.intro (str_add (P:=Tryz.prog) (t:=9) (x:=(.tmp 23)) (y:=(.tmp 26)) (a:=t400) (b:=t401) g15) (str_add (P:=Tryz.prog) (t:=9) (x:=(.tmp 20)) (y:=(.tmp 27)) (a:=(x3 ++ (⟨#[44]⟩ : ByteArray))) (b:=(t400 ++ t401)) g17)))) (int_add (P:=Tryz.prog) (t:=3) (k:=.i64) (x:=(.tmp 11)) (y:=(.const (.int .i64 1))) (a:=x11) (b:=1) (c:=(wrap64 (x11 + 1))) (IntWalk.i64_left _))))))) (by kernel_rfl)
    ·obtain ⟨t402,c19,h20⟩:=bd_ h8
     obtain ⟨t403,c21,h22⟩:=bd_ h20
     obtain ⟨g23,h24⟩:=ip_ h22
     obtain ⟨g25,h26⟩:=ip_ h24
     exact leafBack (hn:=hn40) 23 [.val (.bool true),.elem (.agg [vi ((rd_T43 x9 x11).f0),vi ((rd_T43 x9 x11).f1)]),.val (.bool false),.call (.val (.string t402)),.call (.val (.string t403)),.val (.string (t402 ++ t403)),.val (.string (x3 ++ (t402 ++ t403))),.val (.int .i64 (wrap64 (x11 + 1)))] [] (q40_l0_mk h26) (Nat.lt_succ_self k) (And.intro (int_lss (P:=Tryz.prog) (t:=3) (k:=.i64) (x:=(.tmp 11)) (y:=(.tmp 10)) (a:=x11) (b:=x10) (v:=true) (decide_eq_true g1)) (And.intro (iS43_rd (xs:=x9) (i:=x11) g3 g5) (And.intro (int_gtr (P:=Tryz.prog) (t:=3) (k:=.i64) (x:=(.tmp 16)) (y:=(.const (.int .i64 0))) (a:=x11) (b:=0) (v:=false) (decide_eq_false g7)) (And.intro (And.intro (ad_72 c19) (And.intro (ad_72 c21) (And.intro (str_add (P:=Tryz.prog) (t:=9) (x:=(.tmp 23)) (y:=(.tmp 26)) (a:=t402) (b:=t403) g23) (str_add (P:=Tryz.prog) (t:=9) (x:=(.tmp 20)) (y:=(.tmp 27)) (a:=x3) (b:=(t402 ++ t403)) g25)))) (int_add (P:=Tryz.prog) (t:=3) (k:=.i64) (x:=(.tmp 11)) (y:=(.const (.int .i64 1))) (a:=x11) (b:=1) (c:=(wrap64 (x11 + 1))) (IntWalk.i64_left _)))))) (by kernel_rfl)
   ·obtain rfl:=Option.some.inj h2
    exact leafRet (hn:=hn40) 14 [.val (.bool false)] [] .ret (.inr rfl) (by kernel_rfl) (int_lss (P:=Tryz.prog) (t:=3) (k:=.i64) (x:=(.tmp 11)) (y:=(.tmp 10)) (a:=x11) (b:=x10) (v:=false) (decide_eq_false g1)) (by kernel_rfl))
set_option maxRecDepth 100000 in
theorem ad_40 {k:Nat} {l0:List (S43)} {r:ByteArray} (h:spec_tiText.f k l0 = some r):CallH Tryz.prog 40 [.sl (iS43 l0)] [] (.val (.string r)) []:=by
 unfold spec_tiText.f at h
 refine call_ok (c:=bodyOf Tryz.f40) (rs:=o40 r) (post:=p40 r) Tryz.func40 rfl rfl rfl (by kernel_rfl) ?_
 show AtP Tryz.prog 31 (bodyOf Tryz.f40) (KR Tryz.prog Tryz.f40.results.toList (o40 r) (p40 r)) [] [] (lookA [(0,.sl (iS43 l0))])
 rcases ite_ h with ⟨g1,h2⟩ | ⟨g1,h2⟩
 ·obtain rfl:=Option.some.inj h2
  exact leafRet (hn:=hn40) 13 [.val (.int .i64 (l0.length:Int)),.val (.bool true)] [] .ret (.inr rfl) (by kernel_rfl) (And.intro (iS43_len (xs:=l0)) (int_eql (P:=Tryz.prog) (t:=3) (k:=.i64) (x:=(.tmp 7)) (y:=(.const (.int .i64 0))) (a:=(l0.length:Int)) (b:=0) (v:=true) (beq_iff_eq.2 g1))) (by kernel_rfl)
 ·exact leafAt (hn:=hn40) 18 [.val (.int .i64 (l0.length:Int)),.val (.bool false),.val (.int .i64 (l0.length:Int))] [] (at40_l0 _ _ (q40_l0_mk h2)) (And.intro (And.intro (iS43_len (xs:=l0)) (int_eql (P:=Tryz.prog) (t:=3) (k:=.i64) (x:=(.tmp 7)) (y:=(.const (.int .i64 0))) (a:=(l0.length:Int)) (b:=0) (v:=false) (beq_false_of_ne g1))) (iS43_len (xs:=l0))) (by kernel_rfl)

def hn13:Hint:=⟨[],[]⟩
def o13 (r:ByteArray × Bool):List AV:=[.val (.string r.1),vb r.2]
def p13 (r:ByteArray × Bool):List (Nat × AV):=[]
set_option maxRecDepth 100000 in
theorem ad_13 {k:Nat} {l0:List (S43)} {r1:ByteArray} {r2:Bool} (h:spec_HandText.f k l0 = some (r1,r2)):CallH Tryz.prog 13 [.sl (iS43 l0)] [] (.tup [.val (.string r1),vb r2]) []:=by
 unfold spec_HandText.f at h
 refine call_ok (c:=bodyOf Tryz.f13) (rs:=o13 (r1,r2)) (post:=p13 (r1,r2)) Tryz.func13 rfl rfl rfl (by kernel_rfl) ?_
 show AtP Tryz.prog 9 (bodyOf Tryz.f13) (KR Tryz.prog Tryz.f13.results.toList (o13 (r1,r2)) (p13 (r1,r2))) [] [] (lookA [(0,.sl (iS43 l0))])
 obtain ⟨t404,c1,h2⟩:=bd_ h
 rcases ite_ h2 with ⟨g3,h4⟩ | ⟨g3,h4⟩
 ·subst g3
  obtain ⟨t405,c5,h6⟩:=bd_ h4
  obtain ⟨rfl,rfl⟩:=pr2_ h6
  exact leafRet (hn:=hn13) 14 [.call (vb true),.call (.val (.string t405))] [] .ret (.inr rfl) (by kernel_rfl) (And.intro (ad_32 c1) (ad_40 c5)) (by kernel_rfl)
 ·obtain rfl:=Bool.eq_false_iff.2 g3
  obtain ⟨rfl,rfl⟩:=pr2_ h4
  exact leafRet (hn:=hn13) 13 [.call (vb false)] [] .ret (.inr rfl) (by kernel_rfl) (ad_32 c1) (by kernel_rfl)

def hn14:Hint:=⟨[],[]⟩
def o14 (r:Bool):List AV:=[vb r]
def p14 (r:Bool):List (Nat × AV):=[]
def q14_l0 (r:Bool) (k:Nat) (L:List (Nat × AV)):Prop:=∃ (x0:List (S43)) (x1:List (S43)) (x12:Int) (x13:Int),L = [(0,.sl (iS43 x0)),(1,.sl (iS43 x1)),(12,vi x12),(13,vi x13)] ∧ laws_mTiles.l0 k x0 x1 x12 x13 = some r
theorem q14_l0_mk {r:Bool} {k:Nat} {x0:List (S43)} {x1:List (S43)} {x12:Int} {x13:Int} (h:laws_mTiles.l0 k x0 x1 x12 x13 = some r):q14_l0 r k [(0,.sl (iS43 x0)),(1,.sl (iS43 x1)),(12,vi x12),(13,vi x13)]:=⟨x0,x1,x12,x13,rfl,h⟩
set_option maxRecDepth 100000 in
theorem at14_l0 {r:Bool}:∀ k L,q14_l0 r k L → AtP Tryz.prog 26 (bodyOf Tryz.f14) (KR Tryz.prog Tryz.f14.results.toList (o14 r) (p14 r)) [true,true,false,true,false] [] (lookA L) :=
 at_loop (by kernel_rfl) (fun _ => by kernel_rfl) (q14_l0 r) (by
  rintro k _ ⟨x0,x1,x12,x13,rfl,h⟩
  cases k with
  | zero => simp [laws_mTiles.l0] at h
  | succ k =>
   rw [laws_mTiles.l0] at h
   rcases ite_ h with ⟨g1,h2⟩ | ⟨g1,h2⟩
   ·obtain ⟨g3,h4⟩:=ip_ h2
    obtain ⟨g5,h6⟩:=ip_ h4
    obtain ⟨g7,h8⟩:=ip_ h6
    rcases ite_ h8 with ⟨g9,h10⟩ | ⟨g9,h10⟩
    ·obtain rfl:=Option.some.inj h10
     exact leafRet (hn:=hn14) 25 [.val (.bool true),.elem (.agg [vi ((rd_T43 x0 x13).f0),vi ((rd_T43 x0 x13).f1)]),.elem (.agg [vi ((rd_T43 x1 x13).f0),vi ((rd_T43 x1 x13).f1)]),.val (.bool true)] [] .ret (.inr rfl) (by kernel_rfl) (And.intro (int_lss (P:=Tryz.prog) (t:=3) (k:=.i64) (x:=(.tmp 13)) (y:=(.tmp 12)) (a:=x13) (b:=x12) (v:=true) (decide_eq_true g1)) (And.intro (iS43_rd (xs:=x0) (i:=x13) g3 g5) (And.intro (iS43_rd (xs:=x1) (i:=x13) g3 g7) (agg_43_neq (x:=(.tmp 19)) (y:=(.tmp 23)) (a0:=((rd_T43 x0 x13).f0)) (b0:=((rd_T43 x1 x13).f0)) (a1:=((rd_T43 x0 x13).f1)) (b1:=((rd_T43 x1 x13).f1)) (v:=true) (by simp only [Bool.not_and]; exact g9))))) (by kernel_rfl)
    ·exact leafBack (hn:=hn14) 20 [.val (.bool true),.elem (.agg [vi ((rd_T43 x0 x13).f0),vi ((rd_T43 x0 x13).f1)]),.elem (.agg [vi ((rd_T43 x1 x13).f0),vi ((rd_T43 x1 x13).f1)]),.val (.bool false),.val (.int .i64 (wrap64 (x13 + 1)))] [] (q14_l0_mk h10) (Nat.lt_succ_self k) (And.intro (int_lss (P:=Tryz.prog) (t:=3) (k:=.i64) (x:=(.tmp 13)) (y:=(.tmp 12)) (a:=x13) (b:=x12) (v:=true) (decide_eq_true g1)) (And.intro (And.intro (iS43_rd (xs:=x0) (i:=x13) g3 g5) (And.intro (iS43_rd (xs:=x1) (i:=x13) g3 g7) (agg_43_neq (x:=(.tmp 19)) (y:=(.tmp 23)) (a0:=((rd_T43 x0 x13).f0)) (b0:=((rd_T43 x1 x13).f0)) (a1:=((rd_T43 x0 x13).f1)) (b1:=((rd_T43 x1 x13).f1)) (v:=false) (by simp only [Bool.not_and]; exact (Bool.eq_false_iff.2 g9))))) (int_add (P:=Tryz.prog) (t:=3) (k:=.i64) (x:=(.tmp 13)) (y:=(.const (.int .i64 1))) (a:=x13) (b:=1) (c:=(wrap64 (x13 + 1))) (IntWalk.i64_left _)))) (by kernel_rfl)
   ·obtain rfl:=Option.some.inj h2
    exact leafRet (hn:=hn14) 14 [.val (.bool false)] [] .ret (.inr rfl) (by kernel_rfl) (int_lss (P:=Tryz.prog) (t:=3) (k:=.i64) (x:=(.tmp 13)) (y:=(.tmp 12)) (a:=x13) (b:=x12) (v:=false) (decide_eq_false g1)) (by kernel_rfl))
set_option maxRecDepth 100000 in
theorem ad_14 {k:Nat} {l0:List (S43)} {l1:List (S43)} {r:Bool} (h:laws_mTiles.f k l0 l1 = some r):CallH Tryz.prog 14 [.sl (iS43 l0),.sl (iS43 l1)] [] (vb r) []:=by
 unfold laws_mTiles.f at h
 refine call_ok (c:=bodyOf Tryz.f14) (rs:=o14 r) (post:=p14 r) Tryz.func14 rfl rfl rfl (by kernel_rfl) ?_
 show AtP Tryz.prog 26 (bodyOf Tryz.f14) (KR Tryz.prog Tryz.f14.results.toList (o14 r) (p14 r)) [] [] (lookA [(0,.sl (iS43 l0)),(1,.sl (iS43 l1))])
 rcases ite_ h with ⟨g1,h2⟩ | ⟨g1,h2⟩
 ·exact leafAt (hn:=hn14) 15 [.val (.int .i64 (l0.length:Int)),.val (.int .i64 (l1.length:Int)),.val (.bool false),.val (.int .i64 (l0.length:Int))] [] (at14_l0 _ _ (q14_l0_mk h2)) (And.intro (And.intro (iS43_len (xs:=l0)) (And.intro (iS43_len (xs:=l1)) (int_neq (P:=Tryz.prog) (t:=3) (k:=.i64) (x:=(.tmp 7)) (y:=(.tmp 9)) (a:=(l0.length:Int)) (b:=(l1.length:Int)) (v:=false) (nbeq_f g1)))) (iS43_len (xs:=l0))) (by kernel_rfl)
 ·obtain rfl:=Option.some.inj h2
  exact leafRet (hn:=hn14) 13 [.val (.int .i64 (l0.length:Int)),.val (.int .i64 (l1.length:Int)),.val (.bool true)] [] .ret (.inr rfl) (by kernel_rfl) (And.intro (iS43_len (xs:=l0)) (And.intro (iS43_len (xs:=l1)) (int_neq (P:=Tryz.prog) (t:=3) (k:=.i64) (x:=(.tmp 7)) (y:=(.tmp 9)) (a:=(l0.length:Int)) (b:=(l1.length:Int)) (v:=true) (nbeq_t g1)))) (by kernel_rfl)

def hn15:Hint:=⟨[],[]⟩
def o15 (r:Bool):List AV:=[vb r]
def p15 (r:Bool):List (Nat × AV):=[]
def q15_l0 (r:Bool) (k:Nat) (L:List (Nat × AV)):Prop:=∃ (x0:List Int) (x1:List Int) (x12:Int) (x13:Int),L = [(0,.sl (iI .i64 x0)),(1,.sl (iI .i64 x1)),(12,vi x12),(13,vi x13)] ∧ laws_mSame.l0 k x0 x1 x12 x13 = some r
theorem q15_l0_mk {r:Bool} {k:Nat} {x0:List Int} {x1:List Int} {x12:Int} {x13:Int} (h:laws_mSame.l0 k x0 x1 x12 x13 = some r):q15_l0 r k [(0,.sl (iI .i64 x0)),(1,.sl (iI .i64 x1)),(12,vi x12),(13,vi x13)]:=⟨x0,x1,x12,x13,rfl,h⟩
set_option maxRecDepth 100000 in
theorem at15_l0 {r:Bool}:∀ k L,q15_l0 r k L → AtP Tryz.prog 26 (bodyOf Tryz.f15) (KR Tryz.prog Tryz.f15.results.toList (o15 r) (p15 r)) [true,true,false,true,false] [] (lookA L) :=
 at_loop (by kernel_rfl) (fun _ => by kernel_rfl) (q15_l0 r) (by
  rintro k _ ⟨x0,x1,x12,x13,rfl,h⟩
  cases k with
  | zero => simp [laws_mSame.l0] at h
  | succ k =>
   rw [laws_mSame.l0] at h
   rcases ite_ h with ⟨g1,h2⟩ | ⟨g1,h2⟩
   ·obtain ⟨g3,h4⟩:=ip_ h2
    obtain ⟨g5,h6⟩:=ip_ h4
    obtain ⟨g7,h8⟩:=ip_ h6
    rcases ite_ h8 with ⟨g9,h10⟩ | ⟨g9,h10⟩
    ·exact leafBack (hn:=hn15) 20 [.val (.bool true),.elem (vi (rd x0 x13)),.elem (vi (rd x1 x13)),.val (.bool false),.val (.int .i64 (wrap64 (x13 + 1)))] [] (q15_l0_mk h10) (Nat.lt_succ_self k) (And.intro (int_lss (P:=Tryz.prog) (t:=3) (k:=.i64) (x:=(.tmp 13)) (y:=(.tmp 12)) (a:=x13) (b:=x12) (v:=true) (decide_eq_true g1)) (And.intro (And.intro (iI_rd (k:=.i64) (xs:=x0) (i:=x13) g3 g5) (And.intro (iI_rd (k:=.i64) (xs:=x1) (i:=x13) g3 g7) (int_neq (P:=Tryz.prog) (t:=3) (k:=.i64) (x:=(.tmp 19)) (y:=(.tmp 23)) (a:=(rd x0 x13)) (b:=(rd x1 x13)) (v:=false) (nbeq_f g9)))) (int_add (P:=Tryz.prog) (t:=3) (k:=.i64) (x:=(.tmp 13)) (y:=(.const (.int .i64 1))) (a:=x13) (b:=1) (c:=(wrap64 (x13 + 1))) (IntWalk.i64_left _)))) (by kernel_rfl)
    ·obtain rfl:=Option.some.inj h10
     exact leafRet (hn:=hn15) 25 [.val (.bool true),.elem (vi (rd x0 x13)),.elem (vi (rd x1 x13)),.val (.bool true)] [] .ret (.inr rfl) (by kernel_rfl) (And.intro (int_lss (P:=Tryz.prog) (t:=3) (k:=.i64) (x:=(.tmp 13)) (y:=(.tmp 12)) (a:=x13) (b:=x12) (v:=true) (decide_eq_true g1)) (And.intro (iI_rd (k:=.i64) (xs:=x0) (i:=x13) g3 g5) (And.intro (iI_rd (k:=.i64) (xs:=x1) (i:=x13) g3 g7) (int_neq (P:=Tryz.prog) (t:=3) (k:=.i64) (x:=(.tmp 19)) (y:=(.tmp 23)) (a:=(rd x0 x13)) (b:=(rd x1 x13)) (v:=true) (nbeq_t g9))))) (by kernel_rfl)
   ·obtain rfl:=Option.some.inj h2
    exact leafRet (hn:=hn15) 14 [.val (.bool false)] [] .ret (.inr rfl) (by kernel_rfl) (int_lss (P:=Tryz.prog) (t:=3) (k:=.i64) (x:=(.tmp 13)) (y:=(.tmp 12)) (a:=x13) (b:=x12) (v:=false) (decide_eq_false g1)) (by kernel_rfl))
set_option maxRecDepth 100000 in
theorem ad_15 {k:Nat} {l0:List Int} {l1:List Int} {r:Bool} (h:laws_mSame.f k l0 l1 = some r):CallH Tryz.prog 15 [.sl (iI .i64 l0),.sl (iI .i64 l1)] [] (vb r) []:=by
 unfold laws_mSame.f at h
 refine call_ok (c:=bodyOf Tryz.f15) (rs:=o15 r) (post:=p15 r) Tryz.func15 rfl rfl rfl (by kernel_rfl) ?_
 show AtP Tryz.prog 26 (bodyOf Tryz.f15) (KR Tryz.prog Tryz.f15.results.toList (o15 r) (p15 r)) [] [] (lookA [(0,.sl (iI .i64 l0)),(1,.sl (iI .i64 l1))])
 rcases ite_ h with ⟨g1,h2⟩ | ⟨g1,h2⟩
 ·exact leafAt (hn:=hn15) 15 [.val (.int .i64 (l0.length:Int)),.val (.int .i64 (l1.length:Int)),.val (.bool false),.val (.int .i64 (l0.length:Int))] [] (at15_l0 _ _ (q15_l0_mk h2)) (And.intro (And.intro (iI_len (k:=.i64) (xs:=l0)) (And.intro (iI_len (k:=.i64) (xs:=l1)) (int_neq (P:=Tryz.prog) (t:=3) (k:=.i64) (x:=(.tmp 7)) (y:=(.tmp 9)) (a:=(l0.length:Int)) (b:=(l1.length:Int)) (v:=false) (nbeq_f g1)))) (iI_len (k:=.i64) (xs:=l0))) (by kernel_rfl)
 ·obtain rfl:=Option.some.inj h2
  exact leafRet (hn:=hn15) 13 [.val (.int .i64 (l0.length:Int)),.val (.int .i64 (l1.length:Int)),.val (.bool true)] [] .ret (.inr rfl) (by kernel_rfl) (And.intro (iI_len (k:=.i64) (xs:=l0)) (And.intro (iI_len (k:=.i64) (xs:=l1)) (int_neq (P:=Tryz.prog) (t:=3) (k:=.i64) (x:=(.tmp 7)) (y:=(.tmp 9)) (a:=(l0.length:Int)) (b:=(l1.length:Int)) (v:=true) (nbeq_t g1)))) (by kernel_rfl)

def hn45:Hint:=⟨[],[]⟩
def o45 (r:Bool):List AV:=[vb r]
def p45 (r:Bool):List (Nat × AV):=[]
set_option maxRecDepth 100000 in
theorem ad_45 {a0:Int} {r:Bool} (h:impl_isNumber.f a0 = some r):CallH Tryz.prog 45 [vi a0] [] (vb r) []:=by
 unfold impl_isNumber.f at h
 refine call_ok (c:=bodyOf Tryz.f45) (rs:=o45 r) (post:=p45 r) Tryz.func45 rfl rfl rfl (by kernel_rfl) ?_
 show AtP Tryz.prog 5 (bodyOf Tryz.f45) (KR Tryz.prog Tryz.f45.results.toList (o45 r) (p45 r)) [] [] (lookA [(0,vi a0)])
 obtain ⟨t410,c1,h2⟩:=bd_ h
 obtain rfl:=Option.some.inj h2
 exact leafRet (hn:=hn45) 7 [.call (vb t410)] [] .ret (.inr rfl) (by kernel_rfl) (ad_74 c1) (by kernel_rfl)

def hn17:Hint:=⟨[],[]⟩
def o17 (r:Int × Bool):List AV:=[vi r.1,vb r.2]
def p17 (r:Int × Bool):List (Nat × AV):=[]
set_option maxRecDepth 100000 in
theorem ad_17 {k:Nat} {l0:List (S43)} {a1:Int} {r1:Int} {r2:Bool} (h:impl_TimesOf.f k l0 a1 = some (r1,r2)):CallH Tryz.prog 17 [.sl (iS43 l0),vi a1] [] (.tup [vi r1,vb r2]) []:=by
 unfold impl_TimesOf.f at h
 refine call_ok (c:=bodyOf Tryz.f17) (rs:=o17 (r1,r2)) (post:=p17 (r1,r2)) Tryz.func17 rfl rfl rfl (by kernel_rfl) ?_
 show AtP Tryz.prog 17 (bodyOf Tryz.f17) (KR Tryz.prog Tryz.f17.results.toList (o17 (r1,r2)) (p17 (r1,r2))) [] [] (lookA [(0,.sl (iS43 l0)),(1,vi a1)])
 obtain ⟨t411,c1,h2⟩:=bd_ h
 rcases ite_ h2 with ⟨g3,h4⟩ | ⟨g3,h4⟩
 ·subst g3
  obtain ⟨t412,c5,h6⟩:=bd_ h4
  rcases ite_ h6 with ⟨g7,h8⟩ | ⟨g7,h8⟩
  ·subst g7
   obtain ⟨t413,c9,h10⟩:=bd_ h8
   obtain ⟨rfl,rfl⟩:=pr2_ h10
   exact leafRet (hn:=hn17) 14 [.call (vb true),.call (vb true),.call (vi t413)] [] .ret (.inr rfl) (by kernel_rfl) (And.intro (And.intro (ad_16 c1) (ad_45 c5)) (ad_46 c9)) (by kernel_rfl)
  ·obtain rfl:=Bool.eq_false_iff.2 g7
   obtain ⟨rfl,rfl⟩:=pr2_ h8
   exact leafRet (hn:=hn17) 13 [.call (vb true),.call (vb false)] [] .ret (.inr rfl) (by kernel_rfl) (And.intro (ad_16 c1) (ad_45 c5)) (by kernel_rfl)
 ·obtain rfl:=Bool.eq_false_iff.2 g3
  obtain ⟨rfl,rfl⟩:=pr2_ h4
  exact leafRet (hn:=hn17) 13 [.call (vb false)] [] .ret (.inr rfl) (by kernel_rfl) (ad_16 c1) (by kernel_rfl)

def hn49:Hint:=⟨[(5,[17]),(10,[17])],[]⟩
def o49 (r:Bool):List AV:=[vb r]
def p49 (r:Bool):List (Nat × AV):=[]
set_option maxRecDepth 100000 in
theorem ad_49 {a0_0:Int} {a0_1:Int} {a1:Int} {r:Bool} (h:impl_Tile_has.f a0_0 a0_1 a1 = some r):CallH Tryz.prog 49 [.agg [vi a0_0,vi a0_1],vi a1] [] (vb r) []:=by
 unfold impl_Tile_has.f at h
 refine call_ok (c:=bodyOf Tryz.f49) (rs:=o49 r) (post:=p49 r) Tryz.func49 rfl rfl rfl (by kernel_rfl) ?_
 show AtP Tryz.prog 15 (bodyOf Tryz.f49) (KR Tryz.prog Tryz.f49.results.toList (o49 r) (p49 r)) [] [] (lookA [(0,.agg [vi a0_0,vi a0_1]),(1,vi a1)])
 rcases ite_ h with ⟨g1,h2⟩ | ⟨g1,h2⟩
 ·obtain rfl:=Option.some.inj h2
  exact leafRet (hn:=hn49) 7 [.val (.bool true)] [] .ret (.inr rfl) (by kernel_rfl) (int_eql (P:=Tryz.prog) (t:=3) (k:=.i64) (x:=(.tmp 6)) (y:=(.tmp 7)) (a:=a0_0) (b:=a1) (v:=true) (beq_iff_eq.2 g1)) (by kernel_rfl)
 ·obtain rfl:=Option.some.inj h2
  exact leafRet (hn:=hn49) 7 [.val (.bool false),.val (.bool (a0_1 == a1))] [] .ret (.inr rfl) (by kernel_rfl) (And.intro (int_eql (P:=Tryz.prog) (t:=3) (k:=.i64) (x:=(.tmp 6)) (y:=(.tmp 7)) (a:=a0_0) (b:=a1) (v:=false) (beq_false_of_ne g1)) (int_eql (P:=Tryz.prog) (t:=3) (k:=.i64) (x:=(.tmp 11)) (y:=(.tmp 12)) (a:=a0_1) (b:=a1) (v:=(a0_1 == a1)) rfl)) (by kernel_rfl)

def hn19:Hint:=⟨[],[]⟩
def o19 (r:Bool):List AV:=[vb r]
def p19 (r:Bool):List (Nat × AV):=[]
def q19_l0 (r:Bool) (k:Nat) (L:List (Nat × AV)):Prop:=∃ (x1:Int) (x7:List Int) (x8:Int) (x9:Int),L = [(1,vi x1),(7,.sl (iI .i64 x7)),(8,vi x8),(9,vi x9)] ∧ laws_mIn.l0 k x1 x7 x8 x9 = some r
theorem q19_l0_mk {r:Bool} {k:Nat} {x1:Int} {x7:List Int} {x8:Int} {x9:Int} (h:laws_mIn.l0 k x1 x7 x8 x9 = some r):q19_l0 r k [(1,vi x1),(7,.sl (iI .i64 x7)),(8,vi x8),(9,vi x9)]:=⟨x1,x7,x8,x9,rfl,h⟩
set_option maxRecDepth 100000 in
theorem at19_l0 {r:Bool}:∀ k L,q19_l0 r k L → AtP Tryz.prog 17 (bodyOf Tryz.f19) (KR Tryz.prog Tryz.f19.results.toList (o19 r) (p19 r)) [true,false,true,false] [] (lookA L) :=
 at_loop (by kernel_rfl) (fun _ => by kernel_rfl) (q19_l0 r) (by
  rintro k _ ⟨x1,x7,x8,x9,rfl,h⟩
  cases k with
  | zero => simp [laws_mIn.l0] at h
  | succ k =>
   rw [laws_mIn.l0] at h
   rcases ite_ h with ⟨g1,h2⟩ | ⟨g1,h2⟩
   ·obtain ⟨g3,h4⟩:=ip_ h2
    obtain ⟨g5,h6⟩:=ip_ h4
    rcases ite_ h6 with ⟨g7,h8⟩ | ⟨g7,h8⟩
    ·obtain rfl:=Option.some.inj h8
     exact leafRet (hn:=hn19) 25 [.val (.bool true),.elem (vi (rd x7 x9)),.val (.bool true)] [] .ret (.inr rfl) (by kernel_rfl) (And.intro (int_lss (P:=Tryz.prog) (t:=3) (k:=.i64) (x:=(.tmp 9)) (y:=(.tmp 8)) (a:=x9) (b:=x8) (v:=true) (decide_eq_true g1)) (And.intro (iI_rd (k:=.i64) (xs:=x7) (i:=x9) g3 g5) (int_eql (P:=Tryz.prog) (t:=3) (k:=.i64) (x:=(.tmp 13)) (y:=(.tmp 14)) (a:=(rd x7 x9)) (b:=x1) (v:=true) (beq_iff_eq.2 g7)))) (by kernel_rfl)
    ·exact leafBack (hn:=hn19) 20 [.val (.bool true),.elem (vi (rd x7 x9)),.val (.bool false),.val (.int .i64 (wrap64 (x9 + 1)))] [] (q19_l0_mk h8) (Nat.lt_succ_self k) (And.intro (int_lss (P:=Tryz.prog) (t:=3) (k:=.i64) (x:=(.tmp 9)) (y:=(.tmp 8)) (a:=x9) (b:=x8) (v:=true) (decide_eq_true g1)) (And.intro (iI_rd (k:=.i64) (xs:=x7) (i:=x9) g3 g5) (And.intro (int_eql (P:=Tryz.prog) (t:=3) (k:=.i64) (x:=(.tmp 13)) (y:=(.tmp 14)) (a:=(rd x7 x9)) (b:=x1) (v:=false) (beq_false_of_ne g7)) (int_add (P:=Tryz.prog) (t:=3) (k:=.i64) (x:=(.tmp 9)) (y:=(.const (.int .i64 1))) (a:=x9) (b:=1) (c:=(wrap64 (x9 + 1))) (IntWalk.i64_left _))))) (by kernel_rfl)
   ·obtain rfl:=Option.some.inj h2
    exact leafRet (hn:=hn19) 14 [.val (.bool false)] [] .ret (.inr rfl) (by kernel_rfl) (int_lss (P:=Tryz.prog) (t:=3) (k:=.i64) (x:=(.tmp 9)) (y:=(.tmp 8)) (a:=x9) (b:=x8) (v:=false) (decide_eq_false g1)) (by kernel_rfl))
set_option maxRecDepth 100000 in
theorem ad_19 {k:Nat} {l0:List Int} {a1:Int} {r:Bool} (h:laws_mIn.f k l0 a1 = some r):CallH Tryz.prog 19 [.sl (iI .i64 l0),vi a1] [] (vb r) []:=by
 unfold laws_mIn.f at h
 refine call_ok (c:=bodyOf Tryz.f19) (rs:=o19 r) (post:=p19 r) Tryz.func19 rfl rfl rfl (by kernel_rfl) ?_
 show AtP Tryz.prog 17 (bodyOf Tryz.f19) (KR Tryz.prog Tryz.f19.results.toList (o19 r) (p19 r)) [] [] (lookA [(0,.sl (iI .i64 l0)),(1,vi a1)])
 exact leafAt (hn:=hn19) 8 [.val (.int .i64 (l0.length:Int))] [] (at19_l0 _ _ (q19_l0_mk h)) (iI_len (k:=.i64) (xs:=l0)) (by kernel_rfl)

def hn20:Hint:=⟨[(3,[20]),(6,[23])],[]⟩
def o20 (r:Bool):List AV:=[vb r]
def p20 (r:Bool):List (Nat × AV):=[]
def q20_l0 (r:Bool) (k:Nat) (L:List (Nat × AV)):Prop:=∃ (x7:List (S43)) (x8:Int) (x9:Int) (x417000:Int) (x417001:Int),L = [(3,.loc 20 0),(7,.sl (iS43 x7)),(8,vi x8),(9,vi x9),(20,.box (.agg [vi x417000,vi x417001]))] ∧ laws_mHas.l0 k x7 x8 x9 x417000 x417001 = some r
theorem q20_l0_mk {r:Bool} {k:Nat} {x7:List (S43)} {x8:Int} {x9:Int} {x417000:Int} {x417001:Int} (h:laws_mHas.l0 k x7 x8 x9 x417000 x417001 = some r):q20_l0 r k [(3,.loc 20 0),(7,.sl (iS43 x7)),(8,vi x8),(9,vi x9),(20,.box (.agg [vi x417000,vi x417001]))]:=⟨x7,x8,x9,x417000,x417001,rfl,h⟩
set_option maxRecDepth 100000 in
theorem at20_l0 {r:Bool}:∀ k L,q20_l0 r k L → AtP Tryz.prog 17 (bodyOf Tryz.f20) (KR Tryz.prog Tryz.f20.results.toList (o20 r) (p20 r)) [true,false,true,false] [] (lookA L) :=
 at_loop (by kernel_rfl) (fun _ => by kernel_rfl) (q20_l0 r) (by
  rintro k _ ⟨x7,x8,x9,x417000,x417001,rfl,h⟩
  cases k with
  | zero => simp [laws_mHas.l0] at h
  | succ k =>
   rw [laws_mHas.l0] at h
   rcases ite_ h with ⟨g1,h2⟩ | ⟨g1,h2⟩
   ·obtain ⟨g3,h4⟩:=ip_ h2
    obtain ⟨g5,h6⟩:=ip_ h4
    rcases ite_ h6 with ⟨g7,h8⟩ | ⟨g7,h8⟩
    ·obtain rfl:=Option.some.inj h8
     exact leafRet (hn:=hn20) 25 [.val (.bool true),.elem (.agg [vi ((rd_T43 x7 x9).f0),vi ((rd_T43 x7 x9).f1)]),.val (.bool true)] [] .ret (.inr rfl) (by kernel_rfl) (And.intro (int_lss (P:=Tryz.prog) (t:=3) (k:=.i64) (x:=(.tmp 9)) (y:=(.tmp 8)) (a:=x9) (b:=x8) (v:=true) (decide_eq_true g1)) (And.intro (iS43_rd (xs:=x7) (i:=x9) g3 g5) (agg_43_eql (x:=(.tmp 13)) (y:=(.tmp 14)) (a0:=((rd_T43 x7 x9).f0)) (b0:=x417000) (a1:=((rd_T43 x7 x9).f1)) (b1:=x417001) (v:=true) g7))) (by kernel_rfl)
    ·exact leafBack (hn:=hn20) 20 [.val (.bool true),.elem (.agg [vi ((rd_T43 x7 x9).f0),vi ((rd_T43 x7 x9).f1)]),.val (.bool false),.val (.int .i64 (wrap64 (x9 + 1)))] [] (q20_l0_mk h8) (Nat.lt_succ_self k) (And.intro (int_lss (P:=Tryz.prog) (t:=3) (k:=.i64) (x:=(.tmp 9)) (y:=(.tmp 8)) (a:=x9) (b:=x8) (v:=true) (decide_eq_true g1)) (And.intro (iS43_rd (xs:=x7) (i:=x9) g3 g5) (And.intro (agg_43_eql (x:=(.tmp 13)) (y:=(.tmp 14)) (a0:=((rd_T43 x7 x9).f0)) (b0:=x417000) (a1:=((rd_T43 x7 x9).f1)) (b1:=x417001) (v:=false) (Bool.eq_false_iff.2 g7)) (int_add (P:=Tryz.prog) (t:=3) (k:=.i64) (x:=(.tmp 9)) (y:=(.const (.int .i64 1))) (a:=x9) (b:=1) (c:=(wrap64 (x9 + 1))) (IntWalk.i64_left _))))) (by kernel_rfl)
   ·obtain rfl:=Option.some.inj h2
    exact leafRet (hn:=hn20) 14 [.val (.bool false)] [] .ret (.inr rfl) (by kernel_rfl) (int_lss (P:=Tryz.prog) (t:=3) (k:=.i64) (x:=(.tmp 9)) (y:=(.tmp 8)) (a:=x9) (b:=x8) (v:=false) (decide_eq_false g1)) (by kernel_rfl))
set_option maxRecDepth 100000 in
theorem ad_20 {k:Nat} {l0:List (S43)} {a1_0:Int} {a1_1:Int} {r:Bool} (h:laws_mHas.f k l0 a1_0 a1_1 = some r):CallH Tryz.prog 20 [.sl (iS43 l0),.agg [vi a1_0,vi a1_1]] [] (vb r) []:=by
 unfold laws_mHas.f at h
 refine call_ok (c:=bodyOf Tryz.f20) (rs:=o20 r) (post:=p20 r) Tryz.func20 rfl rfl rfl (by kernel_rfl) ?_
 show AtP Tryz.prog 17 (bodyOf Tryz.f20) (KR Tryz.prog Tryz.f20.results.toList (o20 r) (p20 r)) [] [] (lookA [(0,.sl (iS43 l0)),(1,.agg [vi a1_0,vi a1_1])])
 exact leafAt (hn:=hn20) 8 [.val (.int .i64 (l0.length:Int))] [] (at20_l0 _ _ (q20_l0_mk h)) (iS43_len (xs:=l0)) (by kernel_rfl)

def hn21:Hint:=⟨[(21,[45]),(31,[69]),(34,[45])],[]⟩
def o21 (r:(List (S43)) × Bool):List AV:=[.sl (iS43 r.1),vb r.2]
def p21 (r:(List (S43)) × Bool):List (Nat × AV):=[]
def q21_l0 (r:(List (S43)) × Bool) (k:Nat) (L:List (Nat × AV)):Prop:=∃ (x4:List (S43)) (x12:List ByteArray) (x13:Int) (x14:Int),L = [(4,.row 45),(12,.sl (iStr x12)),(13,vi x13),(14,vi x14),(45,.ow false 43 (iS43 x4))] ∧ impl_ParseHand.l0 k x4 x12 x13 x14 = some r
theorem q21_l0_mk {r:(List (S43)) × Bool} {k:Nat} {x4:List (S43)} {x12:List ByteArray} {x13:Int} {x14:Int} (h:impl_ParseHand.l0 k x4 x12 x13 x14 = some r):q21_l0 r k [(4,.row 45),(12,.sl (iStr x12)),(13,vi x13),(14,vi x14),(45,.ow false 43 (iS43 x4))]:=⟨x4,x12,x13,x14,rfl,h⟩
set_option maxRecDepth 100000 in
theorem at21_l0 {r:(List (S43)) × Bool}:∀ k L,q21_l0 r k L → AtP Tryz.prog 38 (bodyOf Tryz.f21) (KR Tryz.prog Tryz.f21.results.toList (o21 r) (p21 r)) [true,true,true,false,true,false] [] (lookA L) :=
 at_loop (by kernel_rfl) (fun _ => by kernel_rfl) (q21_l0 r) (by
  rintro k _ ⟨x4,x12,x13,x14,rfl,h⟩
  cases k with
  | zero => simp [impl_ParseHand.l0] at h
  | succ k =>
   rw [impl_ParseHand.l0] at h
   rcases ite_ h with ⟨g1,h2⟩ | ⟨g1,h2⟩
   ·obtain ⟨g3,h4⟩:=ip_ h2
    obtain ⟨g5,h6⟩:=ip_ h4
    rcases ite_ h6 with ⟨g7,h8⟩ | ⟨g7,h8⟩
    ·obtain ⟨g9,h10⟩:=ip_ h8
     obtain ⟨g11,h12⟩:=ip_ h10
     obtain ⟨g13,h14⟩:=ip_ h12
     exact leafBack (hn:=hn21) 23 [.val (.bool true),.elem (.val (.string (rdOf ByteArray.empty x12 x14))),.val (.bool false),.val (.int .u8 (bt (rdOf ByteArray.empty x12 x14) 0)),.val (.int .i64 (wrap64 (bt (rdOf ByteArray.empty x12 x14) 0))),.val (.int .i64 (wrap64 ((wrap64 (bt (rdOf ByteArray.empty x12 x14) 0)) - 48))),.val (.int .u8 (bt (rdOf ByteArray.empty x12 x14) 1)),.val (.int .i64 (wrap64 (bt (rdOf ByteArray.empty x12 x14) 1))),.val (.int .i64 (wrap64 ((wrap64 (bt (rdOf ByteArray.empty x12 x14) 1)) - 48))),.elem (.agg [vi (wrap64 ((wrap64 (bt (rdOf ByteArray.empty x12 x14) 0)) - 48)),vi (wrap64 ((wrap64 (bt (rdOf ByteArray.empty x12 x14) 1)) - 48))]),.go,.elem (.ow false 43 (iS43 (x4 ++ ([(⟨(wrap64 ((wrap64 (bt (rdOf ByteArray.empty x12 x14) 0)) - 48)),(wrap64 ((wrap64 (bt (rdOf ByteArray.empty x12 x14) 1)) - 48))⟩ : S43)])))),.val (.int .i64 (wrap64 (x14 + 1)))] [(45,70)] (q21_l0_mk h14) (Nat.lt_succ_self k) (And.intro (int_lss (P:=Tryz.prog) (t:=3) (k:=.i64) (x:=(.tmp 14)) (y:=(.tmp 13)) (a:=x14) (b:=x13) (v:=true) (decide_eq_true g1)) (And.intro (iStr_rd (xs:=x12) (i:=x14) g3 g5) (And.intro (int_neq (P:=Tryz.prog) (t:=3) (k:=.i64) (x:=(.tmp 19)) (y:=(.const (.int .i64 2))) (a:=((rdOf ByteArray.empty x12 x14).size:Int)) (b:=2) (v:=false) (nbeq_f g7)) (And.intro (And.intro (idx_str (k:=.i64) (x:=(rdOf ByteArray.empty x12 x14)) (i:=0) Tryz.underlying9 (by decide) g9) (And.intro (conv_5_3 (a:=(bt (rdOf ByteArray.empty x12 x14) 0))) (And.intro (int_sub (P:=Tryz.prog) (t:=3) (k:=.i64) (x:=(.tmp 24)) (y:=(.const (.int .i64 48))) (a:=(wrap64 (bt (rdOf ByteArray.empty x12 x14) 0))) (b:=48) (c:=(wrap64 ((wrap64 (bt (rdOf ByteArray.empty x12 x14) 0)) - 48))) (IntWalk.i64_left _)) (And.intro (idx_str (k:=.i64) (x:=(rdOf ByteArray.empty x12 x14)) (i:=1) Tryz.underlying9 (by decide) g11) (And.intro (conv_5_3 (a:=(bt (rdOf ByteArray.empty x12 x14) 1))) (And.intro (int_sub (P:=Tryz.prog) (t:=3) (k:=.i64) (x:=(.tmp 28)) (y:=(.const (.int .i64 48))) (a:=(wrap64 (bt (rdOf ByteArray.empty x12 x14) 1))) (b:=48) (c:=(wrap64 ((wrap64 (bt (rdOf ByteArray.empty x12 x14) 1)) - 48))) (IntWalk.i64_left _)) (And.intro (build_43_2 (p0:=(wrap64 ((wrap64 (bt (rdOf ByteArray.empty x12 x14) 0)) - 48))) (p1:=(wrap64 ((wrap64 (bt (rdOf ByteArray.empty x12 x14) 1)) - 48)))) (iS43_app (N:=8796093022208) (b:=16) (xs:=x4) (ys:=[(⟨(wrap64 ((wrap64 (bt (rdOf ByteArray.empty x12 x14) 0)) - 48)),(wrap64 ((wrap64 (bt (rdOf ByteArray.empty x12 x14) 1)) - 48))⟩ : S43)]) (by decide) (Nat.succ_le_of_lt g13))))))))) (int_add (P:=Tryz.prog) (t:=3) (k:=.i64) (x:=(.tmp 14)) (y:=(.const (.int .i64 1))) (a:=x14) (b:=1) (c:=(wrap64 (x14 + 1))) (IntWalk.i64_left _)))))) (by kernel_rfl)
    ·obtain rfl:=Option.some.inj h8
     exact leafRet (hn:=hn21) 27 [.val (.bool true),.elem (.val (.string (rdOf ByteArray.empty x12 x14))),.val (.bool true),.goT] [] .ret (.inr rfl) (by kernel_rfl) (And.intro (int_lss (P:=Tryz.prog) (t:=3) (k:=.i64) (x:=(.tmp 14)) (y:=(.tmp 13)) (a:=x14) (b:=x13) (v:=true) (decide_eq_true g1)) (And.intro (iStr_rd (xs:=x12) (i:=x14) g3 g5) (int_neq (P:=Tryz.prog) (t:=3) (k:=.i64) (x:=(.tmp 19)) (y:=(.const (.int .i64 2))) (a:=((rdOf ByteArray.empty x12 x14).size:Int)) (b:=2) (v:=true) (nbeq_t g7)))) (by kernel_rfl)
   ·obtain ⟨t429,c15,h16⟩:=bd_ h2
    rcases ite_ h16 with ⟨g17,h18⟩ | ⟨g17,h18⟩
    ·subst g17
     obtain rfl:=Option.some.inj h18
     exact leafRet (hn:=hn21) 21 [.val (.bool false),.call (vb true)] [] .ret (.inr rfl) (by kernel_rfl) (And.intro (int_lss (P:=Tryz.prog) (t:=3) (k:=.i64) (x:=(.tmp 14)) (y:=(.tmp 13)) (a:=x14) (b:=x13) (v:=false) (decide_eq_false g1)) (ad_16 c15)) (by kernel_rfl)
    ·obtain rfl:=Bool.eq_false_iff.2 g17
     obtain rfl:=Option.some.inj h18
     exact leafRet (hn:=hn21) 20 [.val (.bool false),.call (vb false),.goT] [] .ret (.inr rfl) (by kernel_rfl) (And.intro (int_lss (P:=Tryz.prog) (t:=3) (k:=.i64) (x:=(.tmp 14)) (y:=(.tmp 13)) (a:=x14) (b:=x13) (v:=false) (decide_eq_false g1)) (ad_16 c15)) (by kernel_rfl))
set_option maxRecDepth 100000 in
theorem ad_21 {k:Nat} {a0:ByteArray} {r1:List (S43)} {r2:Bool} (h:impl_ParseHand.f k a0 = some (r1,r2)):CallH Tryz.prog 21 [.val (.string a0)] [] (.tup [.sl (iS43 r1),vb r2]) []:=by
 unfold impl_ParseHand.f at h
 refine call_ok (c:=bodyOf Tryz.f21) (rs:=o21 (r1,r2)) (post:=p21 (r1,r2)) Tryz.func21 rfl rfl rfl (by kernel_rfl) ?_
 show AtP Tryz.prog 38 (bodyOf Tryz.f21) (KR Tryz.prog Tryz.f21.results.toList (o21 (r1,r2)) (p21 (r1,r2))) [] [] (lookA [(0,.val (.string a0))])
 obtain ⟨y419,c1,h2⟩:=bd_ h
 obtain rfl:=Option.some.inj c1
 rcases ite_ h2 with ⟨g3,h4⟩ | ⟨g3,h4⟩
 ·obtain ⟨rfl,rfl⟩:=pr2_ h4
  exact leafRet (hn:=hn21) 16 [.goT,.go,.val (.bool true)] [] .ret (.inr rfl) (by kernel_rfl) (str_eql_ (P:=Tryz.prog) (t:=9) (x:=(.tmp 8)) (y:=(.const (.string (⟨#[45]⟩ : ByteArray)))) (a:=a0) (b:=(⟨#[45]⟩ : ByteArray)) (l:=([45] : List UInt8)) (v:=true) (ByteArray.toList_eq _) (beq_iff_eq.2 g3)) (by kernel_rfl)
 ·obtain ⟨t422,c5,h6⟩:=bd_ h4
  exact leafAt (hn:=hn21) 18 [.goT,.go,.val (.bool false),.call (.sl (iStr t422)),.val (.int .i64 (t422.length:Int))] [] (at21_l0 _ _ (q21_l0_mk h6)) (And.intro (str_eql_ (P:=Tryz.prog) (t:=9) (x:=(.tmp 8)) (y:=(.const (.string (⟨#[45]⟩ : ByteArray)))) (a:=a0) (b:=(⟨#[45]⟩ : ByteArray)) (l:=([45] : List UInt8)) (v:=false) (ByteArray.toList_eq _) (beq_false_of_ne g3)) (And.intro (ad_50 c5) (iStr_len (xs:=t422)))) (by kernel_rfl)

def hn80:Hint:=⟨[(3,[1000000]),(5,[1000000]),(6,[16]),(8,[1000000])],[]⟩
def o80 (r:Int × Int × Int) (s0_0:List Int) (s0_1:Int) (s0_2:Int):List AV:=[vi r.1]
def p80 (r:Int × Int × Int) (s0_0:List Int) (s0_1:Int) (s0_2:Int):List (Nat × AV):=[(1000000,.box (.agg [.sl (iI .u8 s0_0),vi r.2.1,.val (.int .u64 r.2.2)]))]
set_option maxRecDepth 100000 in
theorem ad_80 {s0_0:List Int} {s0_1:Int} {s0_2:Int} {r1:Int} {r2:Int} {r3:Int} (h:spec_l1Cur_number.f s0_0 s0_1 s0_2 = some (r1,r2,r3)):CallH Tryz.prog 80 [.loc 1000000 0] [(1000000,.box (.agg [.sl (iI .u8 s0_0),vi s0_1,.val (.int .u64 s0_2)]))] (vi r1) [(1000000,.box (.agg [.sl (iI .u8 s0_0),vi r2,.val (.int .u64 r3)]))]:=by
 unfold spec_l1Cur_number.f at h
 refine call_ok (c:=bodyOf Tryz.f80) (rs:=o80 (r1,r2,r3) s0_0 s0_1 s0_2) (post:=p80 (r1,r2,r3) s0_0 s0_1 s0_2) Tryz.func80 rfl rfl rfl (by kernel_rfl) ?_
 show AtP Tryz.prog 10 (bodyOf Tryz.f80) (KR Tryz.prog Tryz.f80.results.toList (o80 (r1,r2,r3) s0_0 s0_1 s0_2) (p80 (r1,r2,r3) s0_0 s0_1 s0_2)) [] [] (lookA [(0,.loc 1000000 0),(1000000,.box (.agg [.sl (iI .u8 s0_0),vi s0_1,.val (.int .u64 s0_2)]))])
 obtain ⟨⟨bt430_1,bt430_2,bt430_3⟩,c1,h2⟩:=bd_ h
 try dsimp only at h2
 rcases ite_ h2 with ⟨g3,h4⟩ | ⟨g3,h4⟩
 ·subst g3
  obtain ⟨⟨bt436_1,bt436_2,bt436_3⟩,c5,h6⟩:=bd_ h4
  try dsimp only at h6
  obtain ⟨rfl,rfl,rfl⟩:=pr3_ h6
  exact leafRet (hn:=hn80) 13 [.callH [1000000] (vb true) [(1000000,.box (.agg [.sl (iI .u8 s0_0),vi bt430_2,.val (.int .u64 bt430_3)]))],.go,.callH [1000000] (vi bt436_1) [(1000000,.box (.agg [.sl (iI .u8 s0_0),vi bt436_2,.val (.int .u64 bt436_3)]))]] [] .ret (.inr rfl) (by kernel_rfl) (And.intro (CallH.ren [(1000000,1000000)] rfl rfl (ad_54 c1)) (CallH.ren [(1000000,1000000)] rfl rfl (ad_29 c5))) (by kernel_rfl)
 ·obtain rfl:=Bool.eq_false_iff.2 g3
  obtain ⟨⟨bt439_1,bt439_2,bt439_3⟩,c7,h8⟩:=bd_ h4
  try dsimp only at h8
  obtain ⟨rfl,rfl,rfl⟩:=pr3_ h8
  exact leafRet (hn:=hn80) 14 [.callH [1000000] (vb false) [(1000000,.box (.agg [.sl (iI .u8 s0_0),vi bt430_2,.val (.int .u64 bt430_3)]))],.callH [1000000] (vi bt439_1) [(1000000,.box (.agg [.sl (iI .u8 s0_0),vi bt439_2,.val (.int .u64 bt439_3)]))]] [] .ret (.inr rfl) (by kernel_rfl) (And.intro (CallH.ren [(1000000,1000000)] rfl rfl (ad_54 c1)) (CallH.ren [(1000000,1000000)] rfl rfl (ad_28 c7))) (by kernel_rfl)

def hn51:Hint:=⟨[(8,[19]),(10,[19])],[]⟩
def o51 (r:(List (S43)) × Int):List AV:=[.sl (iS43 r.1),vi r.2]
def p51 (r:(List (S43)) × Int):List (Nat × AV):=[]
set_option maxRecDepth 100000 in
theorem ad_51 {k:Nat} {l0:List Int} {r1:List (S43)} {r2:Int} (h:spec_DrawTimesOf.f k l0 = some (r1,r2)):CallH Tryz.prog 51 [.sl (iI .u8 l0)] [] (.tup [.sl (iS43 r1),vi r2]) []:=by
 unfold spec_DrawTimesOf.f at h
 refine call_ok (c:=bodyOf Tryz.f51) (rs:=o51 (r1,r2)) (post:=p51 (r1,r2)) Tryz.func51 rfl rfl rfl (by kernel_rfl) ?_
 show AtP Tryz.prog 12 (bodyOf Tryz.f51) (KR Tryz.prog Tryz.f51.results.toList (o51 (r1,r2)) (p51 (r1,r2))) [] [] (lookA [(0,.sl (iI .u8 l0))])
 obtain ⟨⟨bt443_1,bt443_2,bt443_3⟩,c1,h2⟩:=bd_ h
 try dsimp only at h2
 obtain ⟨⟨bt448_1,bt448_2,bt448_3⟩,c3,h4⟩:=bd_ h2
 try dsimp only at h4
 obtain ⟨rfl,rfl⟩:=pr2_ h4
 exact leafRet (hn:=hn51) 10 [.goT,.go,.callH [19] (.sl (iS43 bt443_1)) [(19,.box (.agg [.sl (iI .u8 l0),vi bt443_2,.val (.int .u64 bt443_3)]))],.callH [19] (vi bt448_1) [(19,.box (.agg [.sl (iI .u8 l0),vi bt448_2,.val (.int .u64 bt448_3)]))]] [] .ret (.inr rfl) (by kernel_rfl) (And.intro (CallH.ren [(1000000,19)] rfl rfl (ad_27 c1)) (CallH.ren [(1000000,19)] rfl rfl (ad_80 c3))) (by kernel_rfl)

def hn22:Hint:=⟨[],[]⟩
def o22 (r:(List (S43)) × Int):List AV:=[.sl (iS43 r.1),vi r.2]
def p22 (r:(List (S43)) × Int):List (Nat × AV):=[]
set_option maxRecDepth 100000 in
theorem ad_22 {k:Nat} {l0:List Int} {r1:List (S43)} {r2:Int} (h:spec_DrawWithNumber.f k l0 = some (r1,r2)):CallH Tryz.prog 22 [.sl (iI .u8 l0)] [] (.tup [.sl (iS43 r1),vi r2]) []:=by
 unfold spec_DrawWithNumber.f at h
 refine call_ok (c:=bodyOf Tryz.f22) (rs:=o22 (r1,r2)) (post:=p22 (r1,r2)) Tryz.func22 rfl rfl rfl (by kernel_rfl) ?_
 show AtP Tryz.prog 8 (bodyOf Tryz.f22) (KR Tryz.prog Tryz.f22.results.toList (o22 (r1,r2)) (p22 (r1,r2))) [] [] (lookA [(0,.sl (iI .u8 l0))])
 obtain ⟨⟨bt451_1,bt451_2⟩,c1,h2⟩:=bd_ h
 try dsimp only at h2
 obtain ⟨rfl,rfl⟩:=pr2_ h2
 exact leafRet (hn:=hn22) 7 [.goT,.call (.tup [.sl (iS43 bt451_1),vi bt451_2])] [] .ret (.inr rfl) (by kernel_rfl) (ad_51 c1) (by kernel_rfl)

def hn52:Hint:=⟨[],[]⟩
def o52 (r:Bool):List AV:=[vb r]
def p52 (r:Bool):List (Nat × AV):=[]
set_option maxRecDepth 100000 in
theorem ad_52 {a0:Int} {r:Bool} (h:spec_tiNumber.f a0 = some r):CallH Tryz.prog 52 [vi a0] [] (vb r) []:=by
 unfold spec_tiNumber.f at h
 refine call_ok (c:=bodyOf Tryz.f52) (rs:=o52 r) (post:=p52 r) Tryz.func52 rfl rfl rfl (by kernel_rfl) ?_
 show AtP Tryz.prog 5 (bodyOf Tryz.f52) (KR Tryz.prog Tryz.f52.results.toList (o52 r) (p52 r)) [] [] (lookA [(0,vi a0)])
 obtain ⟨t455,c1,h2⟩:=bd_ h
 obtain rfl:=Option.some.inj h2
 exact leafRet (hn:=hn52) 7 [.call (vb t455)] [] .ret (.inr rfl) (by kernel_rfl) (ad_81 c1) (by kernel_rfl)

def hn23:Hint:=⟨[(8,[48]),(24,[48]),(29,[48]),(34,[46]),(36,[76])],[]⟩
def o23 (r:(List (S43)) × Bool):List AV:=[.sl (iS43 r.1),vb r.2]
def p23 (r:(List (S43)) × Bool):List (Nat × AV):=[]
def q23_l0 (r:(List (S43)) × Bool) (k:Nat) (L:List (Nat × AV)):Prop:=∃ (x1:Int) (x6:List (S43)) (x18:List (S43)) (x19:Int) (x20:Int),L = [(1,vi x1),(6,.row 46),(18,.sl (iS43 x18)),(19,vi x19),(20,vi x20),(46,.ow false 43 (iS43 x6))] ∧ spec_WithNumber.l0 k x1 x6 x18 x19 x20 = some r
theorem q23_l0_mk {r:(List (S43)) × Bool} {k:Nat} {x1:Int} {x6:List (S43)} {x18:List (S43)} {x19:Int} {x20:Int} (h:spec_WithNumber.l0 k x1 x6 x18 x19 x20 = some r):q23_l0 r k [(1,vi x1),(6,.row 46),(18,.sl (iS43 x18)),(19,vi x19),(20,vi x20),(46,.ow false 43 (iS43 x6))]:=⟨x1,x6,x18,x19,x20,rfl,h⟩
set_option maxRecDepth 100000 in
theorem at23_l0 {r:(List (S43)) × Bool}:∀ k L,q23_l0 r k L → AtP Tryz.prog 40 (bodyOf Tryz.f23) (KR Tryz.prog Tryz.f23.results.toList (o23 r) (p23 r)) [true,true,true,false,true,false] [] (lookA L) :=
 at_loop (by kernel_rfl) (fun _ => by kernel_rfl) (q23_l0 r) (by
  rintro k _ ⟨x1,x6,x18,x19,x20,rfl,h⟩
  cases k with
  | zero => simp [spec_WithNumber.l0] at h
  | succ k =>
   rw [spec_WithNumber.l0] at h
   rcases ite_ h with ⟨g1,h2⟩ | ⟨g1,h2⟩
   ·obtain ⟨g3,h4⟩:=ip_ h2
    obtain ⟨g5,h6⟩:=ip_ h4
    rcases ite_ h6 with ⟨g7,h8⟩ | ⟨g7,h8⟩
    ·obtain ⟨g9,h10⟩:=ip_ h8
     exact leafBack (hn:=hn23) 20 [.val (.bool true),.elem (.agg [vi ((rd_T43 x18 x20).f0),vi ((rd_T43 x18 x20).f1)]),.val (.bool true),.go,.elem (.ow false 43 (iS43 (x6 ++ ([(⟨(rd_T43 x18 x20).f0,(rd_T43 x18 x20).f1⟩ : S43)])))),.val (.int .i64 (wrap64 (x20 + 1)))] [(46,77)] (q23_l0_mk h10) (Nat.lt_succ_self k) (And.intro (int_lss (P:=Tryz.prog) (t:=3) (k:=.i64) (x:=(.tmp 20)) (y:=(.tmp 19)) (a:=x20) (b:=x19) (v:=true) (decide_eq_true g1)) (And.intro (iS43_rd (xs:=x18) (i:=x20) g3 g5) (And.intro (int_eql (P:=Tryz.prog) (t:=3) (k:=.i64) (x:=(.tmp 25)) (y:=(.tmp 26)) (a:=((rd_T43 x18 x20).f0)) (b:=x1) (v:=true) (beq_iff_eq.2 g7)) (And.intro (iS43_app (N:=8796093022208) (b:=16) (xs:=x6) (ys:=[(⟨(rd_T43 x18 x20).f0,(rd_T43 x18 x20).f1⟩ : S43)]) (by decide) (Nat.succ_le_of_lt g9)) (int_add (P:=Tryz.prog) (t:=3) (k:=.i64) (x:=(.tmp 20)) (y:=(.const (.int .i64 1))) (a:=x20) (b:=1) (c:=(wrap64 (x20 + 1))) (IntWalk.i64_left _)))))) (by kernel_rfl)
    ·rcases ite_ h8 with ⟨g11,h12⟩ | ⟨g11,h12⟩
     ·obtain ⟨g13,h14⟩:=ip_ h12
      exact leafBack (hn:=hn23) 20 [.val (.bool true),.elem (.agg [vi ((rd_T43 x18 x20).f0),vi ((rd_T43 x18 x20).f1)]),.val (.bool false),.val (.bool true),.go,.elem (.ow false 43 (iS43 (x6 ++ ([(⟨(rd_T43 x18 x20).f0,(rd_T43 x18 x20).f1⟩ : S43)])))),.val (.int .i64 (wrap64 (x20 + 1)))] [(46,77)] (q23_l0_mk h14) (Nat.lt_succ_self k) (And.intro (int_lss (P:=Tryz.prog) (t:=3) (k:=.i64) (x:=(.tmp 20)) (y:=(.tmp 19)) (a:=x20) (b:=x19) (v:=true) (decide_eq_true g1)) (And.intro (iS43_rd (xs:=x18) (i:=x20) g3 g5) (And.intro (And.intro (int_eql (P:=Tryz.prog) (t:=3) (k:=.i64) (x:=(.tmp 25)) (y:=(.tmp 26)) (a:=((rd_T43 x18 x20).f0)) (b:=x1) (v:=false) (beq_false_of_ne g7)) (int_eql (P:=Tryz.prog) (t:=3) (k:=.i64) (x:=(.tmp 30)) (y:=(.tmp 31)) (a:=((rd_T43 x18 x20).f1)) (b:=x1) (v:=true) (beq_iff_eq.2 g11))) (And.intro (iS43_app (N:=8796093022208) (b:=16) (xs:=x6) (ys:=[(⟨(rd_T43 x18 x20).f0,(rd_T43 x18 x20).f1⟩ : S43)]) (by decide) (Nat.succ_le_of_lt g13)) (int_add (P:=Tryz.prog) (t:=3) (k:=.i64) (x:=(.tmp 20)) (y:=(.const (.int .i64 1))) (a:=x20) (b:=1) (c:=(wrap64 (x20 + 1))) (IntWalk.i64_left _)))))) (by kernel_rfl)
     ·exact leafBack (hn:=hn23) 20 [.val (.bool true),.elem (.agg [vi ((rd_T43 x18 x20).f0),vi ((rd_T43 x18 x20).f1)]),.val (.bool false),.val (.bool false),.val (.int .i64 (wrap64 (x20 + 1)))] [] (q23_l0_mk h12) (Nat.lt_succ_self k) (And.intro (int_lss (P:=Tryz.prog) (t:=3) (k:=.i64) (x:=(.tmp 20)) (y:=(.tmp 19)) (a:=x20) (b:=x19) (v:=true) (decide_eq_true g1)) (And.intro (iS43_rd (xs:=x18) (i:=x20) g3 g5) (And.intro (And.intro (int_eql (P:=Tryz.prog) (t:=3) (k:=.i64) (x:=(.tmp 25)) (y:=(.tmp 26)) (a:=((rd_T43 x18 x20).f0)) (b:=x1) (v:=false) (beq_false_of_ne g7)) (int_eql (P:=Tryz.prog) (t:=3) (k:=.i64) (x:=(.tmp 30)) (y:=(.tmp 31)) (a:=((rd_T43 x18 x20).f1)) (b:=x1) (v:=false) (beq_false_of_ne g11))) (int_add (P:=Tryz.prog) (t:=3) (k:=.i64) (x:=(.tmp 20)) (y:=(.const (.int .i64 1))) (a:=x20) (b:=1) (c:=(wrap64 (x20 + 1))) (IntWalk.i64_left _))))) (by kernel_rfl)
   ·obtain rfl:=Option.some.inj h2
    exact leafRet (hn:=hn23) 14 [.val (.bool false)] [] .ret (.inr rfl) (by kernel_rfl) (int_lss (P:=Tryz.prog) (t:=3) (k:=.i64) (x:=(.tmp 20)) (y:=(.tmp 19)) (a:=x20) (b:=x19) (v:=false) (decide_eq_false g1)) (by kernel_rfl))
set_option maxRecDepth 100000 in
theorem at23_j0 {r:(List (S43)) × Bool} {k:Nat} {x0:List (S43)} {x1:Int} {x16:Bool} (h:spec_WithNumber.j0 k x0 x1 x16 = some r):AtP Tryz.prog 40 (bodyOf Tryz.f23) (KR Tryz.prog Tryz.f23.results.toList (o23 r) (p23 r)) [true,false,true] [] (lookA [(0,.sl (iS43 x0)),(1,vi x1),(16,vb x16)]):=by
 cases k with
 | zero => simp [spec_WithNumber.j0] at h
 | succ k =>
  rw [spec_WithNumber.j0] at h
  rcases ite_ h with ⟨g1,h2⟩ | ⟨g1,h2⟩
  ·subst g1
   obtain rfl:=Option.some.inj h2
   exact leafRet (hn:=hn23) 6 [.goT] [] .ret (.inr rfl) (by kernel_rfl) True.intro (by kernel_rfl)
  ·obtain rfl:=Bool.eq_false_iff.2 g1
   obtain ⟨t458,c3,h4⟩:=bd_ h2
   exact leafAt (hn:=hn23) 11 [.nil false 43,.call (.sl (iS43 t458)),.val (.int .i64 (t458.length:Int))] [] (at23_l0 _ _ (q23_l0_mk h4)) (And.intro (ad_35 c3) (iS43_len (xs:=t458))) (by kernel_rfl)
set_option maxRecDepth 100000 in
theorem ad_23 {k:Nat} {l0:List (S43)} {a1:Int} {r1:List (S43)} {r2:Bool} (h:spec_WithNumber.f k l0 a1 = some (r1,r2)):CallH Tryz.prog 23 [.sl (iS43 l0),vi a1] [] (.tup [.sl (iS43 r1),vb r2]) []:=by
 unfold spec_WithNumber.f at h
 refine call_ok (c:=bodyOf Tryz.f23) (rs:=o23 (r1,r2)) (post:=p23 (r1,r2)) Tryz.func23 rfl rfl rfl (by kernel_rfl) ?_
 show AtP Tryz.prog 40 (bodyOf Tryz.f23) (KR Tryz.prog Tryz.f23.results.toList (o23 (r1,r2)) (p23 (r1,r2))) [] [] (lookA [(0,.sl (iS43 l0)),(1,vi a1)])
 obtain ⟨t456,c1,h2⟩:=bd_ h
 rcases ite_ h2 with ⟨g3,h4⟩ | ⟨g3,h4⟩
 ·subst g3
  obtain ⟨t457,c5,h6⟩:=bd_ h4
  exact leafAt (hn:=hn23) 7 [.goT,.call (vb true),.call (vb t457)] [] (at23_j0 h6) (And.intro (ad_32 c1) (ad_52 c5)) (by kernel_rfl)
 ·obtain rfl:=Bool.eq_false_iff.2 g3
  exact leafAt (hn:=hn23) 7 [.goT,.call (vb false)] [] (at23_j0 h4) (ad_32 c1) (by kernel_rfl)

def hn24:Hint:=⟨[],[]⟩
def o24 (r:Int × Bool):List AV:=[vi r.1,vb r.2]
def p24 (r:Int × Bool):List (Nat × AV):=[]
set_option maxRecDepth 100000 in
theorem ad_24 {k:Nat} {l0:List (S43)} {a1:Int} {r1:Int} {r2:Bool} (h:spec_TimesOf.f k l0 a1 = some (r1,r2)):CallH Tryz.prog 24 [.sl (iS43 l0),vi a1] [] (.tup [vi r1,vb r2]) []:=by
 unfold spec_TimesOf.f at h
 refine call_ok (c:=bodyOf Tryz.f24) (rs:=o24 (r1,r2)) (post:=p24 (r1,r2)) Tryz.func24 rfl rfl rfl (by kernel_rfl) ?_
 show AtP Tryz.prog 17 (bodyOf Tryz.f24) (KR Tryz.prog Tryz.f24.results.toList (o24 (r1,r2)) (p24 (r1,r2))) [] [] (lookA [(0,.sl (iS43 l0)),(1,vi a1)])
 obtain ⟨t469,c1,h2⟩:=bd_ h
 rcases ite_ h2 with ⟨g3,h4⟩ | ⟨g3,h4⟩
 ·subst g3
  obtain ⟨t470,c5,h6⟩:=bd_ h4
  rcases ite_ h6 with ⟨g7,h8⟩ | ⟨g7,h8⟩
  ·subst g7
   obtain ⟨t471,c9,h10⟩:=bd_ h8
   obtain ⟨rfl,rfl⟩:=pr2_ h10
   exact leafRet (hn:=hn24) 14 [.call (vb true),.call (vb true),.call (vi t471)] [] .ret (.inr rfl) (by kernel_rfl) (And.intro (And.intro (ad_32 c1) (ad_52 c5)) (ad_37 c9)) (by kernel_rfl)
  ·obtain rfl:=Bool.eq_false_iff.2 g7
   obtain ⟨rfl,rfl⟩:=pr2_ h8
   exact leafRet (hn:=hn24) 13 [.call (vb true),.call (vb false)] [] .ret (.inr rfl) (by kernel_rfl) (And.intro (ad_32 c1) (ad_52 c5)) (by kernel_rfl)
 ·obtain rfl:=Bool.eq_false_iff.2 g3
  obtain ⟨rfl,rfl⟩:=pr2_ h4
  exact leafRet (hn:=hn24) 13 [.call (vb false)] [] .ret (.inr rfl) (by kernel_rfl) (ad_32 c1) (by kernel_rfl)

def hn82:Hint:=⟨[(19,[39]),(24,[58]),(28,[39]),(32,[66])],[]⟩
def o82 (r:List ByteArray):List AV:=[.sl (iStr r)]
def p82 (r:List ByteArray):List (Nat × AV):=[]
def q82_l0 (r:List ByteArray) (k:Nat) (L:List (Nat × AV)):Prop:=∃ (x0:ByteArray) (x1:Int) (x5:List ByteArray) (x6:Int) (x7:Int),L = [(0,.val (.string x0)),(1,.val (.int .u8 x1)),(5,.row 39),(6,vi x6),(7,vi x7),(39,.ow false 9 (iStr x5))] ∧ spec_l1Split.l0 k x0 x1 x5 x6 x7 = some r
theorem q82_l0_mk {r:List ByteArray} {k:Nat} {x0:ByteArray} {x1:Int} {x5:List ByteArray} {x6:Int} {x7:Int} (h:spec_l1Split.l0 k x0 x1 x5 x6 x7 = some r):q82_l0 r k [(0,.val (.string x0)),(1,.val (.int .u8 x1)),(5,.row 39),(6,vi x6),(7,vi x7),(39,.ow false 9 (iStr x5))]:=⟨x0,x1,x5,x6,x7,rfl,h⟩
set_option maxRecDepth 100000 in
theorem at82_l0 {r:List ByteArray}:∀ k L,q82_l0 r k L → AtP Tryz.prog 34 (bodyOf Tryz.f82) (KR Tryz.prog Tryz.f82.results.toList (o82 r) (p82 r)) [true,true,true,false,true,false] [] (lookA L) :=
 at_loop (by kernel_rfl) (fun _ => by kernel_rfl) (q82_l0 r) (by
  rintro k _ ⟨x0,x1,x5,x6,x7,rfl,h⟩
  cases k with
  | zero => simp [spec_l1Split.l0] at h
  | succ k =>
   rw [spec_l1Split.l0] at h
   rcases ite_ h with ⟨g1,h2⟩ | ⟨g1,h2⟩
   ·obtain ⟨g3,h4⟩:=ip_ h2
    rcases ite_ h4 with ⟨g5,h6⟩ | ⟨g5,h6⟩
    ·obtain ⟨g7,h8⟩:=ip_ h6
     obtain ⟨g9,h10⟩:=ip_ h8
     obtain ⟨g11,h12⟩:=ip_ h10
     obtain ⟨g13,h14⟩:=ip_ h12
     exact leafBack (hn:=hn82) 20 [.val (.bool true),.val (.int .u8 (bt x0 x7)),.val (.bool true),.val (.string (x0.extract (x6:Int).toNat (x7:Int).toNat)),.go,.elem (.ow false 9 (iStr (x5 ++ ([(x0.extract (x6:Int).toNat (x7:Int).toNat)])))),.val (.int .i64 (wrap64 (x7 + 1))),.val (.int .i64 (wrap64 (x7 + 1)))] [(39,59)] (q82_l0_mk h14) (Nat.lt_succ_self k) (And.intro (int_lss (P:=Tryz.prog) (t:=3) (k:=.i64) (x:=(.tmp 8)) (y:=(.tmp 10)) (a:=x7) (b:=(x0.size:Int)) (v:=true) (decide_eq_true g1)) (And.intro (And.intro (idx_str (k:=.i64) (x:=x0) (i:=x7) Tryz.underlying9 g3 g1) (int_eql (P:=Tryz.prog) (t:=5) (k:=.u8) (x:=(.tmp 16)) (y:=(.tmp 17)) (a:=(bt x0 x7)) (b:=x1) (v:=true) (beq_iff_eq.2 g5))) (And.intro (And.intro (cut_str (k:=.i64) (k':=.i64) (x:=x0) (a:=x6) (b:=x7) Tryz.underlying9 g7 g9 g11) (iStr_app (N:=8796093022208) (b:=16) (xs:=x5) (ys:=[(x0.extract (x6:Int).toNat (x7:Int).toNat)]) (by decide) (Nat.succ_le_of_lt g13))) (And.intro (int_add (P:=Tryz.prog) (t:=3) (k:=.i64) (x:=(.tmp 26)) (y:=(.const (.int .i64 1))) (a:=x7) (b:=1) (c:=(wrap64 (x7 + 1))) (IntWalk.i64_left _)) (int_add (P:=Tryz.prog) (t:=3) (k:=.i64) (x:=(.tmp 12)) (y:=(.const (.int .i64 1))) (a:=x7) (b:=1) (c:=(wrap64 (x7 + 1))) (IntWalk.i64_left _)))))) (by kernel_rfl)
    ·exact leafBack (hn:=hn82) 17 [.val (.bool true),.val (.int .u8 (bt x0 x7)),.val (.bool false),.val (.int .i64 (wrap64 (x7 + 1)))] [] (q82_l0_mk h6) (Nat.lt_succ_self k) (And.intro (int_lss (P:=Tryz.prog) (t:=3) (k:=.i64) (x:=(.tmp 8)) (y:=(.tmp 10)) (a:=x7) (b:=(x0.size:Int)) (v:=true) (decide_eq_true g1)) (And.intro (And.intro (idx_str (k:=.i64) (x:=x0) (i:=x7) Tryz.underlying9 g3 g1) (int_eql (P:=Tryz.prog) (t:=5) (k:=.u8) (x:=(.tmp 16)) (y:=(.tmp 17)) (a:=(bt x0 x7)) (b:=x1) (v:=false) (beq_false_of_ne g5))) (int_add (P:=Tryz.prog) (t:=3) (k:=.i64) (x:=(.tmp 12)) (y:=(.const (.int .i64 1))) (a:=x7) (b:=1) (c:=(wrap64 (x7 + 1))) (IntWalk.i64_left _)))) (by kernel_rfl)
   ·obtain ⟨g15,h16⟩:=ip_ h2
    obtain ⟨g17,h18⟩:=ip_ h16
    obtain ⟨g19,h20⟩:=ip_ h18
    obtain rfl:=Option.some.inj h20
    exact leafRet (hn:=hn82) 14 [.val (.bool false),.val (.string (x0.extract (x6:Int).toNat x0.size)),.go,.elem (.ow false 9 (iStr (x5 ++ ([(x0.extract (x6:Int).toNat x0.size)]))))] [] .ret (.inr rfl) (by kernel_rfl) (And.intro (int_lss (P:=Tryz.prog) (t:=3) (k:=.i64) (x:=(.tmp 8)) (y:=(.tmp 10)) (a:=x7) (b:=(x0.size:Int)) (v:=false) (decide_eq_false g1)) (And.intro (cut_str_l (k:=.i64) (x:=x0) (a:=x6) Tryz.underlying9 g15 g17) (iStr_app (N:=8796093022208) (b:=16) (xs:=x5) (ys:=[(x0.extract (x6:Int).toNat x0.size)]) (by decide) (Nat.succ_le_of_lt g19)))) (by kernel_rfl))
set_option maxRecDepth 100000 in
theorem ad_82 {k:Nat} {a0:ByteArray} {a1:Int} {r:List ByteArray} (h:spec_l1Split.f k a0 a1 = some r):CallH Tryz.prog 82 [.val (.string a0),.val (.int .u8 a1)] [] (.sl (iStr r)) []:=by
 unfold spec_l1Split.f at h
 refine call_ok (c:=bodyOf Tryz.f82) (rs:=o82 r) (post:=p82 r) Tryz.func82 rfl rfl rfl (by kernel_rfl) ?_
 show AtP Tryz.prog 34 (bodyOf Tryz.f82) (KR Tryz.prog Tryz.f82.results.toList (o82 r) (p82 r)) [] [] (lookA [(0,.val (.string a0)),(1,.val (.int .u8 a1))])
 exact leafAt (hn:=hn82) 14 [.goT,.nil false 9] [] (at82_l0 _ _ (q82_l0_mk h)) True.intro (by kernel_rfl)

def hn56:Hint:=⟨[(42,[63]),(52,[111]),(55,[63])],[]⟩
def o56 (r:(List (S43)) × Bool):List AV:=[.sl (iS43 r.1),vb r.2]
def p56 (r:(List (S43)) × Bool):List (Nat × AV):=[]
def q56_l0 (r:(List (S43)) × Bool) (k:Nat) (L:List (Nat × AV)):Prop:=∃ (x4:List (S43)) (x13:List ByteArray) (x14:Int) (x15:Int),L = [(4,.row 63),(13,.sl (iStr x13)),(14,vi x14),(15,vi x15),(63,.ow false 43 (iS43 x4))] ∧ spec_tiParse.l0 k x4 x13 x14 x15 = some r
theorem q56_l0_mk {r:(List (S43)) × Bool} {k:Nat} {x4:List (S43)} {x13:List ByteArray} {x14:Int} {x15:Int} (h:spec_tiParse.l0 k x4 x13 x14 x15 = some r):q56_l0 r k [(4,.row 63),(13,.sl (iStr x13)),(14,vi x14),(15,vi x15),(63,.ow false 43 (iS43 x4))]:=⟨x4,x13,x14,x15,rfl,h⟩
set_option maxRecDepth 100000 in
theorem at56_l0 {r:(List (S43)) × Bool}:∀ k L,q56_l0 r k L → AtP Tryz.prog 59 (bodyOf Tryz.f56) (KR Tryz.prog Tryz.f56.results.toList (o56 r) (p56 r)) [true,true,true,true,false,true,false] [] (lookA L) :=
 at_loop (by kernel_rfl) (fun _ => by kernel_rfl) (q56_l0 r) (by
  rintro k _ ⟨x4,x13,x14,x15,rfl,h⟩
  cases k with
  | zero => simp [spec_tiParse.l0] at h
  | succ k =>
   rw [spec_tiParse.l0] at h
   rcases ite_ h with ⟨g1,h2⟩ | ⟨g1,h2⟩
   ·obtain ⟨g3,h4⟩:=ip_ h2
    obtain ⟨g5,h6⟩:=ip_ h4
    rcases ite_ h6 with ⟨g7,h8⟩ | ⟨g7,h8⟩
    ·obtain ⟨g9,h10⟩:=ip_ h8
     rcases ite_ h10 with ⟨g11,h12⟩ | ⟨g11,h12⟩
     ·obtain rfl:=Option.some.inj h12
      exact leafRet (hn:=hn56) 27 [.val (.bool true),.elem (.val (.string (rdOf ByteArray.empty x13 x15))),.val (.bool false),.val (.int .u8 (bt (rdOf ByteArray.empty x13 x15) 0)),.val (.bool true),.goT] [] .ret (.inr rfl) (by kernel_rfl) (And.intro (int_lss (P:=Tryz.prog) (t:=3) (k:=.i64) (x:=(.tmp 15)) (y:=(.tmp 14)) (a:=x15) (b:=x14) (v:=true) (decide_eq_true g1)) (And.intro (iStr_rd (xs:=x13) (i:=x15) g3 g5) (And.intro (int_neq (P:=Tryz.prog) (t:=3) (k:=.i64) (x:=(.tmp 20)) (y:=(.const (.int .i64 2))) (a:=((rdOf ByteArray.empty x13 x15).size:Int)) (b:=2) (v:=false) (nbeq_f g7)) (And.intro (idx_str (k:=.i64) (x:=(rdOf ByteArray.empty x13 x15)) (i:=0) Tryz.underlying9 (by decide) g9) (int_lss (P:=Tryz.prog) (t:=5) (k:=.u8) (x:=(.tmp 24)) (y:=(.const (.int .u8 48))) (a:=(bt (rdOf ByteArray.empty x13 x15) 0)) (b:=48) (v:=true) (decide_eq_true g11)))))) (by kernel_rfl)
     ·rcases ite_ h12 with ⟨g13,h14⟩ | ⟨g13,h14⟩
      ·obtain rfl:=Option.some.inj h14
       exact leafRet (hn:=hn56) 27 [.val (.bool true),.elem (.val (.string (rdOf ByteArray.empty x13 x15))),.val (.bool false),.val (.int .u8 (bt (rdOf ByteArray.empty x13 x15) 0)),.val (.bool false),.val (.int .u8 (bt (rdOf ByteArray.empty x13 x15) 0)),.val (.bool true),.goT] [] .ret (.inr rfl) (by kernel_rfl) (And.intro (int_lss (P:=Tryz.prog) (t:=3) (k:=.i64) (x:=(.tmp 15)) (y:=(.tmp 14)) (a:=x15) (b:=x14) (v:=true) (decide_eq_true g1)) (And.intro (iStr_rd (xs:=x13) (i:=x15) g3 g5) (And.intro (int_neq (P:=Tryz.prog) (t:=3) (k:=.i64) (x:=(.tmp 20)) (y:=(.const (.int .i64 2))) (a:=((rdOf ByteArray.empty x13 x15).size:Int)) (b:=2) (v:=false) (nbeq_f g7)) (And.intro (idx_str (k:=.i64) (x:=(rdOf ByteArray.empty x13 x15)) (i:=0) Tryz.underlying9 (by decide) g9) (And.intro (int_lss (P:=Tryz.prog) (t:=5) (k:=.u8) (x:=(.tmp 24)) (y:=(.const (.int .u8 48))) (a:=(bt (rdOf ByteArray.empty x13 x15) 0)) (b:=48) (v:=false) (decide_eq_false g11)) (And.intro (idx_str (k:=.i64) (x:=(rdOf ByteArray.empty x13 x15)) (i:=0) Tryz.underlying9 (by decide) g9) (int_gtr (P:=Tryz.prog) (t:=5) (k:=.u8) (x:=(.tmp 29)) (y:=(.const (.int .u8 57))) (a:=(bt (rdOf ByteArray.empty x13 x15) 0)) (b:=57) (v:=true) (decide_eq_true g13)))))))) (by kernel_rfl)
      ·obtain ⟨g15,h16⟩:=ip_ h14
       rcases ite_ h16 with ⟨g17,h18⟩ | ⟨g17,h18⟩
       ·obtain rfl:=Option.some.inj h18
        exact leafRet (hn:=hn56) 27 [.val (.bool true),.elem (.val (.string (rdOf ByteArray.empty x13 x15))),.val (.bool false),.val (.int .u8 (bt (rdOf ByteArray.empty x13 x15) 0)),.val (.bool false),.val (.int .u8 (bt (rdOf ByteArray.empty x13 x15) 0)),.val (.bool false),.val (.int .u8 (bt (rdOf ByteArray.empty x13 x15) 1)),.val (.bool true),.goT] [] .ret (.inr rfl) (by kernel_rfl) (And.intro (int_lss (P:=Tryz.prog) (t:=3) (k:=.i64) (x:=(.tmp 15)) (y:=(.tmp 14)) (a:=x15) (b:=x14) (v:=true) (decide_eq_true g1)) (And.intro (iStr_rd (xs:=x13) (i:=x15) g3 g5) (And.intro (int_neq (P:=Tryz.prog) (t:=3) (k:=.i64) (x:=(.tmp 20)) (y:=(.const (.int .i64 2))) (a:=((rdOf ByteArray.empty x13 x15).size:Int)) (b:=2) (v:=false) (nbeq_f g7)) (And.intro (idx_str (k:=.i64) (x:=(rdOf ByteArray.empty x13 x15)) (i:=0) Tryz.underlying9 (by decide) g9) (And.intro (int_lss (P:=Tryz.prog) (t:=5) (k:=.u8) (x:=(.tmp 24)) (y:=(.const (.int .u8 48))) (a:=(bt (rdOf ByteArray.empty x13 x15) 0)) (b:=48) (v:=false) (decide_eq_false g11)) (And.intro (idx_str (k:=.i64) (x:=(rdOf ByteArray.empty x13 x15)) (i:=0) Tryz.underlying9 (by decide) g9) (And.intro (int_gtr (P:=Tryz.prog) (t:=5) (k:=.u8) (x:=(.tmp 29)) (y:=(.const (.int .u8 57))) (a:=(bt (rdOf ByteArray.empty x13 x15) 0)) (b:=57) (v:=false) (decide_eq_false g13)) (And.intro (idx_str (k:=.i64) (x:=(rdOf ByteArray.empty x13 x15)) (i:=1) Tryz.underlying9 (by decide) g15) (int_lss (P:=Tryz.prog) (t:=5) (k:=.u8) (x:=(.tmp 34)) (y:=(.const (.int .u8 48))) (a:=(bt (rdOf ByteArray.empty x13 x15) 1)) (b:=48) (v:=true) (decide_eq_true g17)))))))))) (by kernel_rfl)
       ·rcases ite_ h18 with ⟨g19,h20⟩ | ⟨g19,h20⟩
        ·obtain rfl:=Option.some.inj h20
         exact leafRet (hn:=hn56) 27 [.val (.bool true),.elem (.val (.string (rdOf ByteArray.empty x13 x15))),.val (.bool false),.val (.int .u8 (bt (rdOf ByteArray.empty x13 x15) 0)),.val (.bool false),.val (.int .u8 (bt (rdOf ByteArray.empty x13 x15) 0)),.val (.bool false),.val (.int .u8 (bt (rdOf ByteArray.empty x13 x15) 1)),.val (.bool false),.val (.int .u8 (bt (rdOf ByteArray.empty x13 x15) 1)),.val (.bool true),.goT] [] .ret (.inr rfl) (by kernel_rfl) (And.intro (int_lss (P:=Tryz.prog) (t:=3) (k:=.i64) (x:=(.tmp 15)) (y:=(.tmp 14)) (a:=x15) (b:=x14) (v:=true) (decide_eq_true g1)) (And.intro (iStr_rd (xs:=x13) (i:=x15) g3 g5) (And.intro (int_neq (P:=Tryz.prog) (t:=3) (k:=.i64) (x:=(.tmp 20)) (y:=(.const (.int .i64 2))) (a:=((rdOf ByteArray.empty x13 x15).size:Int)) (b:=2) (v:=false) (nbeq_f g7)) (And.intro (idx_str (k:=.i64) (x:=(rdOf ByteArray.empty x13 x15)) (i:=0) Tryz.underlying9 (by decide) g9) (And.intro (int_lss (P:=Tryz.prog) (t:=5) (k:=.u8) (x:=(.tmp 24)) (y:=(.const (.int .u8 48))) (a:=(bt (rdOf ByteArray.empty x13 x15) 0)) (b:=48) (v:=false) (decide_eq_false g11)) (And.intro (idx_str (k:=.i64) (x:=(rdOf ByteArray.empty x13 x15)) (i:=0) Tryz.underlying9 (by decide) g9) (And.intro (int_gtr (P:=Tryz.prog) (t:=5) (k:=.u8) (x:=(.tmp 29)) (y:=(.const (.int .u8 57))) (a:=(bt (rdOf ByteArray.empty x13 x15) 0)) (b:=57) (v:=false) (decide_eq_false g13)) (And.intro (idx_str (k:=.i64) (x:=(rdOf ByteArray.empty x13 x15)) (i:=1) Tryz.underlying9 (by decide) g15) (And.intro (int_lss (P:=Tryz.prog) (t:=5) (k:=.u8) (x:=(.tmp 34)) (y:=(.const (.int .u8 48))) (a:=(bt (rdOf ByteArray.empty x13 x15) 1)) (b:=48) (v:=false) (decide_eq_false g17)) (And.intro (idx_str (k:=.i64) (x:=(rdOf ByteArray.empty x13 x15)) (i:=1) Tryz.underlying9 (by decide) g15) (int_gtr (P:=Tryz.prog) (t:=5) (k:=.u8) (x:=(.tmp 39)) (y:=(.const (.int .u8 57))) (a:=(bt (rdOf ByteArray.empty x13 x15) 1)) (b:=57) (v:=true) (decide_eq_true g19)))))))))))) (by kernel_rfl)
        ·obtain ⟨g21,h22⟩:=ip_ h20
         exact leafBack (hn:=hn56) 23 [.val (.bool true),.elem (.val (.string (rdOf ByteArray.empty x13 x15))),.val (.bool false),.val (.int .u8 (bt (rdOf ByteArray.empty x13 x15) 0)),.val (.bool false),.val (.int .u8 (bt (rdOf ByteArray.empty x13 x15) 0)),.val (.bool false),.val (.int .u8 (bt (rdOf ByteArray.empty x13 x15) 1)),.val (.bool false),.val (.int .u8 (bt (rdOf ByteArray.empty x13 x15) 1)),.val (.bool false),.val (.int .u8 (bt (rdOf ByteArray.empty x13 x15) 0)),.val (.int .u8 (((bt (rdOf ByteArray.empty x13 x15) 0) - 48) % 256)),.val (.int .i64 (((bt (rdOf ByteArray.empty x13 x15) 0) - 48) % 256)),.val (.int .u8 (bt (rdOf ByteArray.empty x13 x15) 1)),.val (.int .u8 (((bt (rdOf ByteArray.empty x13 x15) 1) - 48) % 256)),.val (.int .i64 (((bt (rdOf ByteArray.empty x13 x15) 1) - 48) % 256)),.elem (.agg [vi (((bt (rdOf ByteArray.empty x13 x15) 0) - 48) % 256),vi (((bt (rdOf ByteArray.empty x13 x15) 1) - 48) % 256)]),.go,.elem (.ow false 43 (iS43 (x4 ++ ([(⟨(((bt (rdOf ByteArray.empty x13 x15) 0) - 48) % 256),(((bt (rdOf ByteArray.empty x13 x15) 1) - 48) % 256)⟩ : S43)])))),.val (.int .i64 (wrap64 (x15 + 1)))] [(63,112)] (q56_l0_mk h22) (Nat.lt_succ_self k) (And.intro (int_lss (P:=Tryz.prog) (t:=3) (k:=.i64) (x:=(.tmp 15)) (y:=(.tmp 14)) (a:=x15) (b:=x14) (v:=true) (decide_eq_true g1)) (And.intro (iStr_rd (xs:=x13) (i:=x15) g3 g5) (And.intro (And.intro (int_neq (P:=Tryz.prog) (t:=3) (k:=.i64) (x:=(.tmp 20)) (y:=(.const (.int .i64 2))) (a:=((rdOf ByteArray.empty x13 x15).size:Int)) (b:=2) (v:=false) (nbeq_f g7)) (And.intro (idx_str (k:=.i64) (x:=(rdOf ByteArray.empty x13 x15)) (i:=0) Tryz.underlying9 (by decide) g9) (And.intro (int_lss (P:=Tryz.prog) (t:=5) (k:=.u8) (x:=(.tmp 24)) (y:=(.const (.int .u8 48))) (a:=(bt (rdOf ByteArray.empty x13 x15) 0)) (b:=48) (v:=false) (decide_eq_false g11)) (And.intro (idx_str (k:=.i64) (x:=(rdOf ByteArray.empty x13 x15)) (i:=0) Tryz.underlying9 (by decide) g9) (And.intro (int_gtr (P:=Tryz.prog) (t:=5) (k:=.u8) (x:=(.tmp 29)) (y:=(.const (.int .u8 57))) (a:=(bt (rdOf ByteArray.empty x13 x15) 0)) (b:=57) (v:=false) (decide_eq_false g13)) (And.intro (idx_str (k:=.i64) (x:=(rdOf ByteArray.empty x13 x15)) (i:=1) Tryz.underlying9 (by decide) g15) (And.intro (int_lss (P:=Tryz.prog) (t:=5) (k:=.u8) (x:=(.tmp 34)) (y:=(.const (.int .u8 48))) (a:=(bt (rdOf ByteArray.empty x13 x15) 1)) (b:=48) (v:=false) (decide_eq_false g17)) (And.intro (idx_str (k:=.i64) (x:=(rdOf ByteArray.empty x13 x15)) (i:=1) Tryz.underlying9 (by decide) g15) (int_gtr (P:=Tryz.prog) (t:=5) (k:=.u8) (x:=(.tmp 39)) (y:=(.const (.int .u8 57))) (a:=(bt (rdOf ByteArray.empty x13 x15) 1)) (b:=57) (v:=false) (decide_eq_false g19)))))))))) (And.intro (And.intro (idx_str (k:=.i64) (x:=(rdOf ByteArray.empty x13 x15)) (i:=0) Tryz.underlying9 (by decide) g9) (And.intro (int_sub (P:=Tryz.prog) (t:=5) (k:=.u8) (x:=(.tmp 44)) (y:=(.const (.int .u8 48))) (a:=(bt (rdOf ByteArray.empty x13 x15) 0)) (b:=48) (c:=(((bt (rdOf ByteArray.empty x13 x15) 0) - 48) % 256)) (wrap_u8 _)) (And.intro (conv_5_3_m (z:=((bt (rdOf ByteArray.empty x13 x15) 0) - 48))) (And.intro (idx_str (k:=.i64) (x:=(rdOf ByteArray.empty x13 x15)) (i:=1) Tryz.underlying9 (by decide) g15) (And.intro (int_sub (P:=Tryz.prog) (t:=5) (k:=.u8) (x:=(.tmp 48)) (y:=(.const (.int .u8 48))) (a:=(bt (rdOf ByteArray.empty x13 x15) 1)) (b:=48) (c:=(((bt (rdOf ByteArray.empty x13 x15) 1) - 48) % 256)) (wrap_u8 _)) (And.intro (conv_5_3_m (z:=((bt (rdOf ByteArray.empty x13 x15) 1) - 48))) (And.intro (build_43_2 (p0:=(((bt (rdOf ByteArray.empty x13 x15) 0) - 48) % 256)) (p1:=(((bt (rdOf ByteArray.empty x13 x15) 1) - 48) % 256))) (iS43_app (N:=8796093022208) (b:=16) (xs:=x4) (ys:=[(⟨(((bt (rdOf ByteArray.empty x13 x15) 0) - 48) % 256),(((bt (rdOf ByteArray.empty x13 x15) 1) - 48) % 256)⟩ : S43)]) (by decide) (Nat.succ_le_of_lt g21))))))))) (int_add (P:=Tryz.prog) (t:=3) (k:=.i64) (x:=(.tmp 15)) (y:=(.const (.int .i64 1))) (a:=x15) (b:=1) (c:=(wrap64 (x15 + 1))) (IntWalk.i64_left _)))))) (by kernel_rfl)
    ·obtain rfl:=Option.some.inj h8
     exact leafRet (hn:=hn56) 27 [.val (.bool true),.elem (.val (.string (rdOf ByteArray.empty x13 x15))),.val (.bool true),.goT] [] .ret (.inr rfl) (by kernel_rfl) (And.intro (int_lss (P:=Tryz.prog) (t:=3) (k:=.i64) (x:=(.tmp 15)) (y:=(.tmp 14)) (a:=x15) (b:=x14) (v:=true) (decide_eq_true g1)) (And.intro (iStr_rd (xs:=x13) (i:=x15) g3 g5) (int_neq (P:=Tryz.prog) (t:=3) (k:=.i64) (x:=(.tmp 20)) (y:=(.const (.int .i64 2))) (a:=((rdOf ByteArray.empty x13 x15).size:Int)) (b:=2) (v:=true) (nbeq_t g7)))) (by kernel_rfl)
   ·obtain ⟨t513,c23,h24⟩:=bd_ h2
    rcases ite_ h24 with ⟨g25,h26⟩ | ⟨g25,h26⟩
    ·subst g25
     obtain rfl:=Option.some.inj h26
     exact leafRet (hn:=hn56) 21 [.val (.bool false),.call (vb true)] [] .ret (.inr rfl) (by kernel_rfl) (And.intro (int_lss (P:=Tryz.prog) (t:=3) (k:=.i64) (x:=(.tmp 15)) (y:=(.tmp 14)) (a:=x15) (b:=x14) (v:=false) (decide_eq_false g1)) (ad_32 c23)) (by kernel_rfl)
    ·obtain rfl:=Bool.eq_false_iff.2 g25
     obtain rfl:=Option.some.inj h26
     exact leafRet (hn:=hn56) 20 [.val (.bool false),.call (vb false),.goT] [] .ret (.inr rfl) (by kernel_rfl) (And.intro (int_lss (P:=Tryz.prog) (t:=3) (k:=.i64) (x:=(.tmp 15)) (y:=(.tmp 14)) (a:=x15) (b:=x14) (v:=false) (decide_eq_false g1)) (ad_32 c23)) (by kernel_rfl))
set_option maxRecDepth 100000 in
theorem ad_56 {k:Nat} {a0:ByteArray} {r1:List (S43)} {r2:Bool} (h:spec_tiParse.f k a0 = some (r1,r2)):CallH Tryz.prog 56 [.val (.string a0)] [] (.tup [.sl (iS43 r1),vb r2]) []:=by
 unfold spec_tiParse.f at h
 refine call_ok (c:=bodyOf Tryz.f56) (rs:=o56 (r1,r2)) (post:=p56 (r1,r2)) Tryz.func56 rfl rfl rfl (by kernel_rfl) ?_
 show AtP Tryz.prog 59 (bodyOf Tryz.f56) (KR Tryz.prog Tryz.f56.results.toList (o56 (r1,r2)) (p56 (r1,r2))) [] [] (lookA [(0,.val (.string a0))])
 rcases ite_ h with ⟨g1,h2⟩ | ⟨g1,h2⟩
 ·obtain ⟨rfl,rfl⟩:=pr2_ h2
  exact leafRet (hn:=hn56) 13 [.goT,.val (.bool true),.goT] [] .ret (.inr rfl) (by kernel_rfl) (str_eql_ (P:=Tryz.prog) (t:=9) (x:=(.tmp 7)) (y:=(.const (.string (⟨#[45]⟩ : ByteArray)))) (a:=a0) (b:=(⟨#[45]⟩ : ByteArray)) (l:=([45] : List UInt8)) (v:=true) (ByteArray.toList_eq _) (beq_iff_eq.2 g1)) (by kernel_rfl)
 ·rcases ite_ h2 with ⟨g3,h4⟩ | ⟨g3,h4⟩
  ·obtain ⟨rfl,rfl⟩:=pr2_ h4
   exact leafRet (hn:=hn56) 20 [.goT,.val (.bool false),.val (.bool true),.goT] [] .ret (.inr rfl) (by kernel_rfl) (And.intro (str_eql_ (P:=Tryz.prog) (t:=9) (x:=(.tmp 7)) (y:=(.const (.string (⟨#[45]⟩ : ByteArray)))) (a:=a0) (b:=(⟨#[45]⟩ : ByteArray)) (l:=([45] : List UInt8)) (v:=false) (ByteArray.toList_eq _) (beq_false_of_ne g1)) (int_gtr (P:=Tryz.prog) (t:=3) (k:=.i64) (x:=(.tmp 10)) (y:=(.const (.int .i64 165))) (a:=(a0.size:Int)) (b:=165) (v:=true) (decide_eq_true g3))) (by kernel_rfl)
  ·obtain ⟨t506,c5,h6⟩:=bd_ h4
   exact leafAt (hn:=hn56) 25 [.goT,.val (.bool false),.val (.bool false),.nil false 43,.call (.sl (iStr t506)),.val (.int .i64 (t506.length:Int))] [] (at56_l0 _ _ (q56_l0_mk h6)) (And.intro (str_eql_ (P:=Tryz.prog) (t:=9) (x:=(.tmp 7)) (y:=(.const (.string (⟨#[45]⟩ : ByteArray)))) (a:=a0) (b:=(⟨#[45]⟩ : ByteArray)) (l:=([45] : List UInt8)) (v:=false) (ByteArray.toList_eq _) (beq_false_of_ne g1)) (And.intro (int_gtr (P:=Tryz.prog) (t:=3) (k:=.i64) (x:=(.tmp 10)) (y:=(.const (.int .i64 165))) (a:=(a0.size:Int)) (b:=165) (v:=false) (decide_eq_false g3)) (And.intro (ad_82 c5) (iStr_len (xs:=t506))))) (by kernel_rfl)

def hn26:Hint:=⟨[],[]⟩
def o26 (r:(List (S43)) × Bool):List AV:=[.sl (iS43 r.1),vb r.2]
def p26 (r:(List (S43)) × Bool):List (Nat × AV):=[]
set_option maxRecDepth 100000 in
theorem ad_26 {k:Nat} {a0:ByteArray} {r1:List (S43)} {r2:Bool} (h:spec_ParseHand.f k a0 = some (r1,r2)):CallH Tryz.prog 26 [.val (.string a0)] [] (.tup [.sl (iS43 r1),vb r2]) []:=by
 unfold spec_ParseHand.f at h
 refine call_ok (c:=bodyOf Tryz.f26) (rs:=o26 (r1,r2)) (post:=p26 (r1,r2)) Tryz.func26 rfl rfl rfl (by kernel_rfl) ?_
 show AtP Tryz.prog 8 (bodyOf Tryz.f26) (KR Tryz.prog Tryz.f26.results.toList (o26 (r1,r2)) (p26 (r1,r2))) [] [] (lookA [(0,.val (.string a0))])
 obtain ⟨⟨bt514_1,bt514_2⟩,c1,h2⟩:=bd_ h
 try dsimp only at h2
 obtain ⟨rfl,rfl⟩:=pr2_ h2
 exact leafRet (hn:=hn26) 7 [.goT,.call (.tup [.sl (iS43 bt514_1),vb bt514_2])] [] .ret (.inr rfl) (by kernel_rfl) (ad_56 c1) (by kernel_rfl)

mutual
def g5_spec_DrawRenameHand.l0:Nat → List Int → Int → Int → List (S43) → List Int → Int → Option (List (S43) × List Int)
  | 0,_,_,_,_,_,_ => none
  | k + 1,y0,y1,y2,x5,x6,x7 => if x7 ≤ 9 then ((spec_l1Cur_pick.f y0 y1 y2 (wrap64 (x7 + 1))).bind fun b2 => (if 0 ≤ b2.1 then (if b2.1 ≤ (x6.length:Int) then (if (([] : List Int) ++ (x6.take (b2.1:Int).toNat)).length < 17592186044416 then (if ((([] : List Int) ++ (x6.take (b2.1:Int).toNat)) ++ ([x7])).length + (x6.drop (b2.1:Int).toNat).length < 17592186044416 then (g5_spec_DrawRenameHand.l0 k y0 b2.2.1 b2.2.2 x5 (((([] : List Int) ++ (x6.take (b2.1:Int).toNat)) ++ ([x7])) ++ (x6.drop (b2.1:Int).toNat)) (wrap64 (x7 + 1))) else (none)) else (none)) else (none)) else (none))) else ((spec_l1Cur_pick.f y0 y1 y2 12).bind fun b3 => (if b3.1 = 0 then (if 1 < (x6.length:Int) then ((spec_l1Cur_among.f y0 b3.2.1 b3.2.2 ([-1,10,(rd x6 1)])).bind fun b4 => (if 0 < (x6.length:Int) then (some (x5,(x6.set ((0:Int).toNat) b4.1))) else (none))) else (none)) else (if b3.1 = 1 then (if 1 ≤ (x6.length:Int) then (some (x5,(x6.drop (1:Int).toNat))) else (none)) else (some (x5,x6)))))
end
def g5_spec_DrawRenameHand.f (k:Nat) (l0:List Int):Option (List (S43) × List Int):=(spec_l1Cur_hand.f k l0 0 0 10 6).bind fun b1 => (g5_spec_DrawRenameHand.l0 k l0 b1.2.1 b1.2.2 b1.1 ([] : List Int) 0)

def hn5:Hint:=⟨[(12,[63]),(18,[63]),(22,[74]),(23,[58]),(26,[78]),(28,[80]),(29,[81]),(30,[58]),(34,[63]),(38,[58]),(39,[63]),(40,[58]),(41,[58]),(43,[95]),(45,[58]),(48,[58])],[]⟩
def o5 (r:List (S43) × List Int):List AV:=[.sl (iS43 r.1),.sl (iI .i64 r.2)]
def p5 (r:List (S43) × List Int):List (Nat × AV):=[]
def q5_l0 (r:List (S43) × List Int) (k:Nat) (L:List (Nat × AV)):Prop:=∃ (y0:List Int) (y1:Int) (y2:Int) (x5:List (S43)) (x6:List Int) (x7:Int),L = [(4,.loc 63 0),(5,.sl (iS43 x5)),(6,.row 58),(7,vi x7),(58,.ow true 3 (iI .i64 x6)),(63,.box (.agg [.sl (iI .u8 y0),vi y1,.val (.int .u64 y2)]))] ∧ g5_spec_DrawRenameHand.l0 k y0 y1 y2 x5 x6 x7 = some r
theorem q5_l0_mk {r:List (S43) × List Int} {k:Nat} {y0:List Int} {y1:Int} {y2:Int} {x5:List (S43)} {x6:List Int} {x7:Int} (h:g5_spec_DrawRenameHand.l0 k y0 y1 y2 x5 x6 x7 = some r):q5_l0 r k [(4,.loc 63 0),(5,.sl (iS43 x5)),(6,.row 58),(7,vi x7),(58,.ow true 3 (iI .i64 x6)),(63,.box (.agg [.sl (iI .u8 y0),vi y1,.val (.int .u64 y2)]))]:=⟨y0,y1,y2,x5,x6,x7,rfl,h⟩
set_option maxRecDepth 100000 in
theorem at5_l0 {r:List (S43) × List Int}:∀ k L,q5_l0 r k L → AtP Tryz.prog 52 (bodyOf Tryz.f5) (KR Tryz.prog Tryz.f5.results.toList (o5 r) (p5 r)) [true,true,true,true,false,true,false] [] (lookA L) :=
 at_loop (by kernel_rfl) (fun _ => by kernel_rfl) (q5_l0 r) (by
  rintro k _ ⟨y0,y1,y2,x5,x6,x7,rfl,h⟩
  cases k with
  | zero => simp [g5_spec_DrawRenameHand.l0] at h
  | succ k =>
   rw [g5_spec_DrawRenameHand.l0] at h
   rcases ite_ h with ⟨g1,h2⟩ | ⟨g1,h2⟩
   ·obtain ⟨⟨b2_1,b2_2,b2_3⟩,c3,h4⟩:=bd_ h2
    try dsimp only at h4
    obtain ⟨g5,h6⟩:=ip_ h4
    obtain ⟨g7,h8⟩:=ip_ h6
    obtain ⟨g9,h10⟩:=ip_ h8
    obtain ⟨g11,h12⟩:=ip_ h10
    exact leafBack (hn:=hn5) 16 [.val (.bool true),.val (.int .i64 (wrap64 (x7 + 1))),.callH [63] (vi b2_1) [(63,.box (.agg [.sl (iI .u8 y0),vi b2_2,.val (.int .u64 b2_3)]))],.fz 58,.mut,.elem (.sl (iI .i64 (x6.take (b2_1:Int).toNat))),.elem (.ow true 3 (iI .i64 (([] : List Int) ++ (x6.take (b2_1:Int).toNat)))),.go,.elem (.ow true 3 (iI .i64 ((([] : List Int) ++ (x6.take (b2_1:Int).toNat)) ++ ([x7])))),.elem (.sl (iI .i64 (x6.drop (b2_1:Int).toNat))),.elem (.ow true 3 (iI .i64 (((([] : List Int) ++ (x6.take (b2_1:Int).toNat)) ++ ([x7])) ++ (x6.drop (b2_1:Int).toNat)))),.val (.int .i64 (wrap64 (x7 + 1)))] [(58,85)] (q5_l0_mk h12) (Nat.lt_succ_self k) (And.intro (int_leq (P:=Tryz.prog) (t:=3) (k:=.i64) (x:=(.tmp 14)) (y:=(.const (.int .i64 9))) (a:=x7) (b:=9) (v:=true) (decide_eq_true g1)) (And.intro (And.intro (int_add (P:=Tryz.prog) (t:=3) (k:=.i64) (x:=(.tmp 19)) (y:=(.const (.int .i64 1))) (a:=x7) (b:=1) (c:=(wrap64 (x7 + 1))) (IntWalk.i64_left _)) (CallH.ren [(1000000,63)] rfl rfl (ad_28 c3))) (And.intro (And.intro (iI_take (k:=.i64) (xs:=x6) (b:=b2_1) g5 g7) (And.intro (iI_app (k:=.i64) (N:=17592186044416) (b:=8) (xs:=([] : List Int)) (ys:=(x6.take (b2_1:Int).toNat)) (by decide) (by simp only [List.length_nil,List.length_cons,List.length_append] at *; omega)) (And.intro (iI_app (k:=.i64) (N:=17592186044416) (b:=8) (xs:=(([] : List Int) ++ (x6.take (b2_1:Int).toNat))) (ys:=[x7]) (by decide) (Nat.succ_le_of_lt g9)) (And.intro (iI_drop (k:=.i64) (xs:=x6) (a:=b2_1) g5 g7) (iI_app (k:=.i64) (N:=17592186044416) (b:=8) (xs:=((([] : List Int) ++ (x6.take (b2_1:Int).toNat)) ++ ([x7]))) (ys:=(x6.drop (b2_1:Int).toNat)) (by decide) (Nat.le_of_lt g11)))))) (int_add (P:=Tryz.prog) (t:=3) (k:=.i64) (x:=(.tmp 16)) (y:=(.const (.int .i64 1))) (a:=x7) (b:=1) (c:=(wrap64 (x7 + 1))) (IntWalk.i64_left _))))) (by kernel_rfl)
   ·obtain ⟨⟨b3_1,b3_2,b3_3⟩,c13,h14⟩:=bd_ h2
    try dsimp only at h14
    rcases ite_ h14 with ⟨g15,h16⟩ | ⟨g15,h16⟩
    ·obtain ⟨g17,h18⟩:=ip_ h16
     obtain ⟨⟨b4_1,b4_2,b4_3⟩,c19,h20⟩:=bd_ h18
     try dsimp only at h20
     obtain ⟨g21,h22⟩:=ip_ h20
     obtain rfl:=Option.some.inj h22
     exact leafRet (hn:=hn5) 26 [.val (.bool false),.callH [63] (vi b3_1) [(63,.box (.agg [.sl (iI .u8 y0),vi b3_2,.val (.int .u64 b3_3)]))],.val (.bool true),.go,.elem (vi (rd x6 1)),.go,.callH [63] (vi b4_1) [(63,.box (.agg [.sl (iI .u8 y0),vi b4_2,.val (.int .u64 b4_3)]))],.go,.elem (vi (rd x6 0)),.elem (.ow true 3 (iI .i64 (x6.set ((0:Int).toNat) b4_1))),.fz 58] [] .ret (.inr rfl) (by kernel_rfl) (And.intro (int_leq (P:=Tryz.prog) (t:=3) (k:=.i64) (x:=(.tmp 14)) (y:=(.const (.int .i64 9))) (a:=x7) (b:=9) (v:=false) (decide_eq_false g1)) (And.intro (CallH.ren [(1000000,63)] rfl rfl (ad_28 c13)) (And.intro (int_eql (P:=Tryz.prog) (t:=3) (k:=.i64) (x:=(.tmp 35)) (y:=(.const (.int .i64 0))) (a:=b3_1) (b:=0) (v:=true) (beq_iff_eq.2 g15)) (And.intro (iI_lt (k:=.i64) (xs:=x6) (i:=1) (by decide) g17) (And.intro (And.right (iI_rd (k:=.i64) (xs:=x6) (i:=1) (by decide) g17)) (And.intro (CallH.ren [(1000000,63)] rfl rfl (ad_29 c19)) (And.intro (iI_lt (k:=.i64) (xs:=x6) (i:=0) (by decide) g21) (iI_set (k:=.i64) (xs:=x6) (i:=0) (x:=b4_1) (by decide) g21)))))))) (by kernel_rfl)
    ·rcases ite_ h16 with ⟨g23,h24⟩ | ⟨g23,h24⟩
     ·obtain ⟨g25,h26⟩:=ip_ h24
      obtain rfl:=Option.some.inj h26
      exact leafRet (hn:=hn5) 30 [.val (.bool false),.callH [63] (vi b3_1) [(63,.box (.agg [.sl (iI .u8 y0),vi b3_2,.val (.int .u64 b3_3)]))],.val (.bool false),.val (.bool true),.fz 58,.elem (.sl (iI .i64 (x6.drop (1:Int).toNat)))] [] .ret (.inr rfl) (by kernel_rfl) (And.intro (int_leq (P:=Tryz.prog) (t:=3) (k:=.i64) (x:=(.tmp 14)) (y:=(.const (.int .i64 9))) (a:=x7) (b:=9) (v:=false) (decide_eq_false g1)) (And.intro (CallH.ren [(1000000,63)] rfl rfl (ad_28 c13)) (And.intro (int_eql (P:=Tryz.prog) (t:=3) (k:=.i64) (x:=(.tmp 35)) (y:=(.const (.int .i64 0))) (a:=b3_1) (b:=0) (v:=false) (beq_false_of_ne g15)) (And.intro (int_eql (P:=Tryz.prog) (t:=3) (k:=.i64) (x:=(.tmp 35)) (y:=(.const (.int .i64 1))) (a:=b3_1) (b:=1) (v:=true) (beq_iff_eq.2 g23)) (iI_drop (k:=.i64) (xs:=x6) (a:=1) (by decide) g25))))) (by kernel_rfl)
     ·obtain rfl:=Option.some.inj h24
      exact leafRet (hn:=hn5) 30 [.val (.bool false),.callH [63] (vi b3_1) [(63,.box (.agg [.sl (iI .u8 y0),vi b3_2,.val (.int .u64 b3_3)]))],.val (.bool false),.val (.bool false),.fz 58] [] .ret (.inr rfl) (by kernel_rfl) (And.intro (int_leq (P:=Tryz.prog) (t:=3) (k:=.i64) (x:=(.tmp 14)) (y:=(.const (.int .i64 9))) (a:=x7) (b:=9) (v:=false) (decide_eq_false g1)) (And.intro (CallH.ren [(1000000,63)] rfl rfl (ad_28 c13)) (And.intro (int_eql (P:=Tryz.prog) (t:=3) (k:=.i64) (x:=(.tmp 35)) (y:=(.const (.int .i64 0))) (a:=b3_1) (b:=0) (v:=false) (beq_false_of_ne g15)) (int_eql (P:=Tryz.prog) (t:=3) (k:=.i64) (x:=(.tmp 35)) (y:=(.const (.int .i64 1))) (a:=b3_1) (b:=1) (v:=false) (beq_false_of_ne g23))))) (by kernel_rfl))
set_option maxRecDepth 100000 in
theorem ad_5 {k:Nat} {l0:List Int} {r1:List (S43)} {r2:List Int} (h:g5_spec_DrawRenameHand.f k l0 = some (r1,r2)):CallH Tryz.prog 5 [.sl (iI .u8 l0)] [] (.tup [.sl (iS43 r1),.sl (iI .i64 r2)]) []:=by
 unfold g5_spec_DrawRenameHand.f at h
 refine call_ok (c:=bodyOf Tryz.f5) (rs:=o5 (r1,r2)) (post:=p5 (r1,r2)) Tryz.func5 rfl rfl rfl (by kernel_rfl) ?_
 show AtP Tryz.prog 52 (bodyOf Tryz.f5) (KR Tryz.prog Tryz.f5.results.toList (o5 (r1,r2)) (p5 (r1,r2))) [] [] (lookA [(0,.sl (iI .u8 l0))])
 obtain ⟨⟨b1_1,b1_2,b1_3⟩,c1,h2⟩:=bd_ h
 try dsimp only at h2
 exact leafAt (hn:=hn5) 17 [.goT,.goT,.go,.callH [63] (.sl (iS43 b1_1)) [(63,.box (.agg [.sl (iI .u8 l0),vi b1_2,.val (.int .u64 b1_3)]))],.nil true 3] [] (at5_l0 _ _ (q5_l0_mk h2)) (CallH.ren [(1000000,63)] rfl rfl (ad_27 c1)) (by kernel_rfl)

def g48_impl_WithNumber_1.f (k:Nat) (a0:Int) (a1:Int) (a2:Int):Option (Bool):=(impl_Tile_has.f a0 a1 a2).bind fun b1 => (some (b1))

def hn48:Hint:=⟨[(2,[9])],[]⟩
def o48 (r:Bool):List AV:=[vb r]
def p48 (r:Bool):List (Nat × AV):=[]
set_option maxRecDepth 100000 in
theorem ad_48 {k:Nat} {a0:Int} {a1:Int} {a2:Int} {r:Bool} (h:g48_impl_WithNumber_1.f k a0 a1 a2 = some r):CallH Tryz.prog 48 [.agg [vi a0,vi a1],.ptr (vi a2)] [] (vb r) []:=by
 unfold g48_impl_WithNumber_1.f at h
 refine call_ok (c:=bodyOf Tryz.f48) (rs:=o48 r) (post:=p48 r) Tryz.func48 rfl rfl rfl (by kernel_rfl) ?_
 show AtP Tryz.prog 7 (bodyOf Tryz.f48) (KR Tryz.prog Tryz.f48.results.toList (o48 r) (p48 r)) [] [] (lookA [(0,.agg [vi a0,vi a1]),(1,.ptr (vi a2))])
 obtain ⟨b1,c1,h2⟩:=bd_ h
 obtain rfl:=Option.some.inj h2
 exact leafRet (hn:=hn48) 7 [.call (vb b1)] [] .ret (.inr rfl) (by kernel_rfl) (ad_49 c1) (by kernel_rfl)

def g78_impl_kept_1.f (k:Nat) (a0:Int) (a1:Int) (a2:Int):Option (Bool):=(g48_impl_WithNumber_1.f k a0 a1 a2).bind fun b1 => (some ((!b1)))

def hn78:Hint:=⟨[(2,[10])],[]⟩
def o78 (r:Bool):List AV:=[vb r]
def p78 (r:Bool):List (Nat × AV):=[]
set_option maxRecDepth 100000 in
theorem ad_78 {k:Nat} {a0:Int} {a1:Int} {a2:Int} {r:Bool} (h:g78_impl_kept_1.f k a0 a1 a2 = some r):CallH Tryz.prog 78 [.agg [vi a0,vi a1],.ptr (.fn 48 [.ptr (vi a2)])] [] (vb r) []:=by
 unfold g78_impl_kept_1.f at h
 refine call_ok (c:=bodyOf Tryz.f78) (rs:=o78 r) (post:=p78 r) Tryz.func78 rfl rfl rfl (by kernel_rfl) ?_
 show AtP Tryz.prog 8 (bodyOf Tryz.f78) (KR Tryz.prog Tryz.f78.results.toList (o78 r) (p78 r)) [] [] (lookA [(0,.agg [vi a0,vi a1]),(1,.ptr (.fn 48 [.ptr (vi a2)]))])
 obtain ⟨b1,c1,h2⟩:=bd_ h
 obtain rfl:=Option.some.inj h2
 exact leafRet (hn:=hn78) 7 [.call (vb b1)] [] .ret (.inr rfl) (by kernel_rfl) (ad_48 c1) (by kernel_rfl)

mutual
def g73_impl_Tile.l0:Nat → List (S43) → Int → Int → Int → Option (Int)
  | 0,_,_,_,_ => none
  | k + 1,x0,y0,x7,x8 => if x8 < x7 then (if 0 ≤ x8 then (if x8 < (x0.length:Int) then ((g78_impl_kept_1.f k ((rd_T43 x0 x8).f0) ((rd_T43 x0 x8).f1) y0).bind fun b1 => (if b1 = true then (some (x8)) else (g73_impl_Tile.l0 k x0 y0 x7 (wrap64 (x8 + 1))))) else (none)) else (none)) else (some (-1))
end
def g73_impl_Tile.f (k:Nat) (l0:List (S43)) (a1:Int):Option (Int):=g73_impl_Tile.l0 k l0 a1 (l0.length:Int) 0

def hn73:Hint:=⟨[],[]⟩
def o73 (r:Int):List AV:=[vi r]
def p73 (r:Int):List (Nat × AV):=[]
def q73_l0 (r:Int) (k:Nat) (L:List (Nat × AV)):Prop:=∃ (x0:List (S43)) (y0:Int) (x7:Int) (x8:Int),L = [(0,.sl (iS43 x0)),(1,.fn 78 [.ptr (.fn 48 [.ptr (vi y0)])]),(7,vi x7),(8,vi x8)] ∧ g73_impl_Tile.l0 k x0 y0 x7 x8 = some r
theorem q73_l0_mk {r:Int} {k:Nat} {x0:List (S43)} {y0:Int} {x7:Int} {x8:Int} (h:g73_impl_Tile.l0 k x0 y0 x7 x8 = some r):q73_l0 r k [(0,.sl (iS43 x0)),(1,.fn 78 [.ptr (.fn 48 [.ptr (vi y0)])]),(7,vi x7),(8,vi x8)]:=⟨x0,y0,x7,x8,rfl,h⟩
set_option maxRecDepth 100000 in
theorem at73_l0 {r:Int}:∀ k L,q73_l0 r k L → AtP Tryz.prog 19 (bodyOf Tryz.f73) (KR Tryz.prog Tryz.f73.results.toList (o73 r) (p73 r)) [true,false,true,false] [] (lookA L) :=
 at_loop (by kernel_rfl) (fun _ => by kernel_rfl) (q73_l0 r) (by
  rintro k _ ⟨x0,y0,x7,x8,rfl,h⟩
  cases k with
  | zero => simp [g73_impl_Tile.l0] at h
  | succ k =>
   rw [g73_impl_Tile.l0] at h
   rcases ite_ h with ⟨g1,h2⟩ | ⟨g1,h2⟩
   ·obtain ⟨g3,h4⟩:=ip_ h2
    obtain ⟨g5,h6⟩:=ip_ h4
    obtain ⟨b1,c7,h8⟩:=bd_ h6
    rcases ite_ h8 with ⟨g9,h10⟩ | ⟨g9,h10⟩
    ·subst g9
     obtain rfl:=Option.some.inj h10
     exact leafRet (hn:=hn73) 25 [.val (.bool true),.elem (.agg [vi ((rd_T43 x0 x8).f0),vi ((rd_T43 x0 x8).f1)]),.call (vb true)] [] .ret (.inr rfl) (by kernel_rfl) (And.intro (int_lss (P:=Tryz.prog) (t:=3) (k:=.i64) (x:=(.tmp 8)) (y:=(.tmp 7)) (a:=x8) (b:=x7) (v:=true) (decide_eq_true g1)) (And.intro (iS43_rd (xs:=x0) (i:=x8) g3 g5) (ad_78 c7))) (by kernel_rfl)
    ·obtain rfl:=Bool.eq_false_iff.2 g9
     exact leafBack (hn:=hn73) 20 [.val (.bool true),.elem (.agg [vi ((rd_T43 x0 x8).f0),vi ((rd_T43 x0 x8).f1)]),.call (vb false),.val (.int .i64 (wrap64 (x8 + 1)))] [] (q73_l0_mk h10) (Nat.lt_succ_self k) (And.intro (int_lss (P:=Tryz.prog) (t:=3) (k:=.i64) (x:=(.tmp 8)) (y:=(.tmp 7)) (a:=x8) (b:=x7) (v:=true) (decide_eq_true g1)) (And.intro (And.intro (iS43_rd (xs:=x0) (i:=x8) g3 g5) (ad_78 c7)) (int_add (P:=Tryz.prog) (t:=3) (k:=.i64) (x:=(.tmp 8)) (y:=(.const (.int .i64 1))) (a:=x8) (b:=1) (c:=(wrap64 (x8 + 1))) (IntWalk.i64_left _)))) (by kernel_rfl)
   ·obtain rfl:=Option.some.inj h2
    exact leafRet (hn:=hn73) 14 [.val (.bool false)] [] .ret (.inr rfl) (by kernel_rfl) (int_lss (P:=Tryz.prog) (t:=3) (k:=.i64) (x:=(.tmp 8)) (y:=(.tmp 7)) (a:=x8) (b:=x7) (v:=false) (decide_eq_false g1)) (by kernel_rfl))
set_option maxRecDepth 100000 in
theorem ad_73 {k:Nat} {l0:List (S43)} {a1:Int} {r:Int} (h:g73_impl_Tile.f k l0 a1 = some r):CallH Tryz.prog 73 [.sl (iS43 l0),.fn 78 [.ptr (.fn 48 [.ptr (vi a1)])]] [] (vi r) []:=by
 unfold g73_impl_Tile.f at h
 refine call_ok (c:=bodyOf Tryz.f73) (rs:=o73 r) (post:=p73 r) Tryz.func73 rfl rfl rfl (by kernel_rfl) ?_
 show AtP Tryz.prog 19 (bodyOf Tryz.f73) (KR Tryz.prog Tryz.f73.results.toList (o73 r) (p73 r)) [] [] (lookA [(0,.sl (iS43 l0)),(1,.fn 78 [.ptr (.fn 48 [.ptr (vi a1)])])])
 exact leafAt (hn:=hn73) 8 [.val (.int .i64 (l0.length:Int))] [] (at73_l0 _ _ (q73_l0_mk h)) (iS43_len (xs:=l0)) (by kernel_rfl)

mutual
def g77_impl_Tile.l0:Nat → List (S43) → Int → Int → Int → Option (List (S43))
  | 0,_,_,_,_ => none
  | k + 1,x0,y0,x5,x6 => if x6 < (x0.length:Int) then (if 0 ≤ x6 then ((g78_impl_kept_1.f k ((rd_T43 x0 x6).f0) ((rd_T43 x0 x6).f1) y0).bind fun b2 => (if b2 = true then (g77_impl_Tile.l0 k x0 y0 x5 (wrap64 (x6 + 1))) else (if 0 ≤ x5 then (if x5 < (x0.length:Int) then (g77_impl_Tile.l0 k (x0.set ((x5:Int).toNat) (⟨(rd_T43 x0 x6).f0,(rd_T43 x0 x6).f1⟩ : S43)) y0 (wrap64 (x5 + 1)) (wrap64 (x6 + 1))) else (none)) else (none)))) else (none)) else (if 0 ≤ x5 then (if x5 < (x0.length:Int) then (if x5 ≤ ((x0.take (x5:Int).toNat ++ List.replicate (x0.length - (x5:Int).toNat) z43).length:Int) then (some (((x0.take (x5:Int).toNat ++ List.replicate (x0.length - (x5:Int).toNat) z43).take (x5:Int).toNat))) else (none)) else (none)) else (none))
end
def g77_impl_Tile.f (k:Nat) (l0:List (S43)) (a1:Int):Option (List (S43)):=(g73_impl_Tile.f k l0 a1).bind fun b1 => (if b1 = (-1) then (some (l0)) else (g77_impl_Tile.l0 k l0 a1 b1 (wrap64 (b1 + 1))))
end Go.Proofs.YtinocgaiheddaaaGreatDoor.QFnNumbersOfHands
