/- Contracts of the functions, checked by the interpreter. No conditions. -/
import Derived.Test.YtfkonhamjnembaaGreatQFnPuzzlesMadex0
import Derived.Test.YtfkonhamjnembaaGreatQFnPuzzlesMadex1
import Derived.Test.YtfkonhamjnembaaGreatQFnPuzzlesMadex2
import Derived.Test.YtfkonhamjnembaaGreatQFnPuzzlesMadex3
import Derived.Test.YtfkonhamjnembaaGreatQFnPuzzlesMadex4
import Derived.Test.YtfkonhamjnembaaGreatQFnPuzzlesMadex5
import Derived.Test.YtfkonhamjnembaaGreatQFnPuzzlesMadex6
import Derived.Test.YtfkonhamjnembaaGreatQFnPuzzlesMadex7
import Derived.Test.YtfkonhamjnembaaGreatQFnPuzzlesMadex8
import Derived.Test.YtfkonhamjnembaaGreatQFnPuzzlesMadex9
import Derived.Test.YtfkonhamjnembaaGreatQFnPuzzlesMadex10
import Derived.Test.YtfkonhamjnembaaGreatQFnPuzzlesMadex11
import Derived.Test.YtfkonhamjnembaaGreatQFnPuzzlesMadex12
import Derived.Test.YtfkonhamjnembaaGreatQFnPuzzlesMadex13
import Derived.Test.YtfkonhamjnembaaGreatQFnPuzzlesMadex14
import Derived.Test.YtfkonhamjnembaaGreatQFnPuzzlesMadex15
import Derived.Test.YtfkonhamjnembaaGreatQFnPuzzlesMadex16
import Derived.Test.YtfkonhamjnembaaGreatQFnPuzzlesMadex17
import Derived.Test.YtfkonhamjnembaaGreatQFnPuzzlesMadex18
import Derived.Test.YtfkonhamjnembaaGreatQFnPuzzlesMadex19
import Derived.Test.YtfkonhamjnembaaGreatQFnPuzzlesMadex20
import Derived.Test.YtfkonhamjnembaaGreatQFnPuzzlesMadex21
import Derived.Test.YtfkonhamjnembaaGreatQFnPuzzlesMadex22
import Derived.Test.YtfkonhamjnembaaGreatQFnPuzzlesMadex23
import Derived.Test.YtfkonhamjnembaaGreatQFnPuzzlesMadex24
import Derived.Test.YtfkonhamjnembaaGreatQFnPuzzlesMadex25
import Derived.Test.YtfkonhamjnembaaGreatQFnPuzzlesMadex26
import Derived.Test.YtfkonhamjnembaaGreatQFnPuzzlesMadex27
import Derived.Test.YtfkonhamjnembaaGreatHeapB
import Derived.Laws.StructEq
namespace Go.Proofs.YtfkonhamjnembaaGreat.QFnPuzzlesMade
open Go.RowKit Go.Rh Go.Proofs.YtfkonhamjnembaaGreatW.PrintWords Go.Proofs.YtfkonhamjnembaaGreatW.PrintLast Go.Proofs.YtfkonhamjnembaaGreatW.PrintMore
set_option linter.unusedVariables false
set_option linter.unusedSimpArgs false
theorem len0:((([] : List AV).length:Nat):Int) = 0:=rfl
theorem iI_len {k:IntKind} {xs:List Int}:(((iI k xs).length:Nat):Int) = (xs.length:Int):=by simp [iI]
theorem iL_len {α:Type} {f:List α → List AV} {xs:List (List α)}:(((iL f xs).length:Nat):Int) = (xs.length:Int):=by simp [iL]
theorem iI_rd {k:IntKind} {xs:List Int} {i:Int} (h0:0 ≤ i) (h1:i < (xs.length:Int)):0 ≤ i ∧ (iI k xs)[i.toNat]? = some (.val (.int k (rd xs i))):=get_of (f:=fun z => .val (.int k z)) (d:=0) h0 h1
theorem iI_take {k:IntKind} {xs:List Int} {b:Int} (h1:0 ≤ b) (h2:b ≤ (xs.length:Int)):SubIs 1 (iI k xs) 0 b (iI k (xs.take b.toNat)):=sub_take (f:=fun z => .val (.int k z)) (fun _ => rfl) h1 h2
theorem iI_drop {k:IntKind} {xs:List Int} {a:Int} (h0:0 ≤ a) (h1:a ≤ (xs.length:Int)):SubIs 1 (iI k xs) a (iI k xs).length (iI k (xs.drop a.toNat)):=sub_drop (f:=fun z => .val (.int k z)) (fun _ => rfl) h0 h1
theorem iI_app {k:IntKind} {b N:Nat} {xs ys:List Int} (hN:N * b ≤ 140737488355328) (h:xs.length + ys.length ≤ N):AppIs 1 b (iI k xs) (iI k ys) (iI k (xs ++ ys)):=app_of (f:=fun z => .val (.int k z)) (fun _ => rfl) hN h
theorem iL_rd {α:Type} {f:List α → List AV} {xs:List (List α)} {i:Int} (h0:0 ≤ i) (h1:i < (xs.length:Int)):0 ≤ i ∧ (iL f xs)[i.toNat]? = some (.sl (f (xs.getD i.toNat []))):=get_of (f:=fun z => .sl (f z)) (d:=[]) h0 h1
theorem iI_set {k:IntKind} {xs:List Int} {i x:Int} (h0:0 ≤ i) (h1:i < (xs.length:Int)):(iI k xs)[i.toNat]? = some (.val (.int k (rd xs i))) ∧ iI k (xs.set i.toNat x) = (iI k xs).set i.toNat (.val (.int k x)):=set_of (f:=fun z => .val (.int k z)) (d:=0) h0 h1
theorem iI_lt {k:IntKind} {xs:List Int} {i:Int} (h0:0 ≤ i) (h1:i < (xs.length:Int)):0 ≤ i ∧ i.toNat < (iI k xs).length:=lt_of (f:=fun z => .val (.int k z)) h0 h1
structure FlatE {α : Type} (d : Kd α) (enc : α → AV) (cells : α → List Value) : Prop where
  k:∀ {w x cs},d.K w x cs → cs = cells x
  mk_:∀ w x,d.K w x (cells x)
  cs:∀ w ok x,Cs w ok (enc x) (cells x)
  un:∀ {w ok x cs},Cs w ok (enc x) cs → cs = cells x
  pos:0 < d.sz
theorem one_un {w:World} {ok:Nat → Nat → Prop} {v:Value} {cs:List Value} (h:Cs w ok (.val v) cs):cs = [v]:=by
  cases h with
  | one _ u _ hr => rw [(rep_val hr).1]
theorem flat_int (k:IntKind):FlatE (Kd.int k) (fun z => .val (.int k z)) (fun z => [.int k z]) :=
  ⟨fun h => h,fun _ _ => rfl,fun _ _ _ => .one _ _ rfl (.val _ rfl),fun h => one_un h,Nat.one_pos⟩
theorem agg_un {w:World} {ok:Nat → Nat → Prop} {l:List AV} {vs cs:List Value} (hv:valsOf l = some vs) (h:Cs w ok (.agg l) cs):cs = vs:=by
  cases h with
  | one _ _ hx _ => cases hx
  | agg _ _ hl ho h =>
    have:=valsOf_eq hv
    subst this
    exact vals_rep (by simpa using hl) h
theorem arg_of {α:Type} {d:Kd α} {enc:α → AV} {cells:α → List Value} (F:FlatE d enc cells) {w:World} {ok:Nat → Nat → Prop} {xs:List α} {v:Value} (h:Rep w ok (.sl (xs.map enc)) v) :
    ∃ A c,v = .slice A xs.length c ∧ xs.length ≤ c ∧ Kd.C d w A xs.length xs:=by
  obtain ⟨A,c,sz,ad,cs,h1,h2,h3,h4,h5,h6⟩:=rep_sl h
  simp only [List.length_map] at h1 h2 h3 h5 h6
  refine ⟨A,c,h1,h2.1,rfl,h2.2,fun hn => ⟨ad,(h3 hn).1,fun j p hj => ?_⟩⟩
  have hlt:=(List.getElem?_eq_some_iff.1 hj).1
  have hc:=F.un (h4 j (enc p) (by rw [List.getElem?_map,hj]; rfl))
  have hk:=F.mk_ w p
  have hl:=d.K_len hk
  have hsz:sz = d.sz:=by rw [← h5 j hlt,hc,hl]
  exact ⟨cells p,hl,hk,fun i u hu => by rw [← hsz,add_eq (h3 hn).2.1]; exact h6 j hlt i u (by rw [hc]; exact hu)⟩
theorem rep_of {α:Type} {d:Kd α} {enc:α → AV} {cells:α → List Value} (F:FlatE d enc cells) {w:World} {ok:Nat → Nat → Prop} {xs:List α} {A:Option Addr} {c:Nat} (h:Kd.C d w A xs.length xs) (hc:xs.length ≤ c) (hp:0 < d.sz)
    (hok:∀ ad,A = some ad → ad.block < w.heap.size → ∀ o,ok ad.block o):Rep w ok (.sl (xs.map enc)) (.slice A xs.length c):=by
  obtain ⟨_,h1,h2⟩:=h
  by_cases hn:0 < xs.length
  · obtain ⟨ad,rfl,h3⟩:=h2 hn
    have hcell:∀ (j:Nat) (p:α),xs[j]? = some p → (cells p).length = d.sz ∧ ∀ i u,(cells p)[i]? = some u → w.cell? (ad.add (j * d.sz + i)) = some u:=by
      intro j p hj
      obtain ⟨cs,g1,g2,g3⟩:=h3 j p hj
      rw [F.k g2] at g1 g3
      exact ⟨g1,g3⟩
    have h0:=hcell 0 xs[0] (List.getElem?_eq_getElem hn)
    have hb:ad.block < w.heap.size ∧ ad.spot = none:=by
      have hl:0 < (cells xs[0]).length:=by rw [h0.1]; exact hp
      have:=h0.2 0 _ (List.getElem?_eq_getElem hl)
      have hadd:ad.add (0 * d.sz + 0) = ad:=by rw [Nat.zero_mul]; rfl
      rw [hadd] at this
      unfold World.cell? at this
      split at this
      · rename_i cs t f hb
        refine ⟨(Array.getElem?_eq_some_iff.1 hb).1,?_⟩
        split at this
        · cases this
        · rename_i hs
          cases hsp:ad.spot with
          | none => rfl
          | some x => rw [hsp] at hs; exact absurd rfl hs
      · cases this
    refine .sl _ _ _ _ d.sz ad (fun i => (xs[i]?.map cells).getD []) (by simp) ⟨hc,h1⟩ (fun _ => ⟨rfl,hb.2,fun k _ => hok ad rfl hb.1 _⟩) (fun i x hx => ?_) (fun i hi => ?_) (fun i hi j u hu => ?_)
    · rw [List.getElem?_map] at hx
      obtain ⟨p,hp2,rfl⟩:=Option.map_eq_some_iff.1 hx
      rw [hp2]
      exact F.cs w ok p
    · rw [List.getElem?_eq_getElem hi]
      exact (hcell i _ (List.getElem?_eq_getElem hi)).1
    · rw [List.getElem?_eq_getElem hi] at hu
      rw [← add_eq hb.2]
      exact (hcell i _ (List.getElem?_eq_getElem hi)).2 j u hu
  · have h0:xs.length = 0:=by omega
    have hl:=List.length_eq_zero_iff.1 h0
    subst hl
    exact .sl [] A 0 c 0 ⟨0,0,none⟩ (fun _ => []) rfl ⟨hc,h1⟩ (fun h => absurd h (Nat.lt_irrefl _)) (fun i x hx => by simp at hx) (fun i hi => absurd hi (Nat.not_lt_zero _)) (fun i hi => absurd hi (Nat.not_lt_zero _))
theorem res_of {α:Type} {d:Kd α} {enc:α → AV} {cells:α → List Value} (F:FlatE d enc cells) {w':World} {base e:Nat} {ok:Nat → Nat → Prop} {okp:Nat → Prop} {xs:List α} {v:Value} (h:Kd.R d e w' base okp v xs) :
    Rep w' (fun b o => ok b o ∨ (base ≤ b ∧ b < w'.heap.size)) (.sl (xs.map enc)) v:=by
  obtain ⟨A,c,he,hl,hc⟩:=Kd.R_reads h
  have hb:=Kd.R_bound h
  rw [he]
  refine rep_of F hc hl F.pos fun ad hA hlt o => .inr ⟨?_,hlt⟩
  have:=hb.1 ad.block (by rw [he,hA]; rfl)
  exact this.2.1
theorem own_of {α:Type} {P:Program} {d:Kd α} {enc:α → AV} {cells:α → List Value} (F:FlatE d enc cells) {w':World} {base e:Nat} {okp:Nat → Prop} {xs:List α} {v:Value} (hi:(P.info? e).map (·.size) = some d.sz) (h:Kd.R d e w' base okp v xs) :
    ∃ sz inner,w'.ownsRow base e sz v (xs.map enc).length inner ∧ 0 < sz ∧ (P.info? e).map (·.size) = some sz ∧ ∀ (ok':Nat → Nat → Prop) (i:Nat) (x:AV),(xs.map enc)[i]? = some x → Cs w' ok' x ((inner.drop (i * sz)).take sz):=by
  obtain ⟨h0,inner,ho,hr⟩:=h
  refine ⟨d.sz,inner,by rw [List.length_map]; exact ho,F.pos,hi,fun ok' i x hx => ?_⟩
  rw [List.getElem?_map] at hx
  obtain ⟨p,hp,rfl⟩:=Option.map_eq_some_iff.1 hx
  rw [F.k (d.K_of_M (hr.2 i p hp))]
  exact F.cs _ _ _
theorem resL_of {α:Type} {d:Kd α} {enc:α → AV} {cells:α → List Value} (F:FlatE d enc cells) {f:List α → List AV} (hf:∀ xs,f xs = xs.map enc) {w':World} {base e e2:Nat} {ok:Nat → Nat → Prop} {okp:Nat → Prop} {xs:List (List α)} {v:Value} (h:Kd.R (Kd.slice e d) e2 w' base okp v xs) :
    Rep w' (fun b o => ok b o ∨ (base ≤ b ∧ b < w'.heap.size)) (.sl (iL f xs)) v:=by
  obtain ⟨h0,inner,⟨hl,hown⟩,hr⟩:=h
  rcases hown with ⟨rfl,hn⟩ | ⟨g,cap,cur,rfl,hb,hg,hnc,hcm,hcs,ht⟩
  · have:xs = []:=List.length_eq_zero_iff.1 hn
    subst this
    exact nil_sl _
  · have hgs:g < w'.heap.size:=(Array.getElem?_eq_some_iff.1 hg).1
    have hsz:(Kd.slice e d).sz = 1:=rfl
    rw [hsz] at hl ht hr
    refine .sl (iL f xs) _ xs.length cap 1 ⟨g,0,none⟩ (fun i => (inner.drop (i * 1)).take 1) (by simp [iL]) ⟨hnc,?_⟩ (fun _ => ⟨rfl,rfl,fun k hk => .inr ⟨hb,hgs⟩⟩) (fun i x hx => ?_) (fun i hi => ?_) (fun i hi j u hu => ?_)
    · simp only [maxLen] at hcm
      omega
    · unfold iL at hx
      rw [List.getElem?_map] at hx
      obtain ⟨p,hp,rfl⟩:=Option.map_eq_some_iff.1 hx
      obtain ⟨u,hu,hR⟩:=hr.2 i p hp
      rw [hf]
      show Cs w' _ _ ((inner.drop (i * 1)).take 1)
      rw [hu]
      exact .one _ _ rfl (res_of F hR)
    · simp only [List.length_take,List.length_drop]
      omega
    · rw [List.getElem?_take] at hu
      split at hu
      · rename_i hj
        rw [List.getElem?_drop,← ht,List.getElem?_take] at hu
        split at hu
        · show w'.cell? ⟨g,0 + (i * 1 + j),none⟩ = some u
          rw [Nat.zero_add,cell_of_row w' g _ cur _ (0,0) hg]
          simpa using hu
        · cases hu
      · cases hu
def iS67 (xs:List S67):List AV:=xs.map fun z => .agg [.val (.int .i64 z.f0),.val (.int .i64 z.f1)]
theorem iS67_len {xs:List S67}:(((iS67 xs).length:Nat):Int) = (xs.length:Int):=by simp [iS67]
theorem iS67_rd {xs:List S67} {i:Int} (h0:0 ≤ i) (h1:i < (xs.length:Int)):0 ≤ i ∧ (iS67 xs)[i.toNat]? = some (.agg [.val (.int .i64 ((rd_T67 xs i).f0)),.val (.int .i64 ((rd_T67 xs i).f1))]):=get_of (f:=fun z:S67 => .agg [.val (.int .i64 z.f0),.val (.int .i64 z.f1)]) (d:=z67) h0 h1
theorem iS67_take {xs:List S67} {b:Int} (h1:0 ≤ b) (h2:b ≤ (xs.length:Int)):SubIs 2 (iS67 xs) 0 b (iS67 (xs.take b.toNat)):=sub_take (f:=fun z:S67 => .agg [.val (.int .i64 z.f0),.val (.int .i64 z.f1)]) (fun _ => rfl) h1 h2
theorem iS67_app {b N:Nat} {xs ys:List S67} (hN:N * b ≤ 140737488355328) (h:xs.length + ys.length ≤ N):AppIs 2 b (iS67 xs) (iS67 ys) (iS67 (xs ++ ys)):=app_of (f:=fun z:S67 => .agg [.val (.int .i64 z.f0),.val (.int .i64 z.f1)]) (fun _ => rfl) hN h
theorem iS67_set {xs:List S67} {i:Int} {x:S67} (h0:0 ≤ i) (h1:i < (xs.length:Int)):(iS67 xs)[i.toNat]? = some (.agg [.val (.int .i64 ((rd_T67 xs i).f0)),.val (.int .i64 ((rd_T67 xs i).f1))]) ∧ iS67 (xs.set i.toNat x) = (iS67 xs).set i.toNat (.agg [.val (.int .i64 x.f0),.val (.int .i64 x.f1)]):=set_of (f:=fun z:S67 => .agg [.val (.int .i64 z.f0),.val (.int .i64 z.f1)]) (d:=z67) h0 h1
theorem iS67_lt {xs:List S67} {i:Int} (h0:0 ≤ i) (h1:i < (xs.length:Int)):0 ≤ i ∧ i.toNat < (iS67 xs).length:=lt_of (f:=fun z:S67 => .agg [.val (.int .i64 z.f0),.val (.int .i64 z.f1)]) h0 h1
theorem flat_67:FlatE k67 (fun z => .agg [.val (.int .i64 z.f0),.val (.int .i64 z.f1)]) (fun z => [.int .i64 z.f0,.int .i64 z.f1]) :=
  ⟨fun h => k67_open h,fun w x => k67_mk w x,fun w ok x => .agg _ _ rfl (by intro x hx; simp at hx; rcases hx with rfl | rfl <;> rfl) (by
    intro i x v hx hv
    match i with
    | 0 => simp only [List.getElem?_cons_succ,List.getElem?_cons_zero,Option.some.injEq] at hx hv; subst hx hv; exact .val _ rfl
    | 1 => simp only [List.getElem?_cons_succ,List.getElem?_cons_zero,Option.some.injEq] at hx hv; subst hx hv; exact .val _ rfl
    | i + 2 => simp at hx),fun h => agg_un rfl h,by decide⟩
theorem agg_67_eql {x y:Operand} {a0 b0:Int} {a1 b1:Int} {v:Bool} (h:((a0 == b0) && (a1 == b1)) = v):BinIs Tryz.prog .eql 67 x y (.agg [.int .i64 a0,.int .i64 a1].toArray) (.agg [.int .i64 b0,.int .i64 b1].toArray) (.bool v):=by
  intro w
  have hu:=Tryz.underlying67
  subst h
  by_cases g0:a0 = b0 <;> by_cases g1:a1 = b1 <;> simp_all [go_sem]
theorem agg_67_neq {x y:Operand} {a0 b0:Int} {a1 b1:Int} {v:Bool} (h:(!((a0 == b0) && (a1 == b1))) = v):BinIs Tryz.prog .neq 67 x y (.agg [.int .i64 a0,.int .i64 a1].toArray) (.agg [.int .i64 b0,.int .i64 b1].toArray) (.bool v):=by
  intro w
  have hu:=Tryz.underlying67
  subst h
  by_cases g0:a0 = b0 <;> by_cases g1:a1 = b1 <;> simp_all [go_sem]
theorem build_67_2 {p0:Int} {p1:Int}:BuildIs Tryz.prog 67 #[(0,.int .i64 p0),(1,.int .i64 p1)] (.agg [.int .i64 p0,.int .i64 p1].toArray):=by
  intro w
  simp [go_sem,Instr.build]
theorem conv_3_54 {a:Int}:ConvIs Tryz.prog 3 54 (.int .i64 a) (.int .u64 (IntKind.wrap .u64 a)):=by
  rw [← show IntKind.wrap .u64 a = IntKind.wrap .u64 a from rfl]
  exact conv_int (by rw [Tryz.underlying3]; rfl) Tryz.underlying54
theorem conv_5_3 {a:Int}:ConvIs Tryz.prog 5 3 (.int .u8 a) (.int .i64 (wrap64 a)):=by
  rw [← IntWalk.i64_left]
  exact conv_int (by rw [Tryz.underlying5]; rfl) Tryz.underlying3
theorem conv_54_3 {a:Int}:ConvIs Tryz.prog 54 3 (.int .u64 a) (.int .i64 (wrap64 a)):=by
  rw [← IntWalk.i64_left]
  exact conv_int (by rw [Tryz.underlying54]; rfl) Tryz.underlying3
theorem max_i64_3_3_ff_3 {a b:Int}:CalIs Tryz.prog .max #[3,3] 3 #[false,false] #[.int .i64 a,.int .i64 b] (.int .i64 (mx a b)):=by
  intro w
  simp [go_sem,builtin]
  unfold mx
  omega
theorem min_i64_3_3_ff_3 {a b:Int}:CalIs Tryz.prog .min #[3,3] 3 #[false,false] #[.int .i64 a,.int .i64 b] (.int .i64 (mn a b)):=by
  intro w
  simp [go_sem,builtin]
  unfold mn
  omega
theorem ad_48 {l0:List Int} {a1:Int} {a2:Int} {r:Bool} (h:impl_areWithin.f l0 a1 a2 = some r):CallH Tryz.prog 48 [.sl (iI .i64 l0),vi a1,vi a2] [] (vb r) [] :=
  callOk_res Tryz.func48 rfl rfl rfl fun w ok vs hok hv => by
    cases hv with
    | cons h1_ t1_ =>
     cases t1_ with
     | cons h2_ t2_ =>
      cases t2_ with
      | cons h3_ t3_ =>
       cases t3_
       obtain ⟨A0,c0,rfl,_hc0,hr0⟩:=arg_of (flat_int .i64) h1_
       obtain rfl:=toV_rep rfl h2_
       obtain rfl:=toV_rep rfl h3_
       exact (impl_areWithin.calls A0 c0 l0 a1 a2 r w hr0 _hc0 h).mono (by rintro e w' ⟨rfl,hb_⟩; exact ⟨_,rfl,(rep_resV rfl),hb_⟩)

theorem ad_54 {l0:List (S67)} {r:List (S67)} (h:slices_Clone_impl_Tile_impl_Tile.f l0 = some r):CallH Tryz.prog 54 [.sl (iS67 l0)] [] (.sl (iS67 r)) [] :=
  callOk_res Tryz.func54 rfl rfl rfl fun w ok vs hok hv => by
    cases hv with
    | cons h1_ t1_ =>
     cases t1_
     obtain ⟨A0,c0,rfl,_hc0,hr0⟩:=arg_of flat_67 h1_
     exact (slices_Clone_impl_Tile_impl_Tile.calls A0 c0 l0 r w hr0 _hc0 h).mono (by rintro e w' ⟨v0_,rfl,hRv0_,hb_⟩; exact ⟨_,rfl,(res_of flat_67 hRv0_),hb_⟩)

theorem ad_34 {l0:List S67} {r:List S67} (h:impl_sorted.f l0 = some r):CallH Tryz.prog 34 [.sl (iS67 l0)] [] (.sl (iS67 r)) [] :=
  callOk_res Tryz.func34 rfl rfl rfl fun w ok vs hok hv => by
    cases hv with
    | cons h1_ t1_ =>
     cases t1_
     obtain ⟨A0,c0,rfl,hc0,hr0⟩:=arg_of flat_67 h1_
     exact (impl_sorted.calls A0 c0 l0 r w hr0 hc0 h).mono (by rintro e w' ⟨v0_,rfl,hRv0_,hb_⟩; exact ⟨_,rfl,(res_of flat_67 hRv0_),hb_⟩)

theorem ad_36 {l0:List (Int)} {r:List (Int)} (h:slices_Clone_int_int.f l0 = some r):CallH Tryz.prog 36 [.sl (iI .i64 l0)] [] (.row 500000) [(500000,.ow true 3 (iI .i64 r))] :=
  callOk_own Tryz.func36 rfl rfl rfl fun w ok vs hok hv => by
    cases hv with
    | cons h1_ t1_ =>
     cases t1_
     obtain ⟨A0,c0,rfl,_hc0,hr0⟩:=arg_of (flat_int .i64) h1_
     exact (slices_Clone_int_int.calls A0 c0 l0 r w hr0 _hc0 h).mono (by rintro e w' ⟨v0_,rfl,hRv0_,hb_⟩; exact ⟨_,rfl,(own_of (flat_int .i64) (by kernel_rfl) hRv0_),hb_⟩)

theorem ad_10 {k:Nat} {l0_0:List (S67)} {l0_1:List Int} {r:Bool} (h:impl_IsPuzzle.f k l0_0 l0_1 = some r):CallH Tryz.prog 10 [.agg [.sl (iS67 l0_0),.sl (iI .i64 l0_1)]] [] (vb r) [] :=
  callOk_res Tryz.func10 rfl rfl rfl fun w ok vs hok hv => by
    cases hv with
    | cons h1_ t1_ =>
     cases t1_
     obtain ⟨vs2_,rfl,hq2_⟩:=agg_args h1_
     cases hq2_ with
     | cons h3_ t3_ =>
      cases t3_ with
      | cons h4_ t4_ =>
       cases t4_
       obtain ⟨A0_0,c0_0,rfl,hc0_0,hr0_0⟩:=arg_of flat_67 h3_
       obtain ⟨A0_1,c0_1,rfl,hc0_1,hr0_1⟩:=arg_of (flat_int .i64) h4_
       exact (impl_IsPuzzle.calls k A0_0 c0_0 l0_0 A0_1 c0_1 l0_1 r w hr0_0 hc0_0 hr0_1 hc0_1 h).mono (by rintro e w' ⟨rfl,hb_⟩; exact ⟨_,rfl,(rep_resV rfl),hb_⟩)

theorem ad_51 {k:Nat} {l0_0:List (S67)} {l0_1:List Int} {r1:List (List Int)} {r2:Bool} (h:spec_pzAll.f k l0_0 l0_1 = some (r1,r2)):CallH Tryz.prog 51 [.agg [.sl (iS67 l0_0),.sl (iI .i64 l0_1)]] [] (.tup [.sl (iL (iI .i64) r1),vb r2]) [] :=
  callOk_res Tryz.func51 rfl rfl rfl fun w ok vs hok hv => by
    cases hv with
    | cons h1_ t1_ =>
     cases t1_
     obtain ⟨vs2_,rfl,hq2_⟩:=agg_args h1_
     cases hq2_ with
     | cons h3_ t3_ =>
      cases t3_ with
      | cons h4_ t4_ =>
       cases t4_
       obtain ⟨A0_0,c0_0,rfl,hc0_0,hr0_0⟩:=arg_of flat_67 h3_
       obtain ⟨A0_1,c0_1,rfl,hc0_1,hr0_1⟩:=arg_of (flat_int .i64) h4_
       exact (spec_pzAll.calls k A0_0 c0_0 l0_0 A0_1 c0_1 l0_1 r1 r2 w hr0_0 hc0_0 hr0_1 hc0_1 h).mono (by rintro e w' ⟨v0_,rfl,hRv0_,hb_⟩; exact ⟨_,rfl,(rep_tup_of (.cons (resL_of (f:=iI .i64) (flat_int .i64) (fun _ => rfl) (Kd.S_R hRv0_)) (.cons (rep_resV rfl) .nil))),hb_⟩)

theorem ad_59 {k:Nat} {l0_0:List (S67)} {l0_1:List Int} {r1:List (List Int)} {r2:Bool} (h:impl_Puzzle_solutions.f k l0_0 l0_1 = some (r1,r2)):CallH Tryz.prog 59 [.agg [.sl (iS67 l0_0),.sl (iI .i64 l0_1)]] [] (.tup [.sl (iL (iI .i64) r1),vb r2]) [] :=
  callOk_res Tryz.func59 rfl rfl rfl fun w ok vs hok hv => by
    cases hv with
    | cons h1_ t1_ =>
     cases t1_
     obtain ⟨vs2_,rfl,hq2_⟩:=agg_args h1_
     cases hq2_ with
     | cons h3_ t3_ =>
      cases t3_ with
      | cons h4_ t4_ =>
       cases t4_
       obtain ⟨A0_0,c0_0,rfl,hc0_0,hr0_0⟩:=arg_of flat_67 h3_
       obtain ⟨A0_1,c0_1,rfl,hc0_1,hr0_1⟩:=arg_of (flat_int .i64) h4_
       exact (impl_Puzzle_solutions.calls k A0_0 c0_0 l0_0 A0_1 c0_1 l0_1 r1 r2 w hr0_0 hc0_0 hr0_1 hc0_1 h).mono (by rintro e w' ⟨v0_,rfl,hRv0_,hb_⟩; exact ⟨_,rfl,(rep_tup_of (.cons (resL_of (f:=iI .i64) (flat_int .i64) (fun _ => rfl) (Kd.S_R hRv0_)) (.cons (rep_resV rfl) .nil))),hb_⟩)

def hn4:Hint:=⟨[]⟩
def o4 (r:Bool):List AV:=[vb r]
def p4 (r:Bool):List (Nat × AV):=[]
set_option maxRecDepth 100000 in
theorem ad_4 {l0:List Int} {l1:List Int} {r:Bool} (h:laws_big.f l0 l1 = some r):CallH Tryz.prog 4 [.sl (iI .u8 l0),.sl (iI .u8 l1)] [] (vb r) []:=by
 unfold laws_big.f at h
 refine call_ok (c:=bodyOf Tryz.f4) (rs:=o4 r) (post:=p4 r) Tryz.func4 rfl rfl rfl (by kernel_rfl) ?_
 show AtP Tryz.prog 16 (bodyOf Tryz.f4) (KR Tryz.prog Tryz.f4.results.toList (o4 r) (p4 r)) [] [] (lookA [(0,.sl (iI .u8 l0)),(1,.sl (iI .u8 l1))])
 rcases ite_ h with ⟨g1,h2⟩ | ⟨g1,h2⟩
 ·obtain rfl:=Option.some.inj h2
  exact leafRet (hn:=hn4) 7 [.val (.int .i64 (l0.length:Int)),.val (.bool true)] [] .ret (.inr rfl) (by kernel_rfl) (And.intro (iI_len (k:=.u8) (xs:=l0)) (int_gtr (P:=Tryz.prog) (t:=3) (k:=.i64) (x:=(.tmp 6)) (y:=(.const (.int .i64 1048576))) (a:=(l0.length:Int)) (b:=1048576) (v:=true) (decide_eq_true g1))) (by kernel_rfl)
 ·obtain rfl:=Option.some.inj h2
  exact leafRet (hn:=hn4) 7 [.val (.int .i64 (l0.length:Int)),.val (.bool false),.val (.int .i64 (l1.length:Int)),.val (.int .i64 (l0.length:Int)),.val (.int .i64 (wrap64 (1048576 - (l0.length:Int)))),.val (.bool (decide ((l1.length:Int) > (wrap64 (1048576 - (l0.length:Int))))))] [] .ret (.inr rfl) (by kernel_rfl) (And.intro (iI_len (k:=.u8) (xs:=l0)) (And.intro (int_gtr (P:=Tryz.prog) (t:=3) (k:=.i64) (x:=(.tmp 6)) (y:=(.const (.int .i64 1048576))) (a:=(l0.length:Int)) (b:=1048576) (v:=false) (decide_eq_false g1)) (And.intro (iI_len (k:=.u8) (xs:=l1)) (And.intro (iI_len (k:=.u8) (xs:=l0)) (And.intro (int_sub (P:=Tryz.prog) (t:=3) (k:=.i64) (x:=(.const (.int .i64 1048576))) (y:=(.tmp 12)) (a:=1048576) (b:=(l0.length:Int)) (c:=(wrap64 (1048576 - (l0.length:Int)))) (IntWalk.i64_left _)) (int_gtr (P:=Tryz.prog) (t:=3) (k:=.i64) (x:=(.tmp 10)) (y:=(.tmp 13)) (a:=(l1.length:Int)) (b:=(wrap64 (1048576 - (l0.length:Int)))) (v:=(decide ((l1.length:Int) > (wrap64 (1048576 - (l0.length:Int)))))) rfl)))))) (by kernel_rfl)

def hn76:Hint:=⟨[(6,[1000000]),(10,[1000000]),(16,[1000000]),(20,[1000000]),(27,[1000000]),(31,[1000000]),(35,[1000000]),(43,[1000000]),(46,[1000000]),(50,[1000000]),(57,[1000000])]⟩
def o76 (r:Int × Int × Int) (s0_0:List Int) (s0_1:Int) (s0_2:Int):List AV:=[vi r.1]
def p76 (r:Int × Int × Int) (s0_0:List Int) (s0_1:Int) (s0_2:Int):List (Nat × AV):=[(1000000,.box (.agg [.sl (iI .u8 s0_0),vi r.2.1,.val (.int .u64 r.2.2)]))]
set_option maxRecDepth 100000 in
theorem ad_76 {s0_0:List Int} {s0_1:Int} {s0_2:Int} {r1:Int} {r2:Int} {r3:Int} (h:spec_l1Cur_next.f s0_0 s0_1 s0_2 = some (r1,r2,r3)):CallH Tryz.prog 76 [.loc 1000000 0] [(1000000,.box (.agg [.sl (iI .u8 s0_0),vi s0_1,.val (.int .u64 s0_2)]))] (vi r1) [(1000000,.box (.agg [.sl (iI .u8 s0_0),vi r2,.val (.int .u64 r3)]))]:=by
 unfold spec_l1Cur_next.f at h
 refine call_ok (c:=bodyOf Tryz.f76) (rs:=o76 (r1,r2,r3) s0_0 s0_1 s0_2) (post:=p76 (r1,r2,r3) s0_0 s0_1 s0_2) Tryz.func76 rfl rfl rfl (by kernel_rfl) ?_
 show AtP Tryz.prog 62 (bodyOf Tryz.f76) (KR Tryz.prog Tryz.f76.results.toList (o76 (r1,r2,r3) s0_0 s0_1 s0_2) (p76 (r1,r2,r3) s0_0 s0_1 s0_2)) [] [] (lookA [(0,.loc 1000000 0),(1000000,.box (.agg [.sl (iI .u8 s0_0),vi s0_1,.val (.int .u64 s0_2)]))])
 rcases ite_ h with ⟨g1,h2⟩ | ⟨g1,h2⟩
 ·obtain ⟨g3,h4⟩:=ip_ h2
  rcases ite_ h4 with ⟨g5,h6⟩ | ⟨g5,h6⟩
  ·obtain ⟨rfl,rfl,rfl⟩:=pr3_ h6
   exact leafRet (hn:=hn76) 29 [.val (.int .i64 (s0_0.length:Int)),.val (.bool true),.elem (.val (.int .u8 (rd s0_0 s0_1))),.val (.int .i64 (wrap64 (rd s0_0 s0_1))),.val (.int .i64 (wrap64 (s0_1 + 1))),.val (.int .u64 (IntKind.wrap .u64 (s0_2 * 6364136223846793005))),.val (.int .u64 (IntKind.wrap .u64 (wrap64 (rd s0_0 s0_1)))),.val (.int .u64 (IntKind.wrap .u64 ((IntKind.wrap .u64 (s0_2 * 6364136223846793005)) + (IntKind.wrap .u64 (wrap64 (rd s0_0 s0_1)))))),.val (.int .u64 (IntKind.wrap .u64 ((IntKind.wrap .u64 ((IntKind.wrap .u64 (s0_2 * 6364136223846793005)) + (IntKind.wrap .u64 (wrap64 (rd s0_0 s0_1))))) + 1442695040888963407))),.val (.int .i64 (s0_0.length:Int)),.val (.bool true)] [] .ret (.inr rfl) (by kernel_rfl) (And.intro (And.intro (iI_len (k:=.u8) (xs:=s0_0)) (int_lss (P:=Tryz.prog) (t:=3) (k:=.i64) (x:=(.tmp 7)) (y:=(.tmp 12)) (a:=s0_1) (b:=(s0_0.length:Int)) (v:=true) (decide_eq_true g1))) (And.intro (And.intro (iI_rd (k:=.u8) (xs:=s0_0) (i:=s0_1) g3 g1) (conv_5_3 (a:=(rd s0_0 s0_1)))) (And.intro (int_add (P:=Tryz.prog) (t:=3) (k:=.i64) (x:=(.tmp 28)) (y:=(.const (.int .i64 1))) (a:=s0_1) (b:=1) (c:=(wrap64 (s0_1 + 1))) (IntWalk.i64_left _)) (And.intro (And.intro (int_mul (P:=Tryz.prog) (t:=54) (k:=.u64) (x:=(.tmp 36)) (y:=(.const (.int .u64 6364136223846793005))) (a:=s0_2) (b:=6364136223846793005) (c:=(IntKind.wrap .u64 (s0_2 * 6364136223846793005))) rfl) (And.intro (conv_3_54 (a:=(wrap64 (rd s0_0 s0_1)))) (And.intro (int_add (P:=Tryz.prog) (t:=54) (k:=.u64) (x:=(.tmp 37)) (y:=(.tmp 39)) (a:=(IntKind.wrap .u64 (s0_2 * 6364136223846793005))) (b:=(IntKind.wrap .u64 (wrap64 (rd s0_0 s0_1)))) (c:=(IntKind.wrap .u64 ((IntKind.wrap .u64 (s0_2 * 6364136223846793005)) + (IntKind.wrap .u64 (wrap64 (rd s0_0 s0_1)))))) rfl) (int_add (P:=Tryz.prog) (t:=54) (k:=.u64) (x:=(.tmp 40)) (y:=(.const (.int .u64 1442695040888963407))) (a:=(IntKind.wrap .u64 ((IntKind.wrap .u64 (s0_2 * 6364136223846793005)) + (IntKind.wrap .u64 (wrap64 (rd s0_0 s0_1)))))) (b:=1442695040888963407) (c:=(IntKind.wrap .u64 ((IntKind.wrap .u64 ((IntKind.wrap .u64 (s0_2 * 6364136223846793005)) + (IntKind.wrap .u64 (wrap64 (rd s0_0 s0_1))))) + 1442695040888963407))) rfl)))) (And.intro (iI_len (k:=.u8) (xs:=s0_0)) (int_leq (P:=Tryz.prog) (t:=3) (k:=.i64) (x:=(.tmp 47)) (y:=(.tmp 52)) (a:=(wrap64 (s0_1 + 1))) (b:=(s0_0.length:Int)) (v:=true) (decide_eq_true g5))))))) (by kernel_rfl)
  ·obtain ⟨rfl,rfl,rfl⟩:=pr3_ h6
   exact leafRet (hn:=hn76) 30 [.val (.int .i64 (s0_0.length:Int)),.val (.bool true),.elem (.val (.int .u8 (rd s0_0 s0_1))),.val (.int .i64 (wrap64 (rd s0_0 s0_1))),.val (.int .i64 (wrap64 (s0_1 + 1))),.val (.int .u64 (IntKind.wrap .u64 (s0_2 * 6364136223846793005))),.val (.int .u64 (IntKind.wrap .u64 (wrap64 (rd s0_0 s0_1)))),.val (.int .u64 (IntKind.wrap .u64 ((IntKind.wrap .u64 (s0_2 * 6364136223846793005)) + (IntKind.wrap .u64 (wrap64 (rd s0_0 s0_1)))))),.val (.int .u64 (IntKind.wrap .u64 ((IntKind.wrap .u64 ((IntKind.wrap .u64 (s0_2 * 6364136223846793005)) + (IntKind.wrap .u64 (wrap64 (rd s0_0 s0_1))))) + 1442695040888963407))),.val (.int .i64 (s0_0.length:Int)),.val (.bool false),.val (.int .u64 ((IntKind.wrap .u64 ((IntKind.wrap .u64 ((IntKind.wrap .u64 (s0_2 * 6364136223846793005)) + (IntKind.wrap .u64 (wrap64 (rd s0_0 s0_1))))) + 1442695040888963407)) / 1099511627776)),.val (.int .u64 (Go.bits .and .u64 ((IntKind.wrap .u64 ((IntKind.wrap .u64 ((IntKind.wrap .u64 (s0_2 * 6364136223846793005)) + (IntKind.wrap .u64 (wrap64 (rd s0_0 s0_1))))) + 1442695040888963407)) / 1099511627776) 255)),.val (.int .i64 (wrap64 (Go.bits .and .u64 ((IntKind.wrap .u64 ((IntKind.wrap .u64 ((IntKind.wrap .u64 (s0_2 * 6364136223846793005)) + (IntKind.wrap .u64 (wrap64 (rd s0_0 s0_1))))) + 1442695040888963407)) / 1099511627776) 255)))] [] .ret (.inr rfl) (by kernel_rfl) (And.intro (And.intro (iI_len (k:=.u8) (xs:=s0_0)) (int_lss (P:=Tryz.prog) (t:=3) (k:=.i64) (x:=(.tmp 7)) (y:=(.tmp 12)) (a:=s0_1) (b:=(s0_0.length:Int)) (v:=true) (decide_eq_true g1))) (And.intro (And.intro (iI_rd (k:=.u8) (xs:=s0_0) (i:=s0_1) g3 g1) (conv_5_3 (a:=(rd s0_0 s0_1)))) (And.intro (int_add (P:=Tryz.prog) (t:=3) (k:=.i64) (x:=(.tmp 28)) (y:=(.const (.int .i64 1))) (a:=s0_1) (b:=1) (c:=(wrap64 (s0_1 + 1))) (IntWalk.i64_left _)) (And.intro (And.intro (int_mul (P:=Tryz.prog) (t:=54) (k:=.u64) (x:=(.tmp 36)) (y:=(.const (.int .u64 6364136223846793005))) (a:=s0_2) (b:=6364136223846793005) (c:=(IntKind.wrap .u64 (s0_2 * 6364136223846793005))) rfl) (And.intro (conv_3_54 (a:=(wrap64 (rd s0_0 s0_1)))) (And.intro (int_add (P:=Tryz.prog) (t:=54) (k:=.u64) (x:=(.tmp 37)) (y:=(.tmp 39)) (a:=(IntKind.wrap .u64 (s0_2 * 6364136223846793005))) (b:=(IntKind.wrap .u64 (wrap64 (rd s0_0 s0_1)))) (c:=(IntKind.wrap .u64 ((IntKind.wrap .u64 (s0_2 * 6364136223846793005)) + (IntKind.wrap .u64 (wrap64 (rd s0_0 s0_1)))))) rfl) (int_add (P:=Tryz.prog) (t:=54) (k:=.u64) (x:=(.tmp 40)) (y:=(.const (.int .u64 1442695040888963407))) (a:=(IntKind.wrap .u64 ((IntKind.wrap .u64 (s0_2 * 6364136223846793005)) + (IntKind.wrap .u64 (wrap64 (rd s0_0 s0_1)))))) (b:=1442695040888963407) (c:=(IntKind.wrap .u64 ((IntKind.wrap .u64 ((IntKind.wrap .u64 (s0_2 * 6364136223846793005)) + (IntKind.wrap .u64 (wrap64 (rd s0_0 s0_1))))) + 1442695040888963407))) rfl)))) (And.intro (And.intro (iI_len (k:=.u8) (xs:=s0_0)) (int_leq (P:=Tryz.prog) (t:=3) (k:=.i64) (x:=(.tmp 47)) (y:=(.tmp 52)) (a:=(wrap64 (s0_1 + 1))) (b:=(s0_0.length:Int)) (v:=false) (decide_eq_false g5))) (And.intro (int_shr (P:=Tryz.prog) (t:=54) (k:=.u64) (x:=(.tmp 58)) (y:=(.const (.int .u64 40))) (a:=(IntKind.wrap .u64 ((IntKind.wrap .u64 ((IntKind.wrap .u64 (s0_2 * 6364136223846793005)) + (IntKind.wrap .u64 (wrap64 (rd s0_0 s0_1))))) + 1442695040888963407))) (b:=40) (c:=((IntKind.wrap .u64 ((IntKind.wrap .u64 ((IntKind.wrap .u64 (s0_2 * 6364136223846793005)) + (IntKind.wrap .u64 (wrap64 (rd s0_0 s0_1))))) + 1442695040888963407)) / 1099511627776)) (k':=.u64) (by decide) rfl) (And.intro (int_and (P:=Tryz.prog) (t:=54) (k:=.u64) (x:=(.tmp 59)) (y:=(.const (.int .u64 255))) (a:=((IntKind.wrap .u64 ((IntKind.wrap .u64 ((IntKind.wrap .u64 (s0_2 * 6364136223846793005)) + (IntKind.wrap .u64 (wrap64 (rd s0_0 s0_1))))) + 1442695040888963407)) / 1099511627776)) (b:=255) (c:=(Go.bits .and .u64 ((IntKind.wrap .u64 ((IntKind.wrap .u64 ((IntKind.wrap .u64 (s0_2 * 6364136223846793005)) + (IntKind.wrap .u64 (wrap64 (rd s0_0 s0_1))))) + 1442695040888963407)) / 1099511627776) 255)) rfl) (conv_54_3 (a:=(Go.bits .and .u64 ((IntKind.wrap .u64 ((IntKind.wrap .u64 ((IntKind.wrap .u64 (s0_2 * 6364136223846793005)) + (IntKind.wrap .u64 (wrap64 (rd s0_0 s0_1))))) + 1442695040888963407)) / 1099511627776) 255)))))))))) (by kernel_rfl)
 ·rcases ite_ h2 with ⟨g7,h8⟩ | ⟨g7,h8⟩
  ·obtain ⟨rfl,rfl,rfl⟩:=pr3_ h8
   exact leafRet (hn:=hn76) 29 [.val (.int .i64 (s0_0.length:Int)),.val (.bool false),.val (.int .i64 (wrap64 (s0_1 + 1))),.val (.int .u64 (IntKind.wrap .u64 (s0_2 * 6364136223846793005))),.val (.int .u64 (IntKind.wrap .u64 0)),.val (.int .u64 (IntKind.wrap .u64 (IntKind.wrap .u64 (s0_2 * 6364136223846793005)))),.val (.int .u64 (IntKind.wrap .u64 ((IntKind.wrap .u64 (IntKind.wrap .u64 (s0_2 * 6364136223846793005))) + 1442695040888963407))),.val (.int .i64 (s0_0.length:Int)),.val (.bool true)] [] .ret (.inr rfl) (by kernel_rfl) (And.intro (And.intro (iI_len (k:=.u8) (xs:=s0_0)) (int_lss (P:=Tryz.prog) (t:=3) (k:=.i64) (x:=(.tmp 7)) (y:=(.tmp 12)) (a:=s0_1) (b:=(s0_0.length:Int)) (v:=false) (decide_eq_false g1))) (And.intro (int_add (P:=Tryz.prog) (t:=3) (k:=.i64) (x:=(.tmp 28)) (y:=(.const (.int .i64 1))) (a:=s0_1) (b:=1) (c:=(wrap64 (s0_1 + 1))) (IntWalk.i64_left _)) (And.intro (And.intro (int_mul (P:=Tryz.prog) (t:=54) (k:=.u64) (x:=(.tmp 36)) (y:=(.const (.int .u64 6364136223846793005))) (a:=s0_2) (b:=6364136223846793005) (c:=(IntKind.wrap .u64 (s0_2 * 6364136223846793005))) rfl) (And.intro (conv_3_54 (a:=0)) (And.intro (int_add (P:=Tryz.prog) (t:=54) (k:=.u64) (x:=(.tmp 37)) (y:=(.tmp 39)) (a:=(IntKind.wrap .u64 (s0_2 * 6364136223846793005))) (b:=(IntKind.wrap .u64 0)) (c:=(IntKind.wrap .u64 (IntKind.wrap .u64 (s0_2 * 6364136223846793005)))) u64_add0) (int_add (P:=Tryz.prog) (t:=54) (k:=.u64) (x:=(.tmp 40)) (y:=(.const (.int .u64 1442695040888963407))) (a:=(IntKind.wrap .u64 (IntKind.wrap .u64 (s0_2 * 6364136223846793005)))) (b:=1442695040888963407) (c:=(IntKind.wrap .u64 ((IntKind.wrap .u64 (IntKind.wrap .u64 (s0_2 * 6364136223846793005))) + 1442695040888963407))) rfl)))) (And.intro (iI_len (k:=.u8) (xs:=s0_0)) (int_leq (P:=Tryz.prog) (t:=3) (k:=.i64) (x:=(.tmp 47)) (y:=(.tmp 52)) (a:=(wrap64 (s0_1 + 1))) (b:=(s0_0.length:Int)) (v:=true) (decide_eq_true g7)))))) (by kernel_rfl)
  ·obtain ⟨rfl,rfl,rfl⟩:=pr3_ h8
   exact leafRet (hn:=hn76) 30 [.val (.int .i64 (s0_0.length:Int)),.val (.bool false),.val (.int .i64 (wrap64 (s0_1 + 1))),.val (.int .u64 (IntKind.wrap .u64 (s0_2 * 6364136223846793005))),.val (.int .u64 (IntKind.wrap .u64 0)),.val (.int .u64 (IntKind.wrap .u64 (IntKind.wrap .u64 (s0_2 * 6364136223846793005)))),.val (.int .u64 (IntKind.wrap .u64 ((IntKind.wrap .u64 (IntKind.wrap .u64 (s0_2 * 6364136223846793005))) + 1442695040888963407))),.val (.int .i64 (s0_0.length:Int)),.val (.bool false),.val (.int .u64 ((IntKind.wrap .u64 ((IntKind.wrap .u64 (IntKind.wrap .u64 (s0_2 * 6364136223846793005))) + 1442695040888963407)) / 1099511627776)),.val (.int .u64 (Go.bits .and .u64 ((IntKind.wrap .u64 ((IntKind.wrap .u64 (IntKind.wrap .u64 (s0_2 * 6364136223846793005))) + 1442695040888963407)) / 1099511627776) 255)),.val (.int .i64 (wrap64 (Go.bits .and .u64 ((IntKind.wrap .u64 ((IntKind.wrap .u64 (IntKind.wrap .u64 (s0_2 * 6364136223846793005))) + 1442695040888963407)) / 1099511627776) 255)))] [] .ret (.inr rfl) (by kernel_rfl) (And.intro (And.intro (iI_len (k:=.u8) (xs:=s0_0)) (int_lss (P:=Tryz.prog) (t:=3) (k:=.i64) (x:=(.tmp 7)) (y:=(.tmp 12)) (a:=s0_1) (b:=(s0_0.length:Int)) (v:=false) (decide_eq_false g1))) (And.intro (int_add (P:=Tryz.prog) (t:=3) (k:=.i64) (x:=(.tmp 28)) (y:=(.const (.int .i64 1))) (a:=s0_1) (b:=1) (c:=(wrap64 (s0_1 + 1))) (IntWalk.i64_left _)) (And.intro (And.intro (int_mul (P:=Tryz.prog) (t:=54) (k:=.u64) (x:=(.tmp 36)) (y:=(.const (.int .u64 6364136223846793005))) (a:=s0_2) (b:=6364136223846793005) (c:=(IntKind.wrap .u64 (s0_2 * 6364136223846793005))) rfl) (And.intro (conv_3_54 (a:=0)) (And.intro (int_add (P:=Tryz.prog) (t:=54) (k:=.u64) (x:=(.tmp 37)) (y:=(.tmp 39)) (a:=(IntKind.wrap .u64 (s0_2 * 6364136223846793005))) (b:=(IntKind.wrap .u64 0)) (c:=(IntKind.wrap .u64 (IntKind.wrap .u64 (s0_2 * 6364136223846793005)))) u64_add0) (int_add (P:=Tryz.prog) (t:=54) (k:=.u64) (x:=(.tmp 40)) (y:=(.const (.int .u64 1442695040888963407))) (a:=(IntKind.wrap .u64 (IntKind.wrap .u64 (s0_2 * 6364136223846793005)))) (b:=1442695040888963407) (c:=(IntKind.wrap .u64 ((IntKind.wrap .u64 (IntKind.wrap .u64 (s0_2 * 6364136223846793005))) + 1442695040888963407))) rfl)))) (And.intro (And.intro (iI_len (k:=.u8) (xs:=s0_0)) (int_leq (P:=Tryz.prog) (t:=3) (k:=.i64) (x:=(.tmp 47)) (y:=(.tmp 52)) (a:=(wrap64 (s0_1 + 1))) (b:=(s0_0.length:Int)) (v:=false) (decide_eq_false g7))) (And.intro (int_shr (P:=Tryz.prog) (t:=54) (k:=.u64) (x:=(.tmp 58)) (y:=(.const (.int .u64 40))) (a:=(IntKind.wrap .u64 ((IntKind.wrap .u64 (IntKind.wrap .u64 (s0_2 * 6364136223846793005))) + 1442695040888963407))) (b:=40) (c:=((IntKind.wrap .u64 ((IntKind.wrap .u64 (IntKind.wrap .u64 (s0_2 * 6364136223846793005))) + 1442695040888963407)) / 1099511627776)) (k':=.u64) (by decide) rfl) (And.intro (int_and (P:=Tryz.prog) (t:=54) (k:=.u64) (x:=(.tmp 59)) (y:=(.const (.int .u64 255))) (a:=((IntKind.wrap .u64 ((IntKind.wrap .u64 (IntKind.wrap .u64 (s0_2 * 6364136223846793005))) + 1442695040888963407)) / 1099511627776)) (b:=255) (c:=(Go.bits .and .u64 ((IntKind.wrap .u64 ((IntKind.wrap .u64 (IntKind.wrap .u64 (s0_2 * 6364136223846793005))) + 1442695040888963407)) / 1099511627776) 255)) rfl) (conv_54_3 (a:=(Go.bits .and .u64 ((IntKind.wrap .u64 ((IntKind.wrap .u64 (IntKind.wrap .u64 (s0_2 * 6364136223846793005))) + 1442695040888963407)) / 1099511627776) 255))))))))) (by kernel_rfl)

def hn31:Hint:=⟨[(8,[1000000]),(14,[1000000])]⟩
def o31 (r:Int × Int × Int) (s0_0:List Int) (s0_1:Int) (s0_2:Int):List AV:=[vi r.1]
def p31 (r:Int × Int × Int) (s0_0:List Int) (s0_1:Int) (s0_2:Int):List (Nat × AV):=[(1000000,.box (.agg [.sl (iI .u8 s0_0),vi r.2.1,.val (.int .u64 r.2.2)]))]
set_option maxRecDepth 100000 in
theorem ad_31 {s0_0:List Int} {s0_1:Int} {s0_2:Int} {a1:Int} {r1:Int} {r2:Int} {r3:Int} (h:spec_l1Cur_pick.f s0_0 s0_1 s0_2 a1 = some (r1,r2,r3)):CallH Tryz.prog 31 [.loc 1000000 0,vi a1] [(1000000,.box (.agg [.sl (iI .u8 s0_0),vi s0_1,.val (.int .u64 s0_2)]))] (vi r1) [(1000000,.box (.agg [.sl (iI .u8 s0_0),vi r2,.val (.int .u64 r3)]))]:=by
 unfold spec_l1Cur_pick.f at h
 refine call_ok (c:=bodyOf Tryz.f31) (rs:=o31 (r1,r2,r3) s0_0 s0_1 s0_2) (post:=p31 (r1,r2,r3) s0_0 s0_1 s0_2) Tryz.func31 rfl rfl rfl (by kernel_rfl) ?_
 show AtP Tryz.prog 20 (bodyOf Tryz.f31) (KR Tryz.prog Tryz.f31.results.toList (o31 (r1,r2,r3) s0_0 s0_1 s0_2) (p31 (r1,r2,r3) s0_0 s0_1 s0_2)) [] [] (lookA [(0,.loc 1000000 0),(1,vi a1),(1000000,.box (.agg [.sl (iI .u8 s0_0),vi s0_1,.val (.int .u64 s0_2)]))])
 rcases ite_ h with ⟨g1,h2⟩ | ⟨g1,h2⟩
 ·obtain ⟨rfl,rfl,rfl⟩:=pr3_ h2
  exact leafRet (hn:=hn31) 13 [.val (.bool true)] [] .ret (.inr rfl) (by kernel_rfl) (int_leq (P:=Tryz.prog) (t:=3) (k:=.i64) (x:=(.tmp 6)) (y:=(.const (.int .i64 1))) (a:=a1) (b:=1) (v:=true) (decide_eq_true g1)) (by kernel_rfl)
 ·obtain ⟨⟨bt102_1,bt102_2,bt102_3⟩,c3,h4⟩:=bd_ h2
  try dsimp only at h4
  rcases ite_ h4 with ⟨g5,h6⟩ | ⟨g5,h6⟩
  ·obtain ⟨⟨bt105_1,bt105_2,bt105_3⟩,c7,h8⟩:=bd_ h6
   try dsimp only at h8
   obtain ⟨g9,h10⟩:=in_ h8
   obtain ⟨rfl,rfl,rfl⟩:=pr3_ h10
   exact leafRet (hn:=hn31) 24 [.val (.bool false),.callH [1000000] (vi bt102_1) [(1000000,.box (.agg [.sl (iI .u8 s0_0),vi bt102_2,.val (.int .u64 bt102_3)]))],.val (.bool true),.val (.int .i64 (wrap64 (bt102_1 * 256))),.callH [1000000] (vi bt105_1) [(1000000,.box (.agg [.sl (iI .u8 s0_0),vi bt105_2,.val (.int .u64 bt105_3)]))],.val (.int .i64 (wrap64 ((wrap64 (bt102_1 * 256)) + bt105_1))),.val (.int .i64 (Int.tmod (wrap64 ((wrap64 (bt102_1 * 256)) + bt105_1)) a1))] [] .ret (.inr rfl) (by kernel_rfl) (And.intro (int_leq (P:=Tryz.prog) (t:=3) (k:=.i64) (x:=(.tmp 6)) (y:=(.const (.int .i64 1))) (a:=a1) (b:=1) (v:=false) (decide_eq_false g1)) (And.intro (CallH.ren [(1000000,1000000)] rfl rfl (ad_76 c3)) (And.intro (int_gtr (P:=Tryz.prog) (t:=3) (k:=.i64) (x:=(.tmp 10)) (y:=(.const (.int .i64 200))) (a:=a1) (b:=200) (v:=true) (decide_eq_true g5)) (And.intro (And.intro (int_mul (P:=Tryz.prog) (t:=3) (k:=.i64) (x:=(.tmp 12)) (y:=(.const (.int .i64 256))) (a:=bt102_1) (b:=256) (c:=(wrap64 (bt102_1 * 256))) (IntWalk.i64_left _)) (And.intro (CallH.ren [(1000000,1000000)] rfl rfl (ad_76 c7)) (int_add (P:=Tryz.prog) (t:=3) (k:=.i64) (x:=(.tmp 13)) (y:=(.tmp 15)) (a:=(wrap64 (bt102_1 * 256))) (b:=bt105_1) (c:=(wrap64 ((wrap64 (bt102_1 * 256)) + bt105_1))) (IntWalk.i64_left _)))) (int_rem (P:=Tryz.prog) (t:=3) (k:=.i64) (x:=(.tmp 17)) (y:=(.tmp 18)) (a:=(wrap64 ((wrap64 (bt102_1 * 256)) + bt105_1))) (b:=a1) (c:=(Int.tmod (wrap64 ((wrap64 (bt102_1 * 256)) + bt105_1)) a1)) g9 rfl))))) (by kernel_rfl)
  ·obtain ⟨g11,h12⟩:=in_ h6
   obtain ⟨rfl,rfl,rfl⟩:=pr3_ h12
   exact leafRet (hn:=hn31) 24 [.val (.bool false),.callH [1000000] (vi bt102_1) [(1000000,.box (.agg [.sl (iI .u8 s0_0),vi bt102_2,.val (.int .u64 bt102_3)]))],.val (.bool false),.val (.int .i64 (Int.tmod bt102_1 a1))] [] .ret (.inr rfl) (by kernel_rfl) (And.intro (int_leq (P:=Tryz.prog) (t:=3) (k:=.i64) (x:=(.tmp 6)) (y:=(.const (.int .i64 1))) (a:=a1) (b:=1) (v:=false) (decide_eq_false g1)) (And.intro (CallH.ren [(1000000,1000000)] rfl rfl (ad_76 c3)) (And.intro (int_gtr (P:=Tryz.prog) (t:=3) (k:=.i64) (x:=(.tmp 10)) (y:=(.const (.int .i64 200))) (a:=a1) (b:=200) (v:=false) (decide_eq_false g5)) (int_rem (P:=Tryz.prog) (t:=3) (k:=.i64) (x:=(.tmp 17)) (y:=(.tmp 18)) (a:=bt102_1) (b:=a1) (c:=(Int.tmod bt102_1 a1)) g11 rfl)))) (by kernel_rfl)

def hn38:Hint:=⟨[]⟩
def o38 (r:Bool):List AV:=[vb r]
def p38 (r:Bool):List (Nat × AV):=[]
set_option maxRecDepth 100000 in
theorem ad_38 {a0:Int} {a1:Int} {a2:Int} {r:Bool} (h:spec_l1In.f a0 a1 a2 = some r):CallH Tryz.prog 38 [vi a0,vi a1,vi a2] [] (vb r) []:=by
 unfold spec_l1In.f at h
 refine call_ok (c:=bodyOf Tryz.f38) (rs:=o38 r) (post:=p38 r) Tryz.func38 rfl rfl rfl (by kernel_rfl) ?_
 show AtP Tryz.prog 15 (bodyOf Tryz.f38) (KR Tryz.prog Tryz.f38.results.toList (o38 r) (p38 r)) [] [] (lookA [(0,vi a0),(1,vi a1),(2,vi a2)])
 rcases ite_ h with ⟨g1,h2⟩ | ⟨g1,h2⟩
 ·obtain rfl:=Option.some.inj h2
  exact leafRet (hn:=hn38) 7 [.val (.bool true),.val (.bool (decide (a0 ≤ a2)))] [] .ret (.inr rfl) (by kernel_rfl) (And.intro (int_geq (P:=Tryz.prog) (t:=3) (k:=.i64) (x:=(.tmp 7)) (y:=(.tmp 8)) (a:=a0) (b:=a1) (v:=true) (decide_eq_true g1)) (int_leq (P:=Tryz.prog) (t:=3) (k:=.i64) (x:=(.tmp 11)) (y:=(.tmp 12)) (a:=a0) (b:=a2) (v:=(decide (a0 ≤ a2))) rfl)) (by kernel_rfl)
 ·obtain rfl:=Option.some.inj h2
  exact leafRet (hn:=hn38) 7 [.val (.bool false)] [] .ret (.inr rfl) (by kernel_rfl) (int_geq (P:=Tryz.prog) (t:=3) (k:=.i64) (x:=(.tmp 7)) (y:=(.tmp 8)) (a:=a0) (b:=a1) (v:=false) (decide_eq_false g1)) (by kernel_rfl)

def hn96:Hint:=⟨[]⟩
def o96 (r:Int):List AV:=[vi r]
def p96 (r:Int):List (Nat × AV):=[]
set_option maxRecDepth 100000 in
theorem ad_96 {a0:Int} {a1:Int} {r:Int} (h:spec_l1Least.f a0 a1 = some r):CallH Tryz.prog 96 [vi a0,vi a1] [] (vi r) []:=by
 unfold spec_l1Least.f at h
 refine call_ok (c:=bodyOf Tryz.f96) (rs:=o96 r) (post:=p96 r) Tryz.func96 rfl rfl rfl (by kernel_rfl) ?_
 show AtP Tryz.prog 10 (bodyOf Tryz.f96) (KR Tryz.prog Tryz.f96.results.toList (o96 r) (p96 r)) [] [] (lookA [(0,vi a0),(1,vi a1)])
 rcases ite_ h with ⟨g1,h2⟩ | ⟨g1,h2⟩
 ·obtain rfl:=Option.some.inj h2
  exact leafRet (hn:=hn96) 13 [.val (.bool true)] [] .ret (.inr rfl) (by kernel_rfl) (int_lss (P:=Tryz.prog) (t:=3) (k:=.i64) (x:=(.tmp 5)) (y:=(.tmp 6)) (a:=a0) (b:=a1) (v:=true) (decide_eq_true g1)) (by kernel_rfl)
 ·obtain rfl:=Option.some.inj h2
  exact leafRet (hn:=hn96) 14 [.val (.bool false)] [] .ret (.inr rfl) (by kernel_rfl) (int_lss (P:=Tryz.prog) (t:=3) (k:=.i64) (x:=(.tmp 5)) (y:=(.tmp 6)) (a:=a0) (b:=a1) (v:=false) (decide_eq_false g1)) (by kernel_rfl)

def hn97:Hint:=⟨[]⟩
def o97 (r:Int):List AV:=[vi r]
def p97 (r:Int):List (Nat × AV):=[]
set_option maxRecDepth 100000 in
theorem ad_97 {a0:Int} {a1:Int} {r:Int} (h:spec_l1Most.f a0 a1 = some r):CallH Tryz.prog 97 [vi a0,vi a1] [] (vi r) []:=by
 unfold spec_l1Most.f at h
 refine call_ok (c:=bodyOf Tryz.f97) (rs:=o97 r) (post:=p97 r) Tryz.func97 rfl rfl rfl (by kernel_rfl) ?_
 show AtP Tryz.prog 10 (bodyOf Tryz.f97) (KR Tryz.prog Tryz.f97.results.toList (o97 r) (p97 r)) [] [] (lookA [(0,vi a0),(1,vi a1)])
 rcases ite_ h with ⟨g1,h2⟩ | ⟨g1,h2⟩
 ·obtain rfl:=Option.some.inj h2
  exact leafRet (hn:=hn97) 13 [.val (.bool true)] [] .ret (.inr rfl) (by kernel_rfl) (int_gtr (P:=Tryz.prog) (t:=3) (k:=.i64) (x:=(.tmp 5)) (y:=(.tmp 6)) (a:=a0) (b:=a1) (v:=true) (decide_eq_true g1)) (by kernel_rfl)
 ·obtain rfl:=Option.some.inj h2
  exact leafRet (hn:=hn97) 14 [.val (.bool false)] [] .ret (.inr rfl) (by kernel_rfl) (int_gtr (P:=Tryz.prog) (t:=3) (k:=.i64) (x:=(.tmp 5)) (y:=(.tmp 6)) (a:=a0) (b:=a1) (v:=false) (decide_eq_false g1)) (by kernel_rfl)

def hn73:Hint:=⟨[(4,[16])]⟩
def o73 (r:Int × Int):List AV:=[.agg [vi r.1,vi r.2]]
def p73 (r:Int × Int):List (Nat × AV):=[]
set_option maxRecDepth 100000 in
theorem ad_73 {a0:Int} {a1:Int} {r1:Int} {r2:Int} (h:spec_tiOf.f a0 a1 = some (r1,r2)):CallH Tryz.prog 73 [vi a0,vi a1] [] (.agg [vi r1,vi r2]) []:=by
 unfold spec_tiOf.f at h
 refine call_ok (c:=bodyOf Tryz.f73) (rs:=o73 (r1,r2)) (post:=p73 (r1,r2)) Tryz.func73 rfl rfl rfl (by kernel_rfl) ?_
 show AtP Tryz.prog 12 (bodyOf Tryz.f73) (KR Tryz.prog Tryz.f73.results.toList (o73 (r1,r2)) (p73 (r1,r2))) [] [] (lookA [(0,vi a0),(1,vi a1)])
 obtain ⟨t109,c1,h2⟩:=bd_ h
 obtain ⟨t110,c3,h4⟩:=bd_ h2
 obtain ⟨rfl,rfl⟩:=pr2_ h4
 exact leafRet (hn:=hn73) 7 [.call (vi t109),.call (vi t110),.elem (.agg [vi t109,vi t110])] [] .ret (.inr rfl) (by kernel_rfl) (And.intro (ad_96 c1) (And.intro (ad_97 c3) (build_67_2 (p0:=t109) (p1:=t110)))) (by kernel_rfl)

def hn40:Hint:=⟨[(11,[28]),(22,[47])]⟩
def o40 (r:(List (S67))):List AV:=[.sl (iS67 r)]
def p40 (r:(List (S67))):List (Nat × AV):=[]
def q40_l0 (r:(List (S67))) (k:Nat) (L:List (Nat × AV)):Prop:=∃ (x0:List Int) (x3:List (S67)) (x4:Int),L = [(0,.sl (iI .i64 x0)),(3,.row 28),(4,vi x4),(28,.ow false 67 (iS67 x3))] ∧ spec_haTiles.l0 k x0 x3 x4 = some r
theorem q40_l0_mk {r:(List (S67))} {k:Nat} {x0:List Int} {x3:List (S67)} {x4:Int} (h:spec_haTiles.l0 k x0 x3 x4 = some r):q40_l0 r k [(0,.sl (iI .i64 x0)),(3,.row 28),(4,vi x4),(28,.ow false 67 (iS67 x3))]:=⟨x0,x3,x4,rfl,h⟩
set_option maxRecDepth 100000 in
theorem at40_l0 {r:(List (S67))}:∀ k L,q40_l0 r k L → AtP Tryz.prog 25 (bodyOf Tryz.f40) (KR Tryz.prog Tryz.f40.results.toList (o40 r) (p40 r)) [true,true,false,true,false] [] (lookA L) :=
 at_loop (by kernel_rfl) (fun _ => by kernel_rfl) (q40_l0 r) (by
  rintro k _ ⟨x0,x3,x4,rfl,h⟩
  cases k with
  | zero => simp [spec_haTiles.l0] at h
  | succ k =>
   rw [spec_haTiles.l0] at h
   rcases ite_ h with ⟨g1,h2⟩ | ⟨g1,h2⟩
   ·obtain ⟨g3,h4⟩:=ip_ h2
    obtain ⟨g5,h6⟩:=ip_ h4
    obtain ⟨g7,h8⟩:=ip_ h6
    obtain ⟨⟨bt113_1,bt113_2⟩,c9,h10⟩:=bd_ h8
    try dsimp only at h10
    obtain ⟨g11,h12⟩:=ip_ h10
    exact leafBack (hn:=hn40) 13 [.val (.int .i64 (x0.length:Int)),.val (.bool true),.val (.int .i64 (wrap64 (x4 - 1))),.elem (vi (rd x0 (wrap64 (x4 - 1)))),.elem (vi (rd x0 x4)),.call (.agg [vi bt113_1,vi bt113_2]),.go,.elem (.ow false 67 (iS67 (x3 ++ ([(⟨bt113_1,bt113_2⟩ : S67)])))),.val (.int .i64 (wrap64 (x4 + 1)))] [(28,48)] (q40_l0_mk h12) (Nat.lt_succ_self k) (And.intro (And.intro (iI_len (k:=.i64) (xs:=x0)) (int_lss (P:=Tryz.prog) (t:=3) (k:=.i64) (x:=(.tmp 5)) (y:=(.tmp 7)) (a:=x4) (b:=(x0.length:Int)) (v:=true) (decide_eq_true g1))) (And.intro (And.intro (int_sub (P:=Tryz.prog) (t:=3) (k:=.i64) (x:=(.tmp 13)) (y:=(.const (.int .i64 1))) (a:=x4) (b:=1) (c:=(wrap64 (x4 - 1))) (IntWalk.i64_left _)) (And.intro (iI_rd (k:=.i64) (xs:=x0) (i:=(wrap64 (x4 - 1))) g3 g5) (And.intro (iI_rd (k:=.i64) (xs:=x0) (i:=x4) g7 g1) (And.intro (ad_73 c9) (iS67_app (N:=8796093022208) (b:=16) (xs:=x3) (ys:=[(⟨bt113_1,bt113_2⟩ : S67)]) (by decide) (Nat.succ_le_of_lt g11)))))) (int_add (P:=Tryz.prog) (t:=3) (k:=.i64) (x:=(.tmp 9)) (y:=(.const (.int .i64 1))) (a:=x4) (b:=1) (c:=(wrap64 (x4 + 1))) (IntWalk.i64_left _)))) (by kernel_rfl)
   ·obtain rfl:=Option.some.inj h2
    exact leafRet (hn:=hn40) 14 [.val (.int .i64 (x0.length:Int)),.val (.bool false)] [] .ret (.inr rfl) (by kernel_rfl) (And.intro (iI_len (k:=.i64) (xs:=x0)) (int_lss (P:=Tryz.prog) (t:=3) (k:=.i64) (x:=(.tmp 5)) (y:=(.tmp 7)) (a:=x4) (b:=(x0.length:Int)) (v:=false) (decide_eq_false g1))) (by kernel_rfl))
set_option maxRecDepth 100000 in
theorem ad_40 {k:Nat} {l0:List Int} {r:List (S67)} (h:spec_haTiles.f k l0 = some r):CallH Tryz.prog 40 [.sl (iI .i64 l0)] [] (.sl (iS67 r)) []:=by
 unfold spec_haTiles.f at h
 refine call_ok (c:=bodyOf Tryz.f40) (rs:=o40 r) (post:=p40 r) Tryz.func40 rfl rfl rfl (by kernel_rfl) ?_
 show AtP Tryz.prog 25 (bodyOf Tryz.f40) (KR Tryz.prog Tryz.f40.results.toList (o40 r) (p40 r)) [] [] (lookA [(0,.sl (iI .i64 l0))])
 exact leafAt (hn:=hn40) 11 [.goT,.nil false 67] [] (at40_l0 _ _ (q40_l0_mk h)) True.intro (by kernel_rfl)

def hn71:Hint:=⟨[]⟩
def o71 (r:Bool):List AV:=[vb r]
def p71 (r:Bool):List (Nat × AV):=[]
def q71_l0 (r:Bool) (k:Nat) (L:List (Nat × AV)):Prop:=∃ (x1:Int) (x2:Int) (x9:List Int) (x10:Int) (x11:Int),L = [(1,vi x1),(2,vi x2),(9,.sl (iI .i64 x9)),(10,vi x10),(11,vi x11)] ∧ spec_l1All.l0 k x1 x2 x9 x10 x11 = some r
theorem q71_l0_mk {r:Bool} {k:Nat} {x1:Int} {x2:Int} {x9:List Int} {x10:Int} {x11:Int} (h:spec_l1All.l0 k x1 x2 x9 x10 x11 = some r):q71_l0 r k [(1,vi x1),(2,vi x2),(9,.sl (iI .i64 x9)),(10,vi x10),(11,vi x11)]:=⟨x1,x2,x9,x10,x11,rfl,h⟩
set_option maxRecDepth 100000 in
theorem at71_l0 {r:Bool}:∀ k L,q71_l0 r k L → AtP Tryz.prog 21 (bodyOf Tryz.f71) (KR Tryz.prog Tryz.f71.results.toList (o71 r) (p71 r)) [true,false,true,false] [] (lookA L) :=
 at_loop (by kernel_rfl) (fun _ => by kernel_rfl) (q71_l0 r) (by
  rintro k _ ⟨x1,x2,x9,x10,x11,rfl,h⟩
  cases k with
  | zero => simp [spec_l1All.l0] at h
  | succ k =>
   rw [spec_l1All.l0] at h
   rcases ite_ h with ⟨g1,h2⟩ | ⟨g1,h2⟩
   ·obtain ⟨g3,h4⟩:=ip_ h2
    obtain ⟨g5,h6⟩:=ip_ h4
    obtain ⟨t119,c7,h8⟩:=bd_ h6
    rcases ite_ h8 with ⟨g9,h10⟩ | ⟨g9,h10⟩
    ·subst g9
     exact leafBack (hn:=hn71) 20 [.val (.bool true),.elem (vi (rd x9 x11)),.call (vb true),.val (.int .i64 (wrap64 (x11 + 1)))] [] (q71_l0_mk h10) (Nat.lt_succ_self k) (And.intro (int_lss (P:=Tryz.prog) (t:=3) (k:=.i64) (x:=(.tmp 11)) (y:=(.tmp 10)) (a:=x11) (b:=x10) (v:=true) (decide_eq_true g1)) (And.intro (iI_rd (k:=.i64) (xs:=x9) (i:=x11) g3 g5) (And.intro (ad_38 c7) (int_add (P:=Tryz.prog) (t:=3) (k:=.i64) (x:=(.tmp 11)) (y:=(.const (.int .i64 1))) (a:=x11) (b:=1) (c:=(wrap64 (x11 + 1))) (IntWalk.i64_left _))))) (by kernel_rfl)
    ·obtain rfl:=Bool.eq_false_iff.2 g9
     obtain rfl:=Option.some.inj h10
     exact leafRet (hn:=hn71) 25 [.val (.bool true),.elem (vi (rd x9 x11)),.call (vb false)] [] .ret (.inr rfl) (by kernel_rfl) (And.intro (int_lss (P:=Tryz.prog) (t:=3) (k:=.i64) (x:=(.tmp 11)) (y:=(.tmp 10)) (a:=x11) (b:=x10) (v:=true) (decide_eq_true g1)) (And.intro (iI_rd (k:=.i64) (xs:=x9) (i:=x11) g3 g5) (ad_38 c7))) (by kernel_rfl)
   ·obtain rfl:=Option.some.inj h2
    exact leafRet (hn:=hn71) 14 [.val (.bool false)] [] .ret (.inr rfl) (by kernel_rfl) (int_lss (P:=Tryz.prog) (t:=3) (k:=.i64) (x:=(.tmp 11)) (y:=(.tmp 10)) (a:=x11) (b:=x10) (v:=false) (decide_eq_false g1)) (by kernel_rfl))
set_option maxRecDepth 100000 in
theorem ad_71 {k:Nat} {l0:List Int} {a1:Int} {a2:Int} {r:Bool} (h:spec_l1All.f k l0 a1 a2 = some r):CallH Tryz.prog 71 [.sl (iI .i64 l0),vi a1,vi a2] [] (vb r) []:=by
 unfold spec_l1All.f at h
 refine call_ok (c:=bodyOf Tryz.f71) (rs:=o71 r) (post:=p71 r) Tryz.func71 rfl rfl rfl (by kernel_rfl) ?_
 show AtP Tryz.prog 21 (bodyOf Tryz.f71) (KR Tryz.prog Tryz.f71.results.toList (o71 r) (p71 r)) [] [] (lookA [(0,.sl (iI .i64 l0)),(1,vi a1),(2,vi a2)])
 exact leafAt (hn:=hn71) 8 [.val (.int .i64 (l0.length:Int))] [] (at71_l0 _ _ (q71_l0_mk h)) (iI_len (k:=.i64) (xs:=l0)) (by kernel_rfl)

def hn101:Hint:=⟨[(3,[14]),(5,[14]),(9,[14])]⟩
def o101 (r:Bool):List AV:=[vb r]
def p101 (r:Bool):List (Nat × AV):=[]
set_option maxRecDepth 100000 in
theorem ad_101 {a0_0:Int} {a0_1:Int} {r:Bool} (h:spec_tiGood.f a0_0 a0_1 = some r):CallH Tryz.prog 101 [.agg [vi a0_0,vi a0_1]] [] (vb r) []:=by
 unfold spec_tiGood.f at h
 refine call_ok (c:=bodyOf Tryz.f101) (rs:=o101 r) (post:=p101 r) Tryz.func101 rfl rfl rfl (by kernel_rfl) ?_
 show AtP Tryz.prog 13 (bodyOf Tryz.f101) (KR Tryz.prog Tryz.f101.results.toList (o101 r) (p101 r)) [] [] (lookA [(0,.agg [vi a0_0,vi a0_1])])
 obtain ⟨t121,c1,h2⟩:=bd_ h
 rcases ite_ h2 with ⟨g3,h4⟩ | ⟨g3,h4⟩
 ·subst g3
  obtain rfl:=Option.some.inj h4
  exact leafRet (hn:=hn101) 7 [.call (vb true),.val (.bool (decide (a0_1 ≤ 9)))] [] .ret (.inr rfl) (by kernel_rfl) (And.intro (ad_38 c1) (int_leq (P:=Tryz.prog) (t:=3) (k:=.i64) (x:=(.tmp 10)) (y:=(.const (.int .i64 9))) (a:=a0_1) (b:=9) (v:=(decide (a0_1 ≤ 9))) rfl)) (by kernel_rfl)
 ·obtain rfl:=Bool.eq_false_iff.2 g3
  obtain rfl:=Option.some.inj h4
  exact leafRet (hn:=hn101) 7 [.call (vb false)] [] .ret (.inr rfl) (by kernel_rfl) (ad_38 c1) (by kernel_rfl)

def hn102:Hint:=⟨[(3,[22]),(6,[25])]⟩
def o102 (r:Int):List AV:=[vi r]
def p102 (r:Int):List (Nat × AV):=[]
def q102_l0 (r:Int) (k:Nat) (L:List (Nat × AV)):Prop:=∃ (x7:List (S67)) (x8:Int) (x9:Int) (x123000:Int) (x123001:Int),L = [(3,.loc 22 0),(7,.sl (iS67 x7)),(8,vi x8),(9,vi x9),(22,.box (.agg [vi x123000,vi x123001]))] ∧ spec_tiPlace.l0 k x7 x8 x9 x123000 x123001 = some r
theorem q102_l0_mk {r:Int} {k:Nat} {x7:List (S67)} {x8:Int} {x9:Int} {x123000:Int} {x123001:Int} (h:spec_tiPlace.l0 k x7 x8 x9 x123000 x123001 = some r):q102_l0 r k [(3,.loc 22 0),(7,.sl (iS67 x7)),(8,vi x8),(9,vi x9),(22,.box (.agg [vi x123000,vi x123001]))]:=⟨x7,x8,x9,x123000,x123001,rfl,h⟩
set_option maxRecDepth 100000 in
theorem at102_l0 {r:Int}:∀ k L,q102_l0 r k L → AtP Tryz.prog 19 (bodyOf Tryz.f102) (KR Tryz.prog Tryz.f102.results.toList (o102 r) (p102 r)) [true,false,true,false] [] (lookA L) :=
 at_loop (by kernel_rfl) (fun _ => by kernel_rfl) (q102_l0 r) (by
  rintro k _ ⟨x7,x8,x9,x123000,x123001,rfl,h⟩
  cases k with
  | zero => simp [spec_tiPlace.l0] at h
  | succ k =>
   rw [spec_tiPlace.l0] at h
   rcases ite_ h with ⟨g1,h2⟩ | ⟨g1,h2⟩
   ·obtain ⟨g3,h4⟩:=ip_ h2
    obtain ⟨g5,h6⟩:=ip_ h4
    rcases ite_ h6 with ⟨g7,h8⟩ | ⟨g7,h8⟩
    ·obtain rfl:=Option.some.inj h8
     exact leafRet (hn:=hn102) 25 [.val (.bool true),.elem (.agg [vi ((rd_T67 x7 x9).f0),vi ((rd_T67 x7 x9).f1)]),.val (.bool true)] [] .ret (.inr rfl) (by kernel_rfl) (And.intro (int_lss (P:=Tryz.prog) (t:=3) (k:=.i64) (x:=(.tmp 9)) (y:=(.tmp 8)) (a:=x9) (b:=x8) (v:=true) (decide_eq_true g1)) (And.intro (iS67_rd (xs:=x7) (i:=x9) g3 g5) (agg_67_eql (x:=(.tmp 14)) (y:=(.tmp 15)) (a0:=((rd_T67 x7 x9).f0)) (b0:=x123000) (a1:=((rd_T67 x7 x9).f1)) (b1:=x123001) (v:=true) g7))) (by kernel_rfl)
    ·exact leafBack (hn:=hn102) 20 [.val (.bool true),.elem (.agg [vi ((rd_T67 x7 x9).f0),vi ((rd_T67 x7 x9).f1)]),.val (.bool false),.val (.int .i64 (wrap64 (x9 + 1)))] [] (q102_l0_mk h8) (Nat.lt_succ_self k) (And.intro (int_lss (P:=Tryz.prog) (t:=3) (k:=.i64) (x:=(.tmp 9)) (y:=(.tmp 8)) (a:=x9) (b:=x8) (v:=true) (decide_eq_true g1)) (And.intro (iS67_rd (xs:=x7) (i:=x9) g3 g5) (And.intro (agg_67_eql (x:=(.tmp 14)) (y:=(.tmp 15)) (a0:=((rd_T67 x7 x9).f0)) (b0:=x123000) (a1:=((rd_T67 x7 x9).f1)) (b1:=x123001) (v:=false) (Bool.eq_false_iff.2 g7)) (int_add (P:=Tryz.prog) (t:=3) (k:=.i64) (x:=(.tmp 9)) (y:=(.const (.int .i64 1))) (a:=x9) (b:=1) (c:=(wrap64 (x9 + 1))) (IntWalk.i64_left _))))) (by kernel_rfl)
   ·obtain rfl:=Option.some.inj h2
    exact leafRet (hn:=hn102) 14 [.val (.bool false)] [] .ret (.inr rfl) (by kernel_rfl) (int_lss (P:=Tryz.prog) (t:=3) (k:=.i64) (x:=(.tmp 9)) (y:=(.tmp 8)) (a:=x9) (b:=x8) (v:=false) (decide_eq_false g1)) (by kernel_rfl))
set_option maxRecDepth 100000 in
theorem ad_102 {k:Nat} {l0:List (S67)} {a1_0:Int} {a1_1:Int} {r:Int} (h:spec_tiPlace.f k l0 a1_0 a1_1 = some r):CallH Tryz.prog 102 [.sl (iS67 l0),.agg [vi a1_0,vi a1_1]] [] (vi r) []:=by
 unfold spec_tiPlace.f at h
 refine call_ok (c:=bodyOf Tryz.f102) (rs:=o102 r) (post:=p102 r) Tryz.func102 rfl rfl rfl (by kernel_rfl) ?_
 show AtP Tryz.prog 19 (bodyOf Tryz.f102) (KR Tryz.prog Tryz.f102.results.toList (o102 r) (p102 r)) [] [] (lookA [(0,.sl (iS67 l0)),(1,.agg [vi a1_0,vi a1_1])])
 exact leafAt (hn:=hn102) 8 [.val (.int .i64 (l0.length:Int))] [] (at102_l0 _ _ (q102_l0_mk h)) (iS67_len (xs:=l0)) (by kernel_rfl)

def hn80:Hint:=⟨[(4,[31])]⟩
def o80 (r:Bool):List AV:=[vb r]
def p80 (r:Bool):List (Nat × AV):=[]
def q80_l0 (r:Bool) (k:Nat) (L:List (Nat × AV)):Prop:=∃ (x0:List (S67)) (x8:List (S67)) (x9:Int) (x10:Int),L = [(0,.sl (iS67 x0)),(8,.sl (iS67 x8)),(9,vi x9),(10,vi x10)] ∧ spec_tiHand.l0 k x0 x8 x9 x10 = some r
theorem q80_l0_mk {r:Bool} {k:Nat} {x0:List (S67)} {x8:List (S67)} {x9:Int} {x10:Int} (h:spec_tiHand.l0 k x0 x8 x9 x10 = some r):q80_l0 r k [(0,.sl (iS67 x0)),(8,.sl (iS67 x8)),(9,vi x9),(10,vi x10)]:=⟨x0,x8,x9,x10,rfl,h⟩
set_option maxRecDepth 100000 in
theorem at80_l0 {r:Bool}:∀ k L,q80_l0 r k L → AtP Tryz.prog 27 (bodyOf Tryz.f80) (KR Tryz.prog Tryz.f80.results.toList (o80 r) (p80 r)) [true,true,false,true,false] [] (lookA L) :=
 at_loop (by kernel_rfl) (fun _ => by kernel_rfl) (q80_l0 r) (by
  rintro k _ ⟨x0,x8,x9,x10,rfl,h⟩
  cases k with
  | zero => simp [spec_tiHand.l0] at h
  | succ k =>
   rw [spec_tiHand.l0] at h
   rcases ite_ h with ⟨g1,h2⟩ | ⟨g1,h2⟩
   ·obtain ⟨g3,h4⟩:=ip_ h2
    obtain ⟨g5,h6⟩:=ip_ h4
    obtain ⟨t127,c7,h8⟩:=bd_ h6
    rcases ite_ h8 with ⟨g9,h10⟩ | ⟨g9,h10⟩
    ·subst g9
     obtain ⟨g11,h12⟩:=ip_ h10
     obtain ⟨t132,c13,h14⟩:=bd_ h12
     rcases ite_ h14 with ⟨g15,h16⟩ | ⟨g15,h16⟩
     ·obtain rfl:=Option.some.inj h16
      exact leafRet (hn:=hn80) 25 [.val (.bool true),.elem (.agg [vi ((rd_T67 x8 x10).f0),vi ((rd_T67 x8 x10).f1)]),.call (vb true),.elem (.sl (iS67 (x0.take (x10:Int).toNat))),.call (vi t132),.val (.bool true)] [] .ret (.inr rfl) (by kernel_rfl) (And.intro (int_lss (P:=Tryz.prog) (t:=3) (k:=.i64) (x:=(.tmp 10)) (y:=(.tmp 9)) (a:=x10) (b:=x9) (v:=true) (decide_eq_true g1)) (And.intro (iS67_rd (xs:=x8) (i:=x10) g3 g5) (And.intro (ad_101 c7) (And.intro (iS67_take (xs:=x0) (b:=x10) g3 g11) (And.intro (ad_102 c13) (int_geq (P:=Tryz.prog) (t:=3) (k:=.i64) (x:=(.tmp 23)) (y:=(.const (.int .i64 0))) (a:=t132) (b:=0) (v:=true) (decide_eq_true g15))))))) (by kernel_rfl)
     ·exact leafBack (hn:=hn80) 20 [.val (.bool true),.elem (.agg [vi ((rd_T67 x8 x10).f0),vi ((rd_T67 x8 x10).f1)]),.call (vb true),.elem (.sl (iS67 (x0.take (x10:Int).toNat))),.call (vi t132),.val (.bool false),.val (.int .i64 (wrap64 (x10 + 1)))] [] (q80_l0_mk h16) (Nat.lt_succ_self k) (And.intro (int_lss (P:=Tryz.prog) (t:=3) (k:=.i64) (x:=(.tmp 10)) (y:=(.tmp 9)) (a:=x10) (b:=x9) (v:=true) (decide_eq_true g1)) (And.intro (iS67_rd (xs:=x8) (i:=x10) g3 g5) (And.intro (And.intro (ad_101 c7) (And.intro (iS67_take (xs:=x0) (b:=x10) g3 g11) (And.intro (ad_102 c13) (int_geq (P:=Tryz.prog) (t:=3) (k:=.i64) (x:=(.tmp 23)) (y:=(.const (.int .i64 0))) (a:=t132) (b:=0) (v:=false) (decide_eq_false g15))))) (int_add (P:=Tryz.prog) (t:=3) (k:=.i64) (x:=(.tmp 10)) (y:=(.const (.int .i64 1))) (a:=x10) (b:=1) (c:=(wrap64 (x10 + 1))) (IntWalk.i64_left _))))) (by kernel_rfl)
    ·obtain rfl:=Bool.eq_false_iff.2 g9
     obtain rfl:=Option.some.inj h10
     exact leafRet (hn:=hn80) 25 [.val (.bool true),.elem (.agg [vi ((rd_T67 x8 x10).f0),vi ((rd_T67 x8 x10).f1)]),.call (vb false)] [] .ret (.inr rfl) (by kernel_rfl) (And.intro (int_lss (P:=Tryz.prog) (t:=3) (k:=.i64) (x:=(.tmp 10)) (y:=(.tmp 9)) (a:=x10) (b:=x9) (v:=true) (decide_eq_true g1)) (And.intro (iS67_rd (xs:=x8) (i:=x10) g3 g5) (ad_101 c7))) (by kernel_rfl)
   ·obtain rfl:=Option.some.inj h2
    exact leafRet (hn:=hn80) 14 [.val (.bool false)] [] .ret (.inr rfl) (by kernel_rfl) (int_lss (P:=Tryz.prog) (t:=3) (k:=.i64) (x:=(.tmp 10)) (y:=(.tmp 9)) (a:=x10) (b:=x9) (v:=false) (decide_eq_false g1)) (by kernel_rfl))
set_option maxRecDepth 100000 in
theorem ad_80 {k:Nat} {l0:List (S67)} {r:Bool} (h:spec_tiHand.f k l0 = some r):CallH Tryz.prog 80 [.sl (iS67 l0)] [] (vb r) []:=by
 unfold spec_tiHand.f at h
 refine call_ok (c:=bodyOf Tryz.f80) (rs:=o80 r) (post:=p80 r) Tryz.func80 rfl rfl rfl (by kernel_rfl) ?_
 show AtP Tryz.prog 27 (bodyOf Tryz.f80) (KR Tryz.prog Tryz.f80.results.toList (o80 r) (p80 r)) [] [] (lookA [(0,.sl (iS67 l0))])
 rcases ite_ h with ⟨g1,h2⟩ | ⟨g1,h2⟩
 ·obtain rfl:=Option.some.inj h2
  exact leafRet (hn:=hn80) 13 [.val (.int .i64 (l0.length:Int)),.val (.bool true)] [] .ret (.inr rfl) (by kernel_rfl) (And.intro (iS67_len (xs:=l0)) (int_gtr (P:=Tryz.prog) (t:=3) (k:=.i64) (x:=(.tmp 6)) (y:=(.const (.int .i64 55))) (a:=(l0.length:Int)) (b:=55) (v:=true) (decide_eq_true g1))) (by kernel_rfl)
 ·exact leafAt (hn:=hn80) 15 [.val (.int .i64 (l0.length:Int)),.val (.bool false),.val (.int .i64 (l0.length:Int))] [] (at80_l0 _ _ (q80_l0_mk h2)) (And.intro (And.intro (iS67_len (xs:=l0)) (int_gtr (P:=Tryz.prog) (t:=3) (k:=.i64) (x:=(.tmp 6)) (y:=(.const (.int .i64 55))) (a:=(l0.length:Int)) (b:=55) (v:=false) (decide_eq_false g1))) (iS67_len (xs:=l0))) (by kernel_rfl)

def hn37:Hint:=⟨[]⟩
def o37 (r:Bool):List AV:=[vb r]
def p37 (r:Bool):List (Nat × AV):=[]
set_option maxRecDepth 100000 in
theorem ad_37 {k:Nat} {l0:List Int} {r:Bool} (h:spec_haGood.f k l0 = some r):CallH Tryz.prog 37 [.sl (iI .i64 l0)] [] (vb r) []:=by
 unfold spec_haGood.f at h
 refine call_ok (c:=bodyOf Tryz.f37) (rs:=o37 r) (post:=p37 r) Tryz.func37 rfl rfl rfl (by kernel_rfl) ?_
 show AtP Tryz.prog 15 (bodyOf Tryz.f37) (KR Tryz.prog Tryz.f37.results.toList (o37 r) (p37 r)) [] [] (lookA [(0,.sl (iI .i64 l0))])
 obtain ⟨t133,c1,h2⟩:=bd_ h
 rcases ite_ h2 with ⟨g3,h4⟩ | ⟨g3,h4⟩
 ·subst g3
  obtain ⟨t134,c5,h6⟩:=bd_ h4
  rcases ite_ h6 with ⟨g7,h8⟩ | ⟨g7,h8⟩
  ·subst g7
   obtain ⟨t135,c9,h10⟩:=bd_ h8
   obtain ⟨t138,c11,h12⟩:=bd_ h10
   obtain rfl:=Option.some.inj h12
   exact leafRet (hn:=hn37) 7 [.val (.int .i64 (l0.length:Int)),.call (vb true),.call (vb true),.call (.sl (iS67 t135)),.call (vb t138)] [] .ret (.inr rfl) (by kernel_rfl) (And.intro (iI_len (k:=.i64) (xs:=l0)) (And.intro (ad_38 c1) (And.intro (ad_71 c5) (And.intro (ad_40 c9) (ad_80 c11))))) (by kernel_rfl)
  ·obtain rfl:=Bool.eq_false_iff.2 g7
   obtain rfl:=Option.some.inj h8
   exact leafRet (hn:=hn37) 7 [.val (.int .i64 (l0.length:Int)),.call (vb true),.call (vb false)] [] .ret (.inr rfl) (by kernel_rfl) (And.intro (iI_len (k:=.i64) (xs:=l0)) (And.intro (ad_38 c1) (ad_71 c5))) (by kernel_rfl)
 ·obtain rfl:=Bool.eq_false_iff.2 g3
  obtain rfl:=Option.some.inj h4
  exact leafRet (hn:=hn37) 7 [.val (.int .i64 (l0.length:Int)),.call (vb false)] [] .ret (.inr rfl) (by kernel_rfl) (And.intro (iI_len (k:=.i64) (xs:=l0)) (ad_38 c1)) (by kernel_rfl)

def hn57:Hint:=⟨[(3,[9])]⟩
def o57 (r:List Int):List AV:=[.row 500000]
def p57 (r:List Int):List (Nat × AV):=[(500000,.ow true 3 (iI .i64 r))]
set_option maxRecDepth 100000 in
theorem ad_57 {l0:List Int} {r:List Int} (h:spec_l1Own.f l0 = some r):CallH Tryz.prog 57 [.sl (iI .i64 l0)] [] (.row 500000) [(500000,.ow true 3 (iI .i64 r))]:=by
 unfold spec_l1Own.f at h
 refine call_ok (c:=bodyOf Tryz.f57) (rs:=o57 r) (post:=p57 r) Tryz.func57 rfl rfl rfl (by kernel_rfl) ?_
 show AtP Tryz.prog 6 (bodyOf Tryz.f57) (KR Tryz.prog Tryz.f57.results.toList (o57 r) (p57 r)) [] [] (lookA [(0,.sl (iI .i64 l0))])
 obtain ⟨y139,c1,h2⟩:=bd_ h
 obtain rfl:=Option.some.inj c1
 obtain ⟨g3,h4⟩:=ip_ h2
 obtain rfl:=Option.some.inj h4
 exact leafRet (hn:=hn57) 7 [.nil false 3,.mut,.elem (.ow true 3 (iI .i64 (([] : List Int) ++ l0)))] [(500000,11)] .ret (.inr rfl) (by kernel_rfl) (iI_app (k:=.i64) (N:=17592186044416) (b:=8) (xs:=([] : List Int)) (ys:=l0) (by decide) (Nat.le_of_lt g3)) (by kernel_rfl)

def hn74:Hint:=⟨[(10,[1000000]),(15,[1000000]),(23,[49]),(24,[59]),(25,[1000000]),(29,[64]),(31,[65])]⟩
def o74 (r:List Int × Int × Int) (s0_0:List Int) (s0_1:Int) (s0_2:Int):List AV:=[.row 500000]
def p74 (r:List Int × Int × Int) (s0_0:List Int) (s0_1:Int) (s0_2:Int):List (Nat × AV):=[(1000000,.box (.agg [.sl (iI .u8 s0_0),vi r.2.1,.val (.int .u64 r.2.2)])),(500000,.ow false 3 (iI .i64 r.1))]
def q74_l0 (r:List Int × Int × Int) (s0_0:List Int) (s0_1:Int) (s0_2:Int) (k:Nat) (L:List (Nat × AV)):Prop:=∃ (x2:Int) (x7:List Int) (x8:Int) (x1001:Int) (x1002:Int),L = [(0,.loc 1000000 0),(2,vi x2),(7,.row 49),(8,vi x8),(49,.ow false 3 (iI .i64 x7)),(1000000,.box (.agg [.sl (iI .u8 s0_0),vi x1001,.val (.int .u64 x1002)]))] ∧ spec_l1Cur_sureChain.l0 k x2 x7 x8 s0_0 x1001 x1002 = some r
theorem q74_l0_mk {r:List Int × Int × Int} (s0_0:List Int) (s0_1:Int) (s0_2:Int) {k:Nat} {x2:Int} {x7:List Int} {x8:Int} {x1001:Int} {x1002:Int} (h:spec_l1Cur_sureChain.l0 k x2 x7 x8 s0_0 x1001 x1002 = some r):q74_l0 r s0_0 s0_1 s0_2 k [(0,.loc 1000000 0),(2,vi x2),(7,.row 49),(8,vi x8),(49,.ow false 3 (iI .i64 x7)),(1000000,.box (.agg [.sl (iI .u8 s0_0),vi x1001,.val (.int .u64 x1002)]))]:=⟨x2,x7,x8,x1001,x1002,rfl,h⟩
set_option maxRecDepth 100000 in
theorem at74_l0 {r:List Int × Int × Int} {s0_0:List Int} {s0_1:Int} {s0_2:Int}:∀ k L,q74_l0 r s0_0 s0_1 s0_2 k L → AtP Tryz.prog 35 (bodyOf Tryz.f74) (KR Tryz.prog Tryz.f74.results.toList (o74 r s0_0 s0_1 s0_2) (p74 r s0_0 s0_1 s0_2)) [true,true,false,true,false] [] (lookA L) :=
 at_loop (by kernel_rfl) (fun _ => by kernel_rfl) (q74_l0 r s0_0 s0_1 s0_2) (by
  rintro k _ ⟨x2,x7,x8,x1001,x1002,rfl,h⟩
  cases k with
  | zero => simp [spec_l1Cur_sureChain.l0] at h
  | succ k =>
   rw [spec_l1Cur_sureChain.l0] at h
   rcases ite_ h with ⟨g1,h2⟩ | ⟨g1,h2⟩
   ·obtain ⟨t154,c3,h4⟩:=bd_ h2
    obtain ⟨⟨bt157_1,bt157_2,bt157_3⟩,c5,h6⟩:=bd_ h4
    try dsimp only at h6
    obtain ⟨g7,h8⟩:=ip_ h6
    obtain ⟨y160,c9,h10⟩:=bd_ h8
    obtain rfl:=Option.some.inj c9
    obtain ⟨t163,c11,h12⟩:=bd_ h10
    rcases ite_ h12 with ⟨g13,h14⟩ | ⟨g13,h14⟩
    ·subst g13
     exact leafBack (hn:=hn74) 20 [.val (.bool true),.callH [] (.row 59) [(59,.ow true 3 (iI .i64 t154))],.val (.int .i64 (wrap64 (x2 + 1))),.callH [1000000] (vi bt157_1) [(1000000,.box (.agg [.sl (iI .u8 s0_0),vi bt157_2,.val (.int .u64 bt157_3)]))],.go,.elem (.ow false 3 (iI .i64 (t154 ++ ([bt157_1])))),.call (vb true),.val (.int .i64 (wrap64 (x8 - 1)))] [(49,65)] (q74_l0_mk s0_0 s0_1 s0_2 h14) (Nat.lt_succ_self k) (And.intro (int_gtr (P:=Tryz.prog) (t:=3) (k:=.i64) (x:=(.tmp 19)) (y:=(.const (.int .i64 0))) (a:=x8) (b:=0) (v:=true) (decide_eq_true g1)) (And.intro (And.intro (CallH.ren [(500000,59)] rfl rfl (ad_57 c3)) (And.intro (int_add (P:=Tryz.prog) (t:=3) (k:=.i64) (x:=(.tmp 26)) (y:=(.const (.int .i64 1))) (a:=x2) (b:=1) (c:=(wrap64 (x2 + 1))) (IntWalk.i64_left _)) (And.intro (CallH.ren [(1000000,1000000)] rfl rfl (ad_31 c5)) (iI_app (k:=.i64) (N:=17592186044416) (b:=8) (xs:=t154) (ys:=[bt157_1]) (by decide) (Nat.succ_le_of_lt g7))))) (And.intro (ad_37 c11) (int_sub (P:=Tryz.prog) (t:=3) (k:=.i64) (x:=(.tmp 21)) (y:=(.const (.int .i64 1))) (a:=x8) (b:=1) (c:=(wrap64 (x8 - 1))) (IntWalk.i64_left _))))) (by kernel_rfl)
    ·obtain rfl:=Bool.eq_false_iff.2 g13
     exact leafBack (hn:=hn74) 20 [.val (.bool true),.callH [] (.row 59) [(59,.ow true 3 (iI .i64 t154))],.val (.int .i64 (wrap64 (x2 + 1))),.callH [1000000] (vi bt157_1) [(1000000,.box (.agg [.sl (iI .u8 s0_0),vi bt157_2,.val (.int .u64 bt157_3)]))],.go,.elem (.ow false 3 (iI .i64 (t154 ++ ([bt157_1])))),.call (vb false),.val (.int .i64 (wrap64 (x8 - 1)))] [] (q74_l0_mk s0_0 s0_1 s0_2 h14) (Nat.lt_succ_self k) (And.intro (int_gtr (P:=Tryz.prog) (t:=3) (k:=.i64) (x:=(.tmp 19)) (y:=(.const (.int .i64 0))) (a:=x8) (b:=0) (v:=true) (decide_eq_true g1)) (And.intro (And.intro (CallH.ren [(500000,59)] rfl rfl (ad_57 c3)) (And.intro (int_add (P:=Tryz.prog) (t:=3) (k:=.i64) (x:=(.tmp 26)) (y:=(.const (.int .i64 1))) (a:=x2) (b:=1) (c:=(wrap64 (x2 + 1))) (IntWalk.i64_left _)) (And.intro (CallH.ren [(1000000,1000000)] rfl rfl (ad_31 c5)) (iI_app (k:=.i64) (N:=17592186044416) (b:=8) (xs:=t154) (ys:=[bt157_1]) (by decide) (Nat.succ_le_of_lt g7))))) (And.intro (ad_37 c11) (int_sub (P:=Tryz.prog) (t:=3) (k:=.i64) (x:=(.tmp 21)) (y:=(.const (.int .i64 1))) (a:=x8) (b:=1) (c:=(wrap64 (x8 - 1))) (IntWalk.i64_left _))))) (by kernel_rfl)
   ·obtain rfl:=Option.some.inj h2
    exact leafRet (hn:=hn74) 14 [.val (.bool false)] [(500000,49)] .ret (.inr rfl) (by kernel_rfl) (int_gtr (P:=Tryz.prog) (t:=3) (k:=.i64) (x:=(.tmp 19)) (y:=(.const (.int .i64 0))) (a:=x8) (b:=0) (v:=false) (decide_eq_false g1)) (by kernel_rfl))
set_option maxRecDepth 100000 in
theorem ad_74 {k:Nat} {s0_0:List Int} {s0_1:Int} {s0_2:Int} {a1:Int} {a2:Int} {r1:List Int} {r2:Int} {r3:Int} (h:spec_l1Cur_sureChain.f k s0_0 s0_1 s0_2 a1 a2 = some (r1,r2,r3)):CallH Tryz.prog 74 [.loc 1000000 0,vi a1,vi a2] [(1000000,.box (.agg [.sl (iI .u8 s0_0),vi s0_1,.val (.int .u64 s0_2)]))] (.row 500000) [(1000000,.box (.agg [.sl (iI .u8 s0_0),vi r2,.val (.int .u64 r3)])),(500000,.ow false 3 (iI .i64 r1))]:=by
 unfold spec_l1Cur_sureChain.f at h
 refine call_ok (c:=bodyOf Tryz.f74) (rs:=o74 (r1,r2,r3) s0_0 s0_1 s0_2) (post:=p74 (r1,r2,r3) s0_0 s0_1 s0_2) Tryz.func74 rfl rfl rfl (by kernel_rfl) ?_
 show AtP Tryz.prog 35 (bodyOf Tryz.f74) (KR Tryz.prog Tryz.f74.results.toList (o74 (r1,r2,r3) s0_0 s0_1 s0_2) (p74 (r1,r2,r3) s0_0 s0_1 s0_2)) [] [] (lookA [(0,.loc 1000000 0),(1,vi a1),(2,vi a2),(1000000,.box (.agg [.sl (iI .u8 s0_0),vi s0_1,.val (.int .u64 s0_2)]))])
 obtain ⟨⟨bt145_1,bt145_2,bt145_3⟩,c1,h2⟩:=bd_ h
 try dsimp only at h2
 obtain ⟨⟨bt151_1,bt151_2,bt151_3⟩,c3,h4⟩:=bd_ h2
 try dsimp only at h4
 exact leafAt (hn:=hn74) 11 [.nil false 3,.val (.int .i64 (wrap64 (a2 + 1))),.callH [1000000] (vi bt145_1) [(1000000,.box (.agg [.sl (iI .u8 s0_0),vi bt145_2,.val (.int .u64 bt145_3)]))],.go,.val (.int .i64 (wrap64 (a1 + 1))),.callH [1000000] (vi bt151_1) [(1000000,.box (.agg [.sl (iI .u8 s0_0),vi bt151_2,.val (.int .u64 bt151_3)]))]] [] (at74_l0 _ _ (q74_l0_mk s0_0 s0_1 s0_2 h4)) (And.intro (And.intro (int_add (P:=Tryz.prog) (t:=3) (k:=.i64) (x:=(.tmp 11)) (y:=(.const (.int .i64 1))) (a:=a2) (b:=1) (c:=(wrap64 (a2 + 1))) (IntWalk.i64_left _)) (CallH.ren [(1000000,1000000)] rfl rfl (ad_31 c1))) (And.intro (int_add (P:=Tryz.prog) (t:=3) (k:=.i64) (x:=(.tmp 16)) (y:=(.const (.int .i64 1))) (a:=a1) (b:=1) (c:=(wrap64 (a1 + 1))) (IntWalk.i64_left _)) (CallH.ren [(1000000,1000000)] rfl rfl (ad_31 c3)))) (by kernel_rfl)

def hn75:Hint:=⟨[(6,[1000000])]⟩
def o75 (r:Int × Int × Int) (s0_0:List Int) (s0_1:Int) (s0_2:Int):List AV:=[vi r.1]
def p75 (r:Int × Int × Int) (s0_0:List Int) (s0_1:Int) (s0_2:Int):List (Nat × AV):=[(1000000,.box (.agg [.sl (iI .u8 s0_0),vi r.2.1,.val (.int .u64 r.2.2)]))]
set_option maxRecDepth 100000 in
theorem ad_75 {s0_0:List Int} {s0_1:Int} {s0_2:Int} {l1:List Int} {r1:Int} {r2:Int} {r3:Int} (h:spec_l1Cur_among.f s0_0 s0_1 s0_2 l1 = some (r1,r2,r3)):CallH Tryz.prog 75 [.loc 1000000 0,.sl (iI .i64 l1)] [(1000000,.box (.agg [.sl (iI .u8 s0_0),vi s0_1,.val (.int .u64 s0_2)]))] (vi r1) [(1000000,.box (.agg [.sl (iI .u8 s0_0),vi r2,.val (.int .u64 r3)]))]:=by
 unfold spec_l1Cur_among.f at h
 refine call_ok (c:=bodyOf Tryz.f75) (rs:=o75 (r1,r2,r3) s0_0 s0_1 s0_2) (post:=p75 (r1,r2,r3) s0_0 s0_1 s0_2) Tryz.func75 rfl rfl rfl (by kernel_rfl) ?_
 show AtP Tryz.prog 12 (bodyOf Tryz.f75) (KR Tryz.prog Tryz.f75.results.toList (o75 (r1,r2,r3) s0_0 s0_1 s0_2) (p75 (r1,r2,r3) s0_0 s0_1 s0_2)) [] [] (lookA [(0,.loc 1000000 0),(1,.sl (iI .i64 l1)),(1000000,.box (.agg [.sl (iI .u8 s0_0),vi s0_1,.val (.int .u64 s0_2)]))])
 obtain ⟨⟨bt164_1,bt164_2,bt164_3⟩,c1,h2⟩:=bd_ h
 try dsimp only at h2
 obtain ⟨g3,h4⟩:=ip_ h2
 obtain ⟨g5,h6⟩:=ip_ h4
 obtain ⟨rfl,rfl,rfl⟩:=pr3_ h6
 exact leafRet (hn:=hn75) 7 [.val (.int .i64 (l1.length:Int)),.callH [1000000] (vi bt164_1) [(1000000,.box (.agg [.sl (iI .u8 s0_0),vi bt164_2,.val (.int .u64 bt164_3)]))],.elem (vi (rd l1 bt164_1))] [] .ret (.inr rfl) (by kernel_rfl) (And.intro (iI_len (k:=.i64) (xs:=l1)) (And.intro (CallH.ren [(1000000,1000000)] rfl rfl (ad_31 c1)) (iI_rd (k:=.i64) (xs:=l1) (i:=bt164_1) g3 g5))) (by kernel_rfl)

def hn30:Hint:=⟨[(8,[1000000]),(12,[1000000]),(16,[44]),(17,[1000000]),(18,[44]),(21,[54]),(23,[56]),(27,[44]),(28,[44])]⟩
def o30 (r:List Int × Int × Int) (s0_0:List Int) (s0_1:Int) (s0_2:Int):List AV:=[.sl (iI .i64 r.1)]
def p30 (r:List Int × Int × Int) (s0_0:List Int) (s0_1:Int) (s0_2:Int):List (Nat × AV):=[(1000000,.box (.agg [.sl (iI .u8 s0_0),vi r.2.1,.val (.int .u64 r.2.2)]))]
set_option maxRecDepth 100000 in
theorem ad_30 {k:Nat} {s0_0:List Int} {s0_1:Int} {s0_2:Int} {a1:Int} {a2:Int} {r1:List Int} {r2:Int} {r3:Int} (h:spec_l1Cur_chain.f k s0_0 s0_1 s0_2 a1 a2 = some (r1,r2,r3)):CallH Tryz.prog 30 [.loc 1000000 0,vi a1,vi a2] [(1000000,.box (.agg [.sl (iI .u8 s0_0),vi s0_1,.val (.int .u64 s0_2)]))] (.sl (iI .i64 r1)) [(1000000,.box (.agg [.sl (iI .u8 s0_0),vi r2,.val (.int .u64 r3)]))]:=by
 unfold spec_l1Cur_chain.f at h
 refine call_ok (c:=bodyOf Tryz.f30) (rs:=o30 (r1,r2,r3) s0_0 s0_1 s0_2) (post:=p30 (r1,r2,r3) s0_0 s0_1 s0_2) Tryz.func30 rfl rfl rfl (by kernel_rfl) ?_
 show AtP Tryz.prog 33 (bodyOf Tryz.f30) (KR Tryz.prog Tryz.f30.results.toList (o30 (r1,r2,r3) s0_0 s0_1 s0_2) (p30 (r1,r2,r3) s0_0 s0_1 s0_2)) [] [] (lookA [(0,.loc 1000000 0),(1,vi a1),(2,vi a2),(1000000,.box (.agg [.sl (iI .u8 s0_0),vi s0_1,.val (.int .u64 s0_2)]))])
 obtain ⟨⟨bt168_1,bt168_2,bt168_3⟩,c1,h2⟩:=bd_ h
 try dsimp only at h2
 obtain ⟨⟨bt173_1,bt173_2,bt173_3⟩,c3,h4⟩:=bd_ h2
 try dsimp only at h4
 rcases ite_ h4 with ⟨g5,h6⟩ | ⟨g5,h6⟩
 ·obtain ⟨g7,h8⟩:=ip_ h6
  obtain ⟨⟨bt180_1,bt180_2,bt180_3⟩,c9,h10⟩:=bd_ h8
  try dsimp only at h10
  obtain ⟨g11,h12⟩:=ip_ h10
  obtain ⟨rfl,rfl,rfl⟩:=pr3_ h12
  exact leafRet (hn:=hn30) 22 [.goT,.callH [1000000] (.row 44) [(1000000,.box (.agg [.sl (iI .u8 s0_0),vi bt168_2,.val (.int .u64 bt168_3)])),(44,.ow false 3 (iI .i64 bt168_1))],.callH [1000000] (vi bt173_1) [(1000000,.box (.agg [.sl (iI .u8 s0_0),vi bt173_2,.val (.int .u64 bt173_3)]))],.val (.bool true),.elem (vi (rd bt168_1 0)),.go,.callH [1000000] (vi bt180_1) [(1000000,.box (.agg [.sl (iI .u8 s0_0),vi bt180_2,.val (.int .u64 bt180_3)]))],.go,.elem (.ow false 3 (iI .i64 (bt168_1 ++ ([bt180_1]))))] [] .ret (.inr rfl) (by kernel_rfl) (And.intro (CallH.ren [(500000,44),(1000000,1000000)] rfl rfl (ad_74 c1)) (And.intro (CallH.ren [(1000000,1000000)] rfl rfl (ad_31 c3)) (And.intro (int_eql (P:=Tryz.prog) (t:=3) (k:=.i64) (x:=(.tmp 13)) (y:=(.const (.int .i64 0))) (a:=bt173_1) (b:=0) (v:=true) (beq_iff_eq.2 g5)) (And.intro (iI_rd (k:=.i64) (xs:=bt168_1) (i:=0) (by decide) g7) (And.intro (CallH.ren [(1000000,1000000)] rfl rfl (ad_75 c9)) (iI_app (k:=.i64) (N:=17592186044416) (b:=8) (xs:=bt168_1) (ys:=[bt180_1]) (by decide) (Nat.succ_le_of_lt g11))))))) (by kernel_rfl)
 ·rcases ite_ h6 with ⟨g13,h14⟩ | ⟨g13,h14⟩
  ·obtain ⟨g15,h16⟩:=ip_ h14
   obtain ⟨rfl,rfl,rfl⟩:=pr3_ h16
   exact leafRet (hn:=hn30) 26 [.goT,.callH [1000000] (.row 44) [(1000000,.box (.agg [.sl (iI .u8 s0_0),vi bt168_2,.val (.int .u64 bt168_3)])),(44,.ow false 3 (iI .i64 bt168_1))],.callH [1000000] (vi bt173_1) [(1000000,.box (.agg [.sl (iI .u8 s0_0),vi bt173_2,.val (.int .u64 bt173_3)]))],.val (.bool false),.val (.bool true),.elem (.ow false 3 (iI .i64 (bt168_1 ++ bt168_1)))] [] .ret (.inr rfl) (by kernel_rfl) (And.intro (CallH.ren [(500000,44),(1000000,1000000)] rfl rfl (ad_74 c1)) (And.intro (CallH.ren [(1000000,1000000)] rfl rfl (ad_31 c3)) (And.intro (int_eql (P:=Tryz.prog) (t:=3) (k:=.i64) (x:=(.tmp 13)) (y:=(.const (.int .i64 0))) (a:=bt173_1) (b:=0) (v:=false) (beq_false_of_ne g5)) (And.intro (int_eql (P:=Tryz.prog) (t:=3) (k:=.i64) (x:=(.tmp 13)) (y:=(.const (.int .i64 1))) (a:=bt173_1) (b:=1) (v:=true) (beq_iff_eq.2 g13)) (iI_app (k:=.i64) (N:=17592186044416) (b:=8) (xs:=bt168_1) (ys:=bt168_1) (by decide) (Nat.le_of_lt g15)))))) (by kernel_rfl)
  ·rcases ite_ h14 with ⟨g17,h18⟩ | ⟨g17,h18⟩
   ·obtain ⟨rfl,rfl,rfl⟩:=pr3_ h18
    exact leafRet (hn:=hn30) 29 [.goT,.callH [1000000] (.row 44) [(1000000,.box (.agg [.sl (iI .u8 s0_0),vi bt168_2,.val (.int .u64 bt168_3)])),(44,.ow false 3 (iI .i64 bt168_1))],.callH [1000000] (vi bt173_1) [(1000000,.box (.agg [.sl (iI .u8 s0_0),vi bt173_2,.val (.int .u64 bt173_3)]))],.val (.bool false),.val (.bool false),.val (.bool true),.goT] [] .ret (.inr rfl) (by kernel_rfl) (And.intro (CallH.ren [(500000,44),(1000000,1000000)] rfl rfl (ad_74 c1)) (And.intro (CallH.ren [(1000000,1000000)] rfl rfl (ad_31 c3)) (And.intro (int_eql (P:=Tryz.prog) (t:=3) (k:=.i64) (x:=(.tmp 13)) (y:=(.const (.int .i64 0))) (a:=bt173_1) (b:=0) (v:=false) (beq_false_of_ne g5)) (And.intro (int_eql (P:=Tryz.prog) (t:=3) (k:=.i64) (x:=(.tmp 13)) (y:=(.const (.int .i64 1))) (a:=bt173_1) (b:=1) (v:=false) (beq_false_of_ne g13)) (int_eql (P:=Tryz.prog) (t:=3) (k:=.i64) (x:=(.tmp 13)) (y:=(.const (.int .i64 2))) (a:=bt173_1) (b:=2) (v:=true) (beq_iff_eq.2 g17)))))) (by kernel_rfl)
   ·obtain ⟨rfl,rfl,rfl⟩:=pr3_ h18
    exact leafRet (hn:=hn30) 30 [.goT,.callH [1000000] (.row 44) [(1000000,.box (.agg [.sl (iI .u8 s0_0),vi bt168_2,.val (.int .u64 bt168_3)])),(44,.ow false 3 (iI .i64 bt168_1))],.callH [1000000] (vi bt173_1) [(1000000,.box (.agg [.sl (iI .u8 s0_0),vi bt173_2,.val (.int .u64 bt173_3)]))],.val (.bool false),.val (.bool false),.val (.bool false)] [] .ret (.inr rfl) (by kernel_rfl) (And.intro (CallH.ren [(500000,44),(1000000,1000000)] rfl rfl (ad_74 c1)) (And.intro (CallH.ren [(1000000,1000000)] rfl rfl (ad_31 c3)) (And.intro (int_eql (P:=Tryz.prog) (t:=3) (k:=.i64) (x:=(.tmp 13)) (y:=(.const (.int .i64 0))) (a:=bt173_1) (b:=0) (v:=false) (beq_false_of_ne g5)) (And.intro (int_eql (P:=Tryz.prog) (t:=3) (k:=.i64) (x:=(.tmp 13)) (y:=(.const (.int .i64 1))) (a:=bt173_1) (b:=1) (v:=false) (beq_false_of_ne g13)) (int_eql (P:=Tryz.prog) (t:=3) (k:=.i64) (x:=(.tmp 13)) (y:=(.const (.int .i64 2))) (a:=bt173_1) (b:=2) (v:=false) (beq_false_of_ne g17)))))) (by kernel_rfl)

def hn5:Hint:=⟨[(8,[28]),(10,[28]),(12,[28]),(16,[28])]⟩
def o5 (r:List Int × Int):List AV:=[.sl (iI .i64 r.1),vi r.2]
def p5 (r:List Int × Int):List (Nat × AV):=[]
set_option maxRecDepth 100000 in
theorem ad_5 {k:Nat} {l0:List Int} {r1:List Int} {r2:Int} (h:spec_DrawMakePuzzle.f k l0 = some (r1,r2)):CallH Tryz.prog 5 [.sl (iI .u8 l0)] [] (.tup [.sl (iI .i64 r1),vi r2]) []:=by
 unfold spec_DrawMakePuzzle.f at h
 refine call_ok (c:=bodyOf Tryz.f5) (rs:=o5 (r1,r2)) (post:=p5 (r1,r2)) Tryz.func5 rfl rfl rfl (by kernel_rfl) ?_
 show AtP Tryz.prog 21 (bodyOf Tryz.f5) (KR Tryz.prog Tryz.f5.results.toList (o5 (r1,r2)) (p5 (r1,r2))) [] [] (lookA [(0,.sl (iI .u8 l0))])
 obtain ⟨⟨bt190_1,bt190_2,bt190_3⟩,c1,h2⟩:=bd_ h
 try dsimp only at h2
 obtain ⟨⟨bt195_1,bt195_2,bt195_3⟩,c3,h4⟩:=bd_ h2
 try dsimp only at h4
 obtain ⟨⟨bt198_1,bt198_2,bt198_3⟩,c5,h6⟩:=bd_ h4
 try dsimp only at h6
 obtain ⟨⟨bt201_1,bt201_2,bt201_3⟩,c7,h8⟩:=bd_ h6
 try dsimp only at h8
 obtain ⟨rfl,rfl⟩:=pr2_ h8
 exact leafRet (hn:=hn5) 10 [.goT,.go,.callH [28] (.sl (iI .i64 bt190_1)) [(28,.box (.agg [.sl (iI .u8 l0),vi bt190_2,.val (.int .u64 bt190_3)]))],.callH [28] (vi bt195_1) [(28,.box (.agg [.sl (iI .u8 l0),vi bt195_2,.val (.int .u64 bt195_3)]))],.callH [28] (vi bt198_1) [(28,.box (.agg [.sl (iI .u8 l0),vi bt198_2,.val (.int .u64 bt198_3)]))],.val (.int .i64 (wrap64 (Int.tdiv bt198_1 8))),.val (.int .i64 (wrap64 (bt195_1 - (wrap64 (Int.tdiv bt198_1 8))))),.callH [28] (vi bt201_1) [(28,.box (.agg [.sl (iI .u8 l0),vi bt201_2,.val (.int .u64 bt201_3)]))],.val (.int .i64 (wrap64 (Int.tdiv bt201_1 8))),.val (.int .i64 (wrap64 (4 * (wrap64 (Int.tdiv bt201_1 8))))),.val (.int .i64 (wrap64 ((wrap64 (bt195_1 - (wrap64 (Int.tdiv bt198_1 8)))) + (wrap64 (4 * (wrap64 (Int.tdiv bt201_1 8)))))))] [] .ret (.inr rfl) (by kernel_rfl) (And.intro (CallH.ren [(1000000,28)] rfl rfl (ad_30 c1)) (And.intro (CallH.ren [(1000000,28)] rfl rfl (ad_31 c3)) (And.intro (CallH.ren [(1000000,28)] rfl rfl (ad_31 c5)) (And.intro (int_quo (P:=Tryz.prog) (t:=3) (k:=.i64) (x:=(.tmp 13)) (y:=(.const (.int .i64 8))) (a:=bt198_1) (b:=8) (c:=(wrap64 (Int.tdiv bt198_1 8))) (by decide) (IntWalk.i64_left _)) (And.intro (int_sub (P:=Tryz.prog) (t:=3) (k:=.i64) (x:=(.tmp 11)) (y:=(.tmp 14)) (a:=bt195_1) (b:=(wrap64 (Int.tdiv bt198_1 8))) (c:=(wrap64 (bt195_1 - (wrap64 (Int.tdiv bt198_1 8))))) (IntWalk.i64_left _)) (And.intro (CallH.ren [(1000000,28)] rfl rfl (ad_31 c7)) (And.intro (int_quo (P:=Tryz.prog) (t:=3) (k:=.i64) (x:=(.tmp 17)) (y:=(.const (.int .i64 8))) (a:=bt201_1) (b:=8) (c:=(wrap64 (Int.tdiv bt201_1 8))) (by decide) (IntWalk.i64_left _)) (And.intro (int_mul (P:=Tryz.prog) (t:=3) (k:=.i64) (x:=(.const (.int .i64 4))) (y:=(.tmp 18)) (a:=4) (b:=(wrap64 (Int.tdiv bt201_1 8))) (c:=(wrap64 (4 * (wrap64 (Int.tdiv bt201_1 8))))) (IntWalk.i64_left _)) (int_add (P:=Tryz.prog) (t:=3) (k:=.i64) (x:=(.tmp 15)) (y:=(.tmp 19)) (a:=(wrap64 (bt195_1 - (wrap64 (Int.tdiv bt198_1 8))))) (b:=(wrap64 (4 * (wrap64 (Int.tdiv bt201_1 8))))) (c:=(wrap64 ((wrap64 (bt195_1 - (wrap64 (Int.tdiv bt198_1 8)))) + (wrap64 (4 * (wrap64 (Int.tdiv bt201_1 8))))))) (IntWalk.i64_left _)))))))))) (by kernel_rfl)

def hn79:Hint:=⟨[(4,[16])]⟩
def o79 (r:Int × Int):List AV:=[.agg [vi r.1,vi r.2]]
def p79 (r:Int × Int):List (Nat × AV):=[]
set_option maxRecDepth 100000 in
theorem ad_79 {a0:Int} {a1:Int} {r1:Int} {r2:Int} (h:impl_tile.f a0 a1 = some (r1,r2)):CallH Tryz.prog 79 [vi a0,vi a1] [] (.agg [vi r1,vi r2]) []:=by
 unfold impl_tile.f at h
 refine call_ok (c:=bodyOf Tryz.f79) (rs:=o79 (r1,r2)) (post:=p79 (r1,r2)) Tryz.func79 rfl rfl rfl (by kernel_rfl) ?_
 show AtP Tryz.prog 12 (bodyOf Tryz.f79) (KR Tryz.prog Tryz.f79.results.toList (o79 (r1,r2)) (p79 (r1,r2))) [] [] (lookA [(0,vi a0),(1,vi a1)])
 obtain ⟨rfl,rfl⟩:=pr2_ h
 exact leafRet (hn:=hn79) 7 [.val (.int .i64 (mn a0 a1)),.val (.int .i64 (mx a0 a1)),.elem (.agg [vi (mn a0 a1),vi (mx a0 a1)])] [] .ret (.inr rfl) (by kernel_rfl) (And.intro (min_i64_3_3_ff_3 (a:=a0) (b:=a1)) (And.intro (max_i64_3_3_ff_3 (a:=a0) (b:=a1)) (build_67_2 (p0:=(mn a0 a1)) (p1:=(mx a0 a1))))) (by kernel_rfl)

def hn35:Hint:=⟨[(12,[31]),(23,[49])]⟩
def o35 (r:(List (S67))):List AV:=[.sl (iS67 r)]
def p35 (r:(List (S67))):List (Nat × AV):=[]
def q35_l0 (r:(List (S67))) (k:Nat) (L:List (Nat × AV)):Prop:=∃ (x0:List Int) (x3:List (S67)) (x4:Int),L = [(0,.sl (iI .i64 x0)),(3,.row 31),(4,vi x4),(31,.ow false 67 (iS67 x3))] ∧ impl_tilesOf.l0 k x0 x3 x4 = some r
theorem q35_l0_mk {r:(List (S67))} {k:Nat} {x0:List Int} {x3:List (S67)} {x4:Int} (h:impl_tilesOf.l0 k x0 x3 x4 = some r):q35_l0 r k [(0,.sl (iI .i64 x0)),(3,.row 31),(4,vi x4),(31,.ow false 67 (iS67 x3))]:=⟨x0,x3,x4,rfl,h⟩
set_option maxRecDepth 100000 in
theorem at35_l0 {r:(List (S67))}:∀ k L,q35_l0 r k L → AtP Tryz.prog 26 (bodyOf Tryz.f35) (KR Tryz.prog Tryz.f35.results.toList (o35 r) (p35 r)) [true,true,false,true,false] [] (lookA L) :=
 at_loop (by kernel_rfl) (fun _ => by kernel_rfl) (q35_l0 r) (by
  rintro k _ ⟨x0,x3,x4,rfl,h⟩
  cases k with
  | zero => simp [impl_tilesOf.l0] at h
  | succ k =>
   rw [impl_tilesOf.l0] at h
   rcases ite_ h with ⟨g1,h2⟩ | ⟨g1,h2⟩
   ·obtain ⟨g3,h4⟩:=ip_ h2
    obtain ⟨g5,h6⟩:=ip_ h4
    obtain ⟨g7,h8⟩:=ip_ h6
    obtain ⟨⟨bt210_1,bt210_2⟩,c9,h10⟩:=bd_ h8
    try dsimp only at h10
    obtain ⟨g11,h12⟩:=ip_ h10
    exact leafBack (hn:=hn35) 13 [.val (.int .i64 (x0.length:Int)),.val (.bool true),.val (.int .i64 (wrap64 (x4 - 1))),.elem (vi (rd x0 (wrap64 (x4 - 1)))),.elem (vi (rd x0 x4)),.call (.agg [vi bt210_1,vi bt210_2]),.go,.elem (.ow false 67 (iS67 (x3 ++ ([(⟨bt210_1,bt210_2⟩ : S67)])))),.val (.int .i64 (wrap64 (x4 + 1)))] [(31,50)] (q35_l0_mk h12) (Nat.lt_succ_self k) (And.intro (And.intro (iI_len (k:=.i64) (xs:=x0)) (int_lss (P:=Tryz.prog) (t:=3) (k:=.i64) (x:=(.tmp 6)) (y:=(.tmp 8)) (a:=x4) (b:=(x0.length:Int)) (v:=true) (decide_eq_true g1))) (And.intro (And.intro (int_sub (P:=Tryz.prog) (t:=3) (k:=.i64) (x:=(.tmp 14)) (y:=(.const (.int .i64 1))) (a:=x4) (b:=1) (c:=(wrap64 (x4 - 1))) (IntWalk.i64_left _)) (And.intro (iI_rd (k:=.i64) (xs:=x0) (i:=(wrap64 (x4 - 1))) g3 g5) (And.intro (iI_rd (k:=.i64) (xs:=x0) (i:=x4) g7 g1) (And.intro (ad_79 c9) (iS67_app (N:=8796093022208) (b:=16) (xs:=x3) (ys:=[(⟨bt210_1,bt210_2⟩ : S67)]) (by decide) (Nat.succ_le_of_lt g11)))))) (int_add (P:=Tryz.prog) (t:=3) (k:=.i64) (x:=(.tmp 10)) (y:=(.const (.int .i64 1))) (a:=x4) (b:=1) (c:=(wrap64 (x4 + 1))) (IntWalk.i64_left _)))) (by kernel_rfl)
   ·obtain rfl:=Option.some.inj h2
    exact leafRet (hn:=hn35) 14 [.val (.int .i64 (x0.length:Int)),.val (.bool false)] [] .ret (.inr rfl) (by kernel_rfl) (And.intro (iI_len (k:=.i64) (xs:=x0)) (int_lss (P:=Tryz.prog) (t:=3) (k:=.i64) (x:=(.tmp 6)) (y:=(.tmp 8)) (a:=x4) (b:=(x0.length:Int)) (v:=false) (decide_eq_false g1))) (by kernel_rfl))
set_option maxRecDepth 100000 in
theorem ad_35 {k:Nat} {l0:List Int} {r:List (S67)} (h:impl_tilesOf.f k l0 = some r):CallH Tryz.prog 35 [.sl (iI .i64 l0)] [] (.sl (iS67 r)) []:=by
 unfold impl_tilesOf.f at h
 refine call_ok (c:=bodyOf Tryz.f35) (rs:=o35 r) (post:=p35 r) Tryz.func35 rfl rfl rfl (by kernel_rfl) ?_
 show AtP Tryz.prog 26 (bodyOf Tryz.f35) (KR Tryz.prog Tryz.f35.results.toList (o35 r) (p35 r)) [] [] (lookA [(0,.sl (iI .i64 l0))])
 exact leafAt (hn:=hn35) 11 [.goT,.go] [] (at35_l0 _ _ (q35_l0_mk h)) True.intro (by kernel_rfl)

def hn33:Hint:=⟨[]⟩
def o33 (r:Bool):List AV:=[vb r]
def p33 (r:Bool):List (Nat × AV):=[]
set_option maxRecDepth 100000 in
theorem ad_33 {a0:Int} {a1:Int} {a2:Int} {r:Bool} (h:impl_within.f a0 a1 a2 = some r):CallH Tryz.prog 33 [vi a0,vi a1,vi a2] [] (vb r) []:=by
 unfold impl_within.f at h
 refine call_ok (c:=bodyOf Tryz.f33) (rs:=o33 r) (post:=p33 r) Tryz.func33 rfl rfl rfl (by kernel_rfl) ?_
 show AtP Tryz.prog 15 (bodyOf Tryz.f33) (KR Tryz.prog Tryz.f33.results.toList (o33 r) (p33 r)) [] [] (lookA [(0,vi a0),(1,vi a1),(2,vi a2)])
 rcases ite_ h with ⟨g1,h2⟩ | ⟨g1,h2⟩
 ·obtain rfl:=Option.some.inj h2
  exact leafRet (hn:=hn33) 7 [.val (.bool true),.val (.bool (decide (a0 ≤ a2)))] [] .ret (.inr rfl) (by kernel_rfl) (And.intro (int_leq (P:=Tryz.prog) (t:=3) (k:=.i64) (x:=(.tmp 7)) (y:=(.tmp 8)) (a:=a1) (b:=a0) (v:=true) (decide_eq_true g1)) (int_leq (P:=Tryz.prog) (t:=3) (k:=.i64) (x:=(.tmp 11)) (y:=(.tmp 12)) (a:=a0) (b:=a2) (v:=(decide (a0 ≤ a2))) rfl)) (by kernel_rfl)
 ·obtain rfl:=Option.some.inj h2
  exact leafRet (hn:=hn33) 7 [.val (.bool false)] [] .ret (.inr rfl) (by kernel_rfl) (int_leq (P:=Tryz.prog) (t:=3) (k:=.i64) (x:=(.tmp 7)) (y:=(.tmp 8)) (a:=a1) (b:=a0) (v:=false) (decide_eq_false g1)) (by kernel_rfl)

def hn91:Hint:=⟨[(3,[22])]⟩
def o91 (r:Int):List AV:=[vi r]
def p91 (r:Int):List (Nat × AV):=[]
def q91_l0 (r:Int) (k:Nat) (L:List (Nat × AV)):Prop:=∃ (x0:List (S67)) (x7:Int) (x8:Int) (x216000:Int) (x216001:Int),L = [(0,.sl (iS67 x0)),(3,.loc 22 0),(7,vi x7),(8,vi x8),(22,.box (.agg [vi x216000,vi x216001]))] ∧ slices_Index_impl_Tile_impl_Tile.l0 k x0 x7 x8 x216000 x216001 = some r
theorem q91_l0_mk {r:Int} {k:Nat} {x0:List (S67)} {x7:Int} {x8:Int} {x216000:Int} {x216001:Int} (h:slices_Index_impl_Tile_impl_Tile.l0 k x0 x7 x8 x216000 x216001 = some r):q91_l0 r k [(0,.sl (iS67 x0)),(3,.loc 22 0),(7,vi x7),(8,vi x8),(22,.box (.agg [vi x216000,vi x216001]))]:=⟨x0,x7,x8,x216000,x216001,rfl,h⟩
set_option maxRecDepth 100000 in
theorem at91_l0 {r:Int}:∀ k L,q91_l0 r k L → AtP Tryz.prog 19 (bodyOf Tryz.f91) (KR Tryz.prog Tryz.f91.results.toList (o91 r) (p91 r)) [true,false,true,false] [] (lookA L) :=
 at_loop (by kernel_rfl) (fun _ => by kernel_rfl) (q91_l0 r) (by
  rintro k _ ⟨x0,x7,x8,x216000,x216001,rfl,h⟩
  cases k with
  | zero => simp [slices_Index_impl_Tile_impl_Tile.l0] at h
  | succ k =>
   rw [slices_Index_impl_Tile_impl_Tile.l0] at h
   rcases ite_ h with ⟨g1,h2⟩ | ⟨g1,h2⟩
   ·obtain ⟨g3,h4⟩:=ip_ h2
    obtain ⟨g5,h6⟩:=ip_ h4
    rcases ite_ h6 with ⟨g7,h8⟩ | ⟨g7,h8⟩
    ·obtain rfl:=Option.some.inj h8
     exact leafRet (hn:=hn91) 25 [.val (.bool true),.elem (.agg [vi ((rd_T67 x0 x8).f0),vi ((rd_T67 x0 x8).f1)]),.val (.bool true)] [] .ret (.inr rfl) (by kernel_rfl) (And.intro (int_lss (P:=Tryz.prog) (t:=3) (k:=.i64) (x:=(.tmp 8)) (y:=(.tmp 7)) (a:=x8) (b:=x7) (v:=true) (decide_eq_true g1)) (And.intro (iS67_rd (xs:=x0) (i:=x8) g3 g5) (agg_67_eql (x:=(.tmp 11)) (y:=(.tmp 15)) (a0:=x216000) (b0:=((rd_T67 x0 x8).f0)) (a1:=x216001) (b1:=((rd_T67 x0 x8).f1)) (v:=true) g7))) (by kernel_rfl)
    ·exact leafBack (hn:=hn91) 20 [.val (.bool true),.elem (.agg [vi ((rd_T67 x0 x8).f0),vi ((rd_T67 x0 x8).f1)]),.val (.bool false),.val (.int .i64 (wrap64 (x8 + 1)))] [] (q91_l0_mk h8) (Nat.lt_succ_self k) (And.intro (int_lss (P:=Tryz.prog) (t:=3) (k:=.i64) (x:=(.tmp 8)) (y:=(.tmp 7)) (a:=x8) (b:=x7) (v:=true) (decide_eq_true g1)) (And.intro (And.intro (iS67_rd (xs:=x0) (i:=x8) g3 g5) (agg_67_eql (x:=(.tmp 11)) (y:=(.tmp 15)) (a0:=x216000) (b0:=((rd_T67 x0 x8).f0)) (a1:=x216001) (b1:=((rd_T67 x0 x8).f1)) (v:=false) (Bool.eq_false_iff.2 g7))) (int_add (P:=Tryz.prog) (t:=3) (k:=.i64) (x:=(.tmp 8)) (y:=(.const (.int .i64 1))) (a:=x8) (b:=1) (c:=(wrap64 (x8 + 1))) (IntWalk.i64_left _)))) (by kernel_rfl)
   ·obtain rfl:=Option.some.inj h2
    exact leafRet (hn:=hn91) 14 [.val (.bool false)] [] .ret (.inr rfl) (by kernel_rfl) (int_lss (P:=Tryz.prog) (t:=3) (k:=.i64) (x:=(.tmp 8)) (y:=(.tmp 7)) (a:=x8) (b:=x7) (v:=false) (decide_eq_false g1)) (by kernel_rfl))
set_option maxRecDepth 100000 in
theorem ad_91 {k:Nat} {l0:List (S67)} {a1_0:Int} {a1_1:Int} {r:Int} (h:slices_Index_impl_Tile_impl_Tile.f k l0 a1_0 a1_1 = some r):CallH Tryz.prog 91 [.sl (iS67 l0),.agg [vi a1_0,vi a1_1]] [] (vi r) []:=by
 unfold slices_Index_impl_Tile_impl_Tile.f at h
 refine call_ok (c:=bodyOf Tryz.f91) (rs:=o91 r) (post:=p91 r) Tryz.func91 rfl rfl rfl (by kernel_rfl) ?_
 show AtP Tryz.prog 19 (bodyOf Tryz.f91) (KR Tryz.prog Tryz.f91.results.toList (o91 r) (p91 r)) [] [] (lookA [(0,.sl (iS67 l0)),(1,.agg [vi a1_0,vi a1_1])])
 exact leafAt (hn:=hn91) 8 [.val (.int .i64 (l0.length:Int))] [] (at91_l0 _ _ (q91_l0_mk h)) (iS67_len (xs:=l0)) (by kernel_rfl)

def hn98:Hint:=⟨[(3,[12])]⟩
def o98 (r:Bool):List AV:=[vb r]
def p98 (r:Bool):List (Nat × AV):=[]
set_option maxRecDepth 100000 in
theorem ad_98 {k:Nat} {l0:List (S67)} {a1_0:Int} {a1_1:Int} {r:Bool} (h:slices_Contains_impl_Tile_impl_Tile.f k l0 a1_0 a1_1 = some r):CallH Tryz.prog 98 [.sl (iS67 l0),.agg [vi a1_0,vi a1_1]] [] (vb r) []:=by
 unfold slices_Contains_impl_Tile_impl_Tile.f at h
 refine call_ok (c:=bodyOf Tryz.f98) (rs:=o98 r) (post:=p98 r) Tryz.func98 rfl rfl rfl (by kernel_rfl) ?_
 show AtP Tryz.prog 9 (bodyOf Tryz.f98) (KR Tryz.prog Tryz.f98.results.toList (o98 r) (p98 r)) [] [] (lookA [(0,.sl (iS67 l0)),(1,.agg [vi a1_0,vi a1_1])])
 obtain ⟨t218,c1,h2⟩:=bd_ h
 obtain rfl:=Option.some.inj h2
 exact leafRet (hn:=hn98) 7 [.call (vi t218),.val (.bool (decide (t218 ≥ 0)))] [] .ret (.inr rfl) (by kernel_rfl) (And.intro (ad_91 c1) (int_geq (P:=Tryz.prog) (t:=3) (k:=.i64) (x:=(.tmp 7)) (y:=(.const (.int .i64 0))) (a:=t218) (b:=0) (v:=(decide (t218 ≥ 0))) rfl)) (by kernel_rfl)

def hn77:Hint:=⟨[(4,[22])]⟩
def o77 (r:Bool):List AV:=[vb r]
def p77 (r:Bool):List (Nat × AV):=[]
def q77_l0 (r:Bool) (k:Nat) (L:List (Nat × AV)):Prop:=∃ (x0:List (S67)) (x5:List (S67)) (x6:Int) (x7:Int),L = [(0,.sl (iS67 x0)),(5,.sl (iS67 x5)),(6,vi x6),(7,vi x7)] ∧ impl_areDifferent_impl_Tile.l0 k x0 x5 x6 x7 = some r
theorem q77_l0_mk {r:Bool} {k:Nat} {x0:List (S67)} {x5:List (S67)} {x6:Int} {x7:Int} (h:impl_areDifferent_impl_Tile.l0 k x0 x5 x6 x7 = some r):q77_l0 r k [(0,.sl (iS67 x0)),(5,.sl (iS67 x5)),(6,vi x6),(7,vi x7)]:=⟨x0,x5,x6,x7,rfl,h⟩
set_option maxRecDepth 100000 in
theorem at77_l0 {r:Bool}:∀ k L,q77_l0 r k L → AtP Tryz.prog 18 (bodyOf Tryz.f77) (KR Tryz.prog Tryz.f77.results.toList (o77 r) (p77 r)) [true,false,true,false] [] (lookA L) :=
 at_loop (by kernel_rfl) (fun _ => by kernel_rfl) (q77_l0 r) (by
  rintro k _ ⟨x0,x5,x6,x7,rfl,h⟩
  cases k with
  | zero => simp [impl_areDifferent_impl_Tile.l0] at h
  | succ k =>
   rw [impl_areDifferent_impl_Tile.l0] at h
   rcases ite_ h with ⟨g1,h2⟩ | ⟨g1,h2⟩
   ·obtain ⟨g3,h4⟩:=ip_ h2
    obtain ⟨g5,h6⟩:=ip_ h4
    obtain ⟨g7,h8⟩:=ip_ h6
    obtain ⟨t225,c9,h10⟩:=bd_ h8
    rcases ite_ h10 with ⟨g11,h12⟩ | ⟨g11,h12⟩
    ·subst g11
     obtain rfl:=Option.some.inj h12
     exact leafRet (hn:=hn77) 25 [.val (.bool true),.elem (.agg [vi ((rd_T67 x5 x7).f0),vi ((rd_T67 x5 x7).f1)]),.elem (.sl (iS67 (x0.take (x7:Int).toNat))),.call (vb true)] [] .ret (.inr rfl) (by kernel_rfl) (And.intro (int_lss (P:=Tryz.prog) (t:=3) (k:=.i64) (x:=(.tmp 7)) (y:=(.tmp 6)) (a:=x7) (b:=x6) (v:=true) (decide_eq_true g1)) (And.intro (iS67_rd (xs:=x5) (i:=x7) g3 g5) (And.intro (iS67_take (xs:=x0) (b:=x7) g3 g7) (ad_98 c9)))) (by kernel_rfl)
    ·obtain rfl:=Bool.eq_false_iff.2 g11
     exact leafBack (hn:=hn77) 20 [.val (.bool true),.elem (.agg [vi ((rd_T67 x5 x7).f0),vi ((rd_T67 x5 x7).f1)]),.elem (.sl (iS67 (x0.take (x7:Int).toNat))),.call (vb false),.val (.int .i64 (wrap64 (x7 + 1)))] [] (q77_l0_mk h12) (Nat.lt_succ_self k) (And.intro (int_lss (P:=Tryz.prog) (t:=3) (k:=.i64) (x:=(.tmp 7)) (y:=(.tmp 6)) (a:=x7) (b:=x6) (v:=true) (decide_eq_true g1)) (And.intro (iS67_rd (xs:=x5) (i:=x7) g3 g5) (And.intro (And.intro (iS67_take (xs:=x0) (b:=x7) g3 g7) (ad_98 c9)) (int_add (P:=Tryz.prog) (t:=3) (k:=.i64) (x:=(.tmp 7)) (y:=(.const (.int .i64 1))) (a:=x7) (b:=1) (c:=(wrap64 (x7 + 1))) (IntWalk.i64_left _))))) (by kernel_rfl)
   ·obtain rfl:=Option.some.inj h2
    exact leafRet (hn:=hn77) 14 [.val (.bool false)] [] .ret (.inr rfl) (by kernel_rfl) (int_lss (P:=Tryz.prog) (t:=3) (k:=.i64) (x:=(.tmp 7)) (y:=(.tmp 6)) (a:=x7) (b:=x6) (v:=false) (decide_eq_false g1)) (by kernel_rfl))
set_option maxRecDepth 100000 in
theorem ad_77 {k:Nat} {l0:List (S67)} {r:Bool} (h:impl_areDifferent_impl_Tile.f k l0 = some r):CallH Tryz.prog 77 [.sl (iS67 l0)] [] (vb r) []:=by
 unfold impl_areDifferent_impl_Tile.f at h
 refine call_ok (c:=bodyOf Tryz.f77) (rs:=o77 r) (post:=p77 r) Tryz.func77 rfl rfl rfl (by kernel_rfl) ?_
 show AtP Tryz.prog 18 (bodyOf Tryz.f77) (KR Tryz.prog Tryz.f77.results.toList (o77 r) (p77 r)) [] [] (lookA [(0,.sl (iS67 l0))])
 exact leafAt (hn:=hn77) 8 [.val (.int .i64 (l0.length:Int))] [] (at77_l0 _ _ (q77_l0_mk h)) (iS67_len (xs:=l0)) (by kernel_rfl)

def hn32:Hint:=⟨[]⟩
def o32 (r:Bool):List AV:=[vb r]
def p32 (r:Bool):List (Nat × AV):=[]
set_option maxRecDepth 100000 in
theorem ad_32 {k:Nat} {l0:List Int} {r:Bool} (h:impl_IsChain.f k l0 = some r):CallH Tryz.prog 32 [.sl (iI .i64 l0)] [] (vb r) []:=by
 unfold impl_IsChain.f at h
 refine call_ok (c:=bodyOf Tryz.f32) (rs:=o32 r) (post:=p32 r) Tryz.func32 rfl rfl rfl (by kernel_rfl) ?_
 show AtP Tryz.prog 15 (bodyOf Tryz.f32) (KR Tryz.prog Tryz.f32.results.toList (o32 r) (p32 r)) [] [] (lookA [(0,.sl (iI .i64 l0))])
 rcases ite_ h with ⟨g1,h2⟩ | ⟨g1,h2⟩
 ·obtain ⟨t226,c3,h4⟩:=bd_ h2
  rcases ite_ h4 with ⟨g5,h6⟩ | ⟨g5,h6⟩
  ·subst g5
   obtain ⟨t227,c7,h8⟩:=bd_ h6
   obtain ⟨t230,c9,h10⟩:=bd_ h8
   obtain rfl:=Option.some.inj h10
   exact leafRet (hn:=hn32) 7 [.val (.int .i64 (l0.length:Int)),.val (.bool true),.call (vb true),.call (.sl (iS67 t227)),.call (vb t230)] [] .ret (.inr rfl) (by kernel_rfl) (And.intro (iI_len (k:=.i64) (xs:=l0)) (And.intro (int_gtr (P:=Tryz.prog) (t:=3) (k:=.i64) (x:=(.tmp 4)) (y:=(.const (.int .i64 0))) (a:=(l0.length:Int)) (b:=0) (v:=true) (decide_eq_true g1)) (And.intro (ad_48 c3) (And.intro (ad_35 c7) (ad_77 c9))))) (by kernel_rfl)
  ·obtain rfl:=Bool.eq_false_iff.2 g5
   obtain rfl:=Option.some.inj h6
   exact leafRet (hn:=hn32) 7 [.val (.int .i64 (l0.length:Int)),.val (.bool true),.call (vb false)] [] .ret (.inr rfl) (by kernel_rfl) (And.intro (iI_len (k:=.i64) (xs:=l0)) (And.intro (int_gtr (P:=Tryz.prog) (t:=3) (k:=.i64) (x:=(.tmp 4)) (y:=(.const (.int .i64 0))) (a:=(l0.length:Int)) (b:=0) (v:=true) (decide_eq_true g1)) (ad_48 c3))) (by kernel_rfl)
 ·obtain rfl:=Option.some.inj h2
  exact leafRet (hn:=hn32) 7 [.val (.int .i64 (l0.length:Int)),.val (.bool false)] [] .ret (.inr rfl) (by kernel_rfl) (And.intro (iI_len (k:=.i64) (xs:=l0)) (int_gtr (P:=Tryz.prog) (t:=3) (k:=.i64) (x:=(.tmp 4)) (y:=(.const (.int .i64 0))) (a:=(l0.length:Int)) (b:=0) (v:=false) (decide_eq_false g1))) (by kernel_rfl)

def hn47:Hint:=⟨[(5,[22]),(7,[23]),(10,[22]),(12,[23]),(15,[22]),(17,[23])]⟩
def o47 (r:Int):List AV:=[vi r]
def p47 (r:Int):List (Nat × AV):=[]
def hn6:Hint:=⟨[(4,[49]),(6,[51,73]),(29,[73]),(39,[51,73]),(40,[73]),(42,[73]),(44,[73])]⟩
def o6 (r:(List (S67)) × List Int × Bool):List AV:=[.agg [.sl (iS67 r.1),.sl (iI .i64 r.2.1)],vb r.2.2]
def p6 (r:(List (S67)) × List Int × Bool):List (Nat × AV):=[]
def q6_l0 (r:(List (S67)) × List Int × Bool) (k:Nat) (L:List (Nat × AV)):Prop:=∃ (x1:Int) (x31:Int) (x32:Int) (x247000:List (S67)) (x247001:List Int),L = [(1,vi x1),(4,.loc 49 0),(6,.loc 51 0),(31,vi x31),(32,vi x32),(49,.box (.agg [.val (.slice none 0 0),.val (.slice none 0 0)])),(51,.box (.agg [.sl (iS67 x247000),.row 73])),(73,.ow true 3 (iI .i64 x247001))] ∧ impl_MakePuzzle.l0 k x1 x31 x32 x247000 x247001 = some r
theorem q6_l0_mk {r:(List (S67)) × List Int × Bool} {k:Nat} {x1:Int} {x31:Int} {x32:Int} {x247000:List (S67)} {x247001:List Int} (h:impl_MakePuzzle.l0 k x1 x31 x32 x247000 x247001 = some r):q6_l0 r k [(1,vi x1),(4,.loc 49 0),(6,.loc 51 0),(31,vi x31),(32,vi x32),(49,.box (.agg [.val (.slice none 0 0),.val (.slice none 0 0)])),(51,.box (.agg [.sl (iS67 x247000),.row 73])),(73,.ow true 3 (iI .i64 x247001))]:=⟨x1,x31,x32,x247000,x247001,rfl,h⟩
set_option maxRecDepth 100000 in
theorem at6_l0 {r:(List (S67)) × List Int × Bool}:∀ k L,q6_l0 r k L → AtP Tryz.prog 45 (bodyOf Tryz.f6) (KR Tryz.prog Tryz.f6.results.toList (o6 r) (p6 r)) [true,true,true,false,true,false] [] (lookA L) :=
 at_loop (by kernel_rfl) (fun _ => by kernel_rfl) (q6_l0 r) (by
  rintro k _ ⟨x1,x31,x32,x247000,x247001,rfl,h⟩
  cases k with
  | zero => simp [impl_MakePuzzle.l0] at h
  | succ k =>
   rw [impl_MakePuzzle.l0] at h
   rcases ite_ h with ⟨g1,h2⟩ | ⟨g1,h2⟩
   ·obtain ⟨g3,h4⟩:=in_ h2
    rcases ite_ h4 with ⟨g5,h6⟩ | ⟨g5,h6⟩
    ·exact leafBack (hn:=hn6) 20 [.val (.bool true),.val (.int .i64 (Int.tmod x32 x1)),.val (.bool false),.val (.int .i64 (wrap64 (x32 + 1)))] [] (q6_l0_mk h6) (Nat.lt_succ_self k) (And.intro (int_lss (P:=Tryz.prog) (t:=3) (k:=.i64) (x:=(.tmp 32)) (y:=(.tmp 31)) (a:=x32) (b:=x31) (v:=true) (decide_eq_true g1)) (And.intro (And.intro (int_rem (P:=Tryz.prog) (t:=3) (k:=.i64) (x:=(.tmp 35)) (y:=(.tmp 36)) (a:=x32) (b:=x1) (c:=(Int.tmod x32 x1)) g3 rfl) (int_neq (P:=Tryz.prog) (t:=3) (k:=.i64) (x:=(.tmp 37)) (y:=(.const (.int .i64 0))) (a:=(Int.tmod x32 x1)) (b:=0) (v:=false) (nbeq_f g5))) (int_add (P:=Tryz.prog) (t:=3) (k:=.i64) (x:=(.tmp 32)) (y:=(.const (.int .i64 1))) (a:=x32) (b:=1) (c:=(wrap64 (x32 + 1))) (IntWalk.i64_left _)))) (by kernel_rfl)
    ·obtain ⟨g7,h8⟩:=ip_ h6
     obtain ⟨g9,h10⟩:=ip_ h8
     exact leafBack (hn:=hn6) 20 [.val (.bool true),.val (.int .i64 (Int.tmod x32 x1)),.val (.bool true),.go,.elem (vi (rd x247001 x32)),.elem (.ow true 3 (iI .i64 (x247001.set ((x32:Int).toNat) (-1)))),.val (.int .i64 (wrap64 (x32 + 1)))] [] (q6_l0_mk h10) (Nat.lt_succ_self k) (And.intro (int_lss (P:=Tryz.prog) (t:=3) (k:=.i64) (x:=(.tmp 32)) (y:=(.tmp 31)) (a:=x32) (b:=x31) (v:=true) (decide_eq_true g1)) (And.intro (And.intro (int_rem (P:=Tryz.prog) (t:=3) (k:=.i64) (x:=(.tmp 35)) (y:=(.tmp 36)) (a:=x32) (b:=x1) (c:=(Int.tmod x32 x1)) g3 rfl) (int_neq (P:=Tryz.prog) (t:=3) (k:=.i64) (x:=(.tmp 37)) (y:=(.const (.int .i64 0))) (a:=(Int.tmod x32 x1)) (b:=0) (v:=true) (nbeq_t g5))) (And.intro (And.intro (iI_lt (k:=.i64) (xs:=x247001) (i:=x32) g7 g9) (iI_set (k:=.i64) (xs:=x247001) (i:=x32) (x:=-1) g7 g9)) (int_add (P:=Tryz.prog) (t:=3) (k:=.i64) (x:=(.tmp 32)) (y:=(.const (.int .i64 1))) (a:=x32) (b:=1) (c:=(wrap64 (x32 + 1))) (IntWalk.i64_left _))))) (by kernel_rfl)
   ·obtain rfl:=Option.some.inj h2
    exact leafRet (hn:=hn6) 14 [.val (.bool false),.fz 73] [] .ret (.inr rfl) (by kernel_rfl) (int_lss (P:=Tryz.prog) (t:=3) (k:=.i64) (x:=(.tmp 32)) (y:=(.tmp 31)) (a:=x32) (b:=x31) (v:=false) (decide_eq_false g1)) (by kernel_rfl))
set_option maxRecDepth 100000 in
theorem at6_j0 {r:(List (S67)) × List Int × Bool} {k:Nat} {x0:List Int} {x1:Int} {x22:Bool} (h:impl_MakePuzzle.j0 k x0 x1 x22 = some r):AtP Tryz.prog 45 (bodyOf Tryz.f6) (KR Tryz.prog Tryz.f6.results.toList (o6 r) (p6 r)) [true,false,true] [] (lookA [(0,.sl (iI .i64 x0)),(1,vi x1),(4,.loc 49 0),(22,vb x22),(49,.box (.agg [.val (.slice none 0 0),.val (.slice none 0 0)]))]):=by
 cases k with
 | zero => simp [impl_MakePuzzle.j0] at h
 | succ k =>
  rw [impl_MakePuzzle.j0] at h
  rcases ite_ h with ⟨g1,h2⟩ | ⟨g1,h2⟩
  ·subst g1
   obtain rfl:=Option.some.inj h2
   exact leafRet (hn:=hn6) 6 [.go] [] .ret (.inr rfl) (by kernel_rfl) True.intro (by kernel_rfl)
  ·obtain rfl:=Bool.eq_false_iff.2 g1
   obtain ⟨t237,c3,h4⟩:=bd_ h2
   obtain ⟨t240,c5,h6⟩:=bd_ h4
   obtain ⟨t243,c7,h8⟩:=bd_ h6
   exact leafAt (hn:=hn6) 11 [.call (.sl (iS67 t237)),.call (.sl (iS67 t240)),.callH [] (.row 73) [(73,.ow true 3 (iI .i64 t243))],.go,.val (.int .i64 (x0.length:Int))] [] (at6_l0 _ _ (q6_l0_mk h8)) (And.intro (And.intro (ad_35 c3) (And.intro (ad_34 c5) (CallH.ren [(500000,73)] rfl rfl (ad_36 c7)))) (iI_len (k:=.i64) (xs:=x0))) (by kernel_rfl)
set_option maxRecDepth 100000 in
theorem ad_6 {k:Nat} {l0:List Int} {a1:Int} {r1:List (S67)} {r2:List Int} {r3:Bool} (h:impl_MakePuzzle.f k l0 a1 = some (r1,r2,r3)):CallH Tryz.prog 6 [.sl (iI .i64 l0),vi a1] [] (.tup [.agg [.sl (iS67 r1),.sl (iI .i64 r2)],vb r3]) []:=by
 unfold impl_MakePuzzle.f at h
 refine call_ok (c:=bodyOf Tryz.f6) (rs:=o6 (r1,r2,r3)) (post:=p6 (r1,r2,r3)) Tryz.func6 rfl rfl rfl (by kernel_rfl) ?_
 show AtP Tryz.prog 45 (bodyOf Tryz.f6) (KR Tryz.prog Tryz.f6.results.toList (o6 (r1,r2,r3)) (p6 (r1,r2,r3))) [] [] (lookA [(0,.sl (iI .i64 l0)),(1,vi a1)])
 obtain ⟨t234,c1,h2⟩:=bd_ h
 rcases ite_ h2 with ⟨g3,h4⟩ | ⟨g3,h4⟩
 ·subst g3
  obtain ⟨t235,c5,h6⟩:=bd_ h4
  rcases ite_ h6 with ⟨g7,h8⟩ | ⟨g7,h8⟩
  ·subst g7
   obtain ⟨t236,c9,h10⟩:=bd_ h8
   exact leafAt (hn:=hn6) 7 [.call (vb true),.val (.int .i64 (l0.length:Int)),.val (.int .i64 (wrap64 ((l0.length:Int) - 1))),.call (vb true),.call (vb t236)] [] (at6_j0 h10) (And.intro (ad_32 c1) (And.intro (iI_len (k:=.i64) (xs:=l0)) (And.intro (int_sub (P:=Tryz.prog) (t:=3) (k:=.i64) (x:=(.tmp 13)) (y:=(.const (.int .i64 1))) (a:=(l0.length:Int)) (b:=1) (c:=(wrap64 ((l0.length:Int) - 1))) (IntWalk.i64_left _)) (And.intro (ad_33 c5) (ad_33 c9))))) (by kernel_rfl)
  ·obtain rfl:=Bool.eq_false_iff.2 g7
   exact leafAt (hn:=hn6) 7 [.call (vb true),.val (.int .i64 (l0.length:Int)),.val (.int .i64 (wrap64 ((l0.length:Int) - 1))),.call (vb false)] [] (at6_j0 h8) (And.intro (ad_32 c1) (And.intro (iI_len (k:=.i64) (xs:=l0)) (And.intro (int_sub (P:=Tryz.prog) (t:=3) (k:=.i64) (x:=(.tmp 13)) (y:=(.const (.int .i64 1))) (a:=(l0.length:Int)) (b:=1) (c:=(wrap64 ((l0.length:Int) - 1))) (IntWalk.i64_left _)) (ad_33 c5)))) (by kernel_rfl)
 ·obtain rfl:=Bool.eq_false_iff.2 g3
  exact leafAt (hn:=hn6) 7 [.call (vb false)] [] (at6_j0 h4) (ad_32 c1) (by kernel_rfl)

def hn103:Hint:=⟨[(17,[27]),(21,[45])]⟩
def o103 (r:(List (S67))):List AV:=[.row 500000]
def p103 (r:(List (S67))):List (Nat × AV):=[(500000,.ow false 67 (iS67 r))]
def q103_l0 (r:(List (S67))) (k:Nat) (L:List (Nat × AV)):Prop:=∃ (x0:Int) (x3:List (S67)) (x4:Int),L = [(0,vi x0),(3,.row 27),(4,vi x4),(27,.ow false 67 (iS67 x3))] ∧ spec_tiSet.l0 k x0 x3 x4 = some r
theorem q103_l0_mk {r:(List (S67))} {k:Nat} {x0:Int} {x3:List (S67)} {x4:Int} (h:spec_tiSet.l0 k x0 x3 x4 = some r):q103_l0 r k [(0,vi x0),(3,.row 27),(4,vi x4),(27,.ow false 67 (iS67 x3))]:=⟨x0,x3,x4,rfl,h⟩
def q103_l1 (r:(List (S67))) (K0:Nat) (k:Nat) (L:List (Nat × AV)):Prop:=k < K0 ∧ ∃ (x0:Int) (x3:List (S67)) (x4:Int) (x5:Int),L = [(0,vi x0),(3,.row 27),(4,vi x4),(5,vi x5),(27,.ow false 67 (iS67 x3))] ∧ spec_tiSet.l1 k x0 x3 x4 x5 = some r
theorem q103_l1_mk {r:(List (S67))} {K0:Nat} {k:Nat} {x0:Int} {x3:List (S67)} {x4:Int} {x5:Int} (hk0:k < K0) (h:spec_tiSet.l1 k x0 x3 x4 x5 = some r):q103_l1 r K0 k [(0,vi x0),(3,.row 27),(4,vi x4),(5,vi x5),(27,.ow false 67 (iS67 x3))]:=⟨hk0,x0,x3,x4,x5,rfl,h⟩
set_option maxRecDepth 100000 in
theorem at103_l1 {r:(List (S67))} {K0:Nat}:∀ k L,q103_l1 r K0 k L → AtP Tryz.prog 24 (bodyOf Tryz.f103) (KR Tryz.prog Tryz.f103.results.toList (o103 r) (p103 r)) [true,true,false,true,false,false,true,false,false,true,false] [upto (q103_l0 r) K0] (lookA L) :=
 at_loop (by kernel_rfl) (fun _ => by kernel_rfl) (q103_l1 r K0) (by
  rintro k _ ⟨hk0,x0,x3,x4,x5,rfl,h⟩
  cases k with
  | zero => simp [spec_tiSet.l1] at h
  | succ k =>
   rw [spec_tiSet.l1] at h
   have hk0:=Nat.lt_of_succ_lt hk0
   rcases ite_ h with ⟨g1,h2⟩ | ⟨g1,h2⟩
   ·obtain ⟨g3,h4⟩:=ip_ h2
    exact leafBack (hn:=hn103) 13 [.val (.bool true),.elem (.agg [vi x4,vi x5]),.go,.elem (.ow false 67 (iS67 (x3 ++ ([(⟨x4,x5⟩ : S67)])))),.val (.int .i64 (wrap64 (x5 + 1)))] [(27,46)] (q103_l1_mk hk0 h4) (Nat.lt_succ_self k) (And.intro (int_leq (P:=Tryz.prog) (t:=3) (k:=.i64) (x:=(.tmp 12)) (y:=(.tmp 13)) (a:=x5) (b:=x0) (v:=true) (decide_eq_true g1)) (And.intro (And.intro (build_67_2 (p0:=x4) (p1:=x5)) (iS67_app (N:=8796093022208) (b:=16) (xs:=x3) (ys:=[(⟨x4,x5⟩ : S67)]) (by decide) (Nat.succ_le_of_lt g3))) (int_add (P:=Tryz.prog) (t:=3) (k:=.i64) (x:=(.tmp 15)) (y:=(.const (.int .i64 1))) (a:=x5) (b:=1) (c:=(wrap64 (x5 + 1))) (IntWalk.i64_left _)))) (by kernel_rfl)
   ·exact leafBack (hn:=hn103) 12 [.val (.bool false),.val (.int .i64 (wrap64 (x4 + 1)))] [] (q103_l0_mk h2) hk0 (And.intro (int_leq (P:=Tryz.prog) (t:=3) (k:=.i64) (x:=(.tmp 12)) (y:=(.tmp 13)) (a:=x5) (b:=x0) (v:=false) (decide_eq_false g1)) (int_add (P:=Tryz.prog) (t:=3) (k:=.i64) (x:=(.tmp 9)) (y:=(.const (.int .i64 1))) (a:=x4) (b:=1) (c:=(wrap64 (x4 + 1))) (IntWalk.i64_left _))) (by kernel_rfl))
set_option maxRecDepth 100000 in
theorem at103_l0 {r:(List (S67))}:∀ k L,q103_l0 r k L → AtP Tryz.prog 24 (bodyOf Tryz.f103) (KR Tryz.prog Tryz.f103.results.toList (o103 r) (p103 r)) [true,true,false,true,false] [] (lookA L) :=
 at_loop (by kernel_rfl) (fun _ => by kernel_rfl) (q103_l0 r) (by
  rintro k _ ⟨x0,x3,x4,rfl,h⟩
  cases k with
  | zero => simp [spec_tiSet.l0] at h
  | succ k =>
   rw [spec_tiSet.l0] at h
   rcases ite_ h with ⟨g1,h2⟩ | ⟨g1,h2⟩
   ·exact leafAt (hn:=hn103) 13 [.val (.bool true)] [] (at103_l1 _ _ (q103_l1_mk (Nat.lt_succ_self k) h2)) (int_leq (P:=Tryz.prog) (t:=3) (k:=.i64) (x:=(.tmp 6)) (y:=(.tmp 7)) (a:=x4) (b:=x0) (v:=true) (decide_eq_true g1)) (by kernel_rfl)
   ·obtain rfl:=Option.some.inj h2
    exact leafRet (hn:=hn103) 14 [.val (.bool false)] [(500000,27)] .ret (.inr rfl) (by kernel_rfl) (int_leq (P:=Tryz.prog) (t:=3) (k:=.i64) (x:=(.tmp 6)) (y:=(.tmp 7)) (a:=x4) (b:=x0) (v:=false) (decide_eq_false g1)) (by kernel_rfl))
set_option maxRecDepth 100000 in
theorem ad_103 {k:Nat} {a0:Int} {r:List (S67)} (h:spec_tiSet.f k a0 = some r):CallH Tryz.prog 103 [vi a0] [] (.row 500000) [(500000,.ow false 67 (iS67 r))]:=by
 unfold spec_tiSet.f at h
 refine call_ok (c:=bodyOf Tryz.f103) (rs:=o103 r) (post:=p103 r) Tryz.func103 rfl rfl rfl (by kernel_rfl) ?_
 show AtP Tryz.prog 24 (bodyOf Tryz.f103) (KR Tryz.prog Tryz.f103.results.toList (o103 r) (p103 r)) [] [] (lookA [(0,vi a0)])
 exact leafAt (hn:=hn103) 11 [.nil false 67,.nil false 67] [] (at103_l0 _ _ (q103_l0_mk h)) True.intro (by kernel_rfl)

def hn81:Hint:=⟨[(9,[38]),(11,[40]),(23,[36]),(25,[54])]⟩
def o81 (r:(List (S67))):List AV:=[.row 500000]
def p81 (r:(List (S67))):List (Nat × AV):=[(500000,.ow true 67 (iS67 r))]
def q81_l0 (r:(List (S67))) (k:Nat) (L:List (Nat × AV)):Prop:=∃ (x1:List (S67)) (x2:Bool) (x7:List (S67)) (x11:List (S67)) (x12:Int) (x13:Int),L = [(1,.sl (iS67 x1)),(2,vb x2),(7,.row 36),(11,.row 40),(12,vi x12),(13,vi x13),(36,.ow true 67 (iS67 x7)),(40,.ow false 67 (iS67 x11))] ∧ spec_tiPick.l0 k x1 x2 x7 x11 x12 x13 = some r
theorem q81_l0_mk {r:(List (S67))} {k:Nat} {x1:List (S67)} {x2:Bool} {x7:List (S67)} {x11:List (S67)} {x12:Int} {x13:Int} (h:spec_tiPick.l0 k x1 x2 x7 x11 x12 x13 = some r):q81_l0 r k [(1,.sl (iS67 x1)),(2,vb x2),(7,.row 36),(11,.row 40),(12,vi x12),(13,vi x13),(36,.ow true 67 (iS67 x7)),(40,.ow false 67 (iS67 x11))]:=⟨x1,x2,x7,x11,x12,x13,rfl,h⟩
set_option maxRecDepth 100000 in
theorem at81_l0 {r:(List (S67))}:∀ k L,q81_l0 r k L → AtP Tryz.prog 29 (bodyOf Tryz.f81) (KR Tryz.prog Tryz.f81.results.toList (o81 r) (p81 r)) [true,true,false,true,false] [] (lookA L) :=
 at_loop (by kernel_rfl) (fun _ => by kernel_rfl) (q81_l0 r) (by
  rintro k _ ⟨x1,x2,x7,x11,x12,x13,rfl,h⟩
  cases k with
  | zero => simp [spec_tiPick.l0] at h
  | succ k =>
   rw [spec_tiPick.l0] at h
   rcases ite_ h with ⟨g1,h2⟩ | ⟨g1,h2⟩
   ·obtain ⟨g3,h4⟩:=ip_ h2
    obtain ⟨g5,h6⟩:=ip_ h4
    obtain ⟨t256,c7,h8⟩:=bd_ h6
    rcases ite_ h8 with ⟨g9,h10⟩ | ⟨g9,h10⟩
    ·obtain ⟨g11,h12⟩:=ip_ h10
     exact leafBack (hn:=hn81) 20 [.val (.bool true),.elem (.agg [vi ((rd_T67 x11 x13).f0),vi ((rd_T67 x11 x13).f1)]),.call (vi t256),.val (.bool (decide (t256 ≥ 0))),.val (.bool true),.go,.elem (.ow true 67 (iS67 (x7 ++ ([(⟨(rd_T67 x11 x13).f0,(rd_T67 x11 x13).f1⟩ : S67)])))),.val (.int .i64 (wrap64 (x13 + 1)))] [(36,55)] (q81_l0_mk h12) (Nat.lt_succ_self k) (And.intro (int_lss (P:=Tryz.prog) (t:=3) (k:=.i64) (x:=(.tmp 13)) (y:=(.tmp 12)) (a:=x13) (b:=x12) (v:=true) (decide_eq_true g1)) (And.intro (iS67_rd (xs:=x11) (i:=x13) g3 g5) (And.intro (And.intro (ad_102 c7) (And.intro (int_geq (P:=Tryz.prog) (t:=3) (k:=.i64) (x:=(.tmp 19)) (y:=(.const (.int .i64 0))) (a:=t256) (b:=0) (v:=(decide (t256 ≥ 0))) rfl) (bool_eql (P:=Tryz.prog) (t:=4) (x:=(.tmp 20)) (y:=(.tmp 21)) (a:=(decide (t256 ≥ 0))) (b:=x2) Tryz.underlying4 (v:=true) g9))) (And.intro (iS67_app (N:=8796093022208) (b:=16) (xs:=x7) (ys:=[(⟨(rd_T67 x11 x13).f0,(rd_T67 x11 x13).f1⟩ : S67)]) (by decide) (Nat.succ_le_of_lt g11)) (int_add (P:=Tryz.prog) (t:=3) (k:=.i64) (x:=(.tmp 13)) (y:=(.const (.int .i64 1))) (a:=x13) (b:=1) (c:=(wrap64 (x13 + 1))) (IntWalk.i64_left _)))))) (by kernel_rfl)
    ·exact leafBack (hn:=hn81) 20 [.val (.bool true),.elem (.agg [vi ((rd_T67 x11 x13).f0),vi ((rd_T67 x11 x13).f1)]),.call (vi t256),.val (.bool (decide (t256 ≥ 0))),.val (.bool false),.val (.int .i64 (wrap64 (x13 + 1)))] [] (q81_l0_mk h10) (Nat.lt_succ_self k) (And.intro (int_lss (P:=Tryz.prog) (t:=3) (k:=.i64) (x:=(.tmp 13)) (y:=(.tmp 12)) (a:=x13) (b:=x12) (v:=true) (decide_eq_true g1)) (And.intro (iS67_rd (xs:=x11) (i:=x13) g3 g5) (And.intro (And.intro (ad_102 c7) (And.intro (int_geq (P:=Tryz.prog) (t:=3) (k:=.i64) (x:=(.tmp 19)) (y:=(.const (.int .i64 0))) (a:=t256) (b:=0) (v:=(decide (t256 ≥ 0))) rfl) (bool_eql (P:=Tryz.prog) (t:=4) (x:=(.tmp 20)) (y:=(.tmp 21)) (a:=(decide (t256 ≥ 0))) (b:=x2) Tryz.underlying4 (v:=false) (Bool.eq_false_iff.2 g9)))) (int_add (P:=Tryz.prog) (t:=3) (k:=.i64) (x:=(.tmp 13)) (y:=(.const (.int .i64 1))) (a:=x13) (b:=1) (c:=(wrap64 (x13 + 1))) (IntWalk.i64_left _))))) (by kernel_rfl)
   ·obtain rfl:=Option.some.inj h2
    exact leafRet (hn:=hn81) 14 [.val (.bool false)] [(500000,36)] .ret (.inr rfl) (by kernel_rfl) (int_lss (P:=Tryz.prog) (t:=3) (k:=.i64) (x:=(.tmp 13)) (y:=(.tmp 12)) (a:=x13) (b:=x12) (v:=false) (decide_eq_false g1)) (by kernel_rfl))
set_option maxRecDepth 100000 in
theorem ad_81 {k:Nat} {a0:Int} {l1:List (S67)} {a2:Bool} {r:List (S67)} (h:spec_tiPick.f k a0 l1 a2 = some r):CallH Tryz.prog 81 [vi a0,.sl (iS67 l1),vb a2] [] (.row 500000) [(500000,.ow true 67 (iS67 r))]:=by
 unfold spec_tiPick.f at h
 refine call_ok (c:=bodyOf Tryz.f81) (rs:=o81 r) (post:=p81 r) Tryz.func81 rfl rfl rfl (by kernel_rfl) ?_
 show AtP Tryz.prog 29 (bodyOf Tryz.f81) (KR Tryz.prog Tryz.f81.results.toList (o81 r) (p81 r)) [] [] (lookA [(0,vi a0),(1,.sl (iS67 l1)),(2,vb a2)])
 obtain ⟨t251,c1,h2⟩:=bd_ h
 exact leafAt (hn:=hn81) 11 [.nil false 67,.nil true 67,.callH [] (.row 40) [(40,.ow false 67 (iS67 t251))],.val (.int .i64 (t251.length:Int))] [] (at81_l0 _ _ (q81_l0_mk h2)) (And.intro (CallH.ren [(500000,40)] rfl rfl (ad_103 c1)) (iS67_len (xs:=t251))) (by kernel_rfl)

def hn39:Hint:=⟨[]⟩
def o39 (r:(List (S67))):List AV:=[.row 500000]
def p39 (r:(List (S67))):List (Nat × AV):=[(500000,.ow true 67 (iS67 r))]
set_option maxRecDepth 100000 in
theorem ad_39 {k:Nat} {l0:List (S67)} {r:List (S67)} (h:spec_tiSort.f k l0 = some r):CallH Tryz.prog 39 [.sl (iS67 l0)] [] (.row 500000) [(500000,.ow true 67 (iS67 r))]:=by
 unfold spec_tiSort.f at h
 refine call_ok (c:=bodyOf Tryz.f39) (rs:=o39 r) (post:=p39 r) Tryz.func39 rfl rfl rfl (by kernel_rfl) ?_
 show AtP Tryz.prog 5 (bodyOf Tryz.f39) (KR Tryz.prog Tryz.f39.results.toList (o39 r) (p39 r)) [] [] (lookA [(0,.sl (iS67 l0))])
 obtain ⟨t260,c1,h2⟩:=bd_ h
 obtain rfl:=Option.some.inj h2
 exact leafRet (hn:=hn39) 7 [.nil false 67,.callH [] (.row 9) [(9,.ow true 67 (iS67 t260))]] [(500000,9)] .ret (.inr rfl) (by kernel_rfl) (CallH.ren [(500000,9)] rfl rfl (ad_81 c1)) (by kernel_rfl)

def hn7:Hint:=⟨[(4,[52]),(6,[54,75,800601]),(28,[75]),(40,[54,75,800601]),(41,[800601]),(43,[91]),(44,[92]),(45,[54,75,800601]),(47,[75,800601])]⟩
def o7 (r:(List (S67)) × List Int × Bool):List AV:=[.agg [.sl (iS67 r.1),.sl (iI .i64 r.2.1)],vb r.2.2]
def p7 (r:(List (S67)) × List Int × Bool):List (Nat × AV):=[]
def q7_l0 (r:(List (S67)) × List Int × Bool) (k:Nat) (L:List (Nat × AV)):Prop:=∃ (x1:Int) (x29:List Int) (x30:Int) (x31:Int) (x274000:List (S67)) (x274001:List Int),L = [(1,vi x1),(4,.loc 52 0),(6,.loc 54 0),(29,.sl (iI .i64 x29)),(30,vi x30),(31,vi x31),(52,.box (.agg [.val (.slice none 0 0),.val (.slice none 0 0)])),(54,.box (.agg [.row 75,.row 800601])),(75,.ow true 67 (iS67 x274000)),(800601,.ow false 3 (iI .i64 x274001))] ∧ spec_MakePuzzle.l0 k x1 x29 x30 x31 x274000 x274001 = some r
theorem q7_l0_mk {r:(List (S67)) × List Int × Bool} {k:Nat} {x1:Int} {x29:List Int} {x30:Int} {x31:Int} {x274000:List (S67)} {x274001:List Int} (h:spec_MakePuzzle.l0 k x1 x29 x30 x31 x274000 x274001 = some r):q7_l0 r k [(1,vi x1),(4,.loc 52 0),(6,.loc 54 0),(29,.sl (iI .i64 x29)),(30,vi x30),(31,vi x31),(52,.box (.agg [.val (.slice none 0 0),.val (.slice none 0 0)])),(54,.box (.agg [.row 75,.row 800601])),(75,.ow true 67 (iS67 x274000)),(800601,.ow false 3 (iI .i64 x274001))]:=⟨x1,x29,x30,x31,x274000,x274001,rfl,h⟩
set_option maxRecDepth 100000 in
theorem at7_l0 {r:(List (S67)) × List Int × Bool}:∀ k L,q7_l0 r k L → AtP Tryz.prog 48 (bodyOf Tryz.f7) (KR Tryz.prog Tryz.f7.results.toList (o7 r) (p7 r)) [true,true,true,false,true,false] [] (lookA L) :=
 at_loop (by kernel_rfl) (fun _ => by kernel_rfl) (q7_l0 r) (by
  rintro k _ ⟨x1,x29,x30,x31,x274000,x274001,rfl,h⟩
  cases k with
  | zero => simp [spec_MakePuzzle.l0] at h
  | succ k =>
   rw [spec_MakePuzzle.l0] at h
   rcases ite_ h with ⟨g1,h2⟩ | ⟨g1,h2⟩
   ·obtain ⟨g3,h4⟩:=ip_ h2
    obtain ⟨g5,h6⟩:=ip_ h4
    obtain ⟨g7,h8⟩:=in_ h6
    rcases ite_ h8 with ⟨g9,h10⟩ | ⟨g9,h10⟩
    ·obtain ⟨g11,h12⟩:=ip_ h10
     exact leafBack (hn:=hn7) 23 [.val (.bool true),.elem (vi (rd x29 x31)),.val (.int .i64 (Int.tmod x31 x1)),.val (.bool false),.go,.elem (.ow false 3 (iI .i64 (x274001 ++ ([(rd x29 x31)])))),.val (.int .i64 (wrap64 (x31 + 1)))] [(800601,92)] (q7_l0_mk h12) (Nat.lt_succ_self k) (And.intro (int_lss (P:=Tryz.prog) (t:=3) (k:=.i64) (x:=(.tmp 31)) (y:=(.tmp 30)) (a:=x31) (b:=x30) (v:=true) (decide_eq_true g1)) (And.intro (iI_rd (k:=.i64) (xs:=x29) (i:=x31) g3 g5) (And.intro (And.intro (int_rem (P:=Tryz.prog) (t:=3) (k:=.i64) (x:=(.tmp 36)) (y:=(.tmp 37)) (a:=x31) (b:=x1) (c:=(Int.tmod x31 x1)) g7 rfl) (int_neq (P:=Tryz.prog) (t:=3) (k:=.i64) (x:=(.tmp 38)) (y:=(.const (.int .i64 0))) (a:=(Int.tmod x31 x1)) (b:=0) (v:=false) (nbeq_f g9))) (And.intro (iI_app (k:=.i64) (N:=17592186044416) (b:=8) (xs:=x274001) (ys:=[(rd x29 x31)]) (by decide) (Nat.succ_le_of_lt g11)) (int_add (P:=Tryz.prog) (t:=3) (k:=.i64) (x:=(.tmp 31)) (y:=(.const (.int .i64 1))) (a:=x31) (b:=1) (c:=(wrap64 (x31 + 1))) (IntWalk.i64_left _)))))) (by kernel_rfl)
    ·obtain ⟨g13,h14⟩:=ip_ h10
     exact leafBack (hn:=hn7) 23 [.val (.bool true),.elem (vi (rd x29 x31)),.val (.int .i64 (Int.tmod x31 x1)),.val (.bool true),.go,.elem (.ow false 3 (iI .i64 (x274001 ++ ([-1])))),.val (.int .i64 (wrap64 (x31 + 1)))] [(800601,92)] (q7_l0_mk h14) (Nat.lt_succ_self k) (And.intro (int_lss (P:=Tryz.prog) (t:=3) (k:=.i64) (x:=(.tmp 31)) (y:=(.tmp 30)) (a:=x31) (b:=x30) (v:=true) (decide_eq_true g1)) (And.intro (iI_rd (k:=.i64) (xs:=x29) (i:=x31) g3 g5) (And.intro (And.intro (int_rem (P:=Tryz.prog) (t:=3) (k:=.i64) (x:=(.tmp 36)) (y:=(.tmp 37)) (a:=x31) (b:=x1) (c:=(Int.tmod x31 x1)) g7 rfl) (int_neq (P:=Tryz.prog) (t:=3) (k:=.i64) (x:=(.tmp 38)) (y:=(.const (.int .i64 0))) (a:=(Int.tmod x31 x1)) (b:=0) (v:=true) (nbeq_t g9))) (And.intro (iI_app (k:=.i64) (N:=17592186044416) (b:=8) (xs:=x274001) (ys:=[-1]) (by decide) (Nat.succ_le_of_lt g13)) (int_add (P:=Tryz.prog) (t:=3) (k:=.i64) (x:=(.tmp 31)) (y:=(.const (.int .i64 1))) (a:=x31) (b:=1) (c:=(wrap64 (x31 + 1))) (IntWalk.i64_left _)))))) (by kernel_rfl)
   ·obtain rfl:=Option.some.inj h2
    exact leafRet (hn:=hn7) 14 [.val (.bool false),.fz 75] [] .ret (.inr rfl) (by kernel_rfl) (int_lss (P:=Tryz.prog) (t:=3) (k:=.i64) (x:=(.tmp 31)) (y:=(.tmp 30)) (a:=x31) (b:=x30) (v:=false) (decide_eq_false g1)) (by kernel_rfl))
set_option maxRecDepth 100000 in
theorem at7_j0 {r:(List (S67)) × List Int × Bool} {k:Nat} {x0:List Int} {x1:Int} {x23:Bool} (h:spec_MakePuzzle.j0 k x0 x1 x23 = some r):AtP Tryz.prog 48 (bodyOf Tryz.f7) (KR Tryz.prog Tryz.f7.results.toList (o7 r) (p7 r)) [true,false,true] [] (lookA [(0,.sl (iI .i64 x0)),(1,vi x1),(4,.loc 52 0),(23,vb x23),(52,.box (.agg [.val (.slice none 0 0),.val (.slice none 0 0)]))]):=by
 cases k with
 | zero => simp [spec_MakePuzzle.j0] at h
 | succ k =>
  rw [spec_MakePuzzle.j0] at h
  rcases ite_ h with ⟨g1,h2⟩ | ⟨g1,h2⟩
  ·subst g1
   obtain rfl:=Option.some.inj h2
   exact leafRet (hn:=hn7) 6 [.go] [] .ret (.inr rfl) (by kernel_rfl) True.intro (by kernel_rfl)
  ·obtain rfl:=Bool.eq_false_iff.2 g1
   obtain ⟨t267,c3,h4⟩:=bd_ h2
   obtain ⟨t270,c5,h6⟩:=bd_ h4
   exact leafAt (hn:=hn7) 11 [.call (.sl (iS67 t267)),.callH [] (.row 75) [(75,.ow true 67 (iS67 t270))],.go,.val (.int .i64 (x0.length:Int)),.nl 54 1 false 3 800601] [] (at7_l0 _ _ (q7_l0_mk h6)) (And.intro (And.intro (ad_40 c3) (CallH.ren [(500000,75)] rfl rfl (ad_39 c5))) (iI_len (k:=.i64) (xs:=x0))) (by kernel_rfl)
set_option maxRecDepth 100000 in
theorem ad_7 {k:Nat} {l0:List Int} {a1:Int} {r1:List (S67)} {r2:List Int} {r3:Bool} (h:spec_MakePuzzle.f k l0 a1 = some (r1,r2,r3)):CallH Tryz.prog 7 [.sl (iI .i64 l0),vi a1] [] (.tup [.agg [.sl (iS67 r1),.sl (iI .i64 r2)],vb r3]) []:=by
 unfold spec_MakePuzzle.f at h
 refine call_ok (c:=bodyOf Tryz.f7) (rs:=o7 (r1,r2,r3)) (post:=p7 (r1,r2,r3)) Tryz.func7 rfl rfl rfl (by kernel_rfl) ?_
 show AtP Tryz.prog 48 (bodyOf Tryz.f7) (KR Tryz.prog Tryz.f7.results.toList (o7 (r1,r2,r3)) (p7 (r1,r2,r3))) [] [] (lookA [(0,.sl (iI .i64 l0)),(1,vi a1)])
 obtain ⟨t264,c1,h2⟩:=bd_ h
 rcases ite_ h2 with ⟨g3,h4⟩ | ⟨g3,h4⟩
 ·subst g3
  obtain ⟨t265,c5,h6⟩:=bd_ h4
  rcases ite_ h6 with ⟨g7,h8⟩ | ⟨g7,h8⟩
  ·subst g7
   obtain ⟨t266,c9,h10⟩:=bd_ h8
   exact leafAt (hn:=hn7) 7 [.call (vb true),.val (.int .i64 (l0.length:Int)),.val (.int .i64 (wrap64 ((l0.length:Int) - 1))),.call (vb true),.call (vb t266)] [] (at7_j0 h10) (And.intro (ad_37 c1) (And.intro (iI_len (k:=.i64) (xs:=l0)) (And.intro (int_sub (P:=Tryz.prog) (t:=3) (k:=.i64) (x:=(.tmp 14)) (y:=(.const (.int .i64 1))) (a:=(l0.length:Int)) (b:=1) (c:=(wrap64 ((l0.length:Int) - 1))) (IntWalk.i64_left _)) (And.intro (ad_38 c5) (ad_38 c9))))) (by kernel_rfl)
  ·obtain rfl:=Bool.eq_false_iff.2 g7
   exact leafAt (hn:=hn7) 7 [.call (vb true),.val (.int .i64 (l0.length:Int)),.val (.int .i64 (wrap64 ((l0.length:Int) - 1))),.call (vb false)] [] (at7_j0 h8) (And.intro (ad_37 c1) (And.intro (iI_len (k:=.i64) (xs:=l0)) (And.intro (int_sub (P:=Tryz.prog) (t:=3) (k:=.i64) (x:=(.tmp 14)) (y:=(.const (.int .i64 1))) (a:=(l0.length:Int)) (b:=1) (c:=(wrap64 ((l0.length:Int) - 1))) (IntWalk.i64_left _)) (ad_38 c5)))) (by kernel_rfl)
 ·obtain rfl:=Bool.eq_false_iff.2 g3
  exact leafAt (hn:=hn7) 7 [.call (vb false)] [] (at7_j0 h4) (ad_37 c1) (by kernel_rfl)

def hn41:Hint:=⟨[]⟩
def o41 (r:Bool):List AV:=[vb r]
def p41 (r:Bool):List (Nat × AV):=[]
def q41_l0 (r:Bool) (k:Nat) (L:List (Nat × AV)):Prop:=∃ (x0:List (S67)) (x1:List (S67)) (x12:Int) (x13:Int),L = [(0,.sl (iS67 x0)),(1,.sl (iS67 x1)),(12,vi x12),(13,vi x13)] ∧ laws_iTiles.l0 k x0 x1 x12 x13 = some r
theorem q41_l0_mk {r:Bool} {k:Nat} {x0:List (S67)} {x1:List (S67)} {x12:Int} {x13:Int} (h:laws_iTiles.l0 k x0 x1 x12 x13 = some r):q41_l0 r k [(0,.sl (iS67 x0)),(1,.sl (iS67 x1)),(12,vi x12),(13,vi x13)]:=⟨x0,x1,x12,x13,rfl,h⟩
set_option maxRecDepth 100000 in
theorem at41_l0 {r:Bool}:∀ k L,q41_l0 r k L → AtP Tryz.prog 26 (bodyOf Tryz.f41) (KR Tryz.prog Tryz.f41.results.toList (o41 r) (p41 r)) [true,true,false,true,false] [] (lookA L) :=
 at_loop (by kernel_rfl) (fun _ => by kernel_rfl) (q41_l0 r) (by
  rintro k _ ⟨x0,x1,x12,x13,rfl,h⟩
  cases k with
  | zero => simp [laws_iTiles.l0] at h
  | succ k =>
   rw [laws_iTiles.l0] at h
   rcases ite_ h with ⟨g1,h2⟩ | ⟨g1,h2⟩
   ·obtain ⟨g3,h4⟩:=ip_ h2
    obtain ⟨g5,h6⟩:=ip_ h4
    obtain ⟨g7,h8⟩:=ip_ h6
    rcases ite_ h8 with ⟨g9,h10⟩ | ⟨g9,h10⟩
    ·obtain rfl:=Option.some.inj h10
     exact leafRet (hn:=hn41) 25 [.val (.bool true),.elem (.agg [vi ((rd_T67 x0 x13).f0),vi ((rd_T67 x0 x13).f1)]),.elem (.agg [vi ((rd_T67 x1 x13).f0),vi ((rd_T67 x1 x13).f1)]),.val (.bool true)] [] .ret (.inr rfl) (by kernel_rfl) (And.intro (int_lss (P:=Tryz.prog) (t:=3) (k:=.i64) (x:=(.tmp 13)) (y:=(.tmp 12)) (a:=x13) (b:=x12) (v:=true) (decide_eq_true g1)) (And.intro (iS67_rd (xs:=x0) (i:=x13) g3 g5) (And.intro (iS67_rd (xs:=x1) (i:=x13) g3 g7) (agg_67_neq (x:=(.tmp 19)) (y:=(.tmp 23)) (a0:=((rd_T67 x0 x13).f0)) (b0:=((rd_T67 x1 x13).f0)) (a1:=((rd_T67 x0 x13).f1)) (b1:=((rd_T67 x1 x13).f1)) (v:=true) (by simp only [Bool.not_and]; exact g9))))) (by kernel_rfl)
    ·exact leafBack (hn:=hn41) 20 [.val (.bool true),.elem (.agg [vi ((rd_T67 x0 x13).f0),vi ((rd_T67 x0 x13).f1)]),.elem (.agg [vi ((rd_T67 x1 x13).f0),vi ((rd_T67 x1 x13).f1)]),.val (.bool false),.val (.int .i64 (wrap64 (x13 + 1)))] [] (q41_l0_mk h10) (Nat.lt_succ_self k) (And.intro (int_lss (P:=Tryz.prog) (t:=3) (k:=.i64) (x:=(.tmp 13)) (y:=(.tmp 12)) (a:=x13) (b:=x12) (v:=true) (decide_eq_true g1)) (And.intro (And.intro (iS67_rd (xs:=x0) (i:=x13) g3 g5) (And.intro (iS67_rd (xs:=x1) (i:=x13) g3 g7) (agg_67_neq (x:=(.tmp 19)) (y:=(.tmp 23)) (a0:=((rd_T67 x0 x13).f0)) (b0:=((rd_T67 x1 x13).f0)) (a1:=((rd_T67 x0 x13).f1)) (b1:=((rd_T67 x1 x13).f1)) (v:=false) (by simp only [Bool.not_and]; exact (Bool.eq_false_iff.2 g9))))) (int_add (P:=Tryz.prog) (t:=3) (k:=.i64) (x:=(.tmp 13)) (y:=(.const (.int .i64 1))) (a:=x13) (b:=1) (c:=(wrap64 (x13 + 1))) (IntWalk.i64_left _)))) (by kernel_rfl)
   ·obtain rfl:=Option.some.inj h2
    exact leafRet (hn:=hn41) 14 [.val (.bool false)] [] .ret (.inr rfl) (by kernel_rfl) (int_lss (P:=Tryz.prog) (t:=3) (k:=.i64) (x:=(.tmp 13)) (y:=(.tmp 12)) (a:=x13) (b:=x12) (v:=false) (decide_eq_false g1)) (by kernel_rfl))
set_option maxRecDepth 100000 in
theorem ad_41 {k:Nat} {l0:List (S67)} {l1:List (S67)} {r:Bool} (h:laws_iTiles.f k l0 l1 = some r):CallH Tryz.prog 41 [.sl (iS67 l0),.sl (iS67 l1)] [] (vb r) []:=by
 unfold laws_iTiles.f at h
 refine call_ok (c:=bodyOf Tryz.f41) (rs:=o41 r) (post:=p41 r) Tryz.func41 rfl rfl rfl (by kernel_rfl) ?_
 show AtP Tryz.prog 26 (bodyOf Tryz.f41) (KR Tryz.prog Tryz.f41.results.toList (o41 r) (p41 r)) [] [] (lookA [(0,.sl (iS67 l0)),(1,.sl (iS67 l1))])
 rcases ite_ h with ⟨g1,h2⟩ | ⟨g1,h2⟩
 ·exact leafAt (hn:=hn41) 15 [.val (.int .i64 (l0.length:Int)),.val (.int .i64 (l1.length:Int)),.val (.bool false),.val (.int .i64 (l0.length:Int))] [] (at41_l0 _ _ (q41_l0_mk h2)) (And.intro (And.intro (iS67_len (xs:=l0)) (And.intro (iS67_len (xs:=l1)) (int_neq (P:=Tryz.prog) (t:=3) (k:=.i64) (x:=(.tmp 7)) (y:=(.tmp 9)) (a:=(l0.length:Int)) (b:=(l1.length:Int)) (v:=false) (nbeq_f g1)))) (iS67_len (xs:=l0))) (by kernel_rfl)
 ·obtain rfl:=Option.some.inj h2
  exact leafRet (hn:=hn41) 13 [.val (.int .i64 (l0.length:Int)),.val (.int .i64 (l1.length:Int)),.val (.bool true)] [] .ret (.inr rfl) (by kernel_rfl) (And.intro (iS67_len (xs:=l0)) (And.intro (iS67_len (xs:=l1)) (int_neq (P:=Tryz.prog) (t:=3) (k:=.i64) (x:=(.tmp 7)) (y:=(.tmp 9)) (a:=(l0.length:Int)) (b:=(l1.length:Int)) (v:=true) (nbeq_t g1)))) (by kernel_rfl)

def hn42:Hint:=⟨[]⟩
def o42 (r:Bool):List AV:=[vb r]
def p42 (r:Bool):List (Nat × AV):=[]
def q42_l0 (r:Bool) (k:Nat) (L:List (Nat × AV)):Prop:=∃ (x0:List Int) (x1:List Int) (x12:Int) (x13:Int),L = [(0,.sl (iI .i64 x0)),(1,.sl (iI .i64 x1)),(12,vi x12),(13,vi x13)] ∧ laws_iSame.l0 k x0 x1 x12 x13 = some r
theorem q42_l0_mk {r:Bool} {k:Nat} {x0:List Int} {x1:List Int} {x12:Int} {x13:Int} (h:laws_iSame.l0 k x0 x1 x12 x13 = some r):q42_l0 r k [(0,.sl (iI .i64 x0)),(1,.sl (iI .i64 x1)),(12,vi x12),(13,vi x13)]:=⟨x0,x1,x12,x13,rfl,h⟩
set_option maxRecDepth 100000 in
theorem at42_l0 {r:Bool}:∀ k L,q42_l0 r k L → AtP Tryz.prog 26 (bodyOf Tryz.f42) (KR Tryz.prog Tryz.f42.results.toList (o42 r) (p42 r)) [true,true,false,true,false] [] (lookA L) :=
 at_loop (by kernel_rfl) (fun _ => by kernel_rfl) (q42_l0 r) (by
  rintro k _ ⟨x0,x1,x12,x13,rfl,h⟩
  cases k with
  | zero => simp [laws_iSame.l0] at h
  | succ k =>
   rw [laws_iSame.l0] at h
   rcases ite_ h with ⟨g1,h2⟩ | ⟨g1,h2⟩
   ·obtain ⟨g3,h4⟩:=ip_ h2
    obtain ⟨g5,h6⟩:=ip_ h4
    obtain ⟨g7,h8⟩:=ip_ h6
    rcases ite_ h8 with ⟨g9,h10⟩ | ⟨g9,h10⟩
    ·exact leafBack (hn:=hn42) 20 [.val (.bool true),.elem (vi (rd x0 x13)),.elem (vi (rd x1 x13)),.val (.bool false),.val (.int .i64 (wrap64 (x13 + 1)))] [] (q42_l0_mk h10) (Nat.lt_succ_self k) (And.intro (int_lss (P:=Tryz.prog) (t:=3) (k:=.i64) (x:=(.tmp 13)) (y:=(.tmp 12)) (a:=x13) (b:=x12) (v:=true) (decide_eq_true g1)) (And.intro (And.intro (iI_rd (k:=.i64) (xs:=x0) (i:=x13) g3 g5) (And.intro (iI_rd (k:=.i64) (xs:=x1) (i:=x13) g3 g7) (int_neq (P:=Tryz.prog) (t:=3) (k:=.i64) (x:=(.tmp 19)) (y:=(.tmp 23)) (a:=(rd x0 x13)) (b:=(rd x1 x13)) (v:=false) (nbeq_f g9)))) (int_add (P:=Tryz.prog) (t:=3) (k:=.i64) (x:=(.tmp 13)) (y:=(.const (.int .i64 1))) (a:=x13) (b:=1) (c:=(wrap64 (x13 + 1))) (IntWalk.i64_left _)))) (by kernel_rfl)
    ·obtain rfl:=Option.some.inj h10
     exact leafRet (hn:=hn42) 25 [.val (.bool true),.elem (vi (rd x0 x13)),.elem (vi (rd x1 x13)),.val (.bool true)] [] .ret (.inr rfl) (by kernel_rfl) (And.intro (int_lss (P:=Tryz.prog) (t:=3) (k:=.i64) (x:=(.tmp 13)) (y:=(.tmp 12)) (a:=x13) (b:=x12) (v:=true) (decide_eq_true g1)) (And.intro (iI_rd (k:=.i64) (xs:=x0) (i:=x13) g3 g5) (And.intro (iI_rd (k:=.i64) (xs:=x1) (i:=x13) g3 g7) (int_neq (P:=Tryz.prog) (t:=3) (k:=.i64) (x:=(.tmp 19)) (y:=(.tmp 23)) (a:=(rd x0 x13)) (b:=(rd x1 x13)) (v:=true) (nbeq_t g9))))) (by kernel_rfl)
   ·obtain rfl:=Option.some.inj h2
    exact leafRet (hn:=hn42) 14 [.val (.bool false)] [] .ret (.inr rfl) (by kernel_rfl) (int_lss (P:=Tryz.prog) (t:=3) (k:=.i64) (x:=(.tmp 13)) (y:=(.tmp 12)) (a:=x13) (b:=x12) (v:=false) (decide_eq_false g1)) (by kernel_rfl))
set_option maxRecDepth 100000 in
theorem ad_42 {k:Nat} {l0:List Int} {l1:List Int} {r:Bool} (h:laws_iSame.f k l0 l1 = some r):CallH Tryz.prog 42 [.sl (iI .i64 l0),.sl (iI .i64 l1)] [] (vb r) []:=by
 unfold laws_iSame.f at h
 refine call_ok (c:=bodyOf Tryz.f42) (rs:=o42 r) (post:=p42 r) Tryz.func42 rfl rfl rfl (by kernel_rfl) ?_
 show AtP Tryz.prog 26 (bodyOf Tryz.f42) (KR Tryz.prog Tryz.f42.results.toList (o42 r) (p42 r)) [] [] (lookA [(0,.sl (iI .i64 l0)),(1,.sl (iI .i64 l1))])
 rcases ite_ h with ⟨g1,h2⟩ | ⟨g1,h2⟩
 ·exact leafAt (hn:=hn42) 15 [.val (.int .i64 (l0.length:Int)),.val (.int .i64 (l1.length:Int)),.val (.bool false),.val (.int .i64 (l0.length:Int))] [] (at42_l0 _ _ (q42_l0_mk h2)) (And.intro (And.intro (iI_len (k:=.i64) (xs:=l0)) (And.intro (iI_len (k:=.i64) (xs:=l1)) (int_neq (P:=Tryz.prog) (t:=3) (k:=.i64) (x:=(.tmp 7)) (y:=(.tmp 9)) (a:=(l0.length:Int)) (b:=(l1.length:Int)) (v:=false) (nbeq_f g1)))) (iI_len (k:=.i64) (xs:=l0))) (by kernel_rfl)
 ·obtain rfl:=Option.some.inj h2
  exact leafRet (hn:=hn42) 13 [.val (.int .i64 (l0.length:Int)),.val (.int .i64 (l1.length:Int)),.val (.bool true)] [] .ret (.inr rfl) (by kernel_rfl) (And.intro (iI_len (k:=.i64) (xs:=l0)) (And.intro (iI_len (k:=.i64) (xs:=l1)) (int_neq (P:=Tryz.prog) (t:=3) (k:=.i64) (x:=(.tmp 7)) (y:=(.tmp 9)) (a:=(l0.length:Int)) (b:=(l1.length:Int)) (v:=true) (nbeq_t g1)))) (by kernel_rfl)

def hn8:Hint:=⟨[(5,[19]),(7,[20]),(11,[19]),(13,[20])]⟩
def o8 (r:Bool):List AV:=[vb r]
def p8 (r:Bool):List (Nat × AV):=[]
set_option maxRecDepth 100000 in
theorem ad_8 {k:Nat} {l0_0:List (S67)} {l0_1:List Int} {l1_0:List (S67)} {l1_1:List Int} {r:Bool} (h:laws_iPuzzle.f k l0_0 l0_1 l1_0 l1_1 = some r):CallH Tryz.prog 8 [.agg [.sl (iS67 l0_0),.sl (iI .i64 l0_1)],.agg [.sl (iS67 l1_0),.sl (iI .i64 l1_1)]] [] (vb r) []:=by
 unfold laws_iPuzzle.f at h
 refine call_ok (c:=bodyOf Tryz.f8) (rs:=o8 r) (post:=p8 r) Tryz.func8 rfl rfl rfl (by kernel_rfl) ?_
 show AtP Tryz.prog 17 (bodyOf Tryz.f8) (KR Tryz.prog Tryz.f8.results.toList (o8 r) (p8 r)) [] [] (lookA [(0,.agg [.sl (iS67 l0_0),.sl (iI .i64 l0_1)]),(1,.agg [.sl (iS67 l1_0),.sl (iI .i64 l1_1)])])
 obtain ⟨t287,c1,h2⟩:=bd_ h
 rcases ite_ h2 with ⟨g3,h4⟩ | ⟨g3,h4⟩
 ·subst g3
  obtain ⟨t288,c5,h6⟩:=bd_ h4
  obtain rfl:=Option.some.inj h6
  exact leafRet (hn:=hn8) 7 [.call (vb true),.call (vb t288)] [] .ret (.inr rfl) (by kernel_rfl) (And.intro (ad_41 c1) (ad_42 c5)) (by kernel_rfl)
 ·obtain rfl:=Bool.eq_false_iff.2 g3
  obtain rfl:=Option.some.inj h4
  exact leafRet (hn:=hn8) 7 [.call (vb false)] [] .ret (.inr rfl) (by kernel_rfl) (ad_41 c1) (by kernel_rfl)

def hn84:Hint:=⟨[(3,[14]),(5,[14]),(9,[14])]⟩
def o84 (r:Bool):List AV:=[vb r]
def p84 (r:Bool):List (Nat × AV):=[]
def hn83:Hint:=⟨[(1,[7])]⟩
def o83 (r:Bool):List AV:=[vb r]
def p83 (r:Bool):List (Nat × AV):=[]
def hn43:Hint:=⟨[]⟩
def o43 (r:Bool):List AV:=[vb r]
def p43 (r:Bool):List (Nat × AV):=[]
def q43_l0 (r:Bool) (k:Nat) (L:List (Nat × AV)):Prop:=∃ (x0:List (S67)) (x1:List (S67)) (x12:Int) (x13:Int),L = [(0,.sl (iS67 x0)),(1,.sl (iS67 x1)),(12,vi x12),(13,vi x13)] ∧ slices_Equal_impl_Tile_impl_Tile.l0 k x0 x1 x12 x13 = some r
theorem q43_l0_mk {r:Bool} {k:Nat} {x0:List (S67)} {x1:List (S67)} {x12:Int} {x13:Int} (h:slices_Equal_impl_Tile_impl_Tile.l0 k x0 x1 x12 x13 = some r):q43_l0 r k [(0,.sl (iS67 x0)),(1,.sl (iS67 x1)),(12,vi x12),(13,vi x13)]:=⟨x0,x1,x12,x13,rfl,h⟩
set_option maxRecDepth 100000 in
theorem at43_l0 {r:Bool}:∀ k L,q43_l0 r k L → AtP Tryz.prog 26 (bodyOf Tryz.f43) (KR Tryz.prog Tryz.f43.results.toList (o43 r) (p43 r)) [true,true,false,true,false] [] (lookA L) :=
 at_loop (by kernel_rfl) (fun _ => by kernel_rfl) (q43_l0 r) (by
  rintro k _ ⟨x0,x1,x12,x13,rfl,h⟩
  cases k with
  | zero => simp [slices_Equal_impl_Tile_impl_Tile.l0] at h
  | succ k =>
   rw [slices_Equal_impl_Tile_impl_Tile.l0] at h
   rcases ite_ h with ⟨g1,h2⟩ | ⟨g1,h2⟩
   ·obtain ⟨g3,h4⟩:=ip_ h2
    obtain ⟨g5,h6⟩:=ip_ h4
    obtain ⟨g7,h8⟩:=ip_ h6
    rcases ite_ h8 with ⟨g9,h10⟩ | ⟨g9,h10⟩
    ·obtain rfl:=Option.some.inj h10
     exact leafRet (hn:=hn43) 25 [.val (.bool true),.elem (.agg [vi ((rd_T67 x0 x13).f0),vi ((rd_T67 x0 x13).f1)]),.elem (.agg [vi ((rd_T67 x1 x13).f0),vi ((rd_T67 x1 x13).f1)]),.val (.bool true)] [] .ret (.inr rfl) (by kernel_rfl) (And.intro (int_lss (P:=Tryz.prog) (t:=3) (k:=.i64) (x:=(.tmp 13)) (y:=(.tmp 12)) (a:=x13) (b:=x12) (v:=true) (decide_eq_true g1)) (And.intro (iS67_rd (xs:=x0) (i:=x13) g3 g5) (And.intro (iS67_rd (xs:=x1) (i:=x13) g3 g7) (agg_67_neq (x:=(.tmp 19)) (y:=(.tmp 23)) (a0:=((rd_T67 x0 x13).f0)) (b0:=((rd_T67 x1 x13).f0)) (a1:=((rd_T67 x0 x13).f1)) (b1:=((rd_T67 x1 x13).f1)) (v:=true) (by simp only [Bool.not_and]; exact g9))))) (by kernel_rfl)
    ·exact leafBack (hn:=hn43) 20 [.val (.bool true),.elem (.agg [vi ((rd_T67 x0 x13).f0),vi ((rd_T67 x0 x13).f1)]),.elem (.agg [vi ((rd_T67 x1 x13).f0),vi ((rd_T67 x1 x13).f1)]),.val (.bool false),.val (.int .i64 (wrap64 (x13 + 1)))] [] (q43_l0_mk h10) (Nat.lt_succ_self k) (And.intro (int_lss (P:=Tryz.prog) (t:=3) (k:=.i64) (x:=(.tmp 13)) (y:=(.tmp 12)) (a:=x13) (b:=x12) (v:=true) (decide_eq_true g1)) (And.intro (And.intro (iS67_rd (xs:=x0) (i:=x13) g3 g5) (And.intro (iS67_rd (xs:=x1) (i:=x13) g3 g7) (agg_67_neq (x:=(.tmp 19)) (y:=(.tmp 23)) (a0:=((rd_T67 x0 x13).f0)) (b0:=((rd_T67 x1 x13).f0)) (a1:=((rd_T67 x0 x13).f1)) (b1:=((rd_T67 x1 x13).f1)) (v:=false) (by simp only [Bool.not_and]; exact (Bool.eq_false_iff.2 g9))))) (int_add (P:=Tryz.prog) (t:=3) (k:=.i64) (x:=(.tmp 13)) (y:=(.const (.int .i64 1))) (a:=x13) (b:=1) (c:=(wrap64 (x13 + 1))) (IntWalk.i64_left _)))) (by kernel_rfl)
   ·obtain rfl:=Option.some.inj h2
    exact leafRet (hn:=hn43) 14 [.val (.bool false)] [] .ret (.inr rfl) (by kernel_rfl) (int_lss (P:=Tryz.prog) (t:=3) (k:=.i64) (x:=(.tmp 13)) (y:=(.tmp 12)) (a:=x13) (b:=x12) (v:=false) (decide_eq_false g1)) (by kernel_rfl))
set_option maxRecDepth 100000 in
theorem ad_43 {k:Nat} {l0:List (S67)} {l1:List (S67)} {r:Bool} (h:slices_Equal_impl_Tile_impl_Tile.f k l0 l1 = some r):CallH Tryz.prog 43 [.sl (iS67 l0),.sl (iS67 l1)] [] (vb r) []:=by
 unfold slices_Equal_impl_Tile_impl_Tile.f at h
 refine call_ok (c:=bodyOf Tryz.f43) (rs:=o43 r) (post:=p43 r) Tryz.func43 rfl rfl rfl (by kernel_rfl) ?_
 show AtP Tryz.prog 26 (bodyOf Tryz.f43) (KR Tryz.prog Tryz.f43.results.toList (o43 r) (p43 r)) [] [] (lookA [(0,.sl (iS67 l0)),(1,.sl (iS67 l1))])
 rcases ite_ h with ⟨g1,h2⟩ | ⟨g1,h2⟩
 ·exact leafAt (hn:=hn43) 15 [.val (.int .i64 (l0.length:Int)),.val (.int .i64 (l1.length:Int)),.val (.bool false),.val (.int .i64 (l0.length:Int))] [] (at43_l0 _ _ (q43_l0_mk h2)) (And.intro (And.intro (iS67_len (xs:=l0)) (And.intro (iS67_len (xs:=l1)) (int_neq (P:=Tryz.prog) (t:=3) (k:=.i64) (x:=(.tmp 7)) (y:=(.tmp 9)) (a:=(l0.length:Int)) (b:=(l1.length:Int)) (v:=false) (nbeq_f g1)))) (iS67_len (xs:=l0))) (by kernel_rfl)
 ·obtain rfl:=Option.some.inj h2
  exact leafRet (hn:=hn43) 13 [.val (.int .i64 (l0.length:Int)),.val (.int .i64 (l1.length:Int)),.val (.bool true)] [] .ret (.inr rfl) (by kernel_rfl) (And.intro (iS67_len (xs:=l0)) (And.intro (iS67_len (xs:=l1)) (int_neq (P:=Tryz.prog) (t:=3) (k:=.i64) (x:=(.tmp 7)) (y:=(.tmp 9)) (a:=(l0.length:Int)) (b:=(l1.length:Int)) (v:=true) (nbeq_t g1)))) (by kernel_rfl)

def hn44:Hint:=⟨[(7,[25]),(14,[25])]⟩
def o44 (r:Bool):List AV:=[vb r]
def p44 (r:Bool):List (Nat × AV):=[]
set_option maxRecDepth 100000 in
theorem ad_44 {l0_0:List (S67)} {l0_1:List Int} {a1:Int} {a2:Int} {r:Bool} (h:impl_Puzzle_fits.f l0_0 l0_1 a1 a2 = some r):CallH Tryz.prog 44 [.agg [.sl (iS67 l0_0),.sl (iI .i64 l0_1)],vi a1,vi a2] [] (vb r) []:=by
 unfold impl_Puzzle_fits.f at h
 refine call_ok (c:=bodyOf Tryz.f44) (rs:=o44 r) (post:=p44 r) Tryz.func44 rfl rfl rfl (by kernel_rfl) ?_
 show AtP Tryz.prog 22 (bodyOf Tryz.f44) (KR Tryz.prog Tryz.f44.results.toList (o44 r) (p44 r)) [] [] (lookA [(0,.agg [.sl (iS67 l0_0),.sl (iI .i64 l0_1)]),(1,vi a1),(2,vi a2)])
 obtain ⟨g1,h2⟩:=ip_ h
 obtain ⟨g3,h4⟩:=ip_ h2
 rcases ite_ h4 with ⟨g5,h6⟩ | ⟨g5,h6⟩
 ·obtain rfl:=Option.some.inj h6
  exact leafRet (hn:=hn44) 7 [.elem (vi (rd l0_1 a1)),.val (.bool true)] [] .ret (.inr rfl) (by kernel_rfl) (And.intro (iI_rd (k:=.i64) (xs:=l0_1) (i:=a1) g1 g3) (int_eql (P:=Tryz.prog) (t:=3) (k:=.i64) (x:=(.tmp 11)) (y:=(.const (.int .i64 (-1)))) (a:=(rd l0_1 a1)) (b:=(-1)) (v:=true) (beq_iff_eq.2 g5))) (by kernel_rfl)
 ·obtain rfl:=Option.some.inj h6
  exact leafRet (hn:=hn44) 7 [.elem (vi (rd l0_1 a1)),.val (.bool false),.elem (vi (rd l0_1 a1)),.val (.bool ((rd l0_1 a1) == a2))] [] .ret (.inr rfl) (by kernel_rfl) (And.intro (iI_rd (k:=.i64) (xs:=l0_1) (i:=a1) g1 g3) (And.intro (int_eql (P:=Tryz.prog) (t:=3) (k:=.i64) (x:=(.tmp 11)) (y:=(.const (.int .i64 (-1)))) (a:=(rd l0_1 a1)) (b:=(-1)) (v:=false) (beq_false_of_ne g5)) (And.intro (iI_rd (k:=.i64) (xs:=l0_1) (i:=a1) g1 g3) (int_eql (P:=Tryz.prog) (t:=3) (k:=.i64) (x:=(.tmp 18)) (y:=(.tmp 19)) (a:=(rd l0_1 a1)) (b:=a2) (v:=((rd l0_1 a1) == a2)) rfl)))) (by kernel_rfl)

def hn9:Hint:=⟨[(2,[46]),(18,[46]),(26,[46])]⟩
def o9 (r:Bool × Bool):List AV:=[vb r.1,vb r.2]
def p9 (r:Bool × Bool):List (Nat × AV):=[]
def q9_l0 (r:Bool × Bool) (k:Nat) (L:List (Nat × AV)):Prop:=∃ (x31:List Int) (x32:Int) (x33:Int) (x299000:List (S67)) (x299001:List Int),L = [(2,.loc 46 0),(31,.sl (iI .i64 x31)),(32,vi x32),(33,vi x33),(46,.box (.agg [.sl (iS67 x299000),.sl (iI .i64 x299001)]))] ∧ impl_IsSolution.l0 k x31 x32 x33 x299000 x299001 = some r
theorem q9_l0_mk {r:Bool × Bool} {k:Nat} {x31:List Int} {x32:Int} {x33:Int} {x299000:List (S67)} {x299001:List Int} (h:impl_IsSolution.l0 k x31 x32 x33 x299000 x299001 = some r):q9_l0 r k [(2,.loc 46 0),(31,.sl (iI .i64 x31)),(32,vi x32),(33,vi x33),(46,.box (.agg [.sl (iS67 x299000),.sl (iI .i64 x299001)]))]:=⟨x31,x32,x33,x299000,x299001,rfl,h⟩
set_option maxRecDepth 100000 in
theorem at9_l0 {r:Bool × Bool}:∀ k L,q9_l0 r k L → AtP Tryz.prog 44 (bodyOf Tryz.f9) (KR Tryz.prog Tryz.f9.results.toList (o9 r) (p9 r)) [true,true,true,false,true,false] [] (lookA L) :=
 at_loop (by kernel_rfl) (fun _ => by kernel_rfl) (q9_l0 r) (by
  rintro k _ ⟨x31,x32,x33,x299000,x299001,rfl,h⟩
  cases k with
  | zero => simp [impl_IsSolution.l0] at h
  | succ k =>
   rw [impl_IsSolution.l0] at h
   rcases ite_ h with ⟨g1,h2⟩ | ⟨g1,h2⟩
   ·obtain ⟨g3,h4⟩:=ip_ h2
    obtain ⟨g5,h6⟩:=ip_ h4
    obtain ⟨t309,c7,h8⟩:=bd_ h6
    rcases ite_ h8 with ⟨g9,h10⟩ | ⟨g9,h10⟩
    ·subst g9
     exact leafBack (hn:=hn9) 20 [.val (.bool true),.elem (vi (rd x31 x33)),.call (vb true),.val (.int .i64 (wrap64 (x33 + 1)))] [] (q9_l0_mk h10) (Nat.lt_succ_self k) (And.intro (int_lss (P:=Tryz.prog) (t:=3) (k:=.i64) (x:=(.tmp 33)) (y:=(.tmp 32)) (a:=x33) (b:=x32) (v:=true) (decide_eq_true g1)) (And.intro (iI_rd (k:=.i64) (xs:=x31) (i:=x33) g3 g5) (And.intro (ad_44 c7) (int_add (P:=Tryz.prog) (t:=3) (k:=.i64) (x:=(.tmp 33)) (y:=(.const (.int .i64 1))) (a:=x33) (b:=1) (c:=(wrap64 (x33 + 1))) (IntWalk.i64_left _))))) (by kernel_rfl)
    ·obtain rfl:=Bool.eq_false_iff.2 g9
     obtain rfl:=Option.some.inj h10
     exact leafRet (hn:=hn9) 25 [.val (.bool true),.elem (vi (rd x31 x33)),.call (vb false)] [] .ret (.inr rfl) (by kernel_rfl) (And.intro (int_lss (P:=Tryz.prog) (t:=3) (k:=.i64) (x:=(.tmp 33)) (y:=(.tmp 32)) (a:=x33) (b:=x32) (v:=true) (decide_eq_true g1)) (And.intro (iI_rd (k:=.i64) (xs:=x31) (i:=x33) g3 g5) (ad_44 c7))) (by kernel_rfl)
   ·obtain rfl:=Option.some.inj h2
    exact leafRet (hn:=hn9) 14 [.val (.bool false)] [] .ret (.inr rfl) (by kernel_rfl) (int_lss (P:=Tryz.prog) (t:=3) (k:=.i64) (x:=(.tmp 33)) (y:=(.tmp 32)) (a:=x33) (b:=x32) (v:=false) (decide_eq_false g1)) (by kernel_rfl))
set_option maxRecDepth 100000 in
theorem at9_j1 {r:Bool × Bool} {k:Nat} {x1:List Int} {x30:Bool} {x299000:List (S67)} {x299001:List Int} (h:impl_IsSolution.j1 k x1 x30 x299000 x299001 = some r):AtP Tryz.prog 44 (bodyOf Tryz.f9) (KR Tryz.prog Tryz.f9.results.toList (o9 r) (p9 r)) [true,true,false,true] [] (lookA [(1,.sl (iI .i64 x1)),(2,.loc 46 0),(30,vb x30),(46,.box (.agg [.sl (iS67 x299000),.sl (iI .i64 x299001)]))]):=by
 cases k with
 | zero => simp [impl_IsSolution.j1] at h
 | succ k =>
  rw [impl_IsSolution.j1] at h
  rcases ite_ h with ⟨g1,h2⟩ | ⟨g1,h2⟩
  ·subst g1
   obtain rfl:=Option.some.inj h2
   exact leafRet (hn:=hn9) 6 [] [] .ret (.inr rfl) (by kernel_rfl) True.intro (by kernel_rfl)
  ·obtain rfl:=Bool.eq_false_iff.2 g1
   exact leafAt (hn:=hn9) 8 [.val (.int .i64 (x1.length:Int))] [] (at9_l0 _ _ (q9_l0_mk h2)) (iI_len (k:=.i64) (xs:=x1)) (by kernel_rfl)
set_option maxRecDepth 100000 in
theorem at9_j0 {r:Bool × Bool} {k:Nat} {x1:List Int} {x15:Bool} {x299000:List (S67)} {x299001:List Int} (h:impl_IsSolution.j0 k x1 x15 x299000 x299001 = some r):AtP Tryz.prog 44 (bodyOf Tryz.f9) (KR Tryz.prog Tryz.f9.results.toList (o9 r) (p9 r)) [true,false,true] [] (lookA [(1,.sl (iI .i64 x1)),(2,.loc 46 0),(15,vb x15),(46,.box (.agg [.sl (iS67 x299000),.sl (iI .i64 x299001)]))]):=by
 cases k with
 | zero => simp [impl_IsSolution.j0] at h
 | succ k =>
  rw [impl_IsSolution.j0] at h
  rcases ite_ h with ⟨g1,h2⟩ | ⟨g1,h2⟩
  ·subst g1
   obtain rfl:=Option.some.inj h2
   exact leafRet (hn:=hn9) 6 [] [] .ret (.inr rfl) (by kernel_rfl) True.intro (by kernel_rfl)
  ·obtain rfl:=Bool.eq_false_iff.2 g1
   rcases ite_ h2 with ⟨g3,h4⟩ | ⟨g3,h4⟩
   ·obtain ⟨t301,c5,h6⟩:=bd_ h4
    obtain ⟨t304,c7,h8⟩:=bd_ h6
    obtain ⟨t307,c9,h10⟩:=bd_ h8
    exact leafAt (hn:=hn9) 7 [.val (.int .i64 (x1.length:Int)),.val (.int .i64 (x299001.length:Int)),.val (.bool false),.call (.sl (iS67 t301)),.call (.sl (iS67 t304)),.call (vb t307)] [] (at9_j1 h10) (And.intro (iI_len (k:=.i64) (xs:=x1)) (And.intro (iI_len (k:=.i64) (xs:=x299001)) (And.intro (int_neq (P:=Tryz.prog) (t:=3) (k:=.i64) (x:=(.tmp 17)) (y:=(.tmp 20)) (a:=(x1.length:Int)) (b:=(x299001.length:Int)) (v:=false) (nbeq_f g3)) (And.intro (ad_35 c5) (And.intro (ad_34 c7) (ad_43 c9)))))) (by kernel_rfl)
   ·exact leafAt (hn:=hn9) 7 [.val (.int .i64 (x1.length:Int)),.val (.int .i64 (x299001.length:Int)),.val (.bool true)] [] (at9_j1 h4) (And.intro (iI_len (k:=.i64) (xs:=x1)) (And.intro (iI_len (k:=.i64) (xs:=x299001)) (int_neq (P:=Tryz.prog) (t:=3) (k:=.i64) (x:=(.tmp 17)) (y:=(.tmp 20)) (a:=(x1.length:Int)) (b:=(x299001.length:Int)) (v:=true) (nbeq_t g3)))) (by kernel_rfl)
set_option maxRecDepth 100000 in
theorem ad_9 {k:Nat} {l0_0:List (S67)} {l0_1:List Int} {l1:List Int} {r1:Bool} {r2:Bool} (h:impl_IsSolution.f k l0_0 l0_1 l1 = some (r1,r2)):CallH Tryz.prog 9 [.agg [.sl (iS67 l0_0),.sl (iI .i64 l0_1)],.sl (iI .i64 l1)] [] (.tup [vb r1,vb r2]) []:=by
 unfold impl_IsSolution.f at h
 refine call_ok (c:=bodyOf Tryz.f9) (rs:=o9 (r1,r2)) (post:=p9 (r1,r2)) Tryz.func9 rfl rfl rfl (by kernel_rfl) ?_
 show AtP Tryz.prog 44 (bodyOf Tryz.f9) (KR Tryz.prog Tryz.f9.results.toList (o9 (r1,r2)) (p9 (r1,r2))) [] [] (lookA [(0,.agg [.sl (iS67 l0_0),.sl (iI .i64 l0_1)]),(1,.sl (iI .i64 l1))])
 obtain ⟨t299,c1,h2⟩:=bd_ h
 rcases ite_ h2 with ⟨g3,h4⟩ | ⟨g3,h4⟩
 ·subst g3
  obtain ⟨t300,c5,h6⟩:=bd_ h4
  exact leafAt (hn:=hn9) 7 [.call (vb true),.call (vb t300)] [] (at9_j0 h6) (And.intro (ad_10 c1) (ad_32 c5)) (by kernel_rfl)
 ·obtain rfl:=Bool.eq_false_iff.2 g3
  exact leafAt (hn:=hn9) 7 [.call (vb false)] [] (at9_j0 h4) (ad_10 c1) (by kernel_rfl)

def hn52:Hint:=⟨[(5,[1000000])]⟩
def o52 (r:Bool × Int × Int) (s0_0:List Int) (s0_1:Int) (s0_2:Int):List AV:=[vb r.1]
def p52 (r:Bool × Int × Int) (s0_0:List Int) (s0_1:Int) (s0_2:Int):List (Nat × AV):=[(1000000,.box (.agg [.sl (iI .u8 s0_0),vi r.2.1,.val (.int .u64 r.2.2)]))]
set_option maxRecDepth 100000 in
theorem ad_52 {s0_0:List Int} {s0_1:Int} {s0_2:Int} {a1:Int} {r1:Bool} {r2:Int} {r3:Int} (h:spec_l1Cur_one.f s0_0 s0_1 s0_2 a1 = some (r1,r2,r3)):CallH Tryz.prog 52 [.loc 1000000 0,vi a1] [(1000000,.box (.agg [.sl (iI .u8 s0_0),vi s0_1,.val (.int .u64 s0_2)]))] (vb r1) [(1000000,.box (.agg [.sl (iI .u8 s0_0),vi r2,.val (.int .u64 r3)]))]:=by
 unfold spec_l1Cur_one.f at h
 refine call_ok (c:=bodyOf Tryz.f52) (rs:=o52 (r1,r2,r3) s0_0 s0_1 s0_2) (post:=p52 (r1,r2,r3) s0_0 s0_1 s0_2) Tryz.func52 rfl rfl rfl (by kernel_rfl) ?_
 show AtP Tryz.prog 9 (bodyOf Tryz.f52) (KR Tryz.prog Tryz.f52.results.toList (o52 (r1,r2,r3) s0_0 s0_1 s0_2) (p52 (r1,r2,r3) s0_0 s0_1 s0_2)) [] [] (lookA [(0,.loc 1000000 0),(1,vi a1),(1000000,.box (.agg [.sl (iI .u8 s0_0),vi s0_1,.val (.int .u64 s0_2)]))])
 obtain ⟨⟨bt310_1,bt310_2,bt310_3⟩,c1,h2⟩:=bd_ h
 try dsimp only at h2
 obtain ⟨rfl,rfl,rfl⟩:=pr3_ h2
 exact leafRet (hn:=hn52) 7 [.callH [1000000] (vi bt310_1) [(1000000,.box (.agg [.sl (iI .u8 s0_0),vi bt310_2,.val (.int .u64 bt310_3)]))],.val (.bool (bt310_1 == 0))] [] .ret (.inr rfl) (by kernel_rfl) (And.intro (CallH.ren [(1000000,1000000)] rfl rfl (ad_31 c1)) (int_eql (P:=Tryz.prog) (t:=3) (k:=.i64) (x:=(.tmp 7)) (y:=(.const (.int .i64 0))) (a:=bt310_1) (b:=0) (v:=(bt310_1 == 0)) rfl)) (by kernel_rfl)

def hn87:Hint:=⟨[(6,[45]),(8,[47,60,800801]),(11,[1000000]),(15,[53]),(19,[57]),(22,[60]),(23,[57]),(29,[1000000]),(31,[47,60,800801]),(32,[800801]),(34,[73]),(35,[74]),(36,[47,60,800801]),(38,[60,800801])]⟩
def o87 (r:(List (S67)) × List Int × Int × Int) (s0_0:List Int) (s0_1:Int) (s0_2:Int):List AV:=[.agg [.row 500000,.row 500001]]
def p87 (r:(List (S67)) × List Int × Int × Int) (s0_0:List Int) (s0_1:Int) (s0_2:Int):List (Nat × AV):=[(1000000,.box (.agg [.sl (iI .u8 s0_0),vi r.2.2.1,.val (.int .u64 r.2.2.2)])),(500000,.ow true 67 (iS67 r.1)),(500001,.ow true 3 (iI .i64 r.2.1))]
def q87_l0 (r:(List (S67)) × List Int × Int × Int) (s0_0:List Int) (s0_1:Int) (s0_2:Int) (k:Nat) (L:List (Nat × AV)):Prop:=∃ (x23:List Int) (x24:Int) (x25:Int) (x1001:Int) (x1002:Int) (x329000:List (S67)) (x329001:List Int),L = [(0,.loc 1000000 0),(6,.loc 45 0),(8,.loc 47 0),(23,.row 57),(24,vi x24),(25,vi x25),(45,.box (.agg [.val (.slice none 0 0),.val (.slice none 0 0)])),(47,.box (.agg [.row 60,.row 800801])),(57,.ow false 3 (iI .i64 x23)),(60,.ow true 67 (iS67 x329000)),(800801,.ow true 3 (iI .i64 x329001)),(1000000,.box (.agg [.sl (iI .u8 s0_0),vi x1001,.val (.int .u64 x1002)]))] ∧ spec_l1Cur_surePuzzle.l0 k x23 x24 x25 s0_0 x1001 x1002 x329000 x329001 = some r
theorem q87_l0_mk {r:(List (S67)) × List Int × Int × Int} (s0_0:List Int) (s0_1:Int) (s0_2:Int) {k:Nat} {x23:List Int} {x24:Int} {x25:Int} {x1001:Int} {x1002:Int} {x329000:List (S67)} {x329001:List Int} (h:spec_l1Cur_surePuzzle.l0 k x23 x24 x25 s0_0 x1001 x1002 x329000 x329001 = some r):q87_l0 r s0_0 s0_1 s0_2 k [(0,.loc 1000000 0),(6,.loc 45 0),(8,.loc 47 0),(23,.row 57),(24,vi x24),(25,vi x25),(45,.box (.agg [.val (.slice none 0 0),.val (.slice none 0 0)])),(47,.box (.agg [.row 60,.row 800801])),(57,.ow false 3 (iI .i64 x23)),(60,.ow true 67 (iS67 x329000)),(800801,.ow true 3 (iI .i64 x329001)),(1000000,.box (.agg [.sl (iI .u8 s0_0),vi x1001,.val (.int .u64 x1002)]))]:=⟨x23,x24,x25,x1001,x1002,x329000,x329001,rfl,h⟩
set_option maxRecDepth 100000 in
theorem at87_l0 {r:(List (S67)) × List Int × Int × Int} {s0_0:List Int} {s0_1:Int} {s0_2:Int}:∀ k L,q87_l0 r s0_0 s0_1 s0_2 k L → AtP Tryz.prog 39 (bodyOf Tryz.f87) (KR Tryz.prog Tryz.f87.results.toList (o87 r s0_0 s0_1 s0_2) (p87 r s0_0 s0_1 s0_2)) [true,true,true,true,false,true,false] [] (lookA L) :=
 at_loop (by kernel_rfl) (fun _ => by kernel_rfl) (q87_l0 r s0_0 s0_1 s0_2) (by
  rintro k _ ⟨x23,x24,x25,x1001,x1002,x329000,x329001,rfl,h⟩
  cases k with
  | zero => simp [spec_l1Cur_surePuzzle.l0] at h
  | succ k =>
   rw [spec_l1Cur_surePuzzle.l0] at h
   rcases ite_ h with ⟨g1,h2⟩ | ⟨g1,h2⟩
   ·obtain ⟨g3,h4⟩:=ip_ h2
    obtain ⟨g5,h6⟩:=ip_ h4
    obtain ⟨⟨bt330_1,bt330_2,bt330_3⟩,c7,h8⟩:=bd_ h6
    try dsimp only at h8
    rcases ite_ h8 with ⟨g9,h10⟩ | ⟨g9,h10⟩
    ·subst g9
     obtain ⟨g11,h12⟩:=ip_ h10
     exact leafBack (hn:=hn87) 23 [.val (.bool true),.elem (vi (rd x23 x25)),.callH [1000000] (vb true) [(1000000,.box (.agg [.sl (iI .u8 s0_0),vi bt330_2,.val (.int .u64 bt330_3)]))],.go,.elem (.ow true 3 (iI .i64 (x329001 ++ ([-1])))),.val (.int .i64 (wrap64 (x25 + 1)))] [(800801,74)] (q87_l0_mk s0_0 s0_1 s0_2 h12) (Nat.lt_succ_self k) (And.intro (int_lss (P:=Tryz.prog) (t:=3) (k:=.i64) (x:=(.tmp 25)) (y:=(.tmp 24)) (a:=x25) (b:=x24) (v:=true) (decide_eq_true g1)) (And.intro (iI_rd (k:=.i64) (xs:=x23) (i:=x25) g3 g5) (And.intro (CallH.ren [(1000000,1000000)] rfl rfl (ad_52 c7)) (And.intro (iI_app (k:=.i64) (N:=17592186044416) (b:=8) (xs:=x329001) (ys:=[-1]) (by decide) (Nat.succ_le_of_lt g11)) (int_add (P:=Tryz.prog) (t:=3) (k:=.i64) (x:=(.tmp 25)) (y:=(.const (.int .i64 1))) (a:=x25) (b:=1) (c:=(wrap64 (x25 + 1))) (IntWalk.i64_left _)))))) (by kernel_rfl)
    ·obtain rfl:=Bool.eq_false_iff.2 g9
     obtain ⟨g13,h14⟩:=ip_ h10
     exact leafBack (hn:=hn87) 23 [.val (.bool true),.elem (vi (rd x23 x25)),.callH [1000000] (vb false) [(1000000,.box (.agg [.sl (iI .u8 s0_0),vi bt330_2,.val (.int .u64 bt330_3)]))],.go,.elem (.ow true 3 (iI .i64 (x329001 ++ ([(rd x23 x25)])))),.val (.int .i64 (wrap64 (x25 + 1)))] [(800801,74)] (q87_l0_mk s0_0 s0_1 s0_2 h14) (Nat.lt_succ_self k) (And.intro (int_lss (P:=Tryz.prog) (t:=3) (k:=.i64) (x:=(.tmp 25)) (y:=(.tmp 24)) (a:=x25) (b:=x24) (v:=true) (decide_eq_true g1)) (And.intro (iI_rd (k:=.i64) (xs:=x23) (i:=x25) g3 g5) (And.intro (CallH.ren [(1000000,1000000)] rfl rfl (ad_52 c7)) (And.intro (iI_app (k:=.i64) (N:=17592186044416) (b:=8) (xs:=x329001) (ys:=[(rd x23 x25)]) (by decide) (Nat.succ_le_of_lt g13)) (int_add (P:=Tryz.prog) (t:=3) (k:=.i64) (x:=(.tmp 25)) (y:=(.const (.int .i64 1))) (a:=x25) (b:=1) (c:=(wrap64 (x25 + 1))) (IntWalk.i64_left _)))))) (by kernel_rfl)
   ·obtain rfl:=Option.some.inj h2
    exact leafRet (hn:=hn87) 14 [.val (.bool false)] [(500000,60),(500001,800801)] .ret (.inr rfl) (by kernel_rfl) (int_lss (P:=Tryz.prog) (t:=3) (k:=.i64) (x:=(.tmp 25)) (y:=(.tmp 24)) (a:=x25) (b:=x24) (v:=false) (decide_eq_false g1)) (by kernel_rfl))
set_option maxRecDepth 100000 in
theorem at87_j0 {r:(List (S67)) × List Int × Int × Int} {s0_0:List Int} {s0_1:Int} {s0_2:Int} {k:Nat} {x7:List Int} {x1001:Int} {x1002:Int} (h:spec_l1Cur_surePuzzle.j0 k x7 s0_0 x1001 x1002 = some r):AtP Tryz.prog 39 (bodyOf Tryz.f87) (KR Tryz.prog Tryz.f87.results.toList (o87 r s0_0 s0_1 s0_2) (p87 r s0_0 s0_1 s0_2)) [true,true,true] [] (lookA [(0,.loc 1000000 0),(6,.loc 45 0),(7,.row 57),(45,.box (.agg [.val (.slice none 0 0),.val (.slice none 0 0)])),(57,.ow false 3 (iI .i64 x7)),(1000000,.box (.agg [.sl (iI .u8 s0_0),vi x1001,.val (.int .u64 x1002)]))]):=by
 cases k with
 | zero => simp [spec_l1Cur_surePuzzle.j0] at h
 | succ k =>
  rw [spec_l1Cur_surePuzzle.j0] at h
  obtain ⟨t322,c1,h2⟩:=bd_ h
  obtain ⟨t325,c3,h4⟩:=bd_ h2
  exact leafAt (hn:=hn87) 8 [.call (.sl (iS67 t322)),.callH [] (.row 60) [(60,.ow true 67 (iS67 t325))],.go,.val (.int .i64 (x7.length:Int)),.nl 47 1 true 3 800801] [] (at87_l0 _ _ (q87_l0_mk s0_0 s0_1 s0_2 h4)) (And.intro (And.intro (ad_40 c1) (CallH.ren [(500000,60)] rfl rfl (ad_39 c3))) (iI_len (k:=.i64) (xs:=x7))) (by kernel_rfl)
set_option maxRecDepth 100000 in
theorem ad_87 {k:Nat} {s0_0:List Int} {s0_1:Int} {s0_2:Int} {a1:Int} {a2:Int} {r1:List (S67)} {r2:List Int} {r3:Int} {r4:Int} (h:spec_l1Cur_surePuzzle.f k s0_0 s0_1 s0_2 a1 a2 = some (r1,r2,r3,r4)):CallH Tryz.prog 87 [.loc 1000000 0,vi a1,vi a2] [(1000000,.box (.agg [.sl (iI .u8 s0_0),vi s0_1,.val (.int .u64 s0_2)]))] (.agg [.row 500000,.row 500001]) [(1000000,.box (.agg [.sl (iI .u8 s0_0),vi r3,.val (.int .u64 r4)])),(500000,.ow true 67 (iS67 r1)),(500001,.ow true 3 (iI .i64 r2))]:=by
 unfold spec_l1Cur_surePuzzle.f at h
 refine call_ok (c:=bodyOf Tryz.f87) (rs:=o87 (r1,r2,r3,r4) s0_0 s0_1 s0_2) (post:=p87 (r1,r2,r3,r4) s0_0 s0_1 s0_2) Tryz.func87 rfl rfl rfl (by kernel_rfl) ?_
 show AtP Tryz.prog 39 (bodyOf Tryz.f87) (KR Tryz.prog Tryz.f87.results.toList (o87 (r1,r2,r3,r4) s0_0 s0_1 s0_2) (p87 (r1,r2,r3,r4) s0_0 s0_1 s0_2)) [] [] (lookA [(0,.loc 1000000 0),(1,vi a1),(2,vi a2),(1000000,.box (.agg [.sl (iI .u8 s0_0),vi s0_1,.val (.int .u64 s0_2)]))])
 obtain ⟨⟨bt314_1,bt314_2,bt314_3⟩,c1,h2⟩:=bd_ h
 try dsimp only at h2
 rcases ite_ h2 with ⟨g3,h4⟩ | ⟨g3,h4⟩
 ·exact leafAt (hn:=hn87) 13 [.callH [1000000] (.row 53) [(1000000,.box (.agg [.sl (iI .u8 s0_0),vi bt314_2,.val (.int .u64 bt314_3)])),(53,.ow false 3 (iI .i64 bt314_1))],.val (.int .i64 (bt314_1.length:Int)),.val (.bool true),.go] [] (at87_j0 h4) (And.intro (CallH.ren [(500000,53),(1000000,1000000)] rfl rfl (ad_74 c1)) (And.intro (iI_len (k:=.i64) (xs:=bt314_1)) (int_lss (P:=Tryz.prog) (t:=3) (k:=.i64) (x:=(.tmp 16)) (y:=(.const (.int .i64 2))) (a:=(bt314_1.length:Int)) (b:=2) (v:=true) (decide_eq_true g3)))) (by kernel_rfl)
 ·exact leafAt (hn:=hn87) 13 [.callH [1000000] (.row 53) [(1000000,.box (.agg [.sl (iI .u8 s0_0),vi bt314_2,.val (.int .u64 bt314_3)])),(53,.ow false 3 (iI .i64 bt314_1))],.val (.int .i64 (bt314_1.length:Int)),.val (.bool false)] [(57,53)] (at87_j0 h4) (And.intro (CallH.ren [(500000,53),(1000000,1000000)] rfl rfl (ad_74 c1)) (And.intro (iI_len (k:=.i64) (xs:=bt314_1)) (int_lss (P:=Tryz.prog) (t:=3) (k:=.i64) (x:=(.tmp 16)) (y:=(.const (.int .i64 2))) (a:=(bt314_1.length:Int)) (b:=2) (v:=false) (decide_eq_false g3)))) (by kernel_rfl)

def hn106:Hint:=⟨[(9,[45]),(10,[1000000]),(18,[1000000]),(22,[1000000]),(27,[43]),(31,[43]),(33,[69])]⟩
def o106 (r:(List (S67)) × Int × Int) (s0_0:List Int) (s0_1:Int) (s0_2:Int):List AV:=[.row 500000]
def p106 (r:(List (S67)) × Int × Int) (s0_0:List Int) (s0_1:Int) (s0_2:Int):List (Nat × AV):=[(1000000,.box (.agg [.sl (iI .u8 s0_0),vi r.2.1,.val (.int .u64 r.2.2)])),(500000,.ow false 67 (iS67 r.1))]
def q106_l0 (r:(List (S67)) × Int × Int) (s0_0:List Int) (s0_1:Int) (s0_2:Int) (k:Nat) (L:List (Nat × AV)):Prop:=∃ (x2:Int) (x7:List (S67)) (x8:Int) (x1001:Int) (x1002:Int),L = [(0,.loc 1000000 0),(2,vi x2),(7,.row 43),(8,vi x8),(43,.ow false 67 (iS67 x7)),(1000000,.box (.agg [.sl (iI .u8 s0_0),vi x1001,.val (.int .u64 x1002)]))] ∧ spec_l1Cur_sureHand.l0 k x2 x7 x8 s0_0 x1001 x1002 = some r
theorem q106_l0_mk {r:(List (S67)) × Int × Int} (s0_0:List Int) (s0_1:Int) (s0_2:Int) {k:Nat} {x2:Int} {x7:List (S67)} {x8:Int} {x1001:Int} {x1002:Int} (h:spec_l1Cur_sureHand.l0 k x2 x7 x8 s0_0 x1001 x1002 = some r):q106_l0 r s0_0 s0_1 s0_2 k [(0,.loc 1000000 0),(2,vi x2),(7,.row 43),(8,vi x8),(43,.ow false 67 (iS67 x7)),(1000000,.box (.agg [.sl (iI .u8 s0_0),vi x1001,.val (.int .u64 x1002)]))]:=⟨x2,x7,x8,x1001,x1002,rfl,h⟩
set_option maxRecDepth 100000 in
theorem at106_l0 {r:(List (S67)) × Int × Int} {s0_0:List Int} {s0_1:Int} {s0_2:Int}:∀ k L,q106_l0 r s0_0 s0_1 s0_2 k L → AtP Tryz.prog 36 (bodyOf Tryz.f106) (KR Tryz.prog Tryz.f106.results.toList (o106 r s0_0 s0_1 s0_2) (p106 r s0_0 s0_1 s0_2)) [true,true,false,true,false] [] (lookA L) :=
 at_loop (by kernel_rfl) (fun _ => by kernel_rfl) (q106_l0 r s0_0 s0_1 s0_2) (by
  rintro k _ ⟨x2,x7,x8,x1001,x1002,rfl,h⟩
  cases k with
  | zero => simp [spec_l1Cur_sureHand.l0] at h
  | succ k =>
   rw [spec_l1Cur_sureHand.l0] at h
   rcases ite_ h with ⟨g1,h2⟩ | ⟨g1,h2⟩
   ·obtain ⟨⟨bt342_1,bt342_2,bt342_3⟩,c3,h4⟩:=bd_ h2
    try dsimp only at h4
    obtain ⟨⟨bt345_1,bt345_2,bt345_3⟩,c5,h6⟩:=bd_ h4
    try dsimp only at h6
    obtain ⟨⟨bt348_1,bt348_2⟩,c7,h8⟩:=bd_ h6
    try dsimp only at h8
    obtain ⟨t351,c9,h10⟩:=bd_ h8
    rcases ite_ h10 with ⟨g11,h12⟩ | ⟨g11,h12⟩
    ·obtain ⟨g13,h14⟩:=ip_ h12
     exact leafBack (hn:=hn106) 20 [.val (.bool true),.val (.int .i64 (wrap64 (x2 + 1))),.callH [1000000] (vi bt342_1) [(1000000,.box (.agg [.sl (iI .u8 s0_0),vi bt342_2,.val (.int .u64 bt342_3)]))],.val (.int .i64 (wrap64 (x2 + 1))),.callH [1000000] (vi bt345_1) [(1000000,.box (.agg [.sl (iI .u8 s0_0),vi bt345_2,.val (.int .u64 bt345_3)]))],.call (.agg [vi bt348_1,vi bt348_2]),.call (vi t351),.val (.bool true),.go,.elem (.ow false 67 (iS67 (x7 ++ ([(⟨bt348_1,bt348_2⟩ : S67)])))),.val (.int .i64 (wrap64 (x8 - 1)))] [(43,70)] (q106_l0_mk s0_0 s0_1 s0_2 h14) (Nat.lt_succ_self k) (And.intro (int_gtr (P:=Tryz.prog) (t:=3) (k:=.i64) (x:=(.tmp 14)) (y:=(.const (.int .i64 0))) (a:=x8) (b:=0) (v:=true) (decide_eq_true g1)) (And.intro (And.intro (int_add (P:=Tryz.prog) (t:=3) (k:=.i64) (x:=(.tmp 19)) (y:=(.const (.int .i64 1))) (a:=x2) (b:=1) (c:=(wrap64 (x2 + 1))) (IntWalk.i64_left _)) (And.intro (CallH.ren [(1000000,1000000)] rfl rfl (ad_31 c3)) (And.intro (int_add (P:=Tryz.prog) (t:=3) (k:=.i64) (x:=(.tmp 23)) (y:=(.const (.int .i64 1))) (a:=x2) (b:=1) (c:=(wrap64 (x2 + 1))) (IntWalk.i64_left _)) (And.intro (CallH.ren [(1000000,1000000)] rfl rfl (ad_31 c5)) (ad_73 c7))))) (And.intro (And.intro (ad_102 c9) (int_lss (P:=Tryz.prog) (t:=3) (k:=.i64) (x:=(.tmp 29)) (y:=(.const (.int .i64 0))) (a:=t351) (b:=0) (v:=true) (decide_eq_true g11))) (And.intro (iS67_app (N:=8796093022208) (b:=16) (xs:=x7) (ys:=[(⟨bt348_1,bt348_2⟩ : S67)]) (by decide) (Nat.succ_le_of_lt g13)) (int_sub (P:=Tryz.prog) (t:=3) (k:=.i64) (x:=(.tmp 16)) (y:=(.const (.int .i64 1))) (a:=x8) (b:=1) (c:=(wrap64 (x8 - 1))) (IntWalk.i64_left _)))))) (by kernel_rfl)
    ·exact leafBack (hn:=hn106) 20 [.val (.bool true),.val (.int .i64 (wrap64 (x2 + 1))),.callH [1000000] (vi bt342_1) [(1000000,.box (.agg [.sl (iI .u8 s0_0),vi bt342_2,.val (.int .u64 bt342_3)]))],.val (.int .i64 (wrap64 (x2 + 1))),.callH [1000000] (vi bt345_1) [(1000000,.box (.agg [.sl (iI .u8 s0_0),vi bt345_2,.val (.int .u64 bt345_3)]))],.call (.agg [vi bt348_1,vi bt348_2]),.call (vi t351),.val (.bool false),.val (.int .i64 (wrap64 (x8 - 1)))] [] (q106_l0_mk s0_0 s0_1 s0_2 h12) (Nat.lt_succ_self k) (And.intro (int_gtr (P:=Tryz.prog) (t:=3) (k:=.i64) (x:=(.tmp 14)) (y:=(.const (.int .i64 0))) (a:=x8) (b:=0) (v:=true) (decide_eq_true g1)) (And.intro (And.intro (int_add (P:=Tryz.prog) (t:=3) (k:=.i64) (x:=(.tmp 19)) (y:=(.const (.int .i64 1))) (a:=x2) (b:=1) (c:=(wrap64 (x2 + 1))) (IntWalk.i64_left _)) (And.intro (CallH.ren [(1000000,1000000)] rfl rfl (ad_31 c3)) (And.intro (int_add (P:=Tryz.prog) (t:=3) (k:=.i64) (x:=(.tmp 23)) (y:=(.const (.int .i64 1))) (a:=x2) (b:=1) (c:=(wrap64 (x2 + 1))) (IntWalk.i64_left _)) (And.intro (CallH.ren [(1000000,1000000)] rfl rfl (ad_31 c5)) (ad_73 c7))))) (And.intro (And.intro (ad_102 c9) (int_lss (P:=Tryz.prog) (t:=3) (k:=.i64) (x:=(.tmp 29)) (y:=(.const (.int .i64 0))) (a:=t351) (b:=0) (v:=false) (decide_eq_false g11))) (int_sub (P:=Tryz.prog) (t:=3) (k:=.i64) (x:=(.tmp 16)) (y:=(.const (.int .i64 1))) (a:=x8) (b:=1) (c:=(wrap64 (x8 - 1))) (IntWalk.i64_left _))))) (by kernel_rfl)
   ·obtain rfl:=Option.some.inj h2
    exact leafRet (hn:=hn106) 14 [.val (.bool false)] [(500000,43)] .ret (.inr rfl) (by kernel_rfl) (int_gtr (P:=Tryz.prog) (t:=3) (k:=.i64) (x:=(.tmp 14)) (y:=(.const (.int .i64 0))) (a:=x8) (b:=0) (v:=false) (decide_eq_false g1)) (by kernel_rfl))
set_option maxRecDepth 100000 in
theorem ad_106 {k:Nat} {s0_0:List Int} {s0_1:Int} {s0_2:Int} {a1:Int} {a2:Int} {r1:List (S67)} {r2:Int} {r3:Int} (h:spec_l1Cur_sureHand.f k s0_0 s0_1 s0_2 a1 a2 = some (r1,r2,r3)):CallH Tryz.prog 106 [.loc 1000000 0,vi a1,vi a2] [(1000000,.box (.agg [.sl (iI .u8 s0_0),vi s0_1,.val (.int .u64 s0_2)]))] (.row 500000) [(1000000,.box (.agg [.sl (iI .u8 s0_0),vi r2,.val (.int .u64 r3)])),(500000,.ow false 67 (iS67 r1))]:=by
 unfold spec_l1Cur_sureHand.f at h
 refine call_ok (c:=bodyOf Tryz.f106) (rs:=o106 (r1,r2,r3) s0_0 s0_1 s0_2) (post:=p106 (r1,r2,r3) s0_0 s0_1 s0_2) Tryz.func106 rfl rfl rfl (by kernel_rfl) ?_
 show AtP Tryz.prog 36 (bodyOf Tryz.f106) (KR Tryz.prog Tryz.f106.results.toList (o106 (r1,r2,r3) s0_0 s0_1 s0_2) (p106 (r1,r2,r3) s0_0 s0_1 s0_2)) [] [] (lookA [(0,.loc 1000000 0),(1,vi a1),(2,vi a2),(1000000,.box (.agg [.sl (iI .u8 s0_0),vi s0_1,.val (.int .u64 s0_2)]))])
 obtain ⟨⟨bt339_1,bt339_2,bt339_3⟩,c1,h2⟩:=bd_ h
 try dsimp only at h2
 exact leafAt (hn:=hn106) 11 [.nil false 67,.nil false 67,.val (.int .i64 (wrap64 (a1 + 1))),.callH [1000000] (vi bt339_1) [(1000000,.box (.agg [.sl (iI .u8 s0_0),vi bt339_2,.val (.int .u64 bt339_3)]))]] [] (at106_l0 _ _ (q106_l0_mk s0_0 s0_1 s0_2 h2)) (And.intro (int_add (P:=Tryz.prog) (t:=3) (k:=.i64) (x:=(.tmp 11)) (y:=(.const (.int .i64 1))) (a:=a1) (b:=1) (c:=(wrap64 (a1 + 1))) (IntWalk.i64_left _)) (CallH.ren [(1000000,1000000)] rfl rfl (ad_31 c1))) (by kernel_rfl)

def hn107:Hint:=⟨[(2,[19]),(3,[1000000]),(5,[1000000]),(6,[23]),(8,[1000000]),(9,[26]),(12,[1000000]),(14,[1000000])]⟩
def o107 (r:Int × Int × Int × Int) (s0_0:List Int) (s0_1:Int) (s0_2:Int):List AV:=[.agg [vi r.1,vi r.2.1]]
def p107 (r:Int × Int × Int × Int) (s0_0:List Int) (s0_1:Int) (s0_2:Int):List (Nat × AV):=[(1000000,.box (.agg [.sl (iI .u8 s0_0),vi r.2.2.1,.val (.int .u64 r.2.2.2)]))]
set_option maxRecDepth 100000 in
theorem ad_107 {s0_0:List Int} {s0_1:Int} {s0_2:Int} {r1:Int} {r2:Int} {r3:Int} {r4:Int} (h:spec_l1Cur_tile.f s0_0 s0_1 s0_2 = some (r1,r2,r3,r4)):CallH Tryz.prog 107 [.loc 1000000 0] [(1000000,.box (.agg [.sl (iI .u8 s0_0),vi s0_1,.val (.int .u64 s0_2)]))] (.agg [vi r1,vi r2]) [(1000000,.box (.agg [.sl (iI .u8 s0_0),vi r3,.val (.int .u64 r4)]))]:=by
 unfold spec_l1Cur_tile.f at h
 refine call_ok (c:=bodyOf Tryz.f107) (rs:=o107 (r1,r2,r3,r4) s0_0 s0_1 s0_2) (post:=p107 (r1,r2,r3,r4) s0_0 s0_1 s0_2) Tryz.func107 rfl rfl rfl (by kernel_rfl) ?_
 show AtP Tryz.prog 17 (bodyOf Tryz.f107) (KR Tryz.prog Tryz.f107.results.toList (o107 (r1,r2,r3,r4) s0_0 s0_1 s0_2) (p107 (r1,r2,r3,r4) s0_0 s0_1 s0_2)) [] [] (lookA [(0,.loc 1000000 0),(1000000,.box (.agg [.sl (iI .u8 s0_0),vi s0_1,.val (.int .u64 s0_2)]))])
 obtain ⟨⟨bt356_1,bt356_2,bt356_3⟩,c1,h2⟩:=bd_ h
 try dsimp only at h2
 rcases ite_ h2 with ⟨g3,h4⟩ | ⟨g3,h4⟩
 ·subst g3
  obtain ⟨⟨bt362_1,bt362_2,bt362_3⟩,c5,h6⟩:=bd_ h4
  try dsimp only at h6
  obtain ⟨⟨bt368_1,bt368_2,bt368_3⟩,c7,h8⟩:=bd_ h6
  try dsimp only at h8
  obtain ⟨rfl,rfl,rfl,rfl⟩:=pr4_ h8
  exact leafRet (hn:=hn107) 13 [.callH [1000000] (vb true) [(1000000,.box (.agg [.sl (iI .u8 s0_0),vi bt356_2,.val (.int .u64 bt356_3)]))],.go,.callH [1000000] (vi bt362_1) [(1000000,.box (.agg [.sl (iI .u8 s0_0),vi bt362_2,.val (.int .u64 bt362_3)]))],.go,.callH [1000000] (vi bt368_1) [(1000000,.box (.agg [.sl (iI .u8 s0_0),vi bt368_2,.val (.int .u64 bt368_3)]))],.elem (.agg [vi bt362_1,vi bt368_1])] [] .ret (.inr rfl) (by kernel_rfl) (And.intro (CallH.ren [(1000000,1000000)] rfl rfl (ad_52 c1)) (And.intro (CallH.ren [(1000000,1000000)] rfl rfl (ad_75 c5)) (And.intro (CallH.ren [(1000000,1000000)] rfl rfl (ad_75 c7)) (build_67_2 (p0:=bt362_1) (p1:=bt368_1))))) (by kernel_rfl)
 ·obtain rfl:=Bool.eq_false_iff.2 g3
  obtain ⟨⟨bt371_1,bt371_2,bt371_3⟩,c9,h10⟩:=bd_ h4
  try dsimp only at h10
  obtain ⟨⟨bt374_1,bt374_2,bt374_3⟩,c11,h12⟩:=bd_ h10
  try dsimp only at h12
  obtain ⟨⟨bt377_1,bt377_2⟩,c13,h14⟩:=bd_ h12
  try dsimp only at h14
  obtain ⟨rfl,rfl,rfl,rfl⟩:=pr4_ h14
  exact leafRet (hn:=hn107) 14 [.callH [1000000] (vb false) [(1000000,.box (.agg [.sl (iI .u8 s0_0),vi bt356_2,.val (.int .u64 bt356_3)]))],.callH [1000000] (vi bt371_1) [(1000000,.box (.agg [.sl (iI .u8 s0_0),vi bt371_2,.val (.int .u64 bt371_3)]))],.callH [1000000] (vi bt374_1) [(1000000,.box (.agg [.sl (iI .u8 s0_0),vi bt374_2,.val (.int .u64 bt374_3)]))],.call (.agg [vi bt377_1,vi bt377_2])] [] .ret (.inr rfl) (by kernel_rfl) (And.intro (CallH.ren [(1000000,1000000)] rfl rfl (ad_52 c1)) (And.intro (CallH.ren [(1000000,1000000)] rfl rfl (ad_31 c9)) (And.intro (CallH.ren [(1000000,1000000)] rfl rfl (ad_31 c11)) (ad_73 c13)))) (by kernel_rfl)

def hn88:Hint:=⟨[(8,[1000000]),(12,[1000000]),(16,[55]),(17,[1000000]),(19,[63]),(23,[55]),(26,[55]),(27,[55]),(30,[74]),(34,[1000000]),(39,[83]),(41,[85])]⟩
def o88 (r:(List (S67)) × Int × Int) (s0_0:List Int) (s0_1:Int) (s0_2:Int):List AV:=[.sl (iS67 r.1)]
def p88 (r:(List (S67)) × Int × Int) (s0_0:List Int) (s0_1:Int) (s0_2:Int):List (Nat × AV):=[(1000000,.box (.agg [.sl (iI .u8 s0_0),vi r.2.1,.val (.int .u64 r.2.2)]))]
set_option maxRecDepth 100000 in
theorem ad_88 {k:Nat} {s0_0:List Int} {s0_1:Int} {s0_2:Int} {a1:Int} {a2:Int} {r1:List (S67)} {r2:Int} {r3:Int} (h:spec_l1Cur_hand.f k s0_0 s0_1 s0_2 a1 a2 = some (r1,r2,r3)):CallH Tryz.prog 88 [.loc 1000000 0,vi a1,vi a2] [(1000000,.box (.agg [.sl (iI .u8 s0_0),vi s0_1,.val (.int .u64 s0_2)]))] (.sl (iS67 r1)) [(1000000,.box (.agg [.sl (iI .u8 s0_0),vi r2,.val (.int .u64 r3)]))]:=by
 unfold spec_l1Cur_hand.f at h
 refine call_ok (c:=bodyOf Tryz.f88) (rs:=o88 (r1,r2,r3) s0_0 s0_1 s0_2) (post:=p88 (r1,r2,r3) s0_0 s0_1 s0_2) Tryz.func88 rfl rfl rfl (by kernel_rfl) ?_
 show AtP Tryz.prog 44 (bodyOf Tryz.f88) (KR Tryz.prog Tryz.f88.results.toList (o88 (r1,r2,r3) s0_0 s0_1 s0_2) (p88 (r1,r2,r3) s0_0 s0_1 s0_2)) [] [] (lookA [(0,.loc 1000000 0),(1,vi a1),(2,vi a2),(1000000,.box (.agg [.sl (iI .u8 s0_0),vi s0_1,.val (.int .u64 s0_2)]))])
 obtain ⟨⟨bt379_1,bt379_2,bt379_3⟩,c1,h2⟩:=bd_ h
 try dsimp only at h2
 obtain ⟨⟨bt384_1,bt384_2,bt384_3⟩,c3,h4⟩:=bd_ h2
 try dsimp only at h4
 rcases ite_ h4 with ⟨g5,h6⟩ | ⟨g5,h6⟩
 ·obtain ⟨⟨bt387_1,bt387_2,bt387_3,bt387_4⟩,c7,h8⟩:=bd_ h6
  try dsimp only at h8
  obtain ⟨g9,h10⟩:=ip_ h8
  obtain ⟨rfl,rfl,rfl⟩:=pr3_ h10
  exact leafRet (hn:=hn88) 21 [.goT,.callH [1000000] (.row 55) [(1000000,.box (.agg [.sl (iI .u8 s0_0),vi bt379_2,.val (.int .u64 bt379_3)])),(55,.ow false 67 (iS67 bt379_1))],.callH [1000000] (vi bt384_1) [(1000000,.box (.agg [.sl (iI .u8 s0_0),vi bt384_2,.val (.int .u64 bt384_3)]))],.val (.bool true),.callH [1000000] (.agg [vi bt387_1,vi bt387_2]) [(1000000,.box (.agg [.sl (iI .u8 s0_0),vi bt387_3,.val (.int .u64 bt387_4)]))],.go,.elem (.ow false 67 (iS67 (bt379_1 ++ ([(⟨bt387_1,bt387_2⟩ : S67)]))))] [] .ret (.inr rfl) (by kernel_rfl) (And.intro (CallH.ren [(500000,55),(1000000,1000000)] rfl rfl (ad_106 c1)) (And.intro (CallH.ren [(1000000,1000000)] rfl rfl (ad_31 c3)) (And.intro (int_eql (P:=Tryz.prog) (t:=3) (k:=.i64) (x:=(.tmp 13)) (y:=(.const (.int .i64 0))) (a:=bt384_1) (b:=0) (v:=true) (beq_iff_eq.2 g5)) (And.intro (CallH.ren [(1000000,1000000)] rfl rfl (ad_107 c7)) (iS67_app (N:=8796093022208) (b:=16) (xs:=bt379_1) (ys:=[(⟨bt387_1,bt387_2⟩ : S67)]) (by decide) (Nat.succ_le_of_lt g9)))))) (by kernel_rfl)
 ·rcases ite_ h6 with ⟨g11,h12⟩ | ⟨g11,h12⟩
  ·rcases ite_ h12 with ⟨g13,h14⟩ | ⟨g13,h14⟩
   ·obtain ⟨g15,h16⟩:=ip_ h14
    obtain ⟨g17,h18⟩:=ip_ h16
    obtain ⟨rfl,rfl,rfl⟩:=pr3_ h18
    exact leafRet (hn:=hn88) 29 [.goT,.callH [1000000] (.row 55) [(1000000,.box (.agg [.sl (iI .u8 s0_0),vi bt379_2,.val (.int .u64 bt379_3)])),(55,.ow false 67 (iS67 bt379_1))],.callH [1000000] (vi bt384_1) [(1000000,.box (.agg [.sl (iI .u8 s0_0),vi bt384_2,.val (.int .u64 bt384_3)]))],.val (.bool false),.val (.bool true),.val (.int .i64 (bt379_1.length:Int)),.val (.bool true),.elem (.agg [vi ((rd_T67 bt379_1 0).f0),vi ((rd_T67 bt379_1 0).f1)]),.go,.elem (.ow false 67 (iS67 (bt379_1 ++ ([(⟨(rd_T67 bt379_1 0).f0,(rd_T67 bt379_1 0).f1⟩ : S67)]))))] [] .ret (.inr rfl) (by kernel_rfl) (And.intro (CallH.ren [(500000,55),(1000000,1000000)] rfl rfl (ad_106 c1)) (And.intro (CallH.ren [(1000000,1000000)] rfl rfl (ad_31 c3)) (And.intro (int_eql (P:=Tryz.prog) (t:=3) (k:=.i64) (x:=(.tmp 13)) (y:=(.const (.int .i64 0))) (a:=bt384_1) (b:=0) (v:=false) (beq_false_of_ne g5)) (And.intro (int_eql (P:=Tryz.prog) (t:=3) (k:=.i64) (x:=(.tmp 13)) (y:=(.const (.int .i64 1))) (a:=bt384_1) (b:=1) (v:=true) (beq_iff_eq.2 g11)) (And.intro (And.intro (iS67_len (xs:=bt379_1)) (int_gtr (P:=Tryz.prog) (t:=3) (k:=.i64) (x:=(.tmp 24)) (y:=(.const (.int .i64 0))) (a:=(bt379_1.length:Int)) (b:=0) (v:=true) (decide_eq_true (by omega)))) (And.intro (iS67_rd (xs:=bt379_1) (i:=0) (by decide) g15) (iS67_app (N:=8796093022208) (b:=16) (xs:=bt379_1) (ys:=[(⟨(rd_T67 bt379_1 0).f0,(rd_T67 bt379_1 0).f1⟩ : S67)]) (by decide) (Nat.succ_le_of_lt g17)))))))) (by kernel_rfl)
   ·obtain ⟨rfl,rfl,rfl⟩:=pr3_ h14
    exact leafRet (hn:=hn88) 30 [.goT,.callH [1000000] (.row 55) [(1000000,.box (.agg [.sl (iI .u8 s0_0),vi bt379_2,.val (.int .u64 bt379_3)])),(55,.ow false 67 (iS67 bt379_1))],.callH [1000000] (vi bt384_1) [(1000000,.box (.agg [.sl (iI .u8 s0_0),vi bt384_2,.val (.int .u64 bt384_3)]))],.val (.bool false),.val (.bool true),.val (.int .i64 (bt379_1.length:Int)),.val (.bool false)] [] .ret (.inr rfl) (by kernel_rfl) (And.intro (CallH.ren [(500000,55),(1000000,1000000)] rfl rfl (ad_106 c1)) (And.intro (CallH.ren [(1000000,1000000)] rfl rfl (ad_31 c3)) (And.intro (int_eql (P:=Tryz.prog) (t:=3) (k:=.i64) (x:=(.tmp 13)) (y:=(.const (.int .i64 0))) (a:=bt384_1) (b:=0) (v:=false) (beq_false_of_ne g5)) (And.intro (int_eql (P:=Tryz.prog) (t:=3) (k:=.i64) (x:=(.tmp 13)) (y:=(.const (.int .i64 1))) (a:=bt384_1) (b:=1) (v:=true) (beq_iff_eq.2 g11)) (And.intro (iS67_len (xs:=bt379_1)) (int_gtr (P:=Tryz.prog) (t:=3) (k:=.i64) (x:=(.tmp 24)) (y:=(.const (.int .i64 0))) (a:=(bt379_1.length:Int)) (b:=0) (v:=false) (decide_eq_false g13))))))) (by kernel_rfl)
  ·rcases ite_ h12 with ⟨g19,h20⟩ | ⟨g19,h20⟩
   ·obtain ⟨⟨bt398_1,bt398_2,bt398_3⟩,c21,h22⟩:=bd_ h20
    try dsimp only at h22
    obtain ⟨t401,c23,h24⟩:=bd_ h22
    obtain ⟨rfl,rfl,rfl⟩:=pr3_ h24
    exact leafRet (hn:=hn88) 29 [.goT,.callH [1000000] (.row 55) [(1000000,.box (.agg [.sl (iI .u8 s0_0),vi bt379_2,.val (.int .u64 bt379_3)])),(55,.ow false 67 (iS67 bt379_1))],.callH [1000000] (vi bt384_1) [(1000000,.box (.agg [.sl (iI .u8 s0_0),vi bt384_2,.val (.int .u64 bt384_3)]))],.val (.bool false),.val (.bool false),.val (.bool true),.callH [1000000] (vi bt398_1) [(1000000,.box (.agg [.sl (iI .u8 s0_0),vi bt398_2,.val (.int .u64 bt398_3)]))],.callH [] (.row 80) [(80,.ow false 67 (iS67 t401))]] [] .ret (.inr rfl) (by kernel_rfl) (And.intro (CallH.ren [(500000,55),(1000000,1000000)] rfl rfl (ad_106 c1)) (And.intro (CallH.ren [(1000000,1000000)] rfl rfl (ad_31 c3)) (And.intro (int_eql (P:=Tryz.prog) (t:=3) (k:=.i64) (x:=(.tmp 13)) (y:=(.const (.int .i64 0))) (a:=bt384_1) (b:=0) (v:=false) (beq_false_of_ne g5)) (And.intro (int_eql (P:=Tryz.prog) (t:=3) (k:=.i64) (x:=(.tmp 13)) (y:=(.const (.int .i64 1))) (a:=bt384_1) (b:=1) (v:=false) (beq_false_of_ne g11)) (And.intro (int_eql (P:=Tryz.prog) (t:=3) (k:=.i64) (x:=(.tmp 13)) (y:=(.const (.int .i64 2))) (a:=bt384_1) (b:=2) (v:=true) (beq_iff_eq.2 g19)) (And.intro (CallH.ren [(1000000,1000000)] rfl rfl (ad_31 c21)) (CallH.ren [(500000,80)] rfl rfl (ad_103 c23)))))))) (by kernel_rfl)
   ·rcases ite_ h20 with ⟨g25,h26⟩ | ⟨g25,h26⟩
    ·obtain ⟨t404,c27,h28⟩:=bd_ h26
     obtain ⟨g29,h30⟩:=ip_ h28
     obtain ⟨rfl,rfl,rfl⟩:=pr3_ h30
     exact leafRet (hn:=hn88) 33 [.goT,.callH [1000000] (.row 55) [(1000000,.box (.agg [.sl (iI .u8 s0_0),vi bt379_2,.val (.int .u64 bt379_3)])),(55,.ow false 67 (iS67 bt379_1))],.callH [1000000] (vi bt384_1) [(1000000,.box (.agg [.sl (iI .u8 s0_0),vi bt384_2,.val (.int .u64 bt384_3)]))],.val (.bool false),.val (.bool false),.val (.bool false),.val (.bool true),.callH [] (.row 83) [(83,.ow false 67 (iS67 t404))],.go,.go,.elem (.ow false 67 (iS67 (t404 ++ ([(⟨0,0⟩ : S67)]))))] [] .ret (.inr rfl) (by kernel_rfl) (And.intro (CallH.ren [(500000,55),(1000000,1000000)] rfl rfl (ad_106 c1)) (And.intro (CallH.ren [(1000000,1000000)] rfl rfl (ad_31 c3)) (And.intro (int_eql (P:=Tryz.prog) (t:=3) (k:=.i64) (x:=(.tmp 13)) (y:=(.const (.int .i64 0))) (a:=bt384_1) (b:=0) (v:=false) (beq_false_of_ne g5)) (And.intro (int_eql (P:=Tryz.prog) (t:=3) (k:=.i64) (x:=(.tmp 13)) (y:=(.const (.int .i64 1))) (a:=bt384_1) (b:=1) (v:=false) (beq_false_of_ne g11)) (And.intro (int_eql (P:=Tryz.prog) (t:=3) (k:=.i64) (x:=(.tmp 13)) (y:=(.const (.int .i64 2))) (a:=bt384_1) (b:=2) (v:=false) (beq_false_of_ne g19)) (And.intro (int_eql (P:=Tryz.prog) (t:=3) (k:=.i64) (x:=(.tmp 13)) (y:=(.const (.int .i64 3))) (a:=bt384_1) (b:=3) (v:=true) (beq_iff_eq.2 g25)) (And.intro (CallH.ren [(500000,83)] rfl rfl (ad_103 c27)) (iS67_app (N:=8796093022208) (b:=16) (xs:=t404) (ys:=[(⟨0,0⟩ : S67)]) (by decide) (Nat.succ_le_of_lt g29))))))))) (by kernel_rfl)
    ·obtain ⟨rfl,rfl,rfl⟩:=pr3_ h26
     exact leafRet (hn:=hn88) 34 [.goT,.callH [1000000] (.row 55) [(1000000,.box (.agg [.sl (iI .u8 s0_0),vi bt379_2,.val (.int .u64 bt379_3)])),(55,.ow false 67 (iS67 bt379_1))],.callH [1000000] (vi bt384_1) [(1000000,.box (.agg [.sl (iI .u8 s0_0),vi bt384_2,.val (.int .u64 bt384_3)]))],.val (.bool false),.val (.bool false),.val (.bool false),.val (.bool false)] [] .ret (.inr rfl) (by kernel_rfl) (And.intro (CallH.ren [(500000,55),(1000000,1000000)] rfl rfl (ad_106 c1)) (And.intro (CallH.ren [(1000000,1000000)] rfl rfl (ad_31 c3)) (And.intro (int_eql (P:=Tryz.prog) (t:=3) (k:=.i64) (x:=(.tmp 13)) (y:=(.const (.int .i64 0))) (a:=bt384_1) (b:=0) (v:=false) (beq_false_of_ne g5)) (And.intro (int_eql (P:=Tryz.prog) (t:=3) (k:=.i64) (x:=(.tmp 13)) (y:=(.const (.int .i64 1))) (a:=bt384_1) (b:=1) (v:=false) (beq_false_of_ne g11)) (And.intro (int_eql (P:=Tryz.prog) (t:=3) (k:=.i64) (x:=(.tmp 13)) (y:=(.const (.int .i64 2))) (a:=bt384_1) (b:=2) (v:=false) (beq_false_of_ne g19)) (int_eql (P:=Tryz.prog) (t:=3) (k:=.i64) (x:=(.tmp 13)) (y:=(.const (.int .i64 3))) (a:=bt384_1) (b:=3) (v:=false) (beq_false_of_ne g25))))))) (by kernel_rfl)

def hn49:Hint:=⟨[(2,[57]),(3,[58,61,116]),(4,[59]),(5,[1000000]),(6,[61,116]),(7,[1000000]),(11,[58,61,116]),(12,[61,116]),(13,[1000000]),(14,[58,61,116]),(15,[61,116]),(18,[1000000]),(19,[74]),(21,[61,116]),(24,[58,61,116]),(25,[61,116]),(27,[58,61,116]),(30,[58,61,116]),(31,[61]),(34,[58,61,116]),(35,[61]),(36,[61]),(38,[58,61,116]),(39,[61]),(40,[58,61,116]),(41,[61]),(42,[61]),(44,[61]),(45,[58,61,116]),(46,[61]),(48,[61]),(51,[1000000]),(53,[58,61,116]),(54,[61,116])]⟩
def o49 (r:(List (S67)) × List Int × Int × Int) (s0_0:List Int) (s0_1:Int) (s0_2:Int):List AV:=[.agg [.sl (iS67 r.1),.sl (iI .i64 r.2.1)]]
def p49 (r:(List (S67)) × List Int × Int × Int) (s0_0:List Int) (s0_1:Int) (s0_2:Int):List (Nat × AV):=[(1000000,.box (.agg [.sl (iI .u8 s0_0),vi r.2.2.1,.val (.int .u64 r.2.2.2)]))]
set_option maxRecDepth 100000 in
theorem ad_49 {k:Nat} {s0_0:List Int} {s0_1:Int} {s0_2:Int} {r1:List (S67)} {r2:List Int} {r3:Int} {r4:Int} (h:spec_l1Cur_puzzle.f k s0_0 s0_1 s0_2 = some (r1,r2,r3,r4)):CallH Tryz.prog 49 [.loc 1000000 0] [(1000000,.box (.agg [.sl (iI .u8 s0_0),vi s0_1,.val (.int .u64 s0_2)]))] (.agg [.sl (iS67 r1),.sl (iI .i64 r2)]) [(1000000,.box (.agg [.sl (iI .u8 s0_0),vi r3,.val (.int .u64 r4)]))]:=by
 unfold spec_l1Cur_puzzle.f at h
 refine call_ok (c:=bodyOf Tryz.f49) (rs:=o49 (r1,r2,r3,r4) s0_0 s0_1 s0_2) (post:=p49 (r1,r2,r3,r4) s0_0 s0_1 s0_2) Tryz.func49 rfl rfl rfl (by kernel_rfl) ?_
 show AtP Tryz.prog 55 (bodyOf Tryz.f49) (KR Tryz.prog Tryz.f49.results.toList (o49 (r1,r2,r3,r4) s0_0 s0_1 s0_2) (p49 (r1,r2,r3,r4) s0_0 s0_1 s0_2)) [] [] (lookA [(0,.loc 1000000 0),(1000000,.box (.agg [.sl (iI .u8 s0_0),vi s0_1,.val (.int .u64 s0_2)]))])
 obtain ⟨⟨bt411_1,bt411_2,bt411_3,bt411_4⟩,c1,h2⟩:=bd_ h
 try dsimp only at h2
 obtain ⟨⟨bt420_1,bt420_2,bt420_3⟩,c3,h4⟩:=bd_ h2
 try dsimp only at h4
 rcases ite_ h4 with ⟨g5,h6⟩ | ⟨g5,h6⟩
 ·obtain ⟨⟨bt423_1,bt423_2,bt423_3⟩,c7,h8⟩:=bd_ h6
  try dsimp only at h8
  obtain ⟨⟨bt429_1,bt429_2,bt429_3⟩,c9,h10⟩:=bd_ h8
  try dsimp only at h10
  obtain ⟨g11,h12⟩:=ip_ h10
  obtain ⟨g13,h14⟩:=ip_ h12
  obtain ⟨rfl,rfl,rfl,rfl⟩:=pr4_ h14
  exact leafRet (hn:=hn49) 22 [.callH [1000000] (.agg [.row 61,.row 116]) [(1000000,.box (.agg [.sl (iI .u8 s0_0),vi bt411_3,.val (.int .u64 bt411_4)])),(61,.ow true 67 (iS67 bt411_1)),(116,.ow true 3 (iI .i64 bt411_2))],.callH [1000000] (vi bt420_1) [(1000000,.box (.agg [.sl (iI .u8 s0_0),vi bt420_2,.val (.int .u64 bt420_3)]))],.val (.bool true),.val (.int .i64 (bt411_2.length:Int)),.callH [1000000] (vi bt423_1) [(1000000,.box (.agg [.sl (iI .u8 s0_0),vi bt423_2,.val (.int .u64 bt423_3)]))],.go,.callH [1000000] (vi bt429_1) [(1000000,.box (.agg [.sl (iI .u8 s0_0),vi bt429_2,.val (.int .u64 bt429_3)]))],.go,.elem (vi (rd bt411_2 bt423_1)),.elem (.ow true 3 (iI .i64 (bt411_2.set ((bt423_1:Int).toNat) bt429_1))),.fz 61,.fz 116] [] .ret (.inr rfl) (by kernel_rfl) (And.intro (CallH.ren [(500000,61),(500001,116),(1000000,1000000)] rfl rfl (ad_87 c1)) (And.intro (CallH.ren [(1000000,1000000)] rfl rfl (ad_31 c3)) (And.intro (int_eql (P:=Tryz.prog) (t:=3) (k:=.i64) (x:=(.tmp 8)) (y:=(.const (.int .i64 0))) (a:=bt420_1) (b:=0) (v:=true) (beq_iff_eq.2 g5)) (And.intro (iI_len (k:=.i64) (xs:=bt411_2)) (And.intro (CallH.ren [(1000000,1000000)] rfl rfl (ad_31 c7)) (And.intro (CallH.ren [(1000000,1000000)] rfl rfl (ad_75 c9)) (And.intro (iI_lt (k:=.i64) (xs:=bt411_2) (i:=bt423_1) g11 g13) (iI_set (k:=.i64) (xs:=bt411_2) (i:=bt423_1) (x:=bt429_1) g11 g13)))))))) (by kernel_rfl)
 ·rcases ite_ h6 with ⟨g15,h16⟩ | ⟨g15,h16⟩
  ·obtain ⟨g17,h18⟩:=ip_ h16
   obtain ⟨rfl,rfl,rfl,rfl⟩:=pr4_ h18
   exact leafRet (hn:=hn49) 26 [.callH [1000000] (.agg [.row 61,.row 116]) [(1000000,.box (.agg [.sl (iI .u8 s0_0),vi bt411_3,.val (.int .u64 bt411_4)])),(61,.ow true 67 (iS67 bt411_1)),(116,.ow true 3 (iI .i64 bt411_2))],.callH [1000000] (vi bt420_1) [(1000000,.box (.agg [.sl (iI .u8 s0_0),vi bt420_2,.val (.int .u64 bt420_3)]))],.val (.bool false),.val (.bool true),.fz 61,.fz 116,.elem (.sl (iI .i64 (bt411_2.drop (1:Int).toNat)))] [] .ret (.inr rfl) (by kernel_rfl) (And.intro (CallH.ren [(500000,61),(500001,116),(1000000,1000000)] rfl rfl (ad_87 c1)) (And.intro (CallH.ren [(1000000,1000000)] rfl rfl (ad_31 c3)) (And.intro (int_eql (P:=Tryz.prog) (t:=3) (k:=.i64) (x:=(.tmp 8)) (y:=(.const (.int .i64 0))) (a:=bt420_1) (b:=0) (v:=false) (beq_false_of_ne g5)) (And.intro (int_eql (P:=Tryz.prog) (t:=3) (k:=.i64) (x:=(.tmp 8)) (y:=(.const (.int .i64 1))) (a:=bt420_1) (b:=1) (v:=true) (beq_iff_eq.2 g15)) (iI_drop (k:=.i64) (xs:=bt411_2) (a:=1) (by decide) g17))))) (by kernel_rfl)
  ·rcases ite_ h16 with ⟨g19,h20⟩ | ⟨g19,h20⟩
   ·rcases ite_ h20 with ⟨g21,h22⟩ | ⟨g21,h22⟩
    ·obtain ⟨g23,h24⟩:=ip_ h22
     obtain ⟨g25,h26⟩:=ip_ h24
     obtain ⟨rfl,rfl,rfl,rfl⟩:=pr4_ h26
     exact leafRet (hn:=hn49) 40 [.callH [1000000] (.agg [.row 61,.row 116]) [(1000000,.box (.agg [.sl (iI .u8 s0_0),vi bt411_3,.val (.int .u64 bt411_4)])),(61,.ow true 67 (iS67 bt411_1)),(116,.ow true 3 (iI .i64 bt411_2))],.callH [1000000] (vi bt420_1) [(1000000,.box (.agg [.sl (iI .u8 s0_0),vi bt420_2,.val (.int .u64 bt420_3)]))],.val (.bool false),.val (.bool false),.val (.bool true),.val (.int .i64 (bt411_1.length:Int)),.val (.bool true),.go,.elem (.agg [vi ((rd_T67 bt411_1 0).f0),vi ((rd_T67 bt411_1 0).f1)]),.go,.elem (.agg [vi ((rd_T67 bt411_1 1).f0),vi ((rd_T67 bt411_1 1).f1)]),.go,.elem (.agg [vi ((rd_T67 bt411_1 0).f0),vi ((rd_T67 bt411_1 0).f1)]),.elem (.ow true 67 (iS67 (bt411_1.set ((0:Int).toNat) (⟨(rd_T67 bt411_1 1).f0,(rd_T67 bt411_1 1).f1⟩ : S67)))),.go,.elem (.agg [vi ((rd_T67 (bt411_1.set ((0:Int).toNat) (⟨(rd_T67 bt411_1 1).f0,(rd_T67 bt411_1 1).f1⟩ : S67)) 1).f0),vi ((rd_T67 (bt411_1.set ((0:Int).toNat) (⟨(rd_T67 bt411_1 1).f0,(rd_T67 bt411_1 1).f1⟩ : S67)) 1).f1)]),.elem (.ow true 67 (iS67 ((bt411_1.set ((0:Int).toNat) (⟨(rd_T67 bt411_1 1).f0,(rd_T67 bt411_1 1).f1⟩ : S67)).set ((1:Int).toNat) (⟨(rd_T67 bt411_1 0).f0,(rd_T67 bt411_1 0).f1⟩ : S67)))),.fz 61,.fz 116] [] .ret (.inr rfl) (by kernel_rfl) (And.intro (CallH.ren [(500000,61),(500001,116),(1000000,1000000)] rfl rfl (ad_87 c1)) (And.intro (CallH.ren [(1000000,1000000)] rfl rfl (ad_31 c3)) (And.intro (int_eql (P:=Tryz.prog) (t:=3) (k:=.i64) (x:=(.tmp 8)) (y:=(.const (.int .i64 0))) (a:=bt420_1) (b:=0) (v:=false) (beq_false_of_ne g5)) (And.intro (int_eql (P:=Tryz.prog) (t:=3) (k:=.i64) (x:=(.tmp 8)) (y:=(.const (.int .i64 1))) (a:=bt420_1) (b:=1) (v:=false) (beq_false_of_ne g15)) (And.intro (int_eql (P:=Tryz.prog) (t:=3) (k:=.i64) (x:=(.tmp 8)) (y:=(.const (.int .i64 2))) (a:=bt420_1) (b:=2) (v:=true) (beq_iff_eq.2 g19)) (And.intro (And.intro (iS67_len (xs:=bt411_1)) (int_gtr (P:=Tryz.prog) (t:=3) (k:=.i64) (x:=(.tmp 32)) (y:=(.const (.int .i64 1))) (a:=(bt411_1.length:Int)) (b:=1) (v:=true) (decide_eq_true (by omega)))) (And.intro (And.intro (iS67_lt (xs:=bt411_1) (i:=0) (by decide) g23) (And.right (iS67_rd (xs:=bt411_1) (i:=0) (by decide) g23))) (And.intro (And.intro (iS67_lt (xs:=bt411_1) (i:=1) (by decide) g25) (And.intro (And.right (iS67_rd (xs:=bt411_1) (i:=1) (by decide) g25)) (And.intro (iS67_lt (xs:=bt411_1) (i:=0) (by decide) g23) (iS67_set (xs:=bt411_1) (i:=0) (x:=(⟨(rd_T67 bt411_1 1).f0,(rd_T67 bt411_1 1).f1⟩ : S67)) (by decide) g23)))) (And.intro (iS67_lt (xs:=(bt411_1.set ((0:Int).toNat) (⟨(rd_T67 bt411_1 1).f0,(rd_T67 bt411_1 1).f1⟩ : S67))) (i:=1) (by decide) (by simp only [List.length_set]; omega)) (iS67_set (xs:=(bt411_1.set ((0:Int).toNat) (⟨(rd_T67 bt411_1 1).f0,(rd_T67 bt411_1 1).f1⟩ : S67))) (i:=1) (x:=(⟨(rd_T67 bt411_1 0).f0,(rd_T67 bt411_1 0).f1⟩ : S67)) (by decide) (by simp only [List.length_set]; omega))))))))))) (by kernel_rfl)
    ·obtain ⟨rfl,rfl,rfl,rfl⟩:=pr4_ h22
     exact leafRet (hn:=hn49) 34 [.callH [1000000] (.agg [.row 61,.row 116]) [(1000000,.box (.agg [.sl (iI .u8 s0_0),vi bt411_3,.val (.int .u64 bt411_4)])),(61,.ow true 67 (iS67 bt411_1)),(116,.ow true 3 (iI .i64 bt411_2))],.callH [1000000] (vi bt420_1) [(1000000,.box (.agg [.sl (iI .u8 s0_0),vi bt420_2,.val (.int .u64 bt420_3)]))],.val (.bool false),.val (.bool false),.val (.bool true),.val (.int .i64 (bt411_1.length:Int)),.val (.bool false),.fz 61,.fz 116] [] .ret (.inr rfl) (by kernel_rfl) (And.intro (CallH.ren [(500000,61),(500001,116),(1000000,1000000)] rfl rfl (ad_87 c1)) (And.intro (CallH.ren [(1000000,1000000)] rfl rfl (ad_31 c3)) (And.intro (int_eql (P:=Tryz.prog) (t:=3) (k:=.i64) (x:=(.tmp 8)) (y:=(.const (.int .i64 0))) (a:=bt420_1) (b:=0) (v:=false) (beq_false_of_ne g5)) (And.intro (int_eql (P:=Tryz.prog) (t:=3) (k:=.i64) (x:=(.tmp 8)) (y:=(.const (.int .i64 1))) (a:=bt420_1) (b:=1) (v:=false) (beq_false_of_ne g15)) (And.intro (int_eql (P:=Tryz.prog) (t:=3) (k:=.i64) (x:=(.tmp 8)) (y:=(.const (.int .i64 2))) (a:=bt420_1) (b:=2) (v:=true) (beq_iff_eq.2 g19)) (And.intro (iS67_len (xs:=bt411_1)) (int_gtr (P:=Tryz.prog) (t:=3) (k:=.i64) (x:=(.tmp 32)) (y:=(.const (.int .i64 1))) (a:=(bt411_1.length:Int)) (b:=1) (v:=false) (decide_eq_false g21)))))))) (by kernel_rfl)
   ·rcases ite_ h20 with ⟨g27,h28⟩ | ⟨g27,h28⟩
    ·obtain ⟨⟨bt441_1,bt441_2,bt441_3⟩,c29,h30⟩:=bd_ h28
     try dsimp only at h30
     obtain ⟨rfl,rfl,rfl,rfl⟩:=pr4_ h30
     exact leafRet (hn:=hn49) 34 [.callH [1000000] (.agg [.row 61,.row 116]) [(1000000,.box (.agg [.sl (iI .u8 s0_0),vi bt411_3,.val (.int .u64 bt411_4)])),(61,.ow true 67 (iS67 bt411_1)),(116,.ow true 3 (iI .i64 bt411_2))],.callH [1000000] (vi bt420_1) [(1000000,.box (.agg [.sl (iI .u8 s0_0),vi bt420_2,.val (.int .u64 bt420_3)]))],.val (.bool false),.val (.bool false),.val (.bool false),.val (.bool true),.callH [1000000] (.sl (iS67 bt441_1)) [(1000000,.box (.agg [.sl (iI .u8 s0_0),vi bt441_2,.val (.int .u64 bt441_3)]))],.fz 61,.fz 116] [] .ret (.inr rfl) (by kernel_rfl) (And.intro (CallH.ren [(500000,61),(500001,116),(1000000,1000000)] rfl rfl (ad_87 c1)) (And.intro (CallH.ren [(1000000,1000000)] rfl rfl (ad_31 c3)) (And.intro (int_eql (P:=Tryz.prog) (t:=3) (k:=.i64) (x:=(.tmp 8)) (y:=(.const (.int .i64 0))) (a:=bt420_1) (b:=0) (v:=false) (beq_false_of_ne g5)) (And.intro (int_eql (P:=Tryz.prog) (t:=3) (k:=.i64) (x:=(.tmp 8)) (y:=(.const (.int .i64 1))) (a:=bt420_1) (b:=1) (v:=false) (beq_false_of_ne g15)) (And.intro (int_eql (P:=Tryz.prog) (t:=3) (k:=.i64) (x:=(.tmp 8)) (y:=(.const (.int .i64 2))) (a:=bt420_1) (b:=2) (v:=false) (beq_false_of_ne g19)) (And.intro (int_eql (P:=Tryz.prog) (t:=3) (k:=.i64) (x:=(.tmp 8)) (y:=(.const (.int .i64 3))) (a:=bt420_1) (b:=3) (v:=true) (beq_iff_eq.2 g27)) (CallH.ren [(1000000,1000000)] rfl rfl (ad_88 c29)))))))) (by kernel_rfl)
    ·obtain ⟨rfl,rfl,rfl,rfl⟩:=pr4_ h28
     exact leafRet (hn:=hn49) 34 [.callH [1000000] (.agg [.row 61,.row 116]) [(1000000,.box (.agg [.sl (iI .u8 s0_0),vi bt411_3,.val (.int .u64 bt411_4)])),(61,.ow true 67 (iS67 bt411_1)),(116,.ow true 3 (iI .i64 bt411_2))],.callH [1000000] (vi bt420_1) [(1000000,.box (.agg [.sl (iI .u8 s0_0),vi bt420_2,.val (.int .u64 bt420_3)]))],.val (.bool false),.val (.bool false),.val (.bool false),.val (.bool false),.fz 61,.fz 116] [] .ret (.inr rfl) (by kernel_rfl) (And.intro (CallH.ren [(500000,61),(500001,116),(1000000,1000000)] rfl rfl (ad_87 c1)) (And.intro (CallH.ren [(1000000,1000000)] rfl rfl (ad_31 c3)) (And.intro (int_eql (P:=Tryz.prog) (t:=3) (k:=.i64) (x:=(.tmp 8)) (y:=(.const (.int .i64 0))) (a:=bt420_1) (b:=0) (v:=false) (beq_false_of_ne g5)) (And.intro (int_eql (P:=Tryz.prog) (t:=3) (k:=.i64) (x:=(.tmp 8)) (y:=(.const (.int .i64 1))) (a:=bt420_1) (b:=1) (v:=false) (beq_false_of_ne g15)) (And.intro (int_eql (P:=Tryz.prog) (t:=3) (k:=.i64) (x:=(.tmp 8)) (y:=(.const (.int .i64 2))) (a:=bt420_1) (b:=2) (v:=false) (beq_false_of_ne g19)) (int_eql (P:=Tryz.prog) (t:=3) (k:=.i64) (x:=(.tmp 8)) (y:=(.const (.int .i64 3))) (a:=bt420_1) (b:=3) (v:=false) (beq_false_of_ne g27))))))) (by kernel_rfl)

def hn50:Hint:=⟨[(4,[53]),(5,[50]),(11,[50]),(17,[50]),(20,[50]),(27,[50]),(32,[50]),(34,[83]),(39,[83]),(42,[50])]⟩
def o50 (r:Bool):List AV:=[vb r]
def p50 (r:Bool):List (Nat × AV):=[]
def q50_l0 (r:Bool) (k:Nat) (L:List (Nat × AV)):Prop:=∃ (x34:List (S67)) (x35:Int) (x36:Int) (x447000:List (S67)) (x447001:List Int),L = [(1,.loc 50 0),(34,.row 83),(35,vi x35),(36,vi x36),(50,.box (.agg [.sl (iS67 x447000),.sl (iI .i64 x447001)])),(83,.ow true 67 (iS67 x34))] ∧ spec_pzGood.l0 k x34 x35 x36 x447000 x447001 = some r
theorem q50_l0_mk {r:Bool} {k:Nat} {x34:List (S67)} {x35:Int} {x36:Int} {x447000:List (S67)} {x447001:List Int} (h:spec_pzGood.l0 k x34 x35 x36 x447000 x447001 = some r):q50_l0 r k [(1,.loc 50 0),(34,.row 83),(35,vi x35),(36,vi x36),(50,.box (.agg [.sl (iS67 x447000),.sl (iI .i64 x447001)])),(83,.ow true 67 (iS67 x34))]:=⟨x34,x35,x36,x447000,x447001,rfl,h⟩
set_option maxRecDepth 100000 in
theorem at50_l0 {r:Bool}:∀ k L,q50_l0 r k L → AtP Tryz.prog 49 (bodyOf Tryz.f50) (KR Tryz.prog Tryz.f50.results.toList (o50 r) (p50 r)) [true,true,false,true,false] [] (lookA L) :=
 at_loop (by kernel_rfl) (fun _ => by kernel_rfl) (q50_l0 r) (by
  rintro k _ ⟨x34,x35,x36,x447000,x447001,rfl,h⟩
  cases k with
  | zero => simp [spec_pzGood.l0] at h
  | succ k =>
   rw [spec_pzGood.l0] at h
   rcases ite_ h with ⟨g1,h2⟩ | ⟨g1,h2⟩
   ·obtain ⟨g3,h4⟩:=ip_ h2
    obtain ⟨g5,h6⟩:=ip_ h4
    obtain ⟨g7,h8⟩:=ip_ h6
    rcases ite_ h8 with ⟨g9,h10⟩ | ⟨g9,h10⟩
    ·obtain rfl:=Option.some.inj h10
     exact leafRet (hn:=hn50) 25 [.val (.bool true),.go,.elem (.agg [vi ((rd_T67 x34 x36).f0),vi ((rd_T67 x34 x36).f1)]),.elem (.agg [vi ((rd_T67 x447000 x36).f0),vi ((rd_T67 x447000 x36).f1)]),.val (.bool true)] [] .ret (.inr rfl) (by kernel_rfl) (And.intro (int_lss (P:=Tryz.prog) (t:=3) (k:=.i64) (x:=(.tmp 36)) (y:=(.tmp 35)) (a:=x36) (b:=x35) (v:=true) (decide_eq_true g1)) (And.intro (And.intro (iS67_lt (xs:=x34) (i:=x36) g3 g5) (And.right (iS67_rd (xs:=x34) (i:=x36) g3 g5))) (And.intro (iS67_rd (xs:=x447000) (i:=x36) g3 g7) (agg_67_neq (x:=(.tmp 41)) (y:=(.tmp 46)) (a0:=((rd_T67 x34 x36).f0)) (b0:=((rd_T67 x447000 x36).f0)) (a1:=((rd_T67 x34 x36).f1)) (b1:=((rd_T67 x447000 x36).f1)) (v:=true) (by simp only [Bool.not_and]; exact g9))))) (by kernel_rfl)
    ·exact leafBack (hn:=hn50) 20 [.val (.bool true),.go,.elem (.agg [vi ((rd_T67 x34 x36).f0),vi ((rd_T67 x34 x36).f1)]),.elem (.agg [vi ((rd_T67 x447000 x36).f0),vi ((rd_T67 x447000 x36).f1)]),.val (.bool false),.val (.int .i64 (wrap64 (x36 + 1)))] [] (q50_l0_mk h10) (Nat.lt_succ_self k) (And.intro (int_lss (P:=Tryz.prog) (t:=3) (k:=.i64) (x:=(.tmp 36)) (y:=(.tmp 35)) (a:=x36) (b:=x35) (v:=true) (decide_eq_true g1)) (And.intro (And.intro (iS67_lt (xs:=x34) (i:=x36) g3 g5) (And.right (iS67_rd (xs:=x34) (i:=x36) g3 g5))) (And.intro (And.intro (iS67_rd (xs:=x447000) (i:=x36) g3 g7) (agg_67_neq (x:=(.tmp 41)) (y:=(.tmp 46)) (a0:=((rd_T67 x34 x36).f0)) (b0:=((rd_T67 x447000 x36).f0)) (a1:=((rd_T67 x34 x36).f1)) (b1:=((rd_T67 x447000 x36).f1)) (v:=false) (by simp only [Bool.not_and]; exact (Bool.eq_false_iff.2 g9)))) (int_add (P:=Tryz.prog) (t:=3) (k:=.i64) (x:=(.tmp 36)) (y:=(.const (.int .i64 1))) (a:=x36) (b:=1) (c:=(wrap64 (x36 + 1))) (IntWalk.i64_left _))))) (by kernel_rfl)
   ·obtain rfl:=Option.some.inj h2
    exact leafRet (hn:=hn50) 14 [.val (.bool false)] [] .ret (.inr rfl) (by kernel_rfl) (int_lss (P:=Tryz.prog) (t:=3) (k:=.i64) (x:=(.tmp 36)) (y:=(.tmp 35)) (a:=x36) (b:=x35) (v:=false) (decide_eq_false g1)) (by kernel_rfl))
set_option maxRecDepth 100000 in
theorem at50_j0 {r:Bool} {k:Nat} {x31:Bool} {x447000:List (S67)} {x447001:List Int} (h:spec_pzGood.j0 k x31 x447000 x447001 = some r):AtP Tryz.prog 49 (bodyOf Tryz.f50) (KR Tryz.prog Tryz.f50.results.toList (o50 r) (p50 r)) [true,false,true] [] (lookA [(1,.loc 50 0),(31,vb x31),(50,.box (.agg [.sl (iS67 x447000),.sl (iI .i64 x447001)]))]):=by
 cases k with
 | zero => simp [spec_pzGood.j0] at h
 | succ k =>
  rw [spec_pzGood.j0] at h
  rcases ite_ h with ⟨g1,h2⟩ | ⟨g1,h2⟩
  ·subst g1
   obtain rfl:=Option.some.inj h2
   exact leafRet (hn:=hn50) 6 [] [] .ret (.inr rfl) (by kernel_rfl) True.intro (by kernel_rfl)
  ·obtain rfl:=Bool.eq_false_iff.2 g1
   obtain ⟨t450,c3,h4⟩:=bd_ h2
   exact leafAt (hn:=hn50) 8 [.callH [] (.row 83) [(83,.ow true 67 (iS67 t450))],.val (.int .i64 (t450.length:Int))] [] (at50_l0 _ _ (q50_l0_mk h4)) (And.intro (CallH.ren [(500000,83)] rfl rfl (ad_39 c3)) (iS67_len (xs:=t450))) (by kernel_rfl)
set_option maxRecDepth 100000 in
theorem ad_50 {k:Nat} {l0_0:List (S67)} {l0_1:List Int} {r:Bool} (h:spec_pzGood.f k l0_0 l0_1 = some r):CallH Tryz.prog 50 [.agg [.sl (iS67 l0_0),.sl (iI .i64 l0_1)]] [] (vb r) []:=by
 unfold spec_pzGood.f at h
 refine call_ok (c:=bodyOf Tryz.f50) (rs:=o50 r) (post:=p50 r) Tryz.func50 rfl rfl rfl (by kernel_rfl) ?_
 show AtP Tryz.prog 49 (bodyOf Tryz.f50) (KR Tryz.prog Tryz.f50.results.toList (o50 r) (p50 r)) [] [] (lookA [(0,.agg [.sl (iS67 l0_0),.sl (iI .i64 l0_1)])])
 obtain ⟨t447,c1,h2⟩:=bd_ h
 rcases ite_ h2 with ⟨g3,h4⟩ | ⟨g3,h4⟩
 ·subst g3
  obtain ⟨t448,c5,h6⟩:=bd_ h4
  rcases ite_ h6 with ⟨g7,h8⟩ | ⟨g7,h8⟩
  ·subst g7
   rcases ite_ h8 with ⟨g9,h10⟩ | ⟨g9,h10⟩
   ·obtain ⟨t449,c11,h12⟩:=bd_ h10
    exact leafAt (hn:=hn50) 7 [.val (.int .i64 (l0_0.length:Int)),.call (vb true),.call (vb true),.val (.int .i64 (l0_1.length:Int)),.val (.int .i64 (l0_0.length:Int)),.val (.int .i64 (wrap64 ((l0_0.length:Int) + 1))),.val (.bool false),.call (vb t449)] [] (at50_j0 h12) (And.intro (iS67_len (xs:=l0_0)) (And.intro (ad_38 c1) (And.intro (ad_80 c5) (And.intro (iI_len (k:=.i64) (xs:=l0_1)) (And.intro (iS67_len (xs:=l0_0)) (And.intro (int_add (P:=Tryz.prog) (t:=3) (k:=.i64) (x:=(.tmp 22)) (y:=(.const (.int .i64 1))) (a:=(l0_0.length:Int)) (b:=1) (c:=(wrap64 ((l0_0.length:Int) + 1))) (IntWalk.i64_left _)) (And.intro (int_neq (P:=Tryz.prog) (t:=3) (k:=.i64) (x:=(.tmp 19)) (y:=(.tmp 23)) (a:=(l0_1.length:Int)) (b:=(wrap64 ((l0_0.length:Int) + 1))) (v:=false) (nbeq_f g9)) (ad_71 c11)))))))) (by kernel_rfl)
   ·exact leafAt (hn:=hn50) 7 [.val (.int .i64 (l0_0.length:Int)),.call (vb true),.call (vb true),.val (.int .i64 (l0_1.length:Int)),.val (.int .i64 (l0_0.length:Int)),.val (.int .i64 (wrap64 ((l0_0.length:Int) + 1))),.val (.bool true)] [] (at50_j0 h10) (And.intro (iS67_len (xs:=l0_0)) (And.intro (ad_38 c1) (And.intro (ad_80 c5) (And.intro (iI_len (k:=.i64) (xs:=l0_1)) (And.intro (iS67_len (xs:=l0_0)) (And.intro (int_add (P:=Tryz.prog) (t:=3) (k:=.i64) (x:=(.tmp 22)) (y:=(.const (.int .i64 1))) (a:=(l0_0.length:Int)) (b:=1) (c:=(wrap64 ((l0_0.length:Int) + 1))) (IntWalk.i64_left _)) (int_neq (P:=Tryz.prog) (t:=3) (k:=.i64) (x:=(.tmp 19)) (y:=(.tmp 23)) (a:=(l0_1.length:Int)) (b:=(wrap64 ((l0_0.length:Int) + 1))) (v:=true) (nbeq_t g9)))))))) (by kernel_rfl)
  ·obtain rfl:=Bool.eq_false_iff.2 g7
   exact leafAt (hn:=hn50) 7 [.val (.int .i64 (l0_0.length:Int)),.call (vb true),.call (vb false)] [] (at50_j0 h8) (And.intro (iS67_len (xs:=l0_0)) (And.intro (ad_38 c1) (ad_80 c5))) (by kernel_rfl)
 ·obtain rfl:=Bool.eq_false_iff.2 g3
  exact leafAt (hn:=hn50) 7 [.val (.int .i64 (l0_0.length:Int)),.call (vb false)] [] (at50_j0 h4) (And.intro (iS67_len (xs:=l0_0)) (ad_38 c1)) (by kernel_rfl)

def hn108:Hint:=⟨[(7,[35]),(14,[35]),(20,[35])]⟩
def o108 (r:Int):List AV:=[vi r]
def p108 (r:Int):List (Nat × AV):=[]
def q108_l0 (r:Int) (k:Nat) (L:List (Nat × AV)):Prop:=∃ (x1:Int) (x5:Int) (x8:List (S67)) (x9:Int) (x10:Int),L = [(1,vi x1),(5,vi x5),(8,.sl (iS67 x8)),(9,vi x9),(10,vi x10)] ∧ spec_tiTimes.l0 k x1 x5 x8 x9 x10 = some r
def hn109:Hint:=⟨[(9,[38]),(11,[40]),(15,[40]),(23,[36]),(25,[54])]⟩
def o109 (r:(List (S67))):List AV:=[.sl (iS67 r)]
def p109 (r:(List (S67))):List (Nat × AV):=[]
def q109_l0 (r:(List (S67))) (k:Nat) (L:List (Nat × AV)):Prop:=∃ (x1:List (S67)) (x2:Bool) (x7:List (S67)) (x11:List (S67)) (x12:Int) (x13:Int),L = [(1,.sl (iS67 x1)),(2,vb x2),(7,.row 36),(11,.row 40),(12,vi x12),(13,vi x13),(36,.ow false 67 (iS67 x7)),(40,.ow true 67 (iS67 x11))] ∧ spec_tiThose.l0 k x1 x2 x7 x11 x12 x13 = some r
def hn11:Hint:=⟨[(2,[39]),(4,[41]),(10,[46]),(26,[46]),(30,[41])]⟩
def o11 (r:(List (S67)) × List Int):List AV:=[.agg [.sl (iS67 r.1),.sl (iI .i64 r.2)]]
def p11 (r:(List (S67)) × List Int):List (Nat × AV):=[]
set_option maxRecDepth 100000 in
theorem ad_11 {k:Nat} {l0:List Int} {r1:List (S67)} {r2:List Int} (h:spec_DrawHarderPuzzle.f k l0 = some (r1,r2)):CallH Tryz.prog 11 [.sl (iI .u8 l0)] [] (.agg [.sl (iS67 r1),.sl (iI .i64 r2)]) []:=by
 unfold spec_DrawHarderPuzzle.f at h
 refine call_ok (c:=bodyOf Tryz.f11) (rs:=o11 (r1,r2)) (post:=p11 (r1,r2)) Tryz.func11 rfl rfl rfl (by kernel_rfl) ?_
 show AtP Tryz.prog 37 (bodyOf Tryz.f11) (KR Tryz.prog Tryz.f11.results.toList (o11 (r1,r2)) (p11 (r1,r2))) [] [] (lookA [(0,.sl (iI .u8 l0))])
 obtain ⟨⟨bt469_1,bt469_2,bt469_3,bt469_4⟩,c1,h2⟩:=bd_ h
 try dsimp only at h2
 obtain ⟨t478,c3,h4⟩:=bd_ h2
 rcases ite_ h4 with ⟨g5,h6⟩ | ⟨g5,h6⟩
 ·subst g5
  obtain ⟨⟨bt479_1,bt479_2⟩,c7,h8⟩:=bd_ h6
  try dsimp only at h8
  rcases ite_ h8 with ⟨g9,h10⟩ | ⟨g9,h10⟩
  ·subst g9
   rcases ite_ h10 with ⟨g11,h12⟩ | ⟨g11,h12⟩
   ·obtain ⟨⟨bt483_1,bt483_2,bt483_3⟩,c13,h14⟩:=bd_ h12
    try dsimp only at h14
    rcases ite_ h14 with ⟨g15,h16⟩ | ⟨g15,h16⟩
    ·subst g15
     obtain ⟨rfl,rfl⟩:=pr2_ h16
     exact leafRet (hn:=hn11) 27 [.go,.callH [46] (.agg [.sl (iS67 bt469_1),.sl (iI .i64 bt469_2)]) [(46,.box (.agg [.sl (iI .u8 l0),vi bt469_3,.val (.int .u64 bt469_4)]))],.call (vb true),.call (.tup [.sl (iL (iI .i64) bt479_1),vb true]),.val (.int .i64 (bt479_1.length:Int)),.val (.bool true),.callH [46] (vb true) [(46,.box (.agg [.sl (iI .u8 l0),vi bt483_2,.val (.int .u64 bt483_3)]))]] [] .ret (.inr rfl) (by kernel_rfl) (And.intro (CallH.ren [(1000000,46)] rfl rfl (ad_49 c1)) (And.intro (ad_50 c3) (And.intro (ad_51 c7) (And.intro (iL_len (f:=(iI .i64)) (xs:=bt479_1)) (And.intro (int_gtr (P:=Tryz.prog) (t:=3) (k:=.i64) (x:=(.tmp 22)) (y:=(.const (.int .i64 0))) (a:=(bt479_1.length:Int)) (b:=0) (v:=true) (decide_eq_true g11)) (CallH.ren [(1000000,46)] rfl rfl (ad_52 c13))))))) (by kernel_rfl)
    ·obtain rfl:=Bool.eq_false_iff.2 g15
     obtain ⟨g17,h18⟩:=ip_ h16
     obtain ⟨rfl,rfl⟩:=pr2_ h18
     exact leafRet (hn:=hn11) 26 [.go,.callH [46] (.agg [.sl (iS67 bt469_1),.sl (iI .i64 bt469_2)]) [(46,.box (.agg [.sl (iI .u8 l0),vi bt469_3,.val (.int .u64 bt469_4)]))],.call (vb true),.call (.tup [.sl (iL (iI .i64) bt479_1),vb true]),.val (.int .i64 (bt479_1.length:Int)),.val (.bool true),.callH [46] (vb false) [(46,.box (.agg [.sl (iI .u8 l0),vi bt483_2,.val (.int .u64 bt483_3)]))],.elem (.sl (iI .i64 (rd_L3 bt479_1 0))),.go] [] .ret (.inr rfl) (by kernel_rfl) (And.intro (CallH.ren [(1000000,46)] rfl rfl (ad_49 c1)) (And.intro (ad_50 c3) (And.intro (ad_51 c7) (And.intro (And.intro (iL_len (f:=(iI .i64)) (xs:=bt479_1)) (And.intro (int_gtr (P:=Tryz.prog) (t:=3) (k:=.i64) (x:=(.tmp 22)) (y:=(.const (.int .i64 0))) (a:=(bt479_1.length:Int)) (b:=0) (v:=true) (decide_eq_true (by omega))) (CallH.ren [(1000000,46)] rfl rfl (ad_52 c13)))) (iL_rd (f:=(iI .i64)) (xs:=bt479_1) (i:=0) (by decide) g17))))) (by kernel_rfl)
   ·obtain ⟨rfl,rfl⟩:=pr2_ h12
    exact leafRet (hn:=hn11) 27 [.go,.callH [46] (.agg [.sl (iS67 bt469_1),.sl (iI .i64 bt469_2)]) [(46,.box (.agg [.sl (iI .u8 l0),vi bt469_3,.val (.int .u64 bt469_4)]))],.call (vb true),.call (.tup [.sl (iL (iI .i64) bt479_1),vb true]),.val (.int .i64 (bt479_1.length:Int)),.val (.bool false)] [] .ret (.inr rfl) (by kernel_rfl) (And.intro (CallH.ren [(1000000,46)] rfl rfl (ad_49 c1)) (And.intro (ad_50 c3) (And.intro (ad_51 c7) (And.intro (iL_len (f:=(iI .i64)) (xs:=bt479_1)) (int_gtr (P:=Tryz.prog) (t:=3) (k:=.i64) (x:=(.tmp 22)) (y:=(.const (.int .i64 0))) (a:=(bt479_1.length:Int)) (b:=0) (v:=false) (decide_eq_false g11)))))) (by kernel_rfl)
  ·obtain rfl:=Bool.eq_false_iff.2 g9
   obtain ⟨rfl,rfl⟩:=pr2_ h10
   exact leafRet (hn:=hn11) 27 [.go,.callH [46] (.agg [.sl (iS67 bt469_1),.sl (iI .i64 bt469_2)]) [(46,.box (.agg [.sl (iI .u8 l0),vi bt469_3,.val (.int .u64 bt469_4)]))],.call (vb true),.call (.tup [.sl (iL (iI .i64) bt479_1),vb false])] [] .ret (.inr rfl) (by kernel_rfl) (And.intro (CallH.ren [(1000000,46)] rfl rfl (ad_49 c1)) (And.intro (ad_50 c3) (ad_51 c7))) (by kernel_rfl)
 ·obtain rfl:=Bool.eq_false_iff.2 g5
  obtain ⟨rfl,rfl⟩:=pr2_ h6
  exact leafRet (hn:=hn11) 20 [.go,.callH [46] (.agg [.sl (iS67 bt469_1),.sl (iI .i64 bt469_2)]) [(46,.box (.agg [.sl (iI .u8 l0),vi bt469_3,.val (.int .u64 bt469_4)]))],.call (vb false)] [] .ret (.inr rfl) (by kernel_rfl) (And.intro (CallH.ren [(1000000,46)] rfl rfl (ad_49 c1)) (ad_50 c3)) (by kernel_rfl)

def hn53:Hint:=⟨[(1,[14])]⟩
def o53 (r:Bool):List AV:=[vb r]
def p53 (r:Bool):List (Nat × AV):=[]
set_option maxRecDepth 100000 in
theorem ad_53 {k:Nat} {l0_0:List (S67)} {l0_1:List Int} {r:Bool} (h:impl_Puzzle_isSingle.f k l0_0 l0_1 = some r):CallH Tryz.prog 53 [.agg [.sl (iS67 l0_0),.sl (iI .i64 l0_1)]] [] (vb r) []:=by
 unfold impl_Puzzle_isSingle.f at h
 refine call_ok (c:=bodyOf Tryz.f53) (rs:=o53 r) (post:=p53 r) Tryz.func53 rfl rfl rfl (by kernel_rfl) ?_
 show AtP Tryz.prog 13 (bodyOf Tryz.f53) (KR Tryz.prog Tryz.f53.results.toList (o53 r) (p53 r)) [] [] (lookA [(0,.agg [.sl (iS67 l0_0),.sl (iI .i64 l0_1)])])
 obtain ⟨⟨bt488_1,bt488_2⟩,c1,h2⟩:=bd_ h
 try dsimp only at h2
 obtain rfl:=Option.some.inj h2
 exact leafRet (hn:=hn53) 10 [.call (.tup [.sl (iL (iI .i64) bt488_1),vb bt488_2]),.val (.int .i64 (bt488_1.length:Int)),.val (.bool ((bt488_1.length:Int) == 1))] [] .ret (.inr rfl) (by kernel_rfl) (And.intro (ad_59 c1) (And.intro (iL_len (f:=(iI .i64)) (xs:=bt488_1)) (int_eql (P:=Tryz.prog) (t:=3) (k:=.i64) (x:=(.tmp 11)) (y:=(.const (.int .i64 1))) (a:=(bt488_1.length:Int)) (b:=1) (v:=((bt488_1.length:Int) == 1)) rfl))) (by kernel_rfl)

def hn55:Hint:=⟨[(6,[27]),(7,[28,34]),(8,[24]),(11,[24]),(14,[34]),(15,[28,34]),(16,[34]),(19,[34]),(20,[34])]⟩
def o55 (r:(List (S67)) × List Int):List AV:=[.agg [.sl (iS67 r.1),.sl (iI .i64 r.2)]]
def p55 (r:(List (S67)) × List Int):List (Nat × AV):=[]
set_option maxRecDepth 100000 in
theorem ad_55 {l0_0:List (S67)} {l0_1:List Int} {a1:Int} {a2:Int} {r1:List (S67)} {r2:List Int} (h:impl_Puzzle_with.f l0_0 l0_1 a1 a2 = some (r1,r2)):CallH Tryz.prog 55 [.agg [.sl (iS67 l0_0),.sl (iI .i64 l0_1)],vi a1,vi a2] [] (.agg [.sl (iS67 r1),.sl (iI .i64 r2)]) []:=by
 unfold impl_Puzzle_with.f at h
 refine call_ok (c:=bodyOf Tryz.f55) (rs:=o55 (r1,r2)) (post:=p55 (r1,r2)) Tryz.func55 rfl rfl rfl (by kernel_rfl) ?_
 show AtP Tryz.prog 21 (bodyOf Tryz.f55) (KR Tryz.prog Tryz.f55.results.toList (o55 (r1,r2)) (p55 (r1,r2))) [] [] (lookA [(0,.agg [.sl (iS67 l0_0),.sl (iI .i64 l0_1)]),(1,vi a1),(2,vi a2)])
 obtain ⟨t494,c1,h2⟩:=bd_ h
 obtain ⟨t497,c3,h4⟩:=bd_ h2
 obtain ⟨g5,h6⟩:=ip_ h4
 obtain ⟨g7,h8⟩:=ip_ h6
 obtain ⟨rfl,rfl⟩:=pr2_ h8
 exact leafRet (hn:=hn55) 13 [.call (.sl (iS67 t494)),.callH [] (.row 34) [(34,.ow true 3 (iI .i64 t497))],.go,.go,.elem (vi (rd t497 a1)),.elem (.ow true 3 (iI .i64 (t497.set ((a1:Int).toNat) a2))),.fz 34] [] .ret (.inr rfl) (by kernel_rfl) (And.intro (And.intro (ad_54 c1) (CallH.ren [(500000,34)] rfl rfl (ad_36 c3))) (And.intro (iI_lt (k:=.i64) (xs:=t497) (i:=a1) g5 g7) (iI_set (k:=.i64) (xs:=t497) (i:=a1) (x:=a2) g5 g7))) (by kernel_rfl)

def hn12:Hint:=⟨[(1,[38]),(2,[39]),(4,[41,58]),(6,[43]),(16,[38]),(19,[38]),(22,[58]),(23,[41,58]),(24,[58]),(29,[58])]⟩
def o12 (r:(List (S67)) × List Int × Bool):List AV:=[.agg [.sl (iS67 r.1),.sl (iI .i64 r.2.1)],vb r.2.2]
def p12 (r:(List (S67)) × List Int × Bool):List (Nat × AV):=[]
def q12_l0 (r:(List (S67)) × List Int × Bool) (k:Nat) (L:List (Nat × AV)):Prop:=∃ (x25:Int) (x26:Int) (x513000:List (S67)) (x513001:List Int),L = [(2,.loc 39 0),(4,.loc 41 0),(25,vi x25),(26,vi x26),(39,.box (.agg [.val (.slice none 0 0),.val (.slice none 0 0)])),(41,.box (.agg [.sl (iS67 x513000),.sl (iI .i64 x513001)]))] ∧ impl_HarderPuzzle.l0 k x25 x26 x513000 x513001 = some r
theorem q12_l0_mk {r:(List (S67)) × List Int × Bool} {k:Nat} {x25:Int} {x26:Int} {x513000:List (S67)} {x513001:List Int} (h:impl_HarderPuzzle.l0 k x25 x26 x513000 x513001 = some r):q12_l0 r k [(2,.loc 39 0),(4,.loc 41 0),(25,vi x25),(26,vi x26),(39,.box (.agg [.val (.slice none 0 0),.val (.slice none 0 0)])),(41,.box (.agg [.sl (iS67 x513000),.sl (iI .i64 x513001)]))]:=⟨x25,x26,x513000,x513001,rfl,h⟩
set_option maxRecDepth 100000 in
theorem at12_l0 {r:(List (S67)) × List Int × Bool}:∀ k L,q12_l0 r k L → AtP Tryz.prog 37 (bodyOf Tryz.f12) (KR Tryz.prog Tryz.f12.results.toList (o12 r) (p12 r)) [true,true,true,false,true,false] [] (lookA L) :=
 at_loop (by kernel_rfl) (fun _ => by kernel_rfl) (q12_l0 r) (by
  rintro k _ ⟨x25,x26,x513000,x513001,rfl,h⟩
  cases k with
  | zero => simp [impl_HarderPuzzle.l0] at h
  | succ k =>
   rw [impl_HarderPuzzle.l0] at h
   rcases ite_ h with ⟨g1,h2⟩ | ⟨g1,h2⟩
   ·obtain ⟨⟨bt513_1,bt513_2⟩,c3,h4⟩:=bd_ h2
    try dsimp only at h4
    obtain ⟨t520,c5,h6⟩:=bd_ h4
    rcases ite_ h6 with ⟨g7,h8⟩ | ⟨g7,h8⟩
    ·subst g7
     exact leafBack (hn:=hn12) 23 [.val (.bool true),.call (.agg [.sl (iS67 bt513_1),.sl (iI .i64 bt513_2)]),.call (vb true),.val (.int .i64 (wrap64 (x26 + 1)))] [] (q12_l0_mk h8) (Nat.lt_succ_self k) (And.intro (int_lss (P:=Tryz.prog) (t:=3) (k:=.i64) (x:=(.tmp 26)) (y:=(.tmp 25)) (a:=x26) (b:=x25) (v:=true) (decide_eq_true g1)) (And.intro (ad_55 c3) (And.intro (ad_53 c5) (int_add (P:=Tryz.prog) (t:=3) (k:=.i64) (x:=(.tmp 26)) (y:=(.const (.int .i64 1))) (a:=x26) (b:=1) (c:=(wrap64 (x26 + 1))) (IntWalk.i64_left _))))) (by kernel_rfl)
    ·obtain rfl:=Bool.eq_false_iff.2 g7
     exact leafBack (hn:=hn12) 23 [.val (.bool true),.call (.agg [.sl (iS67 bt513_1),.sl (iI .i64 bt513_2)]),.call (vb false),.val (.int .i64 (wrap64 (x26 + 1)))] [] (q12_l0_mk h8) (Nat.lt_succ_self k) (And.intro (int_lss (P:=Tryz.prog) (t:=3) (k:=.i64) (x:=(.tmp 26)) (y:=(.tmp 25)) (a:=x26) (b:=x25) (v:=true) (decide_eq_true g1)) (And.intro (ad_55 c3) (And.intro (ad_53 c5) (int_add (P:=Tryz.prog) (t:=3) (k:=.i64) (x:=(.tmp 26)) (y:=(.const (.int .i64 1))) (a:=x26) (b:=1) (c:=(wrap64 (x26 + 1))) (IntWalk.i64_left _))))) (by kernel_rfl)
   ·obtain rfl:=Option.some.inj h2
    exact leafRet (hn:=hn12) 14 [.val (.bool false)] [] .ret (.inr rfl) (by kernel_rfl) (int_lss (P:=Tryz.prog) (t:=3) (k:=.i64) (x:=(.tmp 26)) (y:=(.tmp 25)) (a:=x26) (b:=x25) (v:=false) (decide_eq_false g1)) (by kernel_rfl))
set_option maxRecDepth 100000 in
theorem at12_j0 {r:(List (S67)) × List Int × Bool} {k:Nat} {x14:Bool} {x503000:List (S67)} {x503001:List Int} (h:impl_HarderPuzzle.j0 k x14 x503000 x503001 = some r):AtP Tryz.prog 37 (bodyOf Tryz.f12) (KR Tryz.prog Tryz.f12.results.toList (o12 r) (p12 r)) [true,false,true] [] (lookA [(1,.loc 38 0),(2,.loc 39 0),(14,vb x14),(38,.box (.agg [.sl (iS67 x503000),.sl (iI .i64 x503001)])),(39,.box (.agg [.val (.slice none 0 0),.val (.slice none 0 0)]))]):=by
 cases k with
 | zero => simp [impl_HarderPuzzle.j0] at h
 | succ k =>
  rw [impl_HarderPuzzle.j0] at h
  rcases ite_ h with ⟨g1,h2⟩ | ⟨g1,h2⟩
  ·subst g1
   obtain rfl:=Option.some.inj h2
   exact leafRet (hn:=hn12) 6 [.go] [] .ret (.inr rfl) (by kernel_rfl) True.intro (by kernel_rfl)
  ·obtain rfl:=Bool.eq_false_iff.2 g1
   obtain ⟨t506,c3,h4⟩:=bd_ h2
   obtain ⟨t509,c5,h6⟩:=bd_ h4
   exact leafAt (hn:=hn12) 11 [.call (.sl (iS67 t506)),.callH [] (.row 58) [(58,.ow true 3 (iI .i64 t509))],.go,.fz 58,.val (.int .i64 (t509.length:Int)),.vc 41 1] [] (at12_l0 _ _ (q12_l0_mk h6)) (And.intro (And.intro (ad_54 c3) (CallH.ren [(500000,58)] rfl rfl (ad_36 c5))) (iI_len (k:=.i64) (xs:=t509))) (by kernel_rfl)
set_option maxRecDepth 100000 in
theorem ad_12 {k:Nat} {l0_0:List (S67)} {l0_1:List Int} {r1:List (S67)} {r2:List Int} {r3:Bool} (h:impl_HarderPuzzle.f k l0_0 l0_1 = some (r1,r2,r3)):CallH Tryz.prog 12 [.agg [.sl (iS67 l0_0),.sl (iI .i64 l0_1)]] [] (.tup [.agg [.sl (iS67 r1),.sl (iI .i64 r2)],vb r3]) []:=by
 unfold impl_HarderPuzzle.f at h
 refine call_ok (c:=bodyOf Tryz.f12) (rs:=o12 (r1,r2,r3)) (post:=p12 (r1,r2,r3)) Tryz.func12 rfl rfl rfl (by kernel_rfl) ?_
 show AtP Tryz.prog 37 (bodyOf Tryz.f12) (KR Tryz.prog Tryz.f12.results.toList (o12 (r1,r2,r3)) (p12 (r1,r2,r3))) [] [] (lookA [(0,.agg [.sl (iS67 l0_0),.sl (iI .i64 l0_1)])])
 obtain ⟨t504,c1,h2⟩:=bd_ h
 rcases ite_ h2 with ⟨g3,h4⟩ | ⟨g3,h4⟩
 ·subst g3
  obtain ⟨t505,c5,h6⟩:=bd_ h4
  exact leafAt (hn:=hn12) 7 [.call (vb true),.call (vb t505)] [] (at12_j0 h6) (And.intro (ad_10 c1) (ad_53 c5)) (by kernel_rfl)
 ·obtain rfl:=Bool.eq_false_iff.2 g3
  exact leafAt (hn:=hn12) 7 [.call (vb false)] [] (at12_j0 h4) (ad_10 c1) (by kernel_rfl)

def hn56:Hint:=⟨[(1,[12])]⟩
def o56 (r:(List (List Int)) × Bool):List AV:=[.sl (iL (iI .i64) r.1),vb r.2]
def p56 (r:(List (List Int)) × Bool):List (Nat × AV):=[]
set_option maxRecDepth 100000 in
theorem ad_56 {k:Nat} {l0_0:List (S67)} {l0_1:List Int} {r1:List (List Int)} {r2:Bool} (h:spec_pzAsked.f k l0_0 l0_1 = some (r1,r2)):CallH Tryz.prog 56 [.agg [.sl (iS67 l0_0),.sl (iI .i64 l0_1)]] [] (.tup [.sl (iL (iI .i64) r1),vb r2]) []:=by
 unfold spec_pzAsked.f at h
 refine call_ok (c:=bodyOf Tryz.f56) (rs:=o56 (r1,r2)) (post:=p56 (r1,r2)) Tryz.func56 rfl rfl rfl (by kernel_rfl) ?_
 show AtP Tryz.prog 11 (bodyOf Tryz.f56) (KR Tryz.prog Tryz.f56.results.toList (o56 (r1,r2)) (p56 (r1,r2))) [] [] (lookA [(0,.agg [.sl (iS67 l0_0),.sl (iI .i64 l0_1)])])
 obtain ⟨t522,c1,h2⟩:=bd_ h
 rcases ite_ h2 with ⟨g3,h4⟩ | ⟨g3,h4⟩
 ·subst g3
  obtain ⟨⟨bt523_1,bt523_2⟩,c5,h6⟩:=bd_ h4
  try dsimp only at h6
  obtain ⟨rfl,rfl⟩:=pr2_ h6
  exact leafRet (hn:=hn56) 14 [.goT,.call (vb true),.call (.tup [.sl (iL (iI .i64) bt523_1),vb bt523_2])] [] .ret (.inr rfl) (by kernel_rfl) (And.intro (ad_50 c1) (ad_51 c5)) (by kernel_rfl)
 ·obtain rfl:=Bool.eq_false_iff.2 g3
  obtain ⟨rfl,rfl⟩:=pr2_ h4
  exact leafRet (hn:=hn56) 13 [.goT,.call (vb false),.goT] [] .ret (.inr rfl) (by kernel_rfl) (ad_50 c1) (by kernel_rfl)

def hn58:Hint:=⟨[(6,[28]),(7,[29,33,36]),(8,[30]),(9,[25]),(12,[25]),(15,[33,36]),(16,[29,33,36]),(17,[36]),(20,[36]),(21,[33,36])]⟩
def o58 (r:(List (S67)) × List Int):List AV:=[.agg [.sl (iS67 r.1),.sl (iI .i64 r.2)]]
def p58 (r:(List (S67)) × List Int):List (Nat × AV):=[]
set_option maxRecDepth 100000 in
theorem ad_58 {l0_0:List (S67)} {l0_1:List Int} {a1:Int} {a2:Int} {r1:List (S67)} {r2:List Int} (h:spec_pzWith.f l0_0 l0_1 a1 a2 = some (r1,r2)):CallH Tryz.prog 58 [.agg [.sl (iS67 l0_0),.sl (iI .i64 l0_1)],vi a1,vi a2] [] (.agg [.sl (iS67 r1),.sl (iI .i64 r2)]) []:=by
 unfold spec_pzWith.f at h
 refine call_ok (c:=bodyOf Tryz.f58) (rs:=o58 (r1,r2)) (post:=p58 (r1,r2)) Tryz.func58 rfl rfl rfl (by kernel_rfl) ?_
 show AtP Tryz.prog 22 (bodyOf Tryz.f58) (KR Tryz.prog Tryz.f58.results.toList (o58 (r1,r2)) (p58 (r1,r2))) [] [] (lookA [(0,.agg [.sl (iS67 l0_0),.sl (iI .i64 l0_1)]),(1,vi a1),(2,vi a2)])
 obtain ⟨y529,c1,h2⟩:=bd_ h
 obtain rfl:=Option.some.inj c1
 obtain ⟨g3,h4⟩:=ip_ h2
 obtain ⟨t535,c5,h6⟩:=bd_ h4
 obtain ⟨g7,h8⟩:=ip_ h6
 obtain ⟨g9,h10⟩:=ip_ h8
 obtain ⟨rfl,rfl⟩:=pr2_ h10
 exact leafRet (hn:=hn58) 13 [.go,.elem (.ow false 67 (iS67 (([] : List S67) ++ l0_0))),.callH [] (.row 36) [(36,.ow true 3 (iI .i64 t535))],.go,.go,.elem (vi (rd t535 a1)),.elem (.ow true 3 (iI .i64 (t535.set ((a1:Int).toNat) a2))),.fz 36] [] .ret (.inr rfl) (by kernel_rfl) (And.intro (And.intro (iS67_app (N:=8796093022208) (b:=16) (xs:=([] : List S67)) (ys:=l0_0) (by decide) (Nat.le_of_lt g3)) (CallH.ren [(500000,36)] rfl rfl (ad_57 c5))) (And.intro (iI_lt (k:=.i64) (xs:=t535) (i:=a1) g7 g9) (iI_set (k:=.i64) (xs:=t535) (i:=a1) (x:=a2) g7 g9))) (by kernel_rfl)

def hn13:Hint:=⟨[(1,[56]),(2,[57]),(6,[61,82,85]),(8,[63]),(24,[79]),(25,[56]),(28,[56]),(31,[82,85]),(32,[61,82,85]),(33,[85]),(38,[82,85])]⟩
def o13 (r:(List (S67)) × List Int × Bool):List AV:=[.agg [.sl (iS67 r.1),.sl (iI .i64 r.2.1)],vb r.2.2]
def p13 (r:(List (S67)) × List Int × Bool):List (Nat × AV):=[]
def q13_l0 (r:(List (S67)) × List Int × Bool) (k:Nat) (L:List (Nat × AV)):Prop:=∃ (x34:Int) (x35:Int) (x556000:List (S67)) (x556001:List Int),L = [(2,.loc 57 0),(6,.loc 61 0),(34,vi x34),(35,vi x35),(57,.box (.agg [.val (.slice none 0 0),.val (.slice none 0 0)])),(61,.box (.agg [.sl (iS67 x556000),.sl (iI .i64 x556001)]))] ∧ spec_HarderPuzzle.l0 k x34 x35 x556000 x556001 = some r
theorem q13_l0_mk {r:(List (S67)) × List Int × Bool} {k:Nat} {x34:Int} {x35:Int} {x556000:List (S67)} {x556001:List Int} (h:spec_HarderPuzzle.l0 k x34 x35 x556000 x556001 = some r):q13_l0 r k [(2,.loc 57 0),(6,.loc 61 0),(34,vi x34),(35,vi x35),(57,.box (.agg [.val (.slice none 0 0),.val (.slice none 0 0)])),(61,.box (.agg [.sl (iS67 x556000),.sl (iI .i64 x556001)]))]:=⟨x34,x35,x556000,x556001,rfl,h⟩
set_option maxRecDepth 100000 in
theorem at13_l0 {r:(List (S67)) × List Int × Bool}:∀ k L,q13_l0 r k L → AtP Tryz.prog 55 (bodyOf Tryz.f13) (KR Tryz.prog Tryz.f13.results.toList (o13 r) (p13 r)) [true,true,true,true,false,true,false] [] (lookA L) :=
 at_loop (by kernel_rfl) (fun _ => by kernel_rfl) (q13_l0 r) (by
  rintro k _ ⟨x34,x35,x556000,x556001,rfl,h⟩
  cases k with
  | zero => simp [spec_HarderPuzzle.l0] at h
  | succ k =>
   rw [spec_HarderPuzzle.l0] at h
   rcases ite_ h with ⟨g1,h2⟩ | ⟨g1,h2⟩
   ·obtain ⟨⟨bt556_1,bt556_2⟩,c3,h4⟩:=bd_ h2
    try dsimp only at h4
    obtain ⟨⟨bt563_1,bt563_2⟩,c5,h6⟩:=bd_ h4
    try dsimp only at h6
    rcases ite_ h6 with ⟨g7,h8⟩ | ⟨g7,h8⟩
    ·subst g7
     rcases ite_ h8 with ⟨g9,h10⟩ | ⟨g9,h10⟩
     ·exact leafBack (hn:=hn13) 26 [.val (.bool true),.call (.agg [.sl (iS67 bt556_1),.sl (iI .i64 bt556_2)]),.call (.tup [.sl (iL (iI .i64) bt563_1),vb true]),.val (.int .i64 (bt563_1.length:Int)),.val (.bool true),.val (.int .i64 (wrap64 (x35 + 1)))] [] (q13_l0_mk h10) (Nat.lt_succ_self k) (And.intro (int_lss (P:=Tryz.prog) (t:=3) (k:=.i64) (x:=(.tmp 35)) (y:=(.tmp 34)) (a:=x35) (b:=x34) (v:=true) (decide_eq_true g1)) (And.intro (ad_58 c3) (And.intro (ad_51 c5) (And.intro (And.intro (iL_len (f:=(iI .i64)) (xs:=bt563_1)) (int_eql (P:=Tryz.prog) (t:=3) (k:=.i64) (x:=(.tmp 49)) (y:=(.const (.int .i64 1))) (a:=(bt563_1.length:Int)) (b:=1) (v:=true) (beq_iff_eq.2 g9))) (int_add (P:=Tryz.prog) (t:=3) (k:=.i64) (x:=(.tmp 35)) (y:=(.const (.int .i64 1))) (a:=x35) (b:=1) (c:=(wrap64 (x35 + 1))) (IntWalk.i64_left _)))))) (by kernel_rfl)
     ·exact leafBack (hn:=hn13) 26 [.val (.bool true),.call (.agg [.sl (iS67 bt556_1),.sl (iI .i64 bt556_2)]),.call (.tup [.sl (iL (iI .i64) bt563_1),vb true]),.val (.int .i64 (bt563_1.length:Int)),.val (.bool false),.val (.int .i64 (wrap64 (x35 + 1)))] [] (q13_l0_mk h10) (Nat.lt_succ_self k) (And.intro (int_lss (P:=Tryz.prog) (t:=3) (k:=.i64) (x:=(.tmp 35)) (y:=(.tmp 34)) (a:=x35) (b:=x34) (v:=true) (decide_eq_true g1)) (And.intro (ad_58 c3) (And.intro (ad_51 c5) (And.intro (And.intro (iL_len (f:=(iI .i64)) (xs:=bt563_1)) (int_eql (P:=Tryz.prog) (t:=3) (k:=.i64) (x:=(.tmp 49)) (y:=(.const (.int .i64 1))) (a:=(bt563_1.length:Int)) (b:=1) (v:=false) (beq_false_of_ne g9))) (int_add (P:=Tryz.prog) (t:=3) (k:=.i64) (x:=(.tmp 35)) (y:=(.const (.int .i64 1))) (a:=x35) (b:=1) (c:=(wrap64 (x35 + 1))) (IntWalk.i64_left _)))))) (by kernel_rfl)
    ·obtain rfl:=Bool.eq_false_iff.2 g7
     exact leafBack (hn:=hn13) 26 [.val (.bool true),.call (.agg [.sl (iS67 bt556_1),.sl (iI .i64 bt556_2)]),.call (.tup [.sl (iL (iI .i64) bt563_1),vb false]),.val (.int .i64 (wrap64 (x35 + 1)))] [] (q13_l0_mk h8) (Nat.lt_succ_self k) (And.intro (int_lss (P:=Tryz.prog) (t:=3) (k:=.i64) (x:=(.tmp 35)) (y:=(.tmp 34)) (a:=x35) (b:=x34) (v:=true) (decide_eq_true g1)) (And.intro (ad_58 c3) (And.intro (ad_51 c5) (int_add (P:=Tryz.prog) (t:=3) (k:=.i64) (x:=(.tmp 35)) (y:=(.const (.int .i64 1))) (a:=x35) (b:=1) (c:=(wrap64 (x35 + 1))) (IntWalk.i64_left _))))) (by kernel_rfl)
   ·obtain rfl:=Option.some.inj h2
    exact leafRet (hn:=hn13) 14 [.val (.bool false)] [] .ret (.inr rfl) (by kernel_rfl) (int_lss (P:=Tryz.prog) (t:=3) (k:=.i64) (x:=(.tmp 35)) (y:=(.tmp 34)) (a:=x35) (b:=x34) (v:=false) (decide_eq_false g1)) (by kernel_rfl))
set_option maxRecDepth 100000 in
theorem at13_j0 {r:(List (S67)) × List Int × Bool} {k:Nat} {x22:Bool} {x541000:List (S67)} {x541001:List Int} (h:spec_HarderPuzzle.j0 k x22 x541000 x541001 = some r):AtP Tryz.prog 55 (bodyOf Tryz.f13) (KR Tryz.prog Tryz.f13.results.toList (o13 r) (p13 r)) [true,true,false,true] [] (lookA [(1,.loc 56 0),(2,.loc 57 0),(22,vb x22),(56,.box (.agg [.sl (iS67 x541000),.sl (iI .i64 x541001)])),(57,.box (.agg [.val (.slice none 0 0),.val (.slice none 0 0)]))]):=by
 cases k with
 | zero => simp [spec_HarderPuzzle.j0] at h
 | succ k =>
  rw [spec_HarderPuzzle.j0] at h
  rcases ite_ h with ⟨g1,h2⟩ | ⟨g1,h2⟩
  ·subst g1
   obtain rfl:=Option.some.inj h2
   exact leafRet (hn:=hn13) 6 [.go] [] .ret (.inr rfl) (by kernel_rfl) True.intro (by kernel_rfl)
  ·obtain rfl:=Bool.eq_false_iff.2 g1
   obtain ⟨y546,c3,h4⟩:=bd_ h2
   obtain rfl:=Option.some.inj c3
   obtain ⟨g5,h6⟩:=ip_ h4
   obtain ⟨t552,c7,h8⟩:=bd_ h6
   exact leafAt (hn:=hn13) 11 [.go,.elem (.ow false 67 (iS67 (([] : List S67) ++ x541000))),.callH [] (.row 85) [(85,.ow true 3 (iI .i64 t552))],.go,.fz 85,.val (.int .i64 (t552.length:Int)),.vc 61 0,.vc 61 1] [] (at13_l0 _ _ (q13_l0_mk h8)) (And.intro (And.intro (iS67_app (N:=8796093022208) (b:=16) (xs:=([] : List S67)) (ys:=x541000) (by decide) (Nat.le_of_lt g5)) (CallH.ren [(500000,85)] rfl rfl (ad_57 c7))) (iI_len (k:=.i64) (xs:=t552))) (by kernel_rfl)
set_option maxRecDepth 100000 in
theorem ad_13 {k:Nat} {l0_0:List (S67)} {l0_1:List Int} {r1:List (S67)} {r2:List Int} {r3:Bool} (h:spec_HarderPuzzle.f k l0_0 l0_1 = some (r1,r2,r3)):CallH Tryz.prog 13 [.agg [.sl (iS67 l0_0),.sl (iI .i64 l0_1)]] [] (.tup [.agg [.sl (iS67 r1),.sl (iI .i64 r2)],vb r3]) []:=by
 unfold spec_HarderPuzzle.f at h
 refine call_ok (c:=bodyOf Tryz.f13) (rs:=o13 (r1,r2,r3)) (post:=p13 (r1,r2,r3)) Tryz.func13 rfl rfl rfl (by kernel_rfl) ?_
 show AtP Tryz.prog 55 (bodyOf Tryz.f13) (KR Tryz.prog Tryz.f13.results.toList (o13 (r1,r2,r3)) (p13 (r1,r2,r3))) [] [] (lookA [(0,.agg [.sl (iS67 l0_0),.sl (iI .i64 l0_1)])])
 obtain ⟨⟨bt542_1,bt542_2⟩,c1,h2⟩:=bd_ h
 try dsimp only at h2
 rcases ite_ h2 with ⟨g3,h4⟩ | ⟨g3,h4⟩
 ·subst g3
  exact leafAt (hn:=hn13) 10 [.call (.tup [.sl (iL (iI .i64) bt542_1),vb true]),.val (.int .i64 (bt542_1.length:Int)),.val (.bool (!((bt542_1.length:Int) == 1)))] [] (at13_j0 h4) (And.intro (ad_56 c1) (And.intro (iL_len (f:=(iI .i64)) (xs:=bt542_1)) (int_neq (P:=Tryz.prog) (t:=3) (k:=.i64) (x:=(.tmp 20)) (y:=(.const (.int .i64 1))) (a:=(bt542_1.length:Int)) (b:=1) (v:=(!((bt542_1.length:Int) == 1))) rfl))) (by kernel_rfl)
 ·obtain rfl:=Bool.eq_false_iff.2 g3
  exact leafAt (hn:=hn13) 10 [.call (.tup [.sl (iL (iI .i64) bt542_1),vb false])] [] (at13_j0 h4) (ad_56 c1) (by kernel_rfl)

def hn14:Hint:=⟨[(1,[12])]⟩
def o14 (r:(List (List Int)) × Bool):List AV:=[.sl (iL (iI .i64) r.1),vb r.2]
def p14 (r:(List (List Int)) × Bool):List (Nat × AV):=[]
set_option maxRecDepth 100000 in
theorem ad_14 {k:Nat} {l0_0:List (S67)} {l0_1:List Int} {r1:List (List Int)} {r2:Bool} (h:impl_Solutions.f k l0_0 l0_1 = some (r1,r2)):CallH Tryz.prog 14 [.agg [.sl (iS67 l0_0),.sl (iI .i64 l0_1)]] [] (.tup [.sl (iL (iI .i64) r1),vb r2]) []:=by
 unfold impl_Solutions.f at h
 refine call_ok (c:=bodyOf Tryz.f14) (rs:=o14 (r1,r2)) (post:=p14 (r1,r2)) Tryz.func14 rfl rfl rfl (by kernel_rfl) ?_
 show AtP Tryz.prog 11 (bodyOf Tryz.f14) (KR Tryz.prog Tryz.f14.results.toList (o14 (r1,r2)) (p14 (r1,r2))) [] [] (lookA [(0,.agg [.sl (iS67 l0_0),.sl (iI .i64 l0_1)])])
 obtain ⟨t568,c1,h2⟩:=bd_ h
 rcases ite_ h2 with ⟨g3,h4⟩ | ⟨g3,h4⟩
 ·subst g3
  obtain ⟨⟨bt569_1,bt569_2⟩,c5,h6⟩:=bd_ h4
  try dsimp only at h6
  obtain ⟨rfl,rfl⟩:=pr2_ h6
  exact leafRet (hn:=hn14) 14 [.goT,.call (vb true),.call (.tup [.sl (iL (iI .i64) bt569_1),vb bt569_2])] [] .ret (.inr rfl) (by kernel_rfl) (And.intro (ad_10 c1) (ad_59 c5)) (by kernel_rfl)
 ·obtain rfl:=Bool.eq_false_iff.2 g3
  obtain ⟨rfl,rfl⟩:=pr2_ h4
  exact leafRet (hn:=hn14) 13 [.goT,.call (vb false),.goT] [] .ret (.inr rfl) (by kernel_rfl) (ad_10 c1) (by kernel_rfl)

def hn60:Hint:=⟨[]⟩
def o60 (r:Int):List AV:=[vi r]
def p60 (r:Int):List (Nat × AV):=[]
set_option maxRecDepth 100000 in
theorem ad_60 {a0:Bool} {r:Int} (h:impl_bit.f a0 = some r):CallH Tryz.prog 60 [vb a0] [] (vi r) []:=by
 unfold impl_bit.f at h
 refine call_ok (c:=bodyOf Tryz.f60) (rs:=o60 r) (post:=p60 r) Tryz.func60 rfl rfl rfl (by kernel_rfl) ?_
 show AtP Tryz.prog 4 (bodyOf Tryz.f60) (KR Tryz.prog Tryz.f60.results.toList (o60 r) (p60 r)) [] [] (lookA [(0,vb a0)])
 rcases ite_ h with ⟨g1,h2⟩ | ⟨g1,h2⟩
 ·subst g1
  obtain rfl:=Option.some.inj h2
  exact leafRet (hn:=hn60) 13 [] [] .ret (.inr rfl) (by kernel_rfl) True.intro (by kernel_rfl)
 ·obtain rfl:=Bool.eq_false_iff.2 g1
  obtain rfl:=Option.some.inj h2
  exact leafRet (hn:=hn60) 14 [] [] .ret (.inr rfl) (by kernel_rfl) True.intro (by kernel_rfl)

def hn15:Hint:=⟨[(1,[25]),(10,[25])]⟩
def o15 (r:Int × Bool):List AV:=[vi r.1,vb r.2]
def p15 (r:Int × Bool):List (Nat × AV):=[]
def q15_l0 (r:Int × Bool) (k:Nat) (L:List (Nat × AV)):Prop:=∃ (x4:Int) (x11:List Int) (x12:Int) (x13:Int),L = [(4,vi x4),(11,.sl (iI .i64 x11)),(12,vi x12),(13,vi x13)] ∧ impl_CountGaps.l0 k x4 x11 x12 x13 = some r
theorem q15_l0_mk {r:Int × Bool} {k:Nat} {x4:Int} {x11:List Int} {x12:Int} {x13:Int} (h:impl_CountGaps.l0 k x4 x11 x12 x13 = some r):q15_l0 r k [(4,vi x4),(11,.sl (iI .i64 x11)),(12,vi x12),(13,vi x13)]:=⟨x4,x11,x12,x13,rfl,h⟩
set_option maxRecDepth 100000 in
theorem at15_l0 {r:Int × Bool}:∀ k L,q15_l0 r k L → AtP Tryz.prog 24 (bodyOf Tryz.f15) (KR Tryz.prog Tryz.f15.results.toList (o15 r) (p15 r)) [true,true,true,false,true,false] [] (lookA L) :=
 at_loop (by kernel_rfl) (fun _ => by kernel_rfl) (q15_l0 r) (by
  rintro k _ ⟨x4,x11,x12,x13,rfl,h⟩
  cases k with
  | zero => simp [impl_CountGaps.l0] at h
  | succ k =>
   rw [impl_CountGaps.l0] at h
   rcases ite_ h with ⟨g1,h2⟩ | ⟨g1,h2⟩
   ·obtain ⟨g3,h4⟩:=ip_ h2
    obtain ⟨g5,h6⟩:=ip_ h4
    obtain ⟨t576,c7,h8⟩:=bd_ h6
    exact leafBack (hn:=hn15) 16 [.val (.bool true),.elem (vi (rd x11 x13)),.val (.bool ((rd x11 x13) == (-1))),.call (vi t576),.val (.int .i64 (wrap64 (x4 + t576))),.val (.int .i64 (wrap64 (x13 + 1)))] [] (q15_l0_mk h8) (Nat.lt_succ_self k) (And.intro (int_lss (P:=Tryz.prog) (t:=3) (k:=.i64) (x:=(.tmp 13)) (y:=(.tmp 12)) (a:=x13) (b:=x12) (v:=true) (decide_eq_true g1)) (And.intro (iI_rd (k:=.i64) (xs:=x11) (i:=x13) g3 g5) (And.intro (And.intro (int_eql (P:=Tryz.prog) (t:=3) (k:=.i64) (x:=(.tmp 18)) (y:=(.const (.int .i64 (-1)))) (a:=(rd x11 x13)) (b:=(-1)) (v:=((rd x11 x13) == (-1))) rfl) (And.intro (ad_60 c7) (int_add (P:=Tryz.prog) (t:=3) (k:=.i64) (x:=(.tmp 17)) (y:=(.tmp 20)) (a:=x4) (b:=t576) (c:=(wrap64 (x4 + t576))) (IntWalk.i64_left _)))) (int_add (P:=Tryz.prog) (t:=3) (k:=.i64) (x:=(.tmp 13)) (y:=(.const (.int .i64 1))) (a:=x13) (b:=1) (c:=(wrap64 (x13 + 1))) (IntWalk.i64_left _))))) (by kernel_rfl)
   ·obtain rfl:=Option.some.inj h2
    exact leafRet (hn:=hn15) 14 [.val (.bool false)] [] .ret (.inr rfl) (by kernel_rfl) (int_lss (P:=Tryz.prog) (t:=3) (k:=.i64) (x:=(.tmp 13)) (y:=(.tmp 12)) (a:=x13) (b:=x12) (v:=false) (decide_eq_false g1)) (by kernel_rfl))
set_option maxRecDepth 100000 in
theorem ad_15 {k:Nat} {l0_0:List (S67)} {l0_1:List Int} {r1:Int} {r2:Bool} (h:impl_CountGaps.f k l0_0 l0_1 = some (r1,r2)):CallH Tryz.prog 15 [.agg [.sl (iS67 l0_0),.sl (iI .i64 l0_1)]] [] (.tup [vi r1,vb r2]) []:=by
 unfold impl_CountGaps.f at h
 refine call_ok (c:=bodyOf Tryz.f15) (rs:=o15 (r1,r2)) (post:=p15 (r1,r2)) Tryz.func15 rfl rfl rfl (by kernel_rfl) ?_
 show AtP Tryz.prog 24 (bodyOf Tryz.f15) (KR Tryz.prog Tryz.f15.results.toList (o15 (r1,r2)) (p15 (r1,r2))) [] [] (lookA [(0,.agg [.sl (iS67 l0_0),.sl (iI .i64 l0_1)])])
 obtain ⟨t574,c1,h2⟩:=bd_ h
 rcases ite_ h2 with ⟨g3,h4⟩ | ⟨g3,h4⟩
 ·subst g3
  exact leafAt (hn:=hn15) 18 [.call (vb true),.val (.int .i64 (l0_1.length:Int))] [] (at15_l0 _ _ (q15_l0_mk h4)) (And.intro (ad_10 c1) (iI_len (k:=.i64) (xs:=l0_1))) (by kernel_rfl)
 ·obtain rfl:=Bool.eq_false_iff.2 g3
  obtain ⟨rfl,rfl⟩:=pr2_ h4
  exact leafRet (hn:=hn15) 13 [.call (vb false)] [] .ret (.inr rfl) (by kernel_rfl) (ad_10 c1) (by kernel_rfl)

def hn16:Hint:=⟨[]⟩
def o16 (r:Bool):List AV:=[vb r]
def p16 (r:Bool):List (Nat × AV):=[]
def q16_l0 (r:Bool) (k:Nat) (L:List (Nat × AV)):Prop:=∃ (x0:List (List Int)) (x1:List (List Int)) (x12:Int) (x13:Int),L = [(0,.sl (iL (iI .i64) x0)),(1,.sl (iL (iI .i64) x1)),(12,vi x12),(13,vi x13)] ∧ laws_iRows.l0 k x0 x1 x12 x13 = some r
theorem q16_l0_mk {r:Bool} {k:Nat} {x0:List (List Int)} {x1:List (List Int)} {x12:Int} {x13:Int} (h:laws_iRows.l0 k x0 x1 x12 x13 = some r):q16_l0 r k [(0,.sl (iL (iI .i64) x0)),(1,.sl (iL (iI .i64) x1)),(12,vi x12),(13,vi x13)]:=⟨x0,x1,x12,x13,rfl,h⟩
set_option maxRecDepth 100000 in
theorem at16_l0 {r:Bool}:∀ k L,q16_l0 r k L → AtP Tryz.prog 27 (bodyOf Tryz.f16) (KR Tryz.prog Tryz.f16.results.toList (o16 r) (p16 r)) [true,true,false,true,false] [] (lookA L) :=
 at_loop (by kernel_rfl) (fun _ => by kernel_rfl) (q16_l0 r) (by
  rintro k _ ⟨x0,x1,x12,x13,rfl,h⟩
  cases k with
  | zero => simp [laws_iRows.l0] at h
  | succ k =>
   rw [laws_iRows.l0] at h
   rcases ite_ h with ⟨g1,h2⟩ | ⟨g1,h2⟩
   ·obtain ⟨g3,h4⟩:=ip_ h2
    obtain ⟨g5,h6⟩:=ip_ h4
    obtain ⟨g7,h8⟩:=ip_ h6
    obtain ⟨t579,c9,h10⟩:=bd_ h8
    rcases ite_ h10 with ⟨g11,h12⟩ | ⟨g11,h12⟩
    ·subst g11
     exact leafBack (hn:=hn16) 20 [.val (.bool true),.elem (.sl (iI .i64 (rd_L3 x0 x13))),.elem (.sl (iI .i64 (rd_L3 x1 x13))),.call (vb true),.val (.int .i64 (wrap64 (x13 + 1)))] [] (q16_l0_mk h12) (Nat.lt_succ_self k) (And.intro (int_lss (P:=Tryz.prog) (t:=3) (k:=.i64) (x:=(.tmp 13)) (y:=(.tmp 12)) (a:=x13) (b:=x12) (v:=true) (decide_eq_true g1)) (And.intro (And.intro (iL_rd (f:=(iI .i64)) (xs:=x0) (i:=x13) g3 g5) (And.intro (iL_rd (f:=(iI .i64)) (xs:=x1) (i:=x13) g3 g7) (ad_42 c9))) (int_add (P:=Tryz.prog) (t:=3) (k:=.i64) (x:=(.tmp 13)) (y:=(.const (.int .i64 1))) (a:=x13) (b:=1) (c:=(wrap64 (x13 + 1))) (IntWalk.i64_left _)))) (by kernel_rfl)
    ·obtain rfl:=Bool.eq_false_iff.2 g11
     obtain rfl:=Option.some.inj h12
     exact leafRet (hn:=hn16) 25 [.val (.bool true),.elem (.sl (iI .i64 (rd_L3 x0 x13))),.elem (.sl (iI .i64 (rd_L3 x1 x13))),.call (vb false)] [] .ret (.inr rfl) (by kernel_rfl) (And.intro (int_lss (P:=Tryz.prog) (t:=3) (k:=.i64) (x:=(.tmp 13)) (y:=(.tmp 12)) (a:=x13) (b:=x12) (v:=true) (decide_eq_true g1)) (And.intro (iL_rd (f:=(iI .i64)) (xs:=x0) (i:=x13) g3 g5) (And.intro (iL_rd (f:=(iI .i64)) (xs:=x1) (i:=x13) g3 g7) (ad_42 c9)))) (by kernel_rfl)
   ·obtain rfl:=Option.some.inj h2
    exact leafRet (hn:=hn16) 14 [.val (.bool false)] [] .ret (.inr rfl) (by kernel_rfl) (int_lss (P:=Tryz.prog) (t:=3) (k:=.i64) (x:=(.tmp 13)) (y:=(.tmp 12)) (a:=x13) (b:=x12) (v:=false) (decide_eq_false g1)) (by kernel_rfl))
set_option maxRecDepth 100000 in
theorem ad_16 {k:Nat} {l0:List (List Int)} {l1:List (List Int)} {r:Bool} (h:laws_iRows.f k l0 l1 = some r):CallH Tryz.prog 16 [.sl (iL (iI .i64) l0),.sl (iL (iI .i64) l1)] [] (vb r) []:=by
 unfold laws_iRows.f at h
 refine call_ok (c:=bodyOf Tryz.f16) (rs:=o16 r) (post:=p16 r) Tryz.func16 rfl rfl rfl (by kernel_rfl) ?_
 show AtP Tryz.prog 27 (bodyOf Tryz.f16) (KR Tryz.prog Tryz.f16.results.toList (o16 r) (p16 r)) [] [] (lookA [(0,.sl (iL (iI .i64) l0)),(1,.sl (iL (iI .i64) l1))])
 rcases ite_ h with ⟨g1,h2⟩ | ⟨g1,h2⟩
 ·exact leafAt (hn:=hn16) 15 [.val (.int .i64 (l0.length:Int)),.val (.int .i64 (l1.length:Int)),.val (.bool false),.val (.int .i64 (l0.length:Int))] [] (at16_l0 _ _ (q16_l0_mk h2)) (And.intro (And.intro (iL_len (f:=(iI .i64)) (xs:=l0)) (And.intro (iL_len (f:=(iI .i64)) (xs:=l1)) (int_neq (P:=Tryz.prog) (t:=3) (k:=.i64) (x:=(.tmp 7)) (y:=(.tmp 9)) (a:=(l0.length:Int)) (b:=(l1.length:Int)) (v:=false) (nbeq_f g1)))) (iL_len (f:=(iI .i64)) (xs:=l0))) (by kernel_rfl)
 ·obtain rfl:=Option.some.inj h2
  exact leafRet (hn:=hn16) 13 [.val (.int .i64 (l0.length:Int)),.val (.int .i64 (l1.length:Int)),.val (.bool true)] [] .ret (.inr rfl) (by kernel_rfl) (And.intro (iL_len (f:=(iI .i64)) (xs:=l0)) (And.intro (iL_len (f:=(iI .i64)) (xs:=l1)) (int_neq (P:=Tryz.prog) (t:=3) (k:=.i64) (x:=(.tmp 7)) (y:=(.tmp 9)) (a:=(l0.length:Int)) (b:=(l1.length:Int)) (v:=true) (nbeq_t g1)))) (by kernel_rfl)

def hn61:Hint:=⟨[(2,[17]),(9,[17])]⟩
def o61 (r:Bool):List AV:=[vb r]
def p61 (r:Bool):List (Nat × AV):=[]
set_option maxRecDepth 100000 in
theorem ad_61 {k:Nat} {l0_0:List (S67)} {l0_1:List Int} {a1:Int} {r:Bool} (h:impl_isPlace.f k l0_0 l0_1 a1 = some r):CallH Tryz.prog 61 [.agg [.sl (iS67 l0_0),.sl (iI .i64 l0_1)],vi a1] [] (vb r) []:=by
 unfold impl_isPlace.f at h
 refine call_ok (c:=bodyOf Tryz.f61) (rs:=o61 r) (post:=p61 r) Tryz.func61 rfl rfl rfl (by kernel_rfl) ?_
 show AtP Tryz.prog 15 (bodyOf Tryz.f61) (KR Tryz.prog Tryz.f61.results.toList (o61 r) (p61 r)) [] [] (lookA [(0,.agg [.sl (iS67 l0_0),.sl (iI .i64 l0_1)]),(1,vi a1)])
 obtain ⟨t581,c1,h2⟩:=bd_ h
 rcases ite_ h2 with ⟨g3,h4⟩ | ⟨g3,h4⟩
 ·subst g3
  obtain ⟨t582,c5,h6⟩:=bd_ h4
  obtain rfl:=Option.some.inj h6
  exact leafRet (hn:=hn61) 7 [.call (vb true),.val (.int .i64 (l0_1.length:Int)),.val (.int .i64 (wrap64 ((l0_1.length:Int) - 1))),.call (vb t582)] [] .ret (.inr rfl) (by kernel_rfl) (And.intro (ad_10 c1) (And.intro (iI_len (k:=.i64) (xs:=l0_1)) (And.intro (int_sub (P:=Tryz.prog) (t:=3) (k:=.i64) (x:=(.tmp 11)) (y:=(.const (.int .i64 1))) (a:=(l0_1.length:Int)) (b:=1) (c:=(wrap64 ((l0_1.length:Int) - 1))) (IntWalk.i64_left _)) (ad_33 c5)))) (by kernel_rfl)
 ·obtain rfl:=Bool.eq_false_iff.2 g3
  obtain rfl:=Option.some.inj h4
  exact leafRet (hn:=hn61) 7 [.call (vb false)] [] .ret (.inr rfl) (by kernel_rfl) (ad_10 c1) (by kernel_rfl)

def hn17:Hint:=⟨[(2,[24]),(4,[26]),(11,[24])]⟩
def o17 (r:(List (S67)) × List Int × Bool):List AV:=[.agg [.sl (iS67 r.1),.sl (iI .i64 r.2.1)],vb r.2.2]
def p17 (r:(List (S67)) × List Int × Bool):List (Nat × AV):=[]
set_option maxRecDepth 100000 in
theorem ad_17 {k:Nat} {l0_0:List (S67)} {l0_1:List Int} {a1:Int} {r1:List (S67)} {r2:List Int} {r3:Bool} (h:impl_OpenGap.f k l0_0 l0_1 a1 = some (r1,r2,r3)):CallH Tryz.prog 17 [.agg [.sl (iS67 l0_0),.sl (iI .i64 l0_1)],vi a1] [] (.tup [.agg [.sl (iS67 r1),.sl (iI .i64 r2)],vb r3]) []:=by
 unfold impl_OpenGap.f at h
 refine call_ok (c:=bodyOf Tryz.f17) (rs:=o17 (r1,r2,r3)) (post:=p17 (r1,r2,r3)) Tryz.func17 rfl rfl rfl (by kernel_rfl) ?_
 show AtP Tryz.prog 22 (bodyOf Tryz.f17) (KR Tryz.prog Tryz.f17.results.toList (o17 (r1,r2,r3)) (p17 (r1,r2,r3))) [] [] (lookA [(0,.agg [.sl (iS67 l0_0),.sl (iI .i64 l0_1)]),(1,vi a1)])
 obtain ⟨t585,c1,h2⟩:=bd_ h
 rcases ite_ h2 with ⟨g3,h4⟩ | ⟨g3,h4⟩
 ·subst g3
  obtain ⟨g5,h6⟩:=ip_ h4
  obtain ⟨g7,h8⟩:=ip_ h6
  rcases ite_ h8 with ⟨g9,h10⟩ | ⟨g9,h10⟩
  ·obtain ⟨rfl,rfl,rfl⟩:=pr3_ h10
   exact leafRet (hn:=hn17) 13 [.call (vb true),.elem (vi (rd l0_1 a1)),.val (.bool true),.go] [] .ret (.inr rfl) (by kernel_rfl) (And.intro (ad_61 c1) (And.intro (iI_rd (k:=.i64) (xs:=l0_1) (i:=a1) g5 g7) (int_eql (P:=Tryz.prog) (t:=3) (k:=.i64) (x:=(.tmp 15)) (y:=(.const (.int .i64 (-1)))) (a:=(rd l0_1 a1)) (b:=(-1)) (v:=true) (beq_iff_eq.2 g9)))) (by kernel_rfl)
  ·obtain ⟨⟨bt587_1,bt587_2⟩,c11,h12⟩:=bd_ h10
   try dsimp only at h12
   obtain ⟨rfl,rfl,rfl⟩:=pr3_ h12
   exact leafRet (hn:=hn17) 14 [.call (vb true),.elem (vi (rd l0_1 a1)),.val (.bool false),.call (.agg [.sl (iS67 bt587_1),.sl (iI .i64 bt587_2)])] [] .ret (.inr rfl) (by kernel_rfl) (And.intro (And.intro (ad_61 c1) (And.intro (iI_rd (k:=.i64) (xs:=l0_1) (i:=a1) g5 g7) (int_eql (P:=Tryz.prog) (t:=3) (k:=.i64) (x:=(.tmp 15)) (y:=(.const (.int .i64 (-1)))) (a:=(rd l0_1 a1)) (b:=(-1)) (v:=false) (beq_false_of_ne g9)))) (ad_55 c11)) (by kernel_rfl)
 ·obtain rfl:=Bool.eq_false_iff.2 g3
  obtain ⟨rfl,rfl,rfl⟩:=pr3_ h4
  exact leafRet (hn:=hn17) 13 [.call (vb false),.go] [] .ret (.inr rfl) (by kernel_rfl) (ad_61 c1) (by kernel_rfl)

def hn18:Hint:=⟨[(1,[15])]⟩
def o18 (r:Int × Bool):List AV:=[vi r.1,vb r.2]
def p18 (r:Int × Bool):List (Nat × AV):=[]
set_option maxRecDepth 100000 in
theorem ad_18 {k:Nat} {l0_0:List (S67)} {l0_1:List Int} {r1:Int} {r2:Bool} (h:impl_CountSolutions.f k l0_0 l0_1 = some (r1,r2)):CallH Tryz.prog 18 [.agg [.sl (iS67 l0_0),.sl (iI .i64 l0_1)]] [] (.tup [vi r1,vb r2]) []:=by
 unfold impl_CountSolutions.f at h
 refine call_ok (c:=bodyOf Tryz.f18) (rs:=o18 (r1,r2)) (post:=p18 (r1,r2)) Tryz.func18 rfl rfl rfl (by kernel_rfl) ?_
 show AtP Tryz.prog 14 (bodyOf Tryz.f18) (KR Tryz.prog Tryz.f18.results.toList (o18 (r1,r2)) (p18 (r1,r2))) [] [] (lookA [(0,.agg [.sl (iS67 l0_0),.sl (iI .i64 l0_1)])])
 obtain ⟨⟨bt594_1,bt594_2⟩,c1,h2⟩:=bd_ h
 try dsimp only at h2
 obtain ⟨rfl,rfl⟩:=pr2_ h2
 exact leafRet (hn:=hn18) 10 [.call (.tup [.sl (iL (iI .i64) bt594_1),vb bt594_2]),.val (.int .i64 (bt594_1.length:Int))] [] .ret (.inr rfl) (by kernel_rfl) (And.intro (ad_14 c1) (iL_len (f:=(iI .i64)) (xs:=bt594_1))) (by kernel_rfl)
end Go.Proofs.YtfkonhamjnembaaGreat.QFnPuzzlesMade
