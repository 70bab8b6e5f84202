/- Contracts of the functions, checked by the interpreter. No conditions. -/
import Derived.Test.YtkaafmnfcbgafaaQFnHandsAsSetsx0
import Derived.Test.YtkaafmnfcbgafaaQFnHandsAsSetsx1
import Derived.Test.YtkaafmnfcbgafaaQFnHandsAsSetsx2
import Derived.Test.YtkaafmnfcbgafaaQFnHandsAsSetsx3
import Derived.Test.YtkaafmnfcbgafaaQFnHandsAsSetsx4
import Derived.Test.YtkaafmnfcbgafaaQFnHandsAsSetsx5
import Derived.Test.YtkaafmnfcbgafaaQFnHandsAsSetsx6
import Derived.Test.YtkaafmnfcbgafaaQFnHandsAsSetsx7
import Derived.Test.YtkaafmnfcbgafaaQFnHandsAsSetsx8
import Derived.Test.YtkaafmnfcbgafaaHeapB
import Derived.Laws.StructEq
namespace Go.Proofs.Ytkaafmnfcbgafaa.QFnHandsAsSets
open Go.RowKit Go.Rh Go.Proofs.YtkaafmnfcbgafaaW.PrintWords Go.Proofs.YtkaafmnfcbgafaaW.PrintLast Go.Proofs.YtkaafmnfcbgafaaW.PrintMore
set_option linter.unusedVariables false
set_option linter.unusedSimpArgs false
theorem len0:((([] : List AV).length:Nat):Int) = 0:=rfl
theorem iI_len {k:IntKind} {xs:List Int}:(((iI k xs).length:Nat):Int) = (xs.length:Int):=by simp [iI]
theorem iI_rd {k:IntKind} {xs:List Int} {i:Int} (h0:0 ≤ i) (h1:i < (xs.length:Int)):0 ≤ i ∧ (iI k xs)[i.toNat]? = some (.val (.int k (rd xs i))):=get_of (f:=fun z => .val (.int k z)) (d:=0) h0 h1
theorem tl_len {b:List AV} {n i:Nat} (h:((b.length:Nat):Int) = (n:Int)):((b.length - i:Nat):Int) = ((n - i:Nat):Int):=by omega
theorem tl_lt {m:Int} {n i:Nat} (h0:0 ≤ m) (h:0 ≤ (((i + m.toNat:Nat)):Int) ∧ (((i + m.toNat:Nat)):Int).toNat < n):0 ≤ m ∧ i + m.toNat < n:=⟨h0,h.2⟩
theorem clr_of {α:Type} {f:α → AV} {xs:List α} {d:α} {i:Int} (h0:0 ≤ i) (h1:i < (xs.length:Int)):i.toNat < (xs.map f).length ∧ (xs.take i.toNat ++ List.replicate (xs.length - i.toNat) d).map f = (xs.map f).take i.toNat ++ List.replicate ((xs.map f).length - i.toNat) (f d):=⟨by rw [List.length_map]; omega,by rw [List.map_append,List.map_take,List.map_replicate,List.length_map]⟩
structure FlatE {α : Type} (d : Kd α) (enc : α → AV) (cells : α → List Value) : Prop where
  k:∀ {w x cs},d.K w x cs → cs = cells x
  mk_:∀ w x,d.K w x (cells x)
  cs:∀ w ok x,Cs w ok (enc x) (cells x)
  un:∀ {w ok x cs},Cs w ok (enc x) cs → cs = cells x
  pos:0 < d.sz
theorem one_un {w:World} {ok:Nat → Nat → Prop} {v:Value} {cs:List Value} (h:Cs w ok (.val v) cs):cs = [v]:=by
  cases h with
  | one _ u _ hr => rw [(rep_val hr).1]
theorem flat_int (k:IntKind):FlatE (Kd.int k) (fun z => .val (.int k z)) (fun z => [.int k z]) :=
  ⟨fun h => h,fun _ _ => rfl,fun _ _ _ => .one _ _ rfl (.val _ rfl),fun h => one_un h,Nat.one_pos⟩
theorem agg_un {w:World} {ok:Nat → Nat → Prop} {l:List AV} {vs cs:List Value} (hv:valsOf l = some vs) (h:Cs w ok (.agg l) cs):cs = vs:=by
  cases h with
  | one _ _ hx _ => cases hx
  | agg _ _ hl ho h =>
    have:=valsOf_eq hv
    subst this
    exact vals_rep (by simpa using hl) h
theorem arg_of {α:Type} {d:Kd α} {enc:α → AV} {cells:α → List Value} (F:FlatE d enc cells) {w:World} {ok:Nat → Nat → Prop} {xs:List α} {v:Value} (h:Rep w ok (.sl (xs.map enc)) v) :
    ∃ A c,v = .slice A xs.length c ∧ xs.length ≤ c ∧ Kd.C d w A xs.length xs:=by
  obtain ⟨A,c,sz,ad,cs,h1,h2,h3,h4,h5,h6⟩:=rep_sl h
  simp only [List.length_map] at h1 h2 h3 h5 h6
  refine ⟨A,c,h1,h2.1,rfl,h2.2,fun hn => ⟨ad,(h3 hn).1,fun j p hj => ?_⟩⟩
  have hlt:=(List.getElem?_eq_some_iff.1 hj).1
  have hc:=F.un (h4 j (enc p) (by rw [List.getElem?_map,hj]; rfl))
  have hk:=F.mk_ w p
  have hl:=d.K_len hk
  have hsz:sz = d.sz:=by rw [← h5 j hlt,hc,hl]
  exact ⟨cells p,hl,hk,fun i u hu => by rw [← hsz,add_eq (h3 hn).2.1]; exact h6 j hlt i u (by rw [hc]; exact hu)⟩
theorem rep_of {α:Type} {d:Kd α} {enc:α → AV} {cells:α → List Value} (F:FlatE d enc cells) {w:World} {ok:Nat → Nat → Prop} {xs:List α} {A:Option Addr} {c:Nat} (h:Kd.C d w A xs.length xs) (hc:xs.length ≤ c) (hp:0 < d.sz)
    (hok:∀ ad,A = some ad → ad.block < w.heap.size → ∀ o,ok ad.block o):Rep w ok (.sl (xs.map enc)) (.slice A xs.length c):=by
  obtain ⟨_,h1,h2⟩:=h
  by_cases hn:0 < xs.length
  · obtain ⟨ad,rfl,h3⟩:=h2 hn
    have hcell:∀ (j:Nat) (p:α),xs[j]? = some p → (cells p).length = d.sz ∧ ∀ i u,(cells p)[i]? = some u → w.cell? (ad.add (j * d.sz + i)) = some u:=by
      intro j p hj
      obtain ⟨cs,g1,g2,g3⟩:=h3 j p hj
      rw [F.k g2] at g1 g3
      exact ⟨g1,g3⟩
    have h0:=hcell 0 xs[0] (List.getElem?_eq_getElem hn)
    have hb:ad.block < w.heap.size ∧ ad.spot = none:=by
      have hl:0 < (cells xs[0]).length:=by rw [h0.1]; exact hp
      have:=h0.2 0 _ (List.getElem?_eq_getElem hl)
      have hadd:ad.add (0 * d.sz + 0) = ad:=by rw [Nat.zero_mul]; rfl
      rw [hadd] at this
      unfold World.cell? at this
      split at this
      · rename_i cs t f hb
        refine ⟨(Array.getElem?_eq_some_iff.1 hb).1,?_⟩
        split at this
        · cases this
        · rename_i hs
          cases hsp:ad.spot with
          | none => rfl
          | some x => rw [hsp] at hs; exact absurd rfl hs
      · cases this
    refine .sl _ _ _ _ d.sz ad (fun i => (xs[i]?.map cells).getD []) (by simp) ⟨hc,h1⟩ (fun _ => ⟨rfl,hb.2,fun k _ => hok ad rfl hb.1 _⟩) (fun i x hx => ?_) (fun i hi => ?_) (fun i hi j u hu => ?_)
    · rw [List.getElem?_map] at hx
      obtain ⟨p,hp2,rfl⟩:=Option.map_eq_some_iff.1 hx
      rw [hp2]
      exact F.cs w ok p
    · rw [List.getElem?_eq_getElem hi]
      exact (hcell i _ (List.getElem?_eq_getElem hi)).1
    · rw [List.getElem?_eq_getElem hi] at hu
      rw [← add_eq hb.2]
      exact (hcell i _ (List.getElem?_eq_getElem hi)).2 j u hu
  · have h0:xs.length = 0:=by omega
    have hl:=List.length_eq_zero_iff.1 h0
    subst hl
    exact .sl [] A 0 c 0 ⟨0,0,none⟩ (fun _ => []) rfl ⟨hc,h1⟩ (fun h => absurd h (Nat.lt_irrefl _)) (fun i x hx => by simp at hx) (fun i hi => absurd hi (Nat.not_lt_zero _)) (fun i hi => absurd hi (Nat.not_lt_zero _))
theorem res_of {α:Type} {d:Kd α} {enc:α → AV} {cells:α → List Value} (F:FlatE d enc cells) {w':World} {base e:Nat} {ok:Nat → Nat → Prop} {okp:Nat → Prop} {xs:List α} {v:Value} (h:Kd.R d e w' base okp v xs) :
    Rep w' (fun b o => ok b o ∨ (base ≤ b ∧ b < w'.heap.size)) (.sl (xs.map enc)) v:=by
  obtain ⟨A,c,he,hl,hc⟩:=Kd.R_reads h
  have hb:=Kd.R_bound h
  rw [he]
  refine rep_of F hc hl F.pos fun ad hA hlt o => .inr ⟨?_,hlt⟩
  have:=hb.1 ad.block (by rw [he,hA]; rfl)
  exact this.2.1
theorem own_of {α:Type} {P:Program} {d:Kd α} {enc:α → AV} {cells:α → List Value} (F:FlatE d enc cells) {w':World} {base e:Nat} {okp:Nat → Prop} {xs:List α} {v:Value} (hi:(P.info? e).map (·.size) = some d.sz) (h:Kd.R d e w' base okp v xs) :
    ∃ sz inner,w'.ownsRow base e sz v (xs.map enc).length inner ∧ 0 < sz ∧ (P.info? e).map (·.size) = some sz ∧ ∀ (ok':Nat → Nat → Prop) (i:Nat) (x:AV),(xs.map enc)[i]? = some x → Cs w' ok' x ((inner.drop (i * sz)).take sz):=by
  obtain ⟨h0,inner,ho,hr⟩:=h
  refine ⟨d.sz,inner,by rw [List.length_map]; exact ho,F.pos,hi,fun ok' i x hx => ?_⟩
  rw [List.getElem?_map] at hx
  obtain ⟨p,hp,rfl⟩:=Option.map_eq_some_iff.1 hx
  rw [F.k (d.K_of_M (hr.2 i p hp))]
  exact F.cs _ _ _
theorem argL_of {α:Type} {d:Kd α} {enc:α → AV} {cells:α → List Value} (F:FlatE d enc cells) {f:List α → List AV} (hf:∀ xs,f xs = xs.map enc) {e:Nat} {w:World} {ok:Nat → Nat → Prop} {xs:List (List α)} {v:Value} (h:Rep w ok (.sl (iL f xs)) v) :
    ∃ A c,v = .slice A xs.length c ∧ xs.length ≤ c ∧ Kd.C (Kd.slice e d) w A xs.length xs:=by
  obtain ⟨A,c,sz,ad,cs,h1,h2,h3,h4,h5,h6⟩:=rep_sl h
  have hll:(iL f xs).length = xs.length:=by simp [iL]
  rw [hll] at h1 h2 h3 h5 h6
  refine ⟨A,c,h1,h2.1,rfl,h2.2,fun hn => ⟨ad,(h3 hn).1,fun j p hj => ?_⟩⟩
  have hlt:=(List.getElem?_eq_some_iff.1 hj).1
  have hc:=h4 j (.sl (f p)) (by unfold iL; rw [List.getElem?_map,hj]; rfl)
  generalize hcs:cs j = c1 at hc
  cases hc with
  | one _ u _ hu =>
    rw [hf] at hu
    obtain ⟨A',c',rfl,k1,k2⟩:=arg_of F hu
    have hsz:sz = 1:=by rw [← h5 j hlt,hcs]; rfl
    subst hsz
    exact ⟨[.slice A' p.length c'],rfl,⟨A',c',rfl,k1,k2⟩,fun i u hu => by
      show w.cell? (ad.add (j * 1 + i)) = some u
      rw [add_eq (h3 hn).2.1]
      exact h6 j hlt i u (by rw [hcs]; exact hu)⟩

def iS35 (xs:List S35):List AV:=xs.map fun z => .agg [.val (.int .i64 z.f0),.val (.int .i64 z.f1)]
theorem iS35_len {xs:List S35}:(((iS35 xs).length:Nat):Int) = (xs.length:Int):=by simp [iS35]
theorem iS35_rd {xs:List S35} {i:Int} (h0:0 ≤ i) (h1:i < (xs.length:Int)):0 ≤ i ∧ (iS35 xs)[i.toNat]? = some (.agg [.val (.int .i64 ((rd_T35 xs i).f0)),.val (.int .i64 ((rd_T35 xs i).f1))]):=get_of (f:=fun z:S35 => .agg [.val (.int .i64 z.f0),.val (.int .i64 z.f1)]) (d:=z35) h0 h1
theorem iS35_take {xs:List S35} {b:Int} (h1:0 ≤ b) (h2:b ≤ (xs.length:Int)):SubIs 2 (iS35 xs) 0 b (iS35 (xs.take b.toNat)):=sub_take (f:=fun z:S35 => .agg [.val (.int .i64 z.f0),.val (.int .i64 z.f1)]) (fun _ => rfl) h1 h2
theorem iS35_app {b N:Nat} {xs ys:List S35} (hN:N * b ≤ 140737488355328) (h:xs.length + ys.length ≤ N):AppIs 2 b (iS35 xs) (iS35 ys) (iS35 (xs ++ ys)):=app_of (f:=fun z:S35 => .agg [.val (.int .i64 z.f0),.val (.int .i64 z.f1)]) (fun _ => rfl) hN h
theorem iS35_set {xs:List S35} {i:Int} {x:S35} (h0:0 ≤ i) (h1:i < (xs.length:Int)):(iS35 xs)[i.toNat]? = some (.agg [.val (.int .i64 ((rd_T35 xs i).f0)),.val (.int .i64 ((rd_T35 xs i).f1))]) ∧ iS35 (xs.set i.toNat x) = (iS35 xs).set i.toNat (.agg [.val (.int .i64 x.f0),.val (.int .i64 x.f1)]):=set_of (f:=fun z:S35 => .agg [.val (.int .i64 z.f0),.val (.int .i64 z.f1)]) (d:=z35) h0 h1
theorem iS35_clr {xs:List S35} {i:Int} (h0:0 ≤ i) (h1:i < (xs.length:Int)):i.toNat < (iS35 xs).length ∧ iS35 (xs.take i.toNat ++ List.replicate (xs.length - i.toNat) z35) = (iS35 xs).take i.toNat ++ List.replicate ((iS35 xs).length - i.toNat) (.agg [.val (.int .i64 z35.f0),.val (.int .i64 z35.f1)]):=clr_of (f:=fun z:S35 => .agg [.val (.int .i64 z.f0),.val (.int .i64 z.f1)]) (d:=z35) h0 h1
theorem iS35_lt {xs:List S35} {i:Int} (h0:0 ≤ i) (h1:i < (xs.length:Int)):0 ≤ i ∧ i.toNat < (iS35 xs).length:=lt_of (f:=fun z:S35 => .agg [.val (.int .i64 z.f0),.val (.int .i64 z.f1)]) h0 h1
theorem flat_35:FlatE k35 (fun z => .agg [.val (.int .i64 z.f0),.val (.int .i64 z.f1)]) (fun z => [.int .i64 z.f0,.int .i64 z.f1]) :=
  ⟨fun h => k35_open h,fun w x => k35_mk w x,fun w ok x => .agg _ _ rfl (by intro x hx; simp at hx; rcases hx with rfl | rfl <;> rfl) (by
    intro i x v hx hv
    match i with
    | 0 => simp only [List.getElem?_cons_succ,List.getElem?_cons_zero,Option.some.injEq] at hx hv; subst hx hv; exact .val _ rfl
    | 1 => simp only [List.getElem?_cons_succ,List.getElem?_cons_zero,Option.some.injEq] at hx hv; subst hx hv; exact .val _ rfl
    | i + 2 => simp at hx),fun h => agg_un rfl h,by decide⟩
theorem agg_35_eql {x y:Operand} {a0 b0:Int} {a1 b1:Int} {v:Bool} (h:((a0 == b0) && (a1 == b1)) = v):BinIs Try.prog .eql 35 x y (.agg [.int .i64 a0,.int .i64 a1].toArray) (.agg [.int .i64 b0,.int .i64 b1].toArray) (.bool v):=by
  intro w
  have hu:=Try.underlying35
  subst h
  by_cases g0:a0 = b0 <;> by_cases g1:a1 = b1 <;> simp_all [go_sem]
theorem agg_35_neq {x y:Operand} {a0 b0:Int} {a1 b1:Int} {v:Bool} (h:(!((a0 == b0) && (a1 == b1))) = v):BinIs Try.prog .neq 35 x y (.agg [.int .i64 a0,.int .i64 a1].toArray) (.agg [.int .i64 b0,.int .i64 b1].toArray) (.bool v):=by
  intro w
  have hu:=Try.underlying35
  subst h
  by_cases g0:a0 = b0 <;> by_cases g1:a1 = b1 <;> simp_all [go_sem]
theorem build_35_2 {p0:Int} {p1:Int}:BuildIs Try.prog 35 #[(0,.int .i64 p0),(1,.int .i64 p1)] (.agg [.int .i64 p0,.int .i64 p1].toArray):=by
  intro w
  simp [go_sem,Instr.build]
theorem conv_3_45 {a:Int}:ConvIs Try.prog 3 45 (.int .i64 a) (.int .u64 (IntKind.wrap .u64 a)):=by
  rw [← show IntKind.wrap .u64 a = IntKind.wrap .u64 a from rfl]
  exact conv_int (by rw [Try.underlying3]; rfl) Try.underlying45
theorem conv_5_3 {a:Int}:ConvIs Try.prog 5 3 (.int .u8 a) (.int .i64 (wrap64 a)):=by
  rw [← IntWalk.i64_left]
  exact conv_int (by rw [Try.underlying5]; rfl) Try.underlying3
theorem conv_45_3 {a:Int}:ConvIs Try.prog 45 3 (.int .u64 a) (.int .i64 (wrap64 a)):=by
  rw [← IntWalk.i64_left]
  exact conv_int (by rw [Try.underlying45]; rfl) Try.underlying3
theorem ad_13 {k:Nat} {l0:List (S35)} {r:Bool} (h:impl_IsHand.f k l0 = some r):CallH Try.prog 13 [.sl (iS35 l0)] [] (vb r) [] :=
  callOk_res Try.func13 rfl rfl rfl fun w ok vs hok hv => by
    cases hv with
    | cons h1_ t1_ =>
     cases t1_
     obtain ⟨A0,c0,rfl,hc0,hr0⟩:=arg_of flat_35 h1_
     exact (impl_IsHand.calls k A0 c0 l0 r w hr0 hc0 h).mono (by rintro e w' ⟨rfl,hb_⟩; exact ⟨_,rfl,(rep_resV rfl),hb_⟩)

theorem ad_29 {l0:List S35} {r:List S35} (h:impl_sorted.f l0 = some r):CallH Try.prog 29 [.sl (iS35 l0)] [] (.row 500000) [(500000,.ow true 35 (iS35 r))] :=
  callOk_own Try.func29 rfl rfl rfl fun w ok vs hok hv => by
    cases hv with
    | cons h1_ t1_ =>
     cases t1_
     obtain ⟨A0,c0,rfl,hc0,hr0⟩:=arg_of flat_35 h1_
     exact (impl_sorted.calls A0 c0 l0 r w hr0 hc0 h).mono (by rintro e w' ⟨v0_,rfl,hRv0_,hb_⟩; exact ⟨_,rfl,(own_of flat_35 (by kernel_rfl) hRv0_),hb_⟩)

theorem ad_30 {k:Nat} {l0:List (List (S35))} {r:List (S35)} (h:slices_Concat_impl_Tile_impl_Tile.f k l0 = some r):CallH Try.prog 30 [.sl (iL (iS35) l0)] [] (.sl (iS35 r)) [] :=
  callOk_res Try.func30 rfl rfl rfl fun w ok vs hok hv => by
    cases hv with
    | cons h1_ t1_ =>
     cases t1_
     obtain ⟨A0,c0,rfl,hc0,hr0⟩:=argL_of (f:=iS35) flat_35 (fun _ => rfl) h1_
     exact (slices_Concat_impl_Tile_impl_Tile.calls k A0 c0 l0 r w hr0 hc0 h).mono (by rintro e w' ⟨v0_,rfl,hRv0_,hb_⟩; exact ⟨_,rfl,(res_of flat_35 hRv0_),hb_⟩)

theorem ad_46 {l0:List (S35)} {a1:Int} {r:Bool} (h:impl_isUpTo.f l0 a1 = some r):CallH Try.prog 46 [.sl (iS35 l0),vi a1] [] (vb r) [] :=
  callOk_res Try.func46 rfl rfl rfl fun w ok vs hok hv => by
    cases hv with
    | cons h1_ t1_ =>
     cases t1_ with
     | cons h2_ t2_ =>
      cases t2_
      obtain ⟨A0,c0,rfl,_hc0,hr0⟩:=arg_of flat_35 h1_
      obtain rfl:=toV_rep rfl h2_
      exact (impl_isUpTo.calls A0 c0 l0 a1 r w hr0 _hc0 h).mono (by rintro e w' ⟨rfl,hb_⟩; exact ⟨_,rfl,(rep_resV rfl),hb_⟩)

def hn4:Hint:=⟨[],[]⟩
def o4 (r:Bool):List AV:=[vb r]
def p4 (r:Bool):List (Nat × AV):=[]
set_option maxRecDepth 100000 in
theorem ad_4 {l0:List Int} {l1:List Int} {r:Bool} (h:laws_big.f l0 l1 = some r):CallH Try.prog 4 [.sl (iI .u8 l0),.sl (iI .u8 l1)] [] (vb r) []:=by
 unfold laws_big.f at h
 refine call_ok (c:=bodyOf Try.f4) (rs:=o4 r) (post:=p4 r) Try.func4 rfl rfl rfl (by kernel_rfl) ?_
 show AtP Try.prog 16 (bodyOf Try.f4) (KR Try.prog Try.f4.results.toList (o4 r) (p4 r)) [] [] (lookA [(0,.sl (iI .u8 l0)),(1,.sl (iI .u8 l1))])
 rcases ite_ h with ⟨g1,h2⟩ | ⟨g1,h2⟩
 ·obtain rfl:=Option.some.inj h2
  exact leafRet (hn:=hn4) 7 [.val (.int .i64 (l0.length:Int)),.val (.bool true)] [] .ret (.inr rfl) (by kernel_rfl) (And.intro (iI_len (k:=.u8) (xs:=l0)) (int_gtr (P:=Try.prog) (t:=3) (k:=.i64) (x:=(.tmp 6)) (y:=(.const (.int .i64 1048576))) (a:=(l0.length:Int)) (b:=1048576) (v:=true) (decide_eq_true g1))) (by kernel_rfl)
 ·obtain rfl:=Option.some.inj h2
  exact leafRet (hn:=hn4) 7 [.val (.int .i64 (l0.length:Int)),.val (.bool false),.val (.int .i64 (l1.length:Int)),.val (.int .i64 (l0.length:Int)),.val (.int .i64 (wrap64 (1048576 - (l0.length:Int)))),.val (.bool (decide ((l1.length:Int) > (wrap64 (1048576 - (l0.length:Int))))))] [] .ret (.inr rfl) (by kernel_rfl) (And.intro (iI_len (k:=.u8) (xs:=l0)) (And.intro (int_gtr (P:=Try.prog) (t:=3) (k:=.i64) (x:=(.tmp 6)) (y:=(.const (.int .i64 1048576))) (a:=(l0.length:Int)) (b:=1048576) (v:=false) (decide_eq_false g1)) (And.intro (iI_len (k:=.u8) (xs:=l1)) (And.intro (iI_len (k:=.u8) (xs:=l0)) (And.intro (int_sub (P:=Try.prog) (t:=3) (k:=.i64) (x:=(.const (.int .i64 1048576))) (y:=(.tmp 12)) (a:=1048576) (b:=(l0.length:Int)) (c:=(wrap64 (1048576 - (l0.length:Int)))) (IntWalk.i64_left _)) (int_gtr (P:=Try.prog) (t:=3) (k:=.i64) (x:=(.tmp 10)) (y:=(.tmp 13)) (a:=(l1.length:Int)) (b:=(wrap64 (1048576 - (l0.length:Int)))) (v:=(decide ((l1.length:Int) > (wrap64 (1048576 - (l0.length:Int)))))) rfl)))))) (by kernel_rfl)

def hn73:Hint:=⟨[(6,[1000000]),(10,[1000000]),(16,[1000000]),(20,[1000000]),(27,[1000000]),(31,[1000000]),(35,[1000000]),(43,[1000000]),(46,[1000000]),(50,[1000000]),(57,[1000000])],[]⟩
def o73 (r:Int × Int × Int) (s0_0:List Int) (s0_1:Int) (s0_2:Int):List AV:=[vi r.1]
def p73 (r:Int × Int × Int) (s0_0:List Int) (s0_1:Int) (s0_2:Int):List (Nat × AV):=[(1000000,.box (.agg [.sl (iI .u8 s0_0),vi r.2.1,.val (.int .u64 r.2.2)]))]
set_option maxRecDepth 100000 in
theorem ad_73 {s0_0:List Int} {s0_1:Int} {s0_2:Int} {r1:Int} {r2:Int} {r3:Int} (h:spec_l1Cur_next.f s0_0 s0_1 s0_2 = some (r1,r2,r3)):CallH Try.prog 73 [.loc 1000000 0] [(1000000,.box (.agg [.sl (iI .u8 s0_0),vi s0_1,.val (.int .u64 s0_2)]))] (vi r1) [(1000000,.box (.agg [.sl (iI .u8 s0_0),vi r2,.val (.int .u64 r3)]))]:=by
 unfold spec_l1Cur_next.f at h
 refine call_ok (c:=bodyOf Try.f73) (rs:=o73 (r1,r2,r3) s0_0 s0_1 s0_2) (post:=p73 (r1,r2,r3) s0_0 s0_1 s0_2) Try.func73 rfl rfl rfl (by kernel_rfl) ?_
 show AtP Try.prog 62 (bodyOf Try.f73) (KR Try.prog Try.f73.results.toList (o73 (r1,r2,r3) s0_0 s0_1 s0_2) (p73 (r1,r2,r3) s0_0 s0_1 s0_2)) [] [] (lookA [(0,.loc 1000000 0),(1000000,.box (.agg [.sl (iI .u8 s0_0),vi s0_1,.val (.int .u64 s0_2)]))])
 rcases ite_ h with ⟨g1,h2⟩ | ⟨g1,h2⟩
 ·obtain ⟨g3,h4⟩:=ip_ h2
  rcases ite_ h4 with ⟨g5,h6⟩ | ⟨g5,h6⟩
  ·obtain ⟨rfl,rfl,rfl⟩:=pr3_ h6
   exact leafRet (hn:=hn73) 29 [.val (.int .i64 (s0_0.length:Int)),.val (.bool true),.elem (.val (.int .u8 (rd s0_0 s0_1))),.val (.int .i64 (wrap64 (rd s0_0 s0_1))),.val (.int .i64 (wrap64 (s0_1 + 1))),.val (.int .u64 (IntKind.wrap .u64 (s0_2 * 6364136223846793005))),.val (.int .u64 (IntKind.wrap .u64 (wrap64 (rd s0_0 s0_1)))),.val (.int .u64 (IntKind.wrap .u64 ((IntKind.wrap .u64 (s0_2 * 6364136223846793005)) + (IntKind.wrap .u64 (wrap64 (rd s0_0 s0_1)))))),.val (.int .u64 (IntKind.wrap .u64 ((IntKind.wrap .u64 ((IntKind.wrap .u64 (s0_2 * 6364136223846793005)) + (IntKind.wrap .u64 (wrap64 (rd s0_0 s0_1))))) + 1442695040888963407))),.val (.int .i64 (s0_0.length:Int)),.val (.bool true)] [] .ret (.inr rfl) (by kernel_rfl) (And.intro (And.intro (iI_len (k:=.u8) (xs:=s0_0)) (int_lss (P:=Try.prog) (t:=3) (k:=.i64) (x:=(.tmp 7)) (y:=(.tmp 12)) (a:=s0_1) (b:=(s0_0.length:Int)) (v:=true) (decide_eq_true g1))) (And.intro (And.intro (iI_rd (k:=.u8) (xs:=s0_0) (i:=s0_1) g3 g1) (conv_5_3 (a:=(rd s0_0 s0_1)))) (And.intro (int_add (P:=Try.prog) (t:=3) (k:=.i64) (x:=(.tmp 28)) (y:=(.const (.int .i64 1))) (a:=s0_1) (b:=1) (c:=(wrap64 (s0_1 + 1))) (IntWalk.i64_left _)) (And.intro (And.intro (int_mul (P:=Try.prog) (t:=45) (k:=.u64) (x:=(.tmp 36)) (y:=(.const (.int .u64 6364136223846793005))) (a:=s0_2) (b:=6364136223846793005) (c:=(IntKind.wrap .u64 (s0_2 * 6364136223846793005))) rfl) (And.intro (conv_3_45 (a:=(wrap64 (rd s0_0 s0_1)))) (And.intro (int_add (P:=Try.prog) (t:=45) (k:=.u64) (x:=(.tmp 37)) (y:=(.tmp 39)) (a:=(IntKind.wrap .u64 (s0_2 * 6364136223846793005))) (b:=(IntKind.wrap .u64 (wrap64 (rd s0_0 s0_1)))) (c:=(IntKind.wrap .u64 ((IntKind.wrap .u64 (s0_2 * 6364136223846793005)) + (IntKind.wrap .u64 (wrap64 (rd s0_0 s0_1)))))) rfl) (int_add (P:=Try.prog) (t:=45) (k:=.u64) (x:=(.tmp 40)) (y:=(.const (.int .u64 1442695040888963407))) (a:=(IntKind.wrap .u64 ((IntKind.wrap .u64 (s0_2 * 6364136223846793005)) + (IntKind.wrap .u64 (wrap64 (rd s0_0 s0_1)))))) (b:=1442695040888963407) (c:=(IntKind.wrap .u64 ((IntKind.wrap .u64 ((IntKind.wrap .u64 (s0_2 * 6364136223846793005)) + (IntKind.wrap .u64 (wrap64 (rd s0_0 s0_1))))) + 1442695040888963407))) rfl)))) (And.intro (iI_len (k:=.u8) (xs:=s0_0)) (int_leq (P:=Try.prog) (t:=3) (k:=.i64) (x:=(.tmp 47)) (y:=(.tmp 52)) (a:=(wrap64 (s0_1 + 1))) (b:=(s0_0.length:Int)) (v:=true) (decide_eq_true g5))))))) (by kernel_rfl)
  ·obtain ⟨rfl,rfl,rfl⟩:=pr3_ h6
   exact leafRet (hn:=hn73) 30 [.val (.int .i64 (s0_0.length:Int)),.val (.bool true),.elem (.val (.int .u8 (rd s0_0 s0_1))),.val (.int .i64 (wrap64 (rd s0_0 s0_1))),.val (.int .i64 (wrap64 (s0_1 + 1))),.val (.int .u64 (IntKind.wrap .u64 (s0_2 * 6364136223846793005))),.val (.int .u64 (IntKind.wrap .u64 (wrap64 (rd s0_0 s0_1)))),.val (.int .u64 (IntKind.wrap .u64 ((IntKind.wrap .u64 (s0_2 * 6364136223846793005)) + (IntKind.wrap .u64 (wrap64 (rd s0_0 s0_1)))))),.val (.int .u64 (IntKind.wrap .u64 ((IntKind.wrap .u64 ((IntKind.wrap .u64 (s0_2 * 6364136223846793005)) + (IntKind.wrap .u64 (wrap64 (rd s0_0 s0_1))))) + 1442695040888963407))),.val (.int .i64 (s0_0.length:Int)),.val (.bool false),.val (.int .u64 ((IntKind.wrap .u64 ((IntKind.wrap .u64 ((IntKind.wrap .u64 (s0_2 * 6364136223846793005)) + (IntKind.wrap .u64 (wrap64 (rd s0_0 s0_1))))) + 1442695040888963407)) / 1099511627776)),.val (.int .u64 (Go.bits .and .u64 ((IntKind.wrap .u64 ((IntKind.wrap .u64 ((IntKind.wrap .u64 (s0_2 * 6364136223846793005)) + (IntKind.wrap .u64 (wrap64 (rd s0_0 s0_1))))) + 1442695040888963407)) / 1099511627776) 255)),.val (.int .i64 (wrap64 (Go.bits .and .u64 ((IntKind.wrap .u64 ((IntKind.wrap .u64 ((IntKind.wrap .u64 (s0_2 * 6364136223846793005)) + (IntKind.wrap .u64 (wrap64 (rd s0_0 s0_1))))) + 1442695040888963407)) / 1099511627776) 255)))] [] .ret (.inr rfl) (by kernel_rfl) (And.intro (And.intro (iI_len (k:=.u8) (xs:=s0_0)) (int_lss (P:=Try.prog) (t:=3) (k:=.i64) (x:=(.tmp 7)) (y:=(.tmp 12)) (a:=s0_1) (b:=(s0_0.length:Int)) (v:=true) (decide_eq_true g1))) (And.intro (And.intro (iI_rd (k:=.u8) (xs:=s0_0) (i:=s0_1) g3 g1) (conv_5_3 (a:=(rd s0_0 s0_1)))) (And.intro (int_add (P:=Try.prog) (t:=3) (k:=.i64) (x:=(.tmp 28)) (y:=(.const (.int .i64 1))) (a:=s0_1) (b:=1) (c:=(wrap64 (s0_1 + 1))) (IntWalk.i64_left _)) (And.intro (And.intro (int_mul (P:=Try.prog) (t:=45) (k:=.u64) (x:=(.tmp 36)) (y:=(.const (.int .u64 6364136223846793005))) (a:=s0_2) (b:=6364136223846793005) (c:=(IntKind.wrap .u64 (s0_2 * 6364136223846793005))) rfl) (And.intro (conv_3_45 (a:=(wrap64 (rd s0_0 s0_1)))) (And.intro (int_add (P:=Try.prog) (t:=45) (k:=.u64) (x:=(.tmp 37)) (y:=(.tmp 39)) (a:=(IntKind.wrap .u64 (s0_2 * 6364136223846793005))) (b:=(IntKind.wrap .u64 (wrap64 (rd s0_0 s0_1)))) (c:=(IntKind.wrap .u64 ((IntKind.wrap .u64 (s0_2 * 6364136223846793005)) + (IntKind.wrap .u64 (wrap64 (rd s0_0 s0_1)))))) rfl) (int_add (P:=Try.prog) (t:=45) (k:=.u64) (x:=(.tmp 40)) (y:=(.const (.int .u64 1442695040888963407))) (a:=(IntKind.wrap .u64 ((IntKind.wrap .u64 (s0_2 * 6364136223846793005)) + (IntKind.wrap .u64 (wrap64 (rd s0_0 s0_1)))))) (b:=1442695040888963407) (c:=(IntKind.wrap .u64 ((IntKind.wrap .u64 ((IntKind.wrap .u64 (s0_2 * 6364136223846793005)) + (IntKind.wrap .u64 (wrap64 (rd s0_0 s0_1))))) + 1442695040888963407))) rfl)))) (And.intro (And.intro (iI_len (k:=.u8) (xs:=s0_0)) (int_leq (P:=Try.prog) (t:=3) (k:=.i64) (x:=(.tmp 47)) (y:=(.tmp 52)) (a:=(wrap64 (s0_1 + 1))) (b:=(s0_0.length:Int)) (v:=false) (decide_eq_false g5))) (And.intro (int_shr (P:=Try.prog) (t:=45) (k:=.u64) (x:=(.tmp 58)) (y:=(.const (.int .u64 40))) (a:=(IntKind.wrap .u64 ((IntKind.wrap .u64 ((IntKind.wrap .u64 (s0_2 * 6364136223846793005)) + (IntKind.wrap .u64 (wrap64 (rd s0_0 s0_1))))) + 1442695040888963407))) (b:=40) (c:=((IntKind.wrap .u64 ((IntKind.wrap .u64 ((IntKind.wrap .u64 (s0_2 * 6364136223846793005)) + (IntKind.wrap .u64 (wrap64 (rd s0_0 s0_1))))) + 1442695040888963407)) / 1099511627776)) (k':=.u64) (by decide) rfl) (And.intro (int_and (P:=Try.prog) (t:=45) (k:=.u64) (x:=(.tmp 59)) (y:=(.const (.int .u64 255))) (a:=((IntKind.wrap .u64 ((IntKind.wrap .u64 ((IntKind.wrap .u64 (s0_2 * 6364136223846793005)) + (IntKind.wrap .u64 (wrap64 (rd s0_0 s0_1))))) + 1442695040888963407)) / 1099511627776)) (b:=255) (c:=(Go.bits .and .u64 ((IntKind.wrap .u64 ((IntKind.wrap .u64 ((IntKind.wrap .u64 (s0_2 * 6364136223846793005)) + (IntKind.wrap .u64 (wrap64 (rd s0_0 s0_1))))) + 1442695040888963407)) / 1099511627776) 255)) rfl) (conv_45_3 (a:=(Go.bits .and .u64 ((IntKind.wrap .u64 ((IntKind.wrap .u64 ((IntKind.wrap .u64 (s0_2 * 6364136223846793005)) + (IntKind.wrap .u64 (wrap64 (rd s0_0 s0_1))))) + 1442695040888963407)) / 1099511627776) 255)))))))))) (by kernel_rfl)
 ·rcases ite_ h2 with ⟨g7,h8⟩ | ⟨g7,h8⟩
  ·obtain ⟨rfl,rfl,rfl⟩:=pr3_ h8
   exact leafRet (hn:=hn73) 29 [.val (.int .i64 (s0_0.length:Int)),.val (.bool false),.val (.int .i64 (wrap64 (s0_1 + 1))),.val (.int .u64 (IntKind.wrap .u64 (s0_2 * 6364136223846793005))),.val (.int .u64 (IntKind.wrap .u64 0)),.val (.int .u64 (IntKind.wrap .u64 (IntKind.wrap .u64 (s0_2 * 6364136223846793005)))),.val (.int .u64 (IntKind.wrap .u64 ((IntKind.wrap .u64 (IntKind.wrap .u64 (s0_2 * 6364136223846793005))) + 1442695040888963407))),.val (.int .i64 (s0_0.length:Int)),.val (.bool true)] [] .ret (.inr rfl) (by kernel_rfl) (And.intro (And.intro (iI_len (k:=.u8) (xs:=s0_0)) (int_lss (P:=Try.prog) (t:=3) (k:=.i64) (x:=(.tmp 7)) (y:=(.tmp 12)) (a:=s0_1) (b:=(s0_0.length:Int)) (v:=false) (decide_eq_false g1))) (And.intro (int_add (P:=Try.prog) (t:=3) (k:=.i64) (x:=(.tmp 28)) (y:=(.const (.int .i64 1))) (a:=s0_1) (b:=1) (c:=(wrap64 (s0_1 + 1))) (IntWalk.i64_left _)) (And.intro (And.intro (int_mul (P:=Try.prog) (t:=45) (k:=.u64) (x:=(.tmp 36)) (y:=(.const (.int .u64 6364136223846793005))) (a:=s0_2) (b:=6364136223846793005) (c:=(IntKind.wrap .u64 (s0_2 * 6364136223846793005))) rfl) (And.intro (conv_3_45 (a:=0)) (And.intro (int_add (P:=Try.prog) (t:=45) (k:=.u64) (x:=(.tmp 37)) (y:=(.tmp 39)) (a:=(IntKind.wrap .u64 (s0_2 * 6364136223846793005))) (b:=(IntKind.wrap .u64 0)) (c:=(IntKind.wrap .u64 (IntKind.wrap .u64 (s0_2 * 6364136223846793005)))) u64_add0) (int_add (P:=Try.prog) (t:=45) (k:=.u64) (x:=(.tmp 40)) (y:=(.const (.int .u64 1442695040888963407))) (a:=(IntKind.wrap .u64 (IntKind.wrap .u64 (s0_2 * 6364136223846793005)))) (b:=1442695040888963407) (c:=(IntKind.wrap .u64 ((IntKind.wrap .u64 (IntKind.wrap .u64 (s0_2 * 6364136223846793005))) + 1442695040888963407))) rfl)))) (And.intro (iI_len (k:=.u8) (xs:=s0_0)) (int_leq (P:=Try.prog) (t:=3) (k:=.i64) (x:=(.tmp 47)) (y:=(.tmp 52)) (a:=(wrap64 (s0_1 + 1))) (b:=(s0_0.length:Int)) (v:=true) (decide_eq_true g7)))))) (by kernel_rfl)
  ·obtain ⟨rfl,rfl,rfl⟩:=pr3_ h8
   exact leafRet (hn:=hn73) 30 [.val (.int .i64 (s0_0.length:Int)),.val (.bool false),.val (.int .i64 (wrap64 (s0_1 + 1))),.val (.int .u64 (IntKind.wrap .u64 (s0_2 * 6364136223846793005))),.val (.int .u64 (IntKind.wrap .u64 0)),.val (.int .u64 (IntKind.wrap .u64 (IntKind.wrap .u64 (s0_2 * 6364136223846793005)))),.val (.int .u64 (IntKind.wrap .u64 ((IntKind.wrap .u64 (IntKind.wrap .u64 (s0_2 * 6364136223846793005))) + 1442695040888963407))),.val (.int .i64 (s0_0.length:Int)),.val (.bool false),.val (.int .u64 ((IntKind.wrap .u64 ((IntKind.wrap .u64 (IntKind.wrap .u64 (s0_2 * 6364136223846793005))) + 1442695040888963407)) / 1099511627776)),.val (.int .u64 (Go.bits .and .u64 ((IntKind.wrap .u64 ((IntKind.wrap .u64 (IntKind.wrap .u64 (s0_2 * 6364136223846793005))) + 1442695040888963407)) / 1099511627776) 255)),.val (.int .i64 (wrap64 (Go.bits .and .u64 ((IntKind.wrap .u64 ((IntKind.wrap .u64 (IntKind.wrap .u64 (s0_2 * 6364136223846793005))) + 1442695040888963407)) / 1099511627776) 255)))] [] .ret (.inr rfl) (by kernel_rfl) (And.intro (And.intro (iI_len (k:=.u8) (xs:=s0_0)) (int_lss (P:=Try.prog) (t:=3) (k:=.i64) (x:=(.tmp 7)) (y:=(.tmp 12)) (a:=s0_1) (b:=(s0_0.length:Int)) (v:=false) (decide_eq_false g1))) (And.intro (int_add (P:=Try.prog) (t:=3) (k:=.i64) (x:=(.tmp 28)) (y:=(.const (.int .i64 1))) (a:=s0_1) (b:=1) (c:=(wrap64 (s0_1 + 1))) (IntWalk.i64_left _)) (And.intro (And.intro (int_mul (P:=Try.prog) (t:=45) (k:=.u64) (x:=(.tmp 36)) (y:=(.const (.int .u64 6364136223846793005))) (a:=s0_2) (b:=6364136223846793005) (c:=(IntKind.wrap .u64 (s0_2 * 6364136223846793005))) rfl) (And.intro (conv_3_45 (a:=0)) (And.intro (int_add (P:=Try.prog) (t:=45) (k:=.u64) (x:=(.tmp 37)) (y:=(.tmp 39)) (a:=(IntKind.wrap .u64 (s0_2 * 6364136223846793005))) (b:=(IntKind.wrap .u64 0)) (c:=(IntKind.wrap .u64 (IntKind.wrap .u64 (s0_2 * 6364136223846793005)))) u64_add0) (int_add (P:=Try.prog) (t:=45) (k:=.u64) (x:=(.tmp 40)) (y:=(.const (.int .u64 1442695040888963407))) (a:=(IntKind.wrap .u64 (IntKind.wrap .u64 (s0_2 * 6364136223846793005)))) (b:=1442695040888963407) (c:=(IntKind.wrap .u64 ((IntKind.wrap .u64 (IntKind.wrap .u64 (s0_2 * 6364136223846793005))) + 1442695040888963407))) rfl)))) (And.intro (And.intro (iI_len (k:=.u8) (xs:=s0_0)) (int_leq (P:=Try.prog) (t:=3) (k:=.i64) (x:=(.tmp 47)) (y:=(.tmp 52)) (a:=(wrap64 (s0_1 + 1))) (b:=(s0_0.length:Int)) (v:=false) (decide_eq_false g7))) (And.intro (int_shr (P:=Try.prog) (t:=45) (k:=.u64) (x:=(.tmp 58)) (y:=(.const (.int .u64 40))) (a:=(IntKind.wrap .u64 ((IntKind.wrap .u64 (IntKind.wrap .u64 (s0_2 * 6364136223846793005))) + 1442695040888963407))) (b:=40) (c:=((IntKind.wrap .u64 ((IntKind.wrap .u64 (IntKind.wrap .u64 (s0_2 * 6364136223846793005))) + 1442695040888963407)) / 1099511627776)) (k':=.u64) (by decide) rfl) (And.intro (int_and (P:=Try.prog) (t:=45) (k:=.u64) (x:=(.tmp 59)) (y:=(.const (.int .u64 255))) (a:=((IntKind.wrap .u64 ((IntKind.wrap .u64 (IntKind.wrap .u64 (s0_2 * 6364136223846793005))) + 1442695040888963407)) / 1099511627776)) (b:=255) (c:=(Go.bits .and .u64 ((IntKind.wrap .u64 ((IntKind.wrap .u64 (IntKind.wrap .u64 (s0_2 * 6364136223846793005))) + 1442695040888963407)) / 1099511627776) 255)) rfl) (conv_45_3 (a:=(Go.bits .and .u64 ((IntKind.wrap .u64 ((IntKind.wrap .u64 (IntKind.wrap .u64 (s0_2 * 6364136223846793005))) + 1442695040888963407)) / 1099511627776) 255))))))))) (by kernel_rfl)

def hn54:Hint:=⟨[(8,[1000000]),(14,[1000000])],[]⟩
def o54 (r:Int × Int × Int) (s0_0:List Int) (s0_1:Int) (s0_2:Int):List AV:=[vi r.1]
def p54 (r:Int × Int × Int) (s0_0:List Int) (s0_1:Int) (s0_2:Int):List (Nat × AV):=[(1000000,.box (.agg [.sl (iI .u8 s0_0),vi r.2.1,.val (.int .u64 r.2.2)]))]
set_option maxRecDepth 100000 in
theorem ad_54 {s0_0:List Int} {s0_1:Int} {s0_2:Int} {a1:Int} {r1:Int} {r2:Int} {r3:Int} (h:spec_l1Cur_pick.f s0_0 s0_1 s0_2 a1 = some (r1,r2,r3)):CallH Try.prog 54 [.loc 1000000 0,vi a1] [(1000000,.box (.agg [.sl (iI .u8 s0_0),vi s0_1,.val (.int .u64 s0_2)]))] (vi r1) [(1000000,.box (.agg [.sl (iI .u8 s0_0),vi r2,.val (.int .u64 r3)]))]:=by
 unfold spec_l1Cur_pick.f at h
 refine call_ok (c:=bodyOf Try.f54) (rs:=o54 (r1,r2,r3) s0_0 s0_1 s0_2) (post:=p54 (r1,r2,r3) s0_0 s0_1 s0_2) Try.func54 rfl rfl rfl (by kernel_rfl) ?_
 show AtP Try.prog 20 (bodyOf Try.f54) (KR Try.prog Try.f54.results.toList (o54 (r1,r2,r3) s0_0 s0_1 s0_2) (p54 (r1,r2,r3) s0_0 s0_1 s0_2)) [] [] (lookA [(0,.loc 1000000 0),(1,vi a1),(1000000,.box (.agg [.sl (iI .u8 s0_0),vi s0_1,.val (.int .u64 s0_2)]))])
 rcases ite_ h with ⟨g1,h2⟩ | ⟨g1,h2⟩
 ·obtain ⟨rfl,rfl,rfl⟩:=pr3_ h2
  exact leafRet (hn:=hn54) 13 [.val (.bool true)] [] .ret (.inr rfl) (by kernel_rfl) (int_leq (P:=Try.prog) (t:=3) (k:=.i64) (x:=(.tmp 6)) (y:=(.const (.int .i64 1))) (a:=a1) (b:=1) (v:=true) (decide_eq_true g1)) (by kernel_rfl)
 ·obtain ⟨⟨bt102_1,bt102_2,bt102_3⟩,c3,h4⟩:=bd_ h2
  try dsimp only at h4
  rcases ite_ h4 with ⟨g5,h6⟩ | ⟨g5,h6⟩
  ·obtain ⟨⟨bt105_1,bt105_2,bt105_3⟩,c7,h8⟩:=bd_ h6
   try dsimp only at h8
   obtain ⟨g9,h10⟩:=in_ h8
   obtain ⟨rfl,rfl,rfl⟩:=pr3_ h10
   exact leafRet (hn:=hn54) 24 [.val (.bool false),.callH [1000000] (vi bt102_1) [(1000000,.box (.agg [.sl (iI .u8 s0_0),vi bt102_2,.val (.int .u64 bt102_3)]))],.val (.bool true),.val (.int .i64 (wrap64 (bt102_1 * 256))),.callH [1000000] (vi bt105_1) [(1000000,.box (.agg [.sl (iI .u8 s0_0),vi bt105_2,.val (.int .u64 bt105_3)]))],.val (.int .i64 (wrap64 ((wrap64 (bt102_1 * 256)) + bt105_1))),.val (.int .i64 (Int.tmod (wrap64 ((wrap64 (bt102_1 * 256)) + bt105_1)) a1))] [] .ret (.inr rfl) (by kernel_rfl) (And.intro (int_leq (P:=Try.prog) (t:=3) (k:=.i64) (x:=(.tmp 6)) (y:=(.const (.int .i64 1))) (a:=a1) (b:=1) (v:=false) (decide_eq_false g1)) (And.intro (CallH.ren [(1000000,1000000)] rfl rfl (ad_73 c3)) (And.intro (int_gtr (P:=Try.prog) (t:=3) (k:=.i64) (x:=(.tmp 10)) (y:=(.const (.int .i64 200))) (a:=a1) (b:=200) (v:=true) (decide_eq_true g5)) (And.intro (And.intro (int_mul (P:=Try.prog) (t:=3) (k:=.i64) (x:=(.tmp 12)) (y:=(.const (.int .i64 256))) (a:=bt102_1) (b:=256) (c:=(wrap64 (bt102_1 * 256))) (IntWalk.i64_left _)) (And.intro (CallH.ren [(1000000,1000000)] rfl rfl (ad_73 c7)) (int_add (P:=Try.prog) (t:=3) (k:=.i64) (x:=(.tmp 13)) (y:=(.tmp 15)) (a:=(wrap64 (bt102_1 * 256))) (b:=bt105_1) (c:=(wrap64 ((wrap64 (bt102_1 * 256)) + bt105_1))) (IntWalk.i64_left _)))) (int_rem (P:=Try.prog) (t:=3) (k:=.i64) (x:=(.tmp 17)) (y:=(.tmp 18)) (a:=(wrap64 ((wrap64 (bt102_1 * 256)) + bt105_1))) (b:=a1) (c:=(Int.tmod (wrap64 ((wrap64 (bt102_1 * 256)) + bt105_1)) a1)) g9 rfl))))) (by kernel_rfl)
  ·obtain ⟨g11,h12⟩:=in_ h6
   obtain ⟨rfl,rfl,rfl⟩:=pr3_ h12
   exact leafRet (hn:=hn54) 24 [.val (.bool false),.callH [1000000] (vi bt102_1) [(1000000,.box (.agg [.sl (iI .u8 s0_0),vi bt102_2,.val (.int .u64 bt102_3)]))],.val (.bool false),.val (.int .i64 (Int.tmod bt102_1 a1))] [] .ret (.inr rfl) (by kernel_rfl) (And.intro (int_leq (P:=Try.prog) (t:=3) (k:=.i64) (x:=(.tmp 6)) (y:=(.const (.int .i64 1))) (a:=a1) (b:=1) (v:=false) (decide_eq_false g1)) (And.intro (CallH.ren [(1000000,1000000)] rfl rfl (ad_73 c3)) (And.intro (int_gtr (P:=Try.prog) (t:=3) (k:=.i64) (x:=(.tmp 10)) (y:=(.const (.int .i64 200))) (a:=a1) (b:=200) (v:=false) (decide_eq_false g5)) (int_rem (P:=Try.prog) (t:=3) (k:=.i64) (x:=(.tmp 17)) (y:=(.tmp 18)) (a:=bt102_1) (b:=a1) (c:=(Int.tmod bt102_1 a1)) g11 rfl)))) (by kernel_rfl)

def hn62:Hint:=⟨[(3,[22]),(6,[25])],[]⟩
def o62 (r:Int):List AV:=[vi r]
def p62 (r:Int):List (Nat × AV):=[]
def q62_l0 (r:Int) (k:Nat) (L:List (Nat × AV)):Prop:=∃ (x7:List (S35)) (x8:Int) (x9:Int) (x109000:Int) (x109001:Int),L = [(3,.loc 22 0),(7,.sl (iS35 x7)),(8,vi x8),(9,vi x9),(22,.box (.agg [vi x109000,vi x109001]))] ∧ spec_tiPlace.l0 k x7 x8 x9 x109000 x109001 = some r
theorem q62_l0_mk {r:Int} {k:Nat} {x7:List (S35)} {x8:Int} {x9:Int} {x109000:Int} {x109001:Int} (h:spec_tiPlace.l0 k x7 x8 x9 x109000 x109001 = some r):q62_l0 r k [(3,.loc 22 0),(7,.sl (iS35 x7)),(8,vi x8),(9,vi x9),(22,.box (.agg [vi x109000,vi x109001]))]:=⟨x7,x8,x9,x109000,x109001,rfl,h⟩
set_option maxRecDepth 100000 in
theorem at62_l0 {r:Int}:∀ k L,q62_l0 r k L → AtP Try.prog 19 (bodyOf Try.f62) (KR Try.prog Try.f62.results.toList (o62 r) (p62 r)) [true,false,true,false] [] (lookA L) :=
 at_loop (by kernel_rfl) (fun _ => by kernel_rfl) (q62_l0 r) (by
  rintro k _ ⟨x7,x8,x9,x109000,x109001,rfl,h⟩
  cases k with
  | zero => simp [spec_tiPlace.l0] at h
  | succ k =>
   rw [spec_tiPlace.l0] at h
   rcases ite_ h with ⟨g1,h2⟩ | ⟨g1,h2⟩
   ·obtain ⟨g3,h4⟩:=ip_ h2
    obtain ⟨g5,h6⟩:=ip_ h4
    rcases ite_ h6 with ⟨g7,h8⟩ | ⟨g7,h8⟩
    ·obtain rfl:=Option.some.inj h8
     exact leafRet (hn:=hn62) 25 [.val (.bool true),.elem (.agg [vi ((rd_T35 x7 x9).f0),vi ((rd_T35 x7 x9).f1)]),.val (.bool true)] [] .ret (.inr rfl) (by kernel_rfl) (And.intro (int_lss (P:=Try.prog) (t:=3) (k:=.i64) (x:=(.tmp 9)) (y:=(.tmp 8)) (a:=x9) (b:=x8) (v:=true) (decide_eq_true g1)) (And.intro (iS35_rd (xs:=x7) (i:=x9) g3 g5) (agg_35_eql (x:=(.tmp 14)) (y:=(.tmp 15)) (a0:=((rd_T35 x7 x9).f0)) (b0:=x109000) (a1:=((rd_T35 x7 x9).f1)) (b1:=x109001) (v:=true) g7))) (by kernel_rfl)
    ·exact leafBack (hn:=hn62) 20 [.val (.bool true),.elem (.agg [vi ((rd_T35 x7 x9).f0),vi ((rd_T35 x7 x9).f1)]),.val (.bool false),.val (.int .i64 (wrap64 (x9 + 1)))] [] (q62_l0_mk h8) (Nat.lt_succ_self k) (And.intro (int_lss (P:=Try.prog) (t:=3) (k:=.i64) (x:=(.tmp 9)) (y:=(.tmp 8)) (a:=x9) (b:=x8) (v:=true) (decide_eq_true g1)) (And.intro (iS35_rd (xs:=x7) (i:=x9) g3 g5) (And.intro (agg_35_eql (x:=(.tmp 14)) (y:=(.tmp 15)) (a0:=((rd_T35 x7 x9).f0)) (b0:=x109000) (a1:=((rd_T35 x7 x9).f1)) (b1:=x109001) (v:=false) (Bool.eq_false_iff.2 g7)) (int_add (P:=Try.prog) (t:=3) (k:=.i64) (x:=(.tmp 9)) (y:=(.const (.int .i64 1))) (a:=x9) (b:=1) (c:=(wrap64 (x9 + 1))) (IntWalk.i64_left _))))) (by kernel_rfl)
   ·obtain rfl:=Option.some.inj h2
    exact leafRet (hn:=hn62) 14 [.val (.bool false)] [] .ret (.inr rfl) (by kernel_rfl) (int_lss (P:=Try.prog) (t:=3) (k:=.i64) (x:=(.tmp 9)) (y:=(.tmp 8)) (a:=x9) (b:=x8) (v:=false) (decide_eq_false g1)) (by kernel_rfl))
set_option maxRecDepth 100000 in
theorem ad_62 {k:Nat} {l0:List (S35)} {a1_0:Int} {a1_1:Int} {r:Int} (h:spec_tiPlace.f k l0 a1_0 a1_1 = some r):CallH Try.prog 62 [.sl (iS35 l0),.agg [vi a1_0,vi a1_1]] [] (vi r) []:=by
 unfold spec_tiPlace.f at h
 refine call_ok (c:=bodyOf Try.f62) (rs:=o62 r) (post:=p62 r) Try.func62 rfl rfl rfl (by kernel_rfl) ?_
 show AtP Try.prog 19 (bodyOf Try.f62) (KR Try.prog Try.f62.results.toList (o62 r) (p62 r)) [] [] (lookA [(0,.sl (iS35 l0)),(1,.agg [vi a1_0,vi a1_1])])
 exact leafAt (hn:=hn62) 8 [.val (.int .i64 (l0.length:Int))] [] (at62_l0 _ _ (q62_l0_mk h)) (iS35_len (xs:=l0)) (by kernel_rfl)

def hn78:Hint:=⟨[],[]⟩
def o78 (r:Int):List AV:=[vi r]
def p78 (r:Int):List (Nat × AV):=[]
set_option maxRecDepth 100000 in
theorem ad_78 {a0:Int} {a1:Int} {r:Int} (h:spec_l1Least.f a0 a1 = some r):CallH Try.prog 78 [vi a0,vi a1] [] (vi r) []:=by
 unfold spec_l1Least.f at h
 refine call_ok (c:=bodyOf Try.f78) (rs:=o78 r) (post:=p78 r) Try.func78 rfl rfl rfl (by kernel_rfl) ?_
 show AtP Try.prog 10 (bodyOf Try.f78) (KR Try.prog Try.f78.results.toList (o78 r) (p78 r)) [] [] (lookA [(0,vi a0),(1,vi a1)])
 rcases ite_ h with ⟨g1,h2⟩ | ⟨g1,h2⟩
 ·obtain rfl:=Option.some.inj h2
  exact leafRet (hn:=hn78) 13 [.val (.bool true)] [] .ret (.inr rfl) (by kernel_rfl) (int_lss (P:=Try.prog) (t:=3) (k:=.i64) (x:=(.tmp 5)) (y:=(.tmp 6)) (a:=a0) (b:=a1) (v:=true) (decide_eq_true g1)) (by kernel_rfl)
 ·obtain rfl:=Option.some.inj h2
  exact leafRet (hn:=hn78) 14 [.val (.bool false)] [] .ret (.inr rfl) (by kernel_rfl) (int_lss (P:=Try.prog) (t:=3) (k:=.i64) (x:=(.tmp 5)) (y:=(.tmp 6)) (a:=a0) (b:=a1) (v:=false) (decide_eq_false g1)) (by kernel_rfl)

def hn79:Hint:=⟨[],[]⟩
def o79 (r:Int):List AV:=[vi r]
def p79 (r:Int):List (Nat × AV):=[]
set_option maxRecDepth 100000 in
theorem ad_79 {a0:Int} {a1:Int} {r:Int} (h:spec_l1Most.f a0 a1 = some r):CallH Try.prog 79 [vi a0,vi a1] [] (vi r) []:=by
 unfold spec_l1Most.f at h
 refine call_ok (c:=bodyOf Try.f79) (rs:=o79 r) (post:=p79 r) Try.func79 rfl rfl rfl (by kernel_rfl) ?_
 show AtP Try.prog 10 (bodyOf Try.f79) (KR Try.prog Try.f79.results.toList (o79 r) (p79 r)) [] [] (lookA [(0,vi a0),(1,vi a1)])
 rcases ite_ h with ⟨g1,h2⟩ | ⟨g1,h2⟩
 ·obtain rfl:=Option.some.inj h2
  exact leafRet (hn:=hn79) 13 [.val (.bool true)] [] .ret (.inr rfl) (by kernel_rfl) (int_gtr (P:=Try.prog) (t:=3) (k:=.i64) (x:=(.tmp 5)) (y:=(.tmp 6)) (a:=a0) (b:=a1) (v:=true) (decide_eq_true g1)) (by kernel_rfl)
 ·obtain rfl:=Option.some.inj h2
  exact leafRet (hn:=hn79) 14 [.val (.bool false)] [] .ret (.inr rfl) (by kernel_rfl) (int_gtr (P:=Try.prog) (t:=3) (k:=.i64) (x:=(.tmp 5)) (y:=(.tmp 6)) (a:=a0) (b:=a1) (v:=false) (decide_eq_false g1)) (by kernel_rfl)

def hn72:Hint:=⟨[(4,[16])],[]⟩
def o72 (r:Int × Int):List AV:=[.agg [vi r.1,vi r.2]]
def p72 (r:Int × Int):List (Nat × AV):=[]
set_option maxRecDepth 100000 in
theorem ad_72 {a0:Int} {a1:Int} {r1:Int} {r2:Int} (h:spec_tiOf.f a0 a1 = some (r1,r2)):CallH Try.prog 72 [vi a0,vi a1] [] (.agg [vi r1,vi r2]) []:=by
 unfold spec_tiOf.f at h
 refine call_ok (c:=bodyOf Try.f72) (rs:=o72 (r1,r2)) (post:=p72 (r1,r2)) Try.func72 rfl rfl rfl (by kernel_rfl) ?_
 show AtP Try.prog 12 (bodyOf Try.f72) (KR Try.prog Try.f72.results.toList (o72 (r1,r2)) (p72 (r1,r2))) [] [] (lookA [(0,vi a0),(1,vi a1)])
 obtain ⟨t112,c1,h2⟩:=bd_ h
 obtain ⟨t113,c3,h4⟩:=bd_ h2
 obtain ⟨rfl,rfl⟩:=pr2_ h4
 exact leafRet (hn:=hn72) 7 [.call (vi t112),.call (vi t113),.elem (.agg [vi t112,vi t113])] [] .ret (.inr rfl) (by kernel_rfl) (And.intro (ad_78 c1) (And.intro (ad_79 c3) (build_35_2 (p0:=t112) (p1:=t113)))) (by kernel_rfl)

def hn53:Hint:=⟨[(9,[45]),(10,[1000000]),(18,[1000000]),(22,[1000000]),(27,[43]),(31,[43]),(33,[69])],[]⟩
def o53 (r:(List (S35)) × Int × Int) (s0_0:List Int) (s0_1:Int) (s0_2:Int):List AV:=[.row 500000]
def p53 (r:(List (S35)) × Int × Int) (s0_0:List Int) (s0_1:Int) (s0_2:Int):List (Nat × AV):=[(1000000,.box (.agg [.sl (iI .u8 s0_0),vi r.2.1,.val (.int .u64 r.2.2)])),(500000,.ow false 35 (iS35 r.1))]
def q53_l0 (r:(List (S35)) × Int × Int) (s0_0:List Int) (s0_1:Int) (s0_2:Int) (k:Nat) (L:List (Nat × AV)):Prop:=∃ (x2:Int) (x7:List (S35)) (x8:Int) (x1001:Int) (x1002:Int),L = [(0,.loc 1000000 0),(2,vi x2),(7,.row 43),(8,vi x8),(43,.ow false 35 (iS35 x7)),(1000000,.box (.agg [.sl (iI .u8 s0_0),vi x1001,.val (.int .u64 x1002)]))] ∧ spec_l1Cur_sureHand.l0 k x2 x7 x8 s0_0 x1001 x1002 = some r
theorem q53_l0_mk {r:(List (S35)) × Int × Int} (s0_0:List Int) (s0_1:Int) (s0_2:Int) {k:Nat} {x2:Int} {x7:List (S35)} {x8:Int} {x1001:Int} {x1002:Int} (h:spec_l1Cur_sureHand.l0 k x2 x7 x8 s0_0 x1001 x1002 = some r):q53_l0 r s0_0 s0_1 s0_2 k [(0,.loc 1000000 0),(2,vi x2),(7,.row 43),(8,vi x8),(43,.ow false 35 (iS35 x7)),(1000000,.box (.agg [.sl (iI .u8 s0_0),vi x1001,.val (.int .u64 x1002)]))]:=⟨x2,x7,x8,x1001,x1002,rfl,h⟩
set_option maxRecDepth 100000 in
theorem at53_l0 {r:(List (S35)) × Int × Int} {s0_0:List Int} {s0_1:Int} {s0_2:Int}:∀ k L,q53_l0 r s0_0 s0_1 s0_2 k L → AtP Try.prog 36 (bodyOf Try.f53) (KR Try.prog Try.f53.results.toList (o53 r s0_0 s0_1 s0_2) (p53 r s0_0 s0_1 s0_2)) [true,true,false,true,false] [] (lookA L) :=
 at_loop (by kernel_rfl) (fun _ => by kernel_rfl) (q53_l0 r s0_0 s0_1 s0_2) (by
  rintro k _ ⟨x2,x7,x8,x1001,x1002,rfl,h⟩
  cases k with
  | zero => simp [spec_l1Cur_sureHand.l0] at h
  | succ k =>
   rw [spec_l1Cur_sureHand.l0] at h
   rcases ite_ h with ⟨g1,h2⟩ | ⟨g1,h2⟩
   ·obtain ⟨⟨bt117_1,bt117_2,bt117_3⟩,c3,h4⟩:=bd_ h2
    try dsimp only at h4
    obtain ⟨⟨bt120_1,bt120_2,bt120_3⟩,c5,h6⟩:=bd_ h4
    try dsimp only at h6
    obtain ⟨⟨bt123_1,bt123_2⟩,c7,h8⟩:=bd_ h6
    try dsimp only at h8
    obtain ⟨t126,c9,h10⟩:=bd_ h8
    rcases ite_ h10 with ⟨g11,h12⟩ | ⟨g11,h12⟩
    ·obtain ⟨g13,h14⟩:=ip_ h12
     exact leafBack (hn:=hn53) 20 [.val (.bool true),.val (.int .i64 (wrap64 (x2 + 1))),.callH [1000000] (vi bt117_1) [(1000000,.box (.agg [.sl (iI .u8 s0_0),vi bt117_2,.val (.int .u64 bt117_3)]))],.val (.int .i64 (wrap64 (x2 + 1))),.callH [1000000] (vi bt120_1) [(1000000,.box (.agg [.sl (iI .u8 s0_0),vi bt120_2,.val (.int .u64 bt120_3)]))],.call (.agg [vi bt123_1,vi bt123_2]),.call (vi t126),.val (.bool true),.go,.elem (.ow false 35 (iS35 (x7 ++ ([(⟨bt123_1,bt123_2⟩ : S35)])))),.val (.int .i64 (wrap64 (x8 - 1)))] [(43,70)] (q53_l0_mk s0_0 s0_1 s0_2 h14) (Nat.lt_succ_self k) (And.intro (int_gtr (P:=Try.prog) (t:=3) (k:=.i64) (x:=(.tmp 14)) (y:=(.const (.int .i64 0))) (a:=x8) (b:=0) (v:=true) (decide_eq_true g1)) (And.intro (And.intro (int_add (P:=Try.prog) (t:=3) (k:=.i64) (x:=(.tmp 19)) (y:=(.const (.int .i64 1))) (a:=x2) (b:=1) (c:=(wrap64 (x2 + 1))) (IntWalk.i64_left _)) (And.intro (CallH.ren [(1000000,1000000)] rfl rfl (ad_54 c3)) (And.intro (int_add (P:=Try.prog) (t:=3) (k:=.i64) (x:=(.tmp 23)) (y:=(.const (.int .i64 1))) (a:=x2) (b:=1) (c:=(wrap64 (x2 + 1))) (IntWalk.i64_left _)) (And.intro (CallH.ren [(1000000,1000000)] rfl rfl (ad_54 c5)) (ad_72 c7))))) (And.intro (And.intro (ad_62 c9) (int_lss (P:=Try.prog) (t:=3) (k:=.i64) (x:=(.tmp 29)) (y:=(.const (.int .i64 0))) (a:=t126) (b:=0) (v:=true) (decide_eq_true g11))) (And.intro (iS35_app (N:=8796093022208) (b:=16) (xs:=x7) (ys:=[(⟨bt123_1,bt123_2⟩ : S35)]) (by decide) (Nat.succ_le_of_lt g13)) (int_sub (P:=Try.prog) (t:=3) (k:=.i64) (x:=(.tmp 16)) (y:=(.const (.int .i64 1))) (a:=x8) (b:=1) (c:=(wrap64 (x8 - 1))) (IntWalk.i64_left _)))))) (by kernel_rfl)
    ·exact leafBack (hn:=hn53) 20 [.val (.bool true),.val (.int .i64 (wrap64 (x2 + 1))),.callH [1000000] (vi bt117_1) [(1000000,.box (.agg [.sl (iI .u8 s0_0),vi bt117_2,.val (.int .u64 bt117_3)]))],.val (.int .i64 (wrap64 (x2 + 1))),.callH [1000000] (vi bt120_1) [(1000000,.box (.agg [.sl (iI .u8 s0_0),vi bt120_2,.val (.int .u64 bt120_3)]))],.call (.agg [vi bt123_1,vi bt123_2]),.call (vi t126),.val (.bool false),.val (.int .i64 (wrap64 (x8 - 1)))] [] (q53_l0_mk s0_0 s0_1 s0_2 h12) (Nat.lt_succ_self k) (And.intro (int_gtr (P:=Try.prog) (t:=3) (k:=.i64) (x:=(.tmp 14)) (y:=(.const (.int .i64 0))) (a:=x8) (b:=0) (v:=true) (decide_eq_true g1)) (And.intro (And.intro (int_add (P:=Try.prog) (t:=3) (k:=.i64) (x:=(.tmp 19)) (y:=(.const (.int .i64 1))) (a:=x2) (b:=1) (c:=(wrap64 (x2 + 1))) (IntWalk.i64_left _)) (And.intro (CallH.ren [(1000000,1000000)] rfl rfl (ad_54 c3)) (And.intro (int_add (P:=Try.prog) (t:=3) (k:=.i64) (x:=(.tmp 23)) (y:=(.const (.int .i64 1))) (a:=x2) (b:=1) (c:=(wrap64 (x2 + 1))) (IntWalk.i64_left _)) (And.intro (CallH.ren [(1000000,1000000)] rfl rfl (ad_54 c5)) (ad_72 c7))))) (And.intro (And.intro (ad_62 c9) (int_lss (P:=Try.prog) (t:=3) (k:=.i64) (x:=(.tmp 29)) (y:=(.const (.int .i64 0))) (a:=t126) (b:=0) (v:=false) (decide_eq_false g11))) (int_sub (P:=Try.prog) (t:=3) (k:=.i64) (x:=(.tmp 16)) (y:=(.const (.int .i64 1))) (a:=x8) (b:=1) (c:=(wrap64 (x8 - 1))) (IntWalk.i64_left _))))) (by kernel_rfl)
   ·obtain rfl:=Option.some.inj h2
    exact leafRet (hn:=hn53) 14 [.val (.bool false)] [(500000,43)] .ret (.inr rfl) (by kernel_rfl) (int_gtr (P:=Try.prog) (t:=3) (k:=.i64) (x:=(.tmp 14)) (y:=(.const (.int .i64 0))) (a:=x8) (b:=0) (v:=false) (decide_eq_false g1)) (by kernel_rfl))
set_option maxRecDepth 100000 in
theorem ad_53 {k:Nat} {s0_0:List Int} {s0_1:Int} {s0_2:Int} {a1:Int} {a2:Int} {r1:List (S35)} {r2:Int} {r3:Int} (h:spec_l1Cur_sureHand.f k s0_0 s0_1 s0_2 a1 a2 = some (r1,r2,r3)):CallH Try.prog 53 [.loc 1000000 0,vi a1,vi a2] [(1000000,.box (.agg [.sl (iI .u8 s0_0),vi s0_1,.val (.int .u64 s0_2)]))] (.row 500000) [(1000000,.box (.agg [.sl (iI .u8 s0_0),vi r2,.val (.int .u64 r3)])),(500000,.ow false 35 (iS35 r1))]:=by
 unfold spec_l1Cur_sureHand.f at h
 refine call_ok (c:=bodyOf Try.f53) (rs:=o53 (r1,r2,r3) s0_0 s0_1 s0_2) (post:=p53 (r1,r2,r3) s0_0 s0_1 s0_2) Try.func53 rfl rfl rfl (by kernel_rfl) ?_
 show AtP Try.prog 36 (bodyOf Try.f53) (KR Try.prog Try.f53.results.toList (o53 (r1,r2,r3) s0_0 s0_1 s0_2) (p53 (r1,r2,r3) s0_0 s0_1 s0_2)) [] [] (lookA [(0,.loc 1000000 0),(1,vi a1),(2,vi a2),(1000000,.box (.agg [.sl (iI .u8 s0_0),vi s0_1,.val (.int .u64 s0_2)]))])
 obtain ⟨⟨bt114_1,bt114_2,bt114_3⟩,c1,h2⟩:=bd_ h
 try dsimp only at h2
 exact leafAt (hn:=hn53) 11 [.nil false 35,.nil false 35,.val (.int .i64 (wrap64 (a1 + 1))),.callH [1000000] (vi bt114_1) [(1000000,.box (.agg [.sl (iI .u8 s0_0),vi bt114_2,.val (.int .u64 bt114_3)]))]] [] (at53_l0 _ _ (q53_l0_mk s0_0 s0_1 s0_2 h2)) (And.intro (int_add (P:=Try.prog) (t:=3) (k:=.i64) (x:=(.tmp 11)) (y:=(.const (.int .i64 1))) (a:=a1) (b:=1) (c:=(wrap64 (a1 + 1))) (IntWalk.i64_left _)) (CallH.ren [(1000000,1000000)] rfl rfl (ad_54 c1))) (by kernel_rfl)

def hn74:Hint:=⟨[(5,[1000000])],[]⟩
def o74 (r:Bool × Int × Int) (s0_0:List Int) (s0_1:Int) (s0_2:Int):List AV:=[vb r.1]
def p74 (r:Bool × Int × Int) (s0_0:List Int) (s0_1:Int) (s0_2:Int):List (Nat × AV):=[(1000000,.box (.agg [.sl (iI .u8 s0_0),vi r.2.1,.val (.int .u64 r.2.2)]))]
set_option maxRecDepth 100000 in
theorem ad_74 {s0_0:List Int} {s0_1:Int} {s0_2:Int} {a1:Int} {r1:Bool} {r2:Int} {r3:Int} (h:spec_l1Cur_one.f s0_0 s0_1 s0_2 a1 = some (r1,r2,r3)):CallH Try.prog 74 [.loc 1000000 0,vi a1] [(1000000,.box (.agg [.sl (iI .u8 s0_0),vi s0_1,.val (.int .u64 s0_2)]))] (vb r1) [(1000000,.box (.agg [.sl (iI .u8 s0_0),vi r2,.val (.int .u64 r3)]))]:=by
 unfold spec_l1Cur_one.f at h
 refine call_ok (c:=bodyOf Try.f74) (rs:=o74 (r1,r2,r3) s0_0 s0_1 s0_2) (post:=p74 (r1,r2,r3) s0_0 s0_1 s0_2) Try.func74 rfl rfl rfl (by kernel_rfl) ?_
 show AtP Try.prog 9 (bodyOf Try.f74) (KR Try.prog Try.f74.results.toList (o74 (r1,r2,r3) s0_0 s0_1 s0_2) (p74 (r1,r2,r3) s0_0 s0_1 s0_2)) [] [] (lookA [(0,.loc 1000000 0),(1,vi a1),(1000000,.box (.agg [.sl (iI .u8 s0_0),vi s0_1,.val (.int .u64 s0_2)]))])
 obtain ⟨⟨bt130_1,bt130_2,bt130_3⟩,c1,h2⟩:=bd_ h
 try dsimp only at h2
 obtain ⟨rfl,rfl,rfl⟩:=pr3_ h2
 exact leafRet (hn:=hn74) 7 [.callH [1000000] (vi bt130_1) [(1000000,.box (.agg [.sl (iI .u8 s0_0),vi bt130_2,.val (.int .u64 bt130_3)]))],.val (.bool (bt130_1 == 0))] [] .ret (.inr rfl) (by kernel_rfl) (And.intro (CallH.ren [(1000000,1000000)] rfl rfl (ad_54 c1)) (int_eql (P:=Try.prog) (t:=3) (k:=.i64) (x:=(.tmp 7)) (y:=(.const (.int .i64 0))) (a:=bt130_1) (b:=0) (v:=(bt130_1 == 0)) rfl)) (by kernel_rfl)

def hn75:Hint:=⟨[(6,[1000000])],[]⟩
def o75 (r:Int × Int × Int) (s0_0:List Int) (s0_1:Int) (s0_2:Int):List AV:=[vi r.1]
def p75 (r:Int × Int × Int) (s0_0:List Int) (s0_1:Int) (s0_2:Int):List (Nat × AV):=[(1000000,.box (.agg [.sl (iI .u8 s0_0),vi r.2.1,.val (.int .u64 r.2.2)]))]
set_option maxRecDepth 100000 in
theorem ad_75 {s0_0:List Int} {s0_1:Int} {s0_2:Int} {l1:List Int} {r1:Int} {r2:Int} {r3:Int} (h:spec_l1Cur_among.f s0_0 s0_1 s0_2 l1 = some (r1,r2,r3)):CallH Try.prog 75 [.loc 1000000 0,.sl (iI .i64 l1)] [(1000000,.box (.agg [.sl (iI .u8 s0_0),vi s0_1,.val (.int .u64 s0_2)]))] (vi r1) [(1000000,.box (.agg [.sl (iI .u8 s0_0),vi r2,.val (.int .u64 r3)]))]:=by
 unfold spec_l1Cur_among.f at h
 refine call_ok (c:=bodyOf Try.f75) (rs:=o75 (r1,r2,r3) s0_0 s0_1 s0_2) (post:=p75 (r1,r2,r3) s0_0 s0_1 s0_2) Try.func75 rfl rfl rfl (by kernel_rfl) ?_
 show AtP Try.prog 12 (bodyOf Try.f75) (KR Try.prog Try.f75.results.toList (o75 (r1,r2,r3) s0_0 s0_1 s0_2) (p75 (r1,r2,r3) s0_0 s0_1 s0_2)) [] [] (lookA [(0,.loc 1000000 0),(1,.sl (iI .i64 l1)),(1000000,.box (.agg [.sl (iI .u8 s0_0),vi s0_1,.val (.int .u64 s0_2)]))])
 obtain ⟨⟨bt133_1,bt133_2,bt133_3⟩,c1,h2⟩:=bd_ h
 try dsimp only at h2
 obtain ⟨g3,h4⟩:=ip_ h2
 obtain ⟨g5,h6⟩:=ip_ h4
 obtain ⟨rfl,rfl,rfl⟩:=pr3_ h6
 exact leafRet (hn:=hn75) 7 [.val (.int .i64 (l1.length:Int)),.callH [1000000] (vi bt133_1) [(1000000,.box (.agg [.sl (iI .u8 s0_0),vi bt133_2,.val (.int .u64 bt133_3)]))],.elem (vi (rd l1 bt133_1))] [] .ret (.inr rfl) (by kernel_rfl) (And.intro (iI_len (k:=.i64) (xs:=l1)) (And.intro (CallH.ren [(1000000,1000000)] rfl rfl (ad_54 c1)) (iI_rd (k:=.i64) (xs:=l1) (i:=bt133_1) g3 g5))) (by kernel_rfl)

def hn55:Hint:=⟨[(2,[19]),(3,[1000000]),(5,[1000000]),(6,[23]),(8,[1000000]),(9,[26]),(12,[1000000]),(14,[1000000])],[]⟩
def o55 (r:Int × Int × Int × Int) (s0_0:List Int) (s0_1:Int) (s0_2:Int):List AV:=[.agg [vi r.1,vi r.2.1]]
def p55 (r:Int × Int × Int × Int) (s0_0:List Int) (s0_1:Int) (s0_2:Int):List (Nat × AV):=[(1000000,.box (.agg [.sl (iI .u8 s0_0),vi r.2.2.1,.val (.int .u64 r.2.2.2)]))]
set_option maxRecDepth 100000 in
theorem ad_55 {s0_0:List Int} {s0_1:Int} {s0_2:Int} {r1:Int} {r2:Int} {r3:Int} {r4:Int} (h:spec_l1Cur_tile.f s0_0 s0_1 s0_2 = some (r1,r2,r3,r4)):CallH Try.prog 55 [.loc 1000000 0] [(1000000,.box (.agg [.sl (iI .u8 s0_0),vi s0_1,.val (.int .u64 s0_2)]))] (.agg [vi r1,vi r2]) [(1000000,.box (.agg [.sl (iI .u8 s0_0),vi r3,.val (.int .u64 r4)]))]:=by
 unfold spec_l1Cur_tile.f at h
 refine call_ok (c:=bodyOf Try.f55) (rs:=o55 (r1,r2,r3,r4) s0_0 s0_1 s0_2) (post:=p55 (r1,r2,r3,r4) s0_0 s0_1 s0_2) Try.func55 rfl rfl rfl (by kernel_rfl) ?_
 show AtP Try.prog 17 (bodyOf Try.f55) (KR Try.prog Try.f55.results.toList (o55 (r1,r2,r3,r4) s0_0 s0_1 s0_2) (p55 (r1,r2,r3,r4) s0_0 s0_1 s0_2)) [] [] (lookA [(0,.loc 1000000 0),(1000000,.box (.agg [.sl (iI .u8 s0_0),vi s0_1,.val (.int .u64 s0_2)]))])
 obtain ⟨⟨bt138_1,bt138_2,bt138_3⟩,c1,h2⟩:=bd_ h
 try dsimp only at h2
 rcases ite_ h2 with ⟨g3,h4⟩ | ⟨g3,h4⟩
 ·subst g3
  obtain ⟨⟨bt144_1,bt144_2,bt144_3⟩,c5,h6⟩:=bd_ h4
  try dsimp only at h6
  obtain ⟨⟨bt150_1,bt150_2,bt150_3⟩,c7,h8⟩:=bd_ h6
  try dsimp only at h8
  obtain ⟨rfl,rfl,rfl,rfl⟩:=pr4_ h8
  exact leafRet (hn:=hn55) 13 [.callH [1000000] (vb true) [(1000000,.box (.agg [.sl (iI .u8 s0_0),vi bt138_2,.val (.int .u64 bt138_3)]))],.go,.callH [1000000] (vi bt144_1) [(1000000,.box (.agg [.sl (iI .u8 s0_0),vi bt144_2,.val (.int .u64 bt144_3)]))],.go,.callH [1000000] (vi bt150_1) [(1000000,.box (.agg [.sl (iI .u8 s0_0),vi bt150_2,.val (.int .u64 bt150_3)]))],.elem (.agg [vi bt144_1,vi bt150_1])] [] .ret (.inr rfl) (by kernel_rfl) (And.intro (CallH.ren [(1000000,1000000)] rfl rfl (ad_74 c1)) (And.intro (CallH.ren [(1000000,1000000)] rfl rfl (ad_75 c5)) (And.intro (CallH.ren [(1000000,1000000)] rfl rfl (ad_75 c7)) (build_35_2 (p0:=bt144_1) (p1:=bt150_1))))) (by kernel_rfl)
 ·obtain rfl:=Bool.eq_false_iff.2 g3
  obtain ⟨⟨bt153_1,bt153_2,bt153_3⟩,c9,h10⟩:=bd_ h4
  try dsimp only at h10
  obtain ⟨⟨bt156_1,bt156_2,bt156_3⟩,c11,h12⟩:=bd_ h10
  try dsimp only at h12
  obtain ⟨⟨bt159_1,bt159_2⟩,c13,h14⟩:=bd_ h12
  try dsimp only at h14
  obtain ⟨rfl,rfl,rfl,rfl⟩:=pr4_ h14
  exact leafRet (hn:=hn55) 14 [.callH [1000000] (vb false) [(1000000,.box (.agg [.sl (iI .u8 s0_0),vi bt138_2,.val (.int .u64 bt138_3)]))],.callH [1000000] (vi bt153_1) [(1000000,.box (.agg [.sl (iI .u8 s0_0),vi bt153_2,.val (.int .u64 bt153_3)]))],.callH [1000000] (vi bt156_1) [(1000000,.box (.agg [.sl (iI .u8 s0_0),vi bt156_2,.val (.int .u64 bt156_3)]))],.call (.agg [vi bt159_1,vi bt159_2])] [] .ret (.inr rfl) (by kernel_rfl) (And.intro (CallH.ren [(1000000,1000000)] rfl rfl (ad_74 c1)) (And.intro (CallH.ren [(1000000,1000000)] rfl rfl (ad_54 c9)) (And.intro (CallH.ren [(1000000,1000000)] rfl rfl (ad_54 c11)) (ad_72 c13)))) (by kernel_rfl)

def hn56:Hint:=⟨[(17,[27]),(21,[45])],[]⟩
def o56 (r:(List (S35))):List AV:=[.row 500000]
def p56 (r:(List (S35))):List (Nat × AV):=[(500000,.ow false 35 (iS35 r))]
def q56_l0 (r:(List (S35))) (k:Nat) (L:List (Nat × AV)):Prop:=∃ (x0:Int) (x3:List (S35)) (x4:Int),L = [(0,vi x0),(3,.row 27),(4,vi x4),(27,.ow false 35 (iS35 x3))] ∧ spec_tiSet.l0 k x0 x3 x4 = some r
theorem q56_l0_mk {r:(List (S35))} {k:Nat} {x0:Int} {x3:List (S35)} {x4:Int} (h:spec_tiSet.l0 k x0 x3 x4 = some r):q56_l0 r k [(0,vi x0),(3,.row 27),(4,vi x4),(27,.ow false 35 (iS35 x3))]:=⟨x0,x3,x4,rfl,h⟩
def q56_l1 (r:(List (S35))) (K0:Nat) (k:Nat) (L:List (Nat × AV)):Prop:=k < K0 ∧ ∃ (x0:Int) (x3:List (S35)) (x4:Int) (x5:Int),L = [(0,vi x0),(3,.row 27),(4,vi x4),(5,vi x5),(27,.ow false 35 (iS35 x3))] ∧ spec_tiSet.l1 k x0 x3 x4 x5 = some r
theorem q56_l1_mk {r:(List (S35))} {K0:Nat} {k:Nat} {x0:Int} {x3:List (S35)} {x4:Int} {x5:Int} (hk0:k < K0) (h:spec_tiSet.l1 k x0 x3 x4 x5 = some r):q56_l1 r K0 k [(0,vi x0),(3,.row 27),(4,vi x4),(5,vi x5),(27,.ow false 35 (iS35 x3))]:=⟨hk0,x0,x3,x4,x5,rfl,h⟩
set_option maxRecDepth 100000 in
theorem at56_l1 {r:(List (S35))} {K0:Nat}:∀ k L,q56_l1 r K0 k L → AtP Try.prog 24 (bodyOf Try.f56) (KR Try.prog Try.f56.results.toList (o56 r) (p56 r)) [true,true,false,true,false,false,true,false,false,true,false] [upto (q56_l0 r) K0] (lookA L) :=
 at_loop (by kernel_rfl) (fun _ => by kernel_rfl) (q56_l1 r K0) (by
  rintro k _ ⟨hk0,x0,x3,x4,x5,rfl,h⟩
  cases k with
  | zero => simp [spec_tiSet.l1] at h
  | succ k =>
   rw [spec_tiSet.l1] at h
   have hk0:=Nat.lt_of_succ_lt hk0
   rcases ite_ h with ⟨g1,h2⟩ | ⟨g1,h2⟩
   ·obtain ⟨g3,h4⟩:=ip_ h2
    exact leafBack (hn:=hn56) 13 [.val (.bool true),.elem (.agg [vi x4,vi x5]),.go,.elem (.ow false 35 (iS35 (x3 ++ ([(⟨x4,x5⟩ : S35)])))),.val (.int .i64 (wrap64 (x5 + 1)))] [(27,46)] (q56_l1_mk hk0 h4) (Nat.lt_succ_self k) (And.intro (int_leq (P:=Try.prog) (t:=3) (k:=.i64) (x:=(.tmp 12)) (y:=(.tmp 13)) (a:=x5) (b:=x0) (v:=true) (decide_eq_true g1)) (And.intro (And.intro (build_35_2 (p0:=x4) (p1:=x5)) (iS35_app (N:=8796093022208) (b:=16) (xs:=x3) (ys:=[(⟨x4,x5⟩ : S35)]) (by decide) (Nat.succ_le_of_lt g3))) (int_add (P:=Try.prog) (t:=3) (k:=.i64) (x:=(.tmp 15)) (y:=(.const (.int .i64 1))) (a:=x5) (b:=1) (c:=(wrap64 (x5 + 1))) (IntWalk.i64_left _)))) (by kernel_rfl)
   ·exact leafBack (hn:=hn56) 12 [.val (.bool false),.val (.int .i64 (wrap64 (x4 + 1)))] [] (q56_l0_mk h2) hk0 (And.intro (int_leq (P:=Try.prog) (t:=3) (k:=.i64) (x:=(.tmp 12)) (y:=(.tmp 13)) (a:=x5) (b:=x0) (v:=false) (decide_eq_false g1)) (int_add (P:=Try.prog) (t:=3) (k:=.i64) (x:=(.tmp 9)) (y:=(.const (.int .i64 1))) (a:=x4) (b:=1) (c:=(wrap64 (x4 + 1))) (IntWalk.i64_left _))) (by kernel_rfl))
set_option maxRecDepth 100000 in
theorem at56_l0 {r:(List (S35))}:∀ k L,q56_l0 r k L → AtP Try.prog 24 (bodyOf Try.f56) (KR Try.prog Try.f56.results.toList (o56 r) (p56 r)) [true,true,false,true,false] [] (lookA L) :=
 at_loop (by kernel_rfl) (fun _ => by kernel_rfl) (q56_l0 r) (by
  rintro k _ ⟨x0,x3,x4,rfl,h⟩
  cases k with
  | zero => simp [spec_tiSet.l0] at h
  | succ k =>
   rw [spec_tiSet.l0] at h
   rcases ite_ h with ⟨g1,h2⟩ | ⟨g1,h2⟩
   ·exact leafAt (hn:=hn56) 13 [.val (.bool true)] [] (at56_l1 _ _ (q56_l1_mk (Nat.lt_succ_self k) h2)) (int_leq (P:=Try.prog) (t:=3) (k:=.i64) (x:=(.tmp 6)) (y:=(.tmp 7)) (a:=x4) (b:=x0) (v:=true) (decide_eq_true g1)) (by kernel_rfl)
   ·obtain rfl:=Option.some.inj h2
    exact leafRet (hn:=hn56) 14 [.val (.bool false)] [(500000,27)] .ret (.inr rfl) (by kernel_rfl) (int_leq (P:=Try.prog) (t:=3) (k:=.i64) (x:=(.tmp 6)) (y:=(.tmp 7)) (a:=x4) (b:=x0) (v:=false) (decide_eq_false g1)) (by kernel_rfl))
set_option maxRecDepth 100000 in
theorem ad_56 {k:Nat} {a0:Int} {r:List (S35)} (h:spec_tiSet.f k a0 = some r):CallH Try.prog 56 [vi a0] [] (.row 500000) [(500000,.ow false 35 (iS35 r))]:=by
 unfold spec_tiSet.f at h
 refine call_ok (c:=bodyOf Try.f56) (rs:=o56 r) (post:=p56 r) Try.func56 rfl rfl rfl (by kernel_rfl) ?_
 show AtP Try.prog 24 (bodyOf Try.f56) (KR Try.prog Try.f56.results.toList (o56 r) (p56 r)) [] [] (lookA [(0,vi a0)])
 exact leafAt (hn:=hn56) 11 [.nil false 35,.nil false 35] [] (at56_l0 _ _ (q56_l0_mk h)) True.intro (by kernel_rfl)

def hn27:Hint:=⟨[(8,[1000000]),(12,[1000000]),(16,[55]),(17,[1000000]),(19,[63]),(23,[55]),(26,[55]),(27,[55]),(30,[74]),(34,[1000000]),(39,[83]),(41,[85])],[]⟩
def o27 (r:(List (S35)) × Int × Int) (s0_0:List Int) (s0_1:Int) (s0_2:Int):List AV:=[.sl (iS35 r.1)]
def p27 (r:(List (S35)) × Int × Int) (s0_0:List Int) (s0_1:Int) (s0_2:Int):List (Nat × AV):=[(1000000,.box (.agg [.sl (iI .u8 s0_0),vi r.2.1,.val (.int .u64 r.2.2)]))]
set_option maxRecDepth 100000 in
theorem ad_27 {k:Nat} {s0_0:List Int} {s0_1:Int} {s0_2:Int} {a1:Int} {a2:Int} {r1:List (S35)} {r2:Int} {r3:Int} (h:spec_l1Cur_hand.f k s0_0 s0_1 s0_2 a1 a2 = some (r1,r2,r3)):CallH Try.prog 27 [.loc 1000000 0,vi a1,vi a2] [(1000000,.box (.agg [.sl (iI .u8 s0_0),vi s0_1,.val (.int .u64 s0_2)]))] (.sl (iS35 r1)) [(1000000,.box (.agg [.sl (iI .u8 s0_0),vi r2,.val (.int .u64 r3)]))]:=by
 unfold spec_l1Cur_hand.f at h
 refine call_ok (c:=bodyOf Try.f27) (rs:=o27 (r1,r2,r3) s0_0 s0_1 s0_2) (post:=p27 (r1,r2,r3) s0_0 s0_1 s0_2) Try.func27 rfl rfl rfl (by kernel_rfl) ?_
 show AtP Try.prog 44 (bodyOf Try.f27) (KR Try.prog Try.f27.results.toList (o27 (r1,r2,r3) s0_0 s0_1 s0_2) (p27 (r1,r2,r3) s0_0 s0_1 s0_2)) [] [] (lookA [(0,.loc 1000000 0),(1,vi a1),(2,vi a2),(1000000,.box (.agg [.sl (iI .u8 s0_0),vi s0_1,.val (.int .u64 s0_2)]))])
 obtain ⟨⟨bt164_1,bt164_2,bt164_3⟩,c1,h2⟩:=bd_ h
 try dsimp only at h2
 obtain ⟨⟨bt169_1,bt169_2,bt169_3⟩,c3,h4⟩:=bd_ h2
 try dsimp only at h4
 rcases ite_ h4 with ⟨g5,h6⟩ | ⟨g5,h6⟩
 ·obtain ⟨⟨bt172_1,bt172_2,bt172_3,bt172_4⟩,c7,h8⟩:=bd_ h6
  try dsimp only at h8
  obtain ⟨g9,h10⟩:=ip_ h8
  obtain ⟨rfl,rfl,rfl⟩:=pr3_ h10
  exact leafRet (hn:=hn27) 21 [.goT,.callH [1000000] (.row 55) [(1000000,.box (.agg [.sl (iI .u8 s0_0),vi bt164_2,.val (.int .u64 bt164_3)])),(55,.ow false 35 (iS35 bt164_1))],.callH [1000000] (vi bt169_1) [(1000000,.box (.agg [.sl (iI .u8 s0_0),vi bt169_2,.val (.int .u64 bt169_3)]))],.val (.bool true),.callH [1000000] (.agg [vi bt172_1,vi bt172_2]) [(1000000,.box (.agg [.sl (iI .u8 s0_0),vi bt172_3,.val (.int .u64 bt172_4)]))],.go,.elem (.ow false 35 (iS35 (bt164_1 ++ ([(⟨bt172_1,bt172_2⟩ : S35)]))))] [] .ret (.inr rfl) (by kernel_rfl) (And.intro (CallH.ren [(500000,55),(1000000,1000000)] rfl rfl (ad_53 c1)) (And.intro (CallH.ren [(1000000,1000000)] rfl rfl (ad_54 c3)) (And.intro (int_eql (P:=Try.prog) (t:=3) (k:=.i64) (x:=(.tmp 13)) (y:=(.const (.int .i64 0))) (a:=bt169_1) (b:=0) (v:=true) (beq_iff_eq.2 g5)) (And.intro (CallH.ren [(1000000,1000000)] rfl rfl (ad_55 c7)) (iS35_app (N:=8796093022208) (b:=16) (xs:=bt164_1) (ys:=[(⟨bt172_1,bt172_2⟩ : S35)]) (by decide) (Nat.succ_le_of_lt g9)))))) (by kernel_rfl)
 ·rcases ite_ h6 with ⟨g11,h12⟩ | ⟨g11,h12⟩
  ·rcases ite_ h12 with ⟨g13,h14⟩ | ⟨g13,h14⟩
   ·obtain ⟨g15,h16⟩:=ip_ h14
    obtain ⟨g17,h18⟩:=ip_ h16
    obtain ⟨rfl,rfl,rfl⟩:=pr3_ h18
    exact leafRet (hn:=hn27) 29 [.goT,.callH [1000000] (.row 55) [(1000000,.box (.agg [.sl (iI .u8 s0_0),vi bt164_2,.val (.int .u64 bt164_3)])),(55,.ow false 35 (iS35 bt164_1))],.callH [1000000] (vi bt169_1) [(1000000,.box (.agg [.sl (iI .u8 s0_0),vi bt169_2,.val (.int .u64 bt169_3)]))],.val (.bool false),.val (.bool true),.val (.int .i64 (bt164_1.length:Int)),.val (.bool true),.elem (.agg [vi ((rd_T35 bt164_1 0).f0),vi ((rd_T35 bt164_1 0).f1)]),.go,.elem (.ow false 35 (iS35 (bt164_1 ++ ([(⟨(rd_T35 bt164_1 0).f0,(rd_T35 bt164_1 0).f1⟩ : S35)]))))] [] .ret (.inr rfl) (by kernel_rfl) (And.intro (CallH.ren [(500000,55),(1000000,1000000)] rfl rfl (ad_53 c1)) (And.intro (CallH.ren [(1000000,1000000)] rfl rfl (ad_54 c3)) (And.intro (int_eql (P:=Try.prog) (t:=3) (k:=.i64) (x:=(.tmp 13)) (y:=(.const (.int .i64 0))) (a:=bt169_1) (b:=0) (v:=false) (beq_false_of_ne g5)) (And.intro (int_eql (P:=Try.prog) (t:=3) (k:=.i64) (x:=(.tmp 13)) (y:=(.const (.int .i64 1))) (a:=bt169_1) (b:=1) (v:=true) (beq_iff_eq.2 g11)) (And.intro (And.intro (iS35_len (xs:=bt164_1)) (int_gtr (P:=Try.prog) (t:=3) (k:=.i64) (x:=(.tmp 24)) (y:=(.const (.int .i64 0))) (a:=(bt164_1.length:Int)) (b:=0) (v:=true) (decide_eq_true (by omega)))) (And.intro (iS35_rd (xs:=bt164_1) (i:=0) (by decide) g15) (iS35_app (N:=8796093022208) (b:=16) (xs:=bt164_1) (ys:=[(⟨(rd_T35 bt164_1 0).f0,(rd_T35 bt164_1 0).f1⟩ : S35)]) (by decide) (Nat.succ_le_of_lt g17)))))))) (by kernel_rfl)
   ·obtain ⟨rfl,rfl,rfl⟩:=pr3_ h14
    exact leafRet (hn:=hn27) 30 [.goT,.callH [1000000] (.row 55) [(1000000,.box (.agg [.sl (iI .u8 s0_0),vi bt164_2,.val (.int .u64 bt164_3)])),(55,.ow false 35 (iS35 bt164_1))],.callH [1000000] (vi bt169_1) [(1000000,.box (.agg [.sl (iI .u8 s0_0),vi bt169_2,.val (.int .u64 bt169_3)]))],.val (.bool false),.val (.bool true),.val (.int .i64 (bt164_1.length:Int)),.val (.bool false)] [] .ret (.inr rfl) (by kernel_rfl) (And.intro (CallH.ren [(500000,55),(1000000,1000000)] rfl rfl (ad_53 c1)) (And.intro (CallH.ren [(1000000,1000000)] rfl rfl (ad_54 c3)) (And.intro (int_eql (P:=Try.prog) (t:=3) (k:=.i64) (x:=(.tmp 13)) (y:=(.const (.int .i64 0))) (a:=bt169_1) (b:=0) (v:=false) (beq_false_of_ne g5)) (And.intro (int_eql (P:=Try.prog) (t:=3) (k:=.i64) (x:=(.tmp 13)) (y:=(.const (.int .i64 1))) (a:=bt169_1) (b:=1) (v:=true) (beq_iff_eq.2 g11)) (And.intro (iS35_len (xs:=bt164_1)) (int_gtr (P:=Try.prog) (t:=3) (k:=.i64) (x:=(.tmp 24)) (y:=(.const (.int .i64 0))) (a:=(bt164_1.length:Int)) (b:=0) (v:=false) (decide_eq_false g13))))))) (by kernel_rfl)
  ·rcases ite_ h12 with ⟨g19,h20⟩ | ⟨g19,h20⟩
   ·obtain ⟨⟨bt183_1,bt183_2,bt183_3⟩,c21,h22⟩:=bd_ h20
    try dsimp only at h22
    obtain ⟨t186,c23,h24⟩:=bd_ h22
    obtain ⟨rfl,rfl,rfl⟩:=pr3_ h24
    exact leafRet (hn:=hn27) 29 [.goT,.callH [1000000] (.row 55) [(1000000,.box (.agg [.sl (iI .u8 s0_0),vi bt164_2,.val (.int .u64 bt164_3)])),(55,.ow false 35 (iS35 bt164_1))],.callH [1000000] (vi bt169_1) [(1000000,.box (.agg [.sl (iI .u8 s0_0),vi bt169_2,.val (.int .u64 bt169_3)]))],.val (.bool false),.val (.bool false),.val (.bool true),.callH [1000000] (vi bt183_1) [(1000000,.box (.agg [.sl (iI .u8 s0_0),vi bt183_2,.val (.int .u64 bt183_3)]))],.callH [] (.row 80) [(80,.ow false 35 (iS35 t186))]] [] .ret (.inr rfl) (by kernel_rfl) (And.intro (CallH.ren [(500000,55),(1000000,1000000)] rfl rfl (ad_53 c1)) (And.intro (CallH.ren [(1000000,1000000)] rfl rfl (ad_54 c3)) (And.intro (int_eql (P:=Try.prog) (t:=3) (k:=.i64) (x:=(.tmp 13)) (y:=(.const (.int .i64 0))) (a:=bt169_1) (b:=0) (v:=false) (beq_false_of_ne g5)) (And.intro (int_eql (P:=Try.prog) (t:=3) (k:=.i64) (x:=(.tmp 13)) (y:=(.const (.int .i64 1))) (a:=bt169_1) (b:=1) (v:=false) (beq_false_of_ne g11)) (And.intro (int_eql (P:=Try.prog) (t:=3) (k:=.i64) (x:=(.tmp 13)) (y:=(.const (.int .i64 2))) (a:=bt169_1) (b:=2) (v:=true) (beq_iff_eq.2 g19)) (And.intro (CallH.ren [(1000000,1000000)] rfl rfl (ad_54 c21)) (CallH.ren [(500000,80)] rfl rfl (ad_56 c23)))))))) (by kernel_rfl)
   ·rcases ite_ h20 with ⟨g25,h26⟩ | ⟨g25,h26⟩
    ·obtain ⟨t189,c27,h28⟩:=bd_ h26
     obtain ⟨g29,h30⟩:=ip_ h28
     obtain ⟨rfl,rfl,rfl⟩:=pr3_ h30
     exact leafRet (hn:=hn27) 33 [.goT,.callH [1000000] (.row 55) [(1000000,.box (.agg [.sl (iI .u8 s0_0),vi bt164_2,.val (.int .u64 bt164_3)])),(55,.ow false 35 (iS35 bt164_1))],.callH [1000000] (vi bt169_1) [(1000000,.box (.agg [.sl (iI .u8 s0_0),vi bt169_2,.val (.int .u64 bt169_3)]))],.val (.bool false),.val (.bool false),.val (.bool false),.val (.bool true),.callH [] (.row 83) [(83,.ow false 35 (iS35 t189))],.go,.go,.elem (.ow false 35 (iS35 (t189 ++ ([(⟨0,0⟩ : S35)]))))] [] .ret (.inr rfl) (by kernel_rfl) (And.intro (CallH.ren [(500000,55),(1000000,1000000)] rfl rfl (ad_53 c1)) (And.intro (CallH.ren [(1000000,1000000)] rfl rfl (ad_54 c3)) (And.intro (int_eql (P:=Try.prog) (t:=3) (k:=.i64) (x:=(.tmp 13)) (y:=(.const (.int .i64 0))) (a:=bt169_1) (b:=0) (v:=false) (beq_false_of_ne g5)) (And.intro (int_eql (P:=Try.prog) (t:=3) (k:=.i64) (x:=(.tmp 13)) (y:=(.const (.int .i64 1))) (a:=bt169_1) (b:=1) (v:=false) (beq_false_of_ne g11)) (And.intro (int_eql (P:=Try.prog) (t:=3) (k:=.i64) (x:=(.tmp 13)) (y:=(.const (.int .i64 2))) (a:=bt169_1) (b:=2) (v:=false) (beq_false_of_ne g19)) (And.intro (int_eql (P:=Try.prog) (t:=3) (k:=.i64) (x:=(.tmp 13)) (y:=(.const (.int .i64 3))) (a:=bt169_1) (b:=3) (v:=true) (beq_iff_eq.2 g25)) (And.intro (CallH.ren [(500000,83)] rfl rfl (ad_56 c27)) (iS35_app (N:=8796093022208) (b:=16) (xs:=t189) (ys:=[(⟨0,0⟩ : S35)]) (by decide) (Nat.succ_le_of_lt g29))))))))) (by kernel_rfl)
    ·obtain ⟨rfl,rfl,rfl⟩:=pr3_ h26
     exact leafRet (hn:=hn27) 34 [.goT,.callH [1000000] (.row 55) [(1000000,.box (.agg [.sl (iI .u8 s0_0),vi bt164_2,.val (.int .u64 bt164_3)])),(55,.ow false 35 (iS35 bt164_1))],.callH [1000000] (vi bt169_1) [(1000000,.box (.agg [.sl (iI .u8 s0_0),vi bt169_2,.val (.int .u64 bt169_3)]))],.val (.bool false),.val (.bool false),.val (.bool false),.val (.bool false)] [] .ret (.inr rfl) (by kernel_rfl) (And.intro (CallH.ren [(500000,55),(1000000,1000000)] rfl rfl (ad_53 c1)) (And.intro (CallH.ren [(1000000,1000000)] rfl rfl (ad_54 c3)) (And.intro (int_eql (P:=Try.prog) (t:=3) (k:=.i64) (x:=(.tmp 13)) (y:=(.const (.int .i64 0))) (a:=bt169_1) (b:=0) (v:=false) (beq_false_of_ne g5)) (And.intro (int_eql (P:=Try.prog) (t:=3) (k:=.i64) (x:=(.tmp 13)) (y:=(.const (.int .i64 1))) (a:=bt169_1) (b:=1) (v:=false) (beq_false_of_ne g11)) (And.intro (int_eql (P:=Try.prog) (t:=3) (k:=.i64) (x:=(.tmp 13)) (y:=(.const (.int .i64 2))) (a:=bt169_1) (b:=2) (v:=false) (beq_false_of_ne g19)) (int_eql (P:=Try.prog) (t:=3) (k:=.i64) (x:=(.tmp 13)) (y:=(.const (.int .i64 3))) (a:=bt169_1) (b:=3) (v:=false) (beq_false_of_ne g25))))))) (by kernel_rfl)

def hn5:Hint:=⟨[(8,[19]),(10,[19])],[]⟩
def o5 (r:(List (S35)) × (List (S35))):List AV:=[.sl (iS35 r.1),.sl (iS35 r.2)]
def p5 (r:(List (S35)) × (List (S35))):List (Nat × AV):=[]
set_option maxRecDepth 100000 in
theorem ad_5 {k:Nat} {l0:List Int} {r1:List (S35)} {r2:List (S35)} (h:spec_DrawJoinHands.f k l0 = some (r1,r2)):CallH Try.prog 5 [.sl (iI .u8 l0)] [] (.tup [.sl (iS35 r1),.sl (iS35 r2)]) []:=by
 unfold spec_DrawJoinHands.f at h
 refine call_ok (c:=bodyOf Try.f5) (rs:=o5 (r1,r2)) (post:=p5 (r1,r2)) Try.func5 rfl rfl rfl (by kernel_rfl) ?_
 show AtP Try.prog 12 (bodyOf Try.f5) (KR Try.prog Try.f5.results.toList (o5 (r1,r2)) (p5 (r1,r2))) [] [] (lookA [(0,.sl (iI .u8 l0))])
 obtain ⟨⟨bt196_1,bt196_2,bt196_3⟩,c1,h2⟩:=bd_ h
 try dsimp only at h2
 obtain ⟨⟨bt201_1,bt201_2,bt201_3⟩,c3,h4⟩:=bd_ h2
 try dsimp only at h4
 obtain ⟨rfl,rfl⟩:=pr2_ h4
 exact leafRet (hn:=hn5) 10 [.goT,.goT,.go,.callH [19] (.sl (iS35 bt196_1)) [(19,.box (.agg [.sl (iI .u8 l0),vi bt196_2,.val (.int .u64 bt196_3)]))],.callH [19] (.sl (iS35 bt201_1)) [(19,.box (.agg [.sl (iI .u8 l0),vi bt201_2,.val (.int .u64 bt201_3)]))]] [] .ret (.inr rfl) (by kernel_rfl) (And.intro (CallH.ren [(1000000,19)] rfl rfl (ad_27 c1)) (CallH.ren [(1000000,19)] rfl rfl (ad_27 c3))) (by kernel_rfl)

def hn68:Hint:=⟨[],[]⟩
def o68 (r:Bool):List AV:=[vb r]
def p68 (r:Bool):List (Nat × AV):=[]
set_option maxRecDepth 100000 in
theorem ad_68 {a0:Int} {a1:Int} {a2:Int} {r:Bool} (h:impl_within.f a0 a1 a2 = some r):CallH Try.prog 68 [vi a0,vi a1,vi a2] [] (vb r) []:=by
 unfold impl_within.f at h
 refine call_ok (c:=bodyOf Try.f68) (rs:=o68 r) (post:=p68 r) Try.func68 rfl rfl rfl (by kernel_rfl) ?_
 show AtP Try.prog 15 (bodyOf Try.f68) (KR Try.prog Try.f68.results.toList (o68 r) (p68 r)) [] [] (lookA [(0,vi a0),(1,vi a1),(2,vi a2)])
 rcases ite_ h with ⟨g1,h2⟩ | ⟨g1,h2⟩
 ·obtain rfl:=Option.some.inj h2
  exact leafRet (hn:=hn68) 7 [.val (.bool true),.val (.bool (decide (a0 ≤ a2)))] [] .ret (.inr rfl) (by kernel_rfl) (And.intro (int_leq (P:=Try.prog) (t:=3) (k:=.i64) (x:=(.tmp 7)) (y:=(.tmp 8)) (a:=a1) (b:=a0) (v:=true) (decide_eq_true g1)) (int_leq (P:=Try.prog) (t:=3) (k:=.i64) (x:=(.tmp 11)) (y:=(.tmp 12)) (a:=a0) (b:=a2) (v:=(decide (a0 ≤ a2))) rfl)) (by kernel_rfl)
 ·obtain rfl:=Option.some.inj h2
  exact leafRet (hn:=hn68) 7 [.val (.bool false)] [] .ret (.inr rfl) (by kernel_rfl) (int_leq (P:=Try.prog) (t:=3) (k:=.i64) (x:=(.tmp 7)) (y:=(.tmp 8)) (a:=a1) (b:=a0) (v:=false) (decide_eq_false g1)) (by kernel_rfl)

def hn40:Hint:=⟨[(3,[14]),(5,[14]),(9,[14])],[]⟩
def o40 (r:Bool):List AV:=[vb r]
def p40 (r:Bool):List (Nat × AV):=[]
set_option maxRecDepth 100000 in
theorem ad_40 {a0_0:Int} {a0_1:Int} {r:Bool} (h:impl_IsTile.f a0_0 a0_1 = some r):CallH Try.prog 40 [.agg [vi a0_0,vi a0_1]] [] (vb r) []:=by
 unfold impl_IsTile.f at h
 refine call_ok (c:=bodyOf Try.f40) (rs:=o40 r) (post:=p40 r) Try.func40 rfl rfl rfl (by kernel_rfl) ?_
 show AtP Try.prog 13 (bodyOf Try.f40) (KR Try.prog Try.f40.results.toList (o40 r) (p40 r)) [] [] (lookA [(0,.agg [vi a0_0,vi a0_1])])
 obtain ⟨t207,c1,h2⟩:=bd_ h
 rcases ite_ h2 with ⟨g3,h4⟩ | ⟨g3,h4⟩
 ·subst g3
  obtain rfl:=Option.some.inj h4
  exact leafRet (hn:=hn40) 7 [.call (vb true),.val (.bool (decide (a0_1 ≤ 9)))] [] .ret (.inr rfl) (by kernel_rfl) (And.intro (ad_68 c1) (int_leq (P:=Try.prog) (t:=3) (k:=.i64) (x:=(.tmp 10)) (y:=(.const (.int .i64 9))) (a:=a0_1) (b:=9) (v:=(decide (a0_1 ≤ 9))) rfl)) (by kernel_rfl)
 ·obtain rfl:=Bool.eq_false_iff.2 g3
  obtain rfl:=Option.some.inj h4
  exact leafRet (hn:=hn40) 7 [.call (vb false)] [] .ret (.inr rfl) (by kernel_rfl) (ad_68 c1) (by kernel_rfl)

def hn39:Hint:=⟨[(1,[7])],[]⟩
def o39 (r:Bool):List AV:=[vb r]
def p39 (r:Bool):List (Nat × AV):=[]
def hn65:Hint:=⟨[(3,[22])],[]⟩
def o65 (r:Int):List AV:=[vi r]
def p65 (r:Int):List (Nat × AV):=[]
def q65_l0 (r:Int) (k:Nat) (L:List (Nat × AV)):Prop:=∃ (x0:List (S35)) (x7:Int) (x8:Int) (x211000:Int) (x211001:Int),L = [(0,.sl (iS35 x0)),(3,.loc 22 0),(7,vi x7),(8,vi x8),(22,.box (.agg [vi x211000,vi x211001]))] ∧ slices_Index_impl_Tile_impl_Tile.l0 k x0 x7 x8 x211000 x211001 = some r
theorem q65_l0_mk {r:Int} {k:Nat} {x0:List (S35)} {x7:Int} {x8:Int} {x211000:Int} {x211001:Int} (h:slices_Index_impl_Tile_impl_Tile.l0 k x0 x7 x8 x211000 x211001 = some r):q65_l0 r k [(0,.sl (iS35 x0)),(3,.loc 22 0),(7,vi x7),(8,vi x8),(22,.box (.agg [vi x211000,vi x211001]))]:=⟨x0,x7,x8,x211000,x211001,rfl,h⟩
set_option maxRecDepth 100000 in
theorem at65_l0 {r:Int}:∀ k L,q65_l0 r k L → AtP Try.prog 19 (bodyOf Try.f65) (KR Try.prog Try.f65.results.toList (o65 r) (p65 r)) [true,false,true,false] [] (lookA L) :=
 at_loop (by kernel_rfl) (fun _ => by kernel_rfl) (q65_l0 r) (by
  rintro k _ ⟨x0,x7,x8,x211000,x211001,rfl,h⟩
  cases k with
  | zero => simp [slices_Index_impl_Tile_impl_Tile.l0] at h
  | succ k =>
   rw [slices_Index_impl_Tile_impl_Tile.l0] at h
   rcases ite_ h with ⟨g1,h2⟩ | ⟨g1,h2⟩
   ·obtain ⟨g3,h4⟩:=ip_ h2
    obtain ⟨g5,h6⟩:=ip_ h4
    rcases ite_ h6 with ⟨g7,h8⟩ | ⟨g7,h8⟩
    ·obtain rfl:=Option.some.inj h8
     exact leafRet (hn:=hn65) 25 [.val (.bool true),.elem (.agg [vi ((rd_T35 x0 x8).f0),vi ((rd_T35 x0 x8).f1)]),.val (.bool true)] [] .ret (.inr rfl) (by kernel_rfl) (And.intro (int_lss (P:=Try.prog) (t:=3) (k:=.i64) (x:=(.tmp 8)) (y:=(.tmp 7)) (a:=x8) (b:=x7) (v:=true) (decide_eq_true g1)) (And.intro (iS35_rd (xs:=x0) (i:=x8) g3 g5) (agg_35_eql (x:=(.tmp 11)) (y:=(.tmp 15)) (a0:=x211000) (b0:=((rd_T35 x0 x8).f0)) (a1:=x211001) (b1:=((rd_T35 x0 x8).f1)) (v:=true) g7))) (by kernel_rfl)
    ·exact leafBack (hn:=hn65) 20 [.val (.bool true),.elem (.agg [vi ((rd_T35 x0 x8).f0),vi ((rd_T35 x0 x8).f1)]),.val (.bool false),.val (.int .i64 (wrap64 (x8 + 1)))] [] (q65_l0_mk h8) (Nat.lt_succ_self k) (And.intro (int_lss (P:=Try.prog) (t:=3) (k:=.i64) (x:=(.tmp 8)) (y:=(.tmp 7)) (a:=x8) (b:=x7) (v:=true) (decide_eq_true g1)) (And.intro (And.intro (iS35_rd (xs:=x0) (i:=x8) g3 g5) (agg_35_eql (x:=(.tmp 11)) (y:=(.tmp 15)) (a0:=x211000) (b0:=((rd_T35 x0 x8).f0)) (a1:=x211001) (b1:=((rd_T35 x0 x8).f1)) (v:=false) (Bool.eq_false_iff.2 g7))) (int_add (P:=Try.prog) (t:=3) (k:=.i64) (x:=(.tmp 8)) (y:=(.const (.int .i64 1))) (a:=x8) (b:=1) (c:=(wrap64 (x8 + 1))) (IntWalk.i64_left _)))) (by kernel_rfl)
   ·obtain rfl:=Option.some.inj h2
    exact leafRet (hn:=hn65) 14 [.val (.bool false)] [] .ret (.inr rfl) (by kernel_rfl) (int_lss (P:=Try.prog) (t:=3) (k:=.i64) (x:=(.tmp 8)) (y:=(.tmp 7)) (a:=x8) (b:=x7) (v:=false) (decide_eq_false g1)) (by kernel_rfl))
set_option maxRecDepth 100000 in
theorem ad_65 {k:Nat} {l0:List (S35)} {a1_0:Int} {a1_1:Int} {r:Int} (h:slices_Index_impl_Tile_impl_Tile.f k l0 a1_0 a1_1 = some r):CallH Try.prog 65 [.sl (iS35 l0),.agg [vi a1_0,vi a1_1]] [] (vi r) []:=by
 unfold slices_Index_impl_Tile_impl_Tile.f at h
 refine call_ok (c:=bodyOf Try.f65) (rs:=o65 r) (post:=p65 r) Try.func65 rfl rfl rfl (by kernel_rfl) ?_
 show AtP Try.prog 19 (bodyOf Try.f65) (KR Try.prog Try.f65.results.toList (o65 r) (p65 r)) [] [] (lookA [(0,.sl (iS35 l0)),(1,.agg [vi a1_0,vi a1_1])])
 exact leafAt (hn:=hn65) 8 [.val (.int .i64 (l0.length:Int))] [] (at65_l0 _ _ (q65_l0_mk h)) (iS35_len (xs:=l0)) (by kernel_rfl)

def hn35:Hint:=⟨[(3,[12])],[]⟩
def o35 (r:Bool):List AV:=[vb r]
def p35 (r:Bool):List (Nat × AV):=[]
set_option maxRecDepth 100000 in
theorem ad_35 {k:Nat} {l0:List (S35)} {a1_0:Int} {a1_1:Int} {r:Bool} (h:slices_Contains_impl_Tile_impl_Tile.f k l0 a1_0 a1_1 = some r):CallH Try.prog 35 [.sl (iS35 l0),.agg [vi a1_0,vi a1_1]] [] (vb r) []:=by
 unfold slices_Contains_impl_Tile_impl_Tile.f at h
 refine call_ok (c:=bodyOf Try.f35) (rs:=o35 r) (post:=p35 r) Try.func35 rfl rfl rfl (by kernel_rfl) ?_
 show AtP Try.prog 9 (bodyOf Try.f35) (KR Try.prog Try.f35.results.toList (o35 r) (p35 r)) [] [] (lookA [(0,.sl (iS35 l0)),(1,.agg [vi a1_0,vi a1_1])])
 obtain ⟨t213,c1,h2⟩:=bd_ h
 obtain rfl:=Option.some.inj h2
 exact leafRet (hn:=hn35) 7 [.call (vi t213),.val (.bool (decide (t213 ≥ 0)))] [] .ret (.inr rfl) (by kernel_rfl) (And.intro (ad_65 c1) (int_geq (P:=Try.prog) (t:=3) (k:=.i64) (x:=(.tmp 7)) (y:=(.const (.int .i64 0))) (a:=t213) (b:=0) (v:=(decide (t213 ≥ 0))) rfl)) (by kernel_rfl)

def hn41:Hint:=⟨[(4,[22])],[]⟩
def o41 (r:Bool):List AV:=[vb r]
def p41 (r:Bool):List (Nat × AV):=[]
def q41_l0 (r:Bool) (k:Nat) (L:List (Nat × AV)):Prop:=∃ (x0:List (S35)) (x5:List (S35)) (x6:Int) (x7:Int),L = [(0,.sl (iS35 x0)),(5,.sl (iS35 x5)),(6,vi x6),(7,vi x7)] ∧ impl_areDifferent_impl_Tile.l0 k x0 x5 x6 x7 = some r
def hn59:Hint:=⟨[(5,[22]),(7,[23]),(10,[22]),(12,[23]),(15,[22]),(17,[23])],[]⟩
def o59 (r:Int):List AV:=[vi r]
def p59 (r:Int):List (Nat × AV):=[]
def hn71:Hint:=⟨[],[]⟩
def o71 (r:Bool):List AV:=[vb r]
def p71 (r:Bool):List (Nat × AV):=[]
set_option maxRecDepth 100000 in
theorem ad_71 {a0:Int} {a1:Int} {a2:Int} {r:Bool} (h:spec_l1In.f a0 a1 a2 = some r):CallH Try.prog 71 [vi a0,vi a1,vi a2] [] (vb r) []:=by
 unfold spec_l1In.f at h
 refine call_ok (c:=bodyOf Try.f71) (rs:=o71 r) (post:=p71 r) Try.func71 rfl rfl rfl (by kernel_rfl) ?_
 show AtP Try.prog 15 (bodyOf Try.f71) (KR Try.prog Try.f71.results.toList (o71 r) (p71 r)) [] [] (lookA [(0,vi a0),(1,vi a1),(2,vi a2)])
 rcases ite_ h with ⟨g1,h2⟩ | ⟨g1,h2⟩
 ·obtain rfl:=Option.some.inj h2
  exact leafRet (hn:=hn71) 7 [.val (.bool true),.val (.bool (decide (a0 ≤ a2)))] [] .ret (.inr rfl) (by kernel_rfl) (And.intro (int_geq (P:=Try.prog) (t:=3) (k:=.i64) (x:=(.tmp 7)) (y:=(.tmp 8)) (a:=a0) (b:=a1) (v:=true) (decide_eq_true g1)) (int_leq (P:=Try.prog) (t:=3) (k:=.i64) (x:=(.tmp 11)) (y:=(.tmp 12)) (a:=a0) (b:=a2) (v:=(decide (a0 ≤ a2))) rfl)) (by kernel_rfl)
 ·obtain rfl:=Option.some.inj h2
  exact leafRet (hn:=hn71) 7 [.val (.bool false)] [] .ret (.inr rfl) (by kernel_rfl) (int_geq (P:=Try.prog) (t:=3) (k:=.i64) (x:=(.tmp 7)) (y:=(.tmp 8)) (a:=a0) (b:=a1) (v:=false) (decide_eq_false g1)) (by kernel_rfl)

def hn61:Hint:=⟨[(3,[14]),(5,[14]),(9,[14])],[]⟩
def o61 (r:Bool):List AV:=[vb r]
def p61 (r:Bool):List (Nat × AV):=[]
set_option maxRecDepth 100000 in
theorem ad_61 {a0_0:Int} {a0_1:Int} {r:Bool} (h:spec_tiGood.f a0_0 a0_1 = some r):CallH Try.prog 61 [.agg [vi a0_0,vi a0_1]] [] (vb r) []:=by
 unfold spec_tiGood.f at h
 refine call_ok (c:=bodyOf Try.f61) (rs:=o61 r) (post:=p61 r) Try.func61 rfl rfl rfl (by kernel_rfl) ?_
 show AtP Try.prog 13 (bodyOf Try.f61) (KR Try.prog Try.f61.results.toList (o61 r) (p61 r)) [] [] (lookA [(0,.agg [vi a0_0,vi a0_1])])
 obtain ⟨t257,c1,h2⟩:=bd_ h
 rcases ite_ h2 with ⟨g3,h4⟩ | ⟨g3,h4⟩
 ·subst g3
  obtain rfl:=Option.some.inj h4
  exact leafRet (hn:=hn61) 7 [.call (vb true),.val (.bool (decide (a0_1 ≤ 9)))] [] .ret (.inr rfl) (by kernel_rfl) (And.intro (ad_71 c1) (int_leq (P:=Try.prog) (t:=3) (k:=.i64) (x:=(.tmp 10)) (y:=(.const (.int .i64 9))) (a:=a0_1) (b:=9) (v:=(decide (a0_1 ≤ 9))) rfl)) (by kernel_rfl)
 ·obtain rfl:=Bool.eq_false_iff.2 g3
  obtain rfl:=Option.some.inj h4
  exact leafRet (hn:=hn61) 7 [.call (vb false)] [] .ret (.inr rfl) (by kernel_rfl) (ad_71 c1) (by kernel_rfl)

def hn31:Hint:=⟨[(4,[31])],[]⟩
def o31 (r:Bool):List AV:=[vb r]
def p31 (r:Bool):List (Nat × AV):=[]
def q31_l0 (r:Bool) (k:Nat) (L:List (Nat × AV)):Prop:=∃ (x0:List (S35)) (x8:List (S35)) (x9:Int) (x10:Int),L = [(0,.sl (iS35 x0)),(8,.sl (iS35 x8)),(9,vi x9),(10,vi x10)] ∧ spec_tiHand.l0 k x0 x8 x9 x10 = some r
theorem q31_l0_mk {r:Bool} {k:Nat} {x0:List (S35)} {x8:List (S35)} {x9:Int} {x10:Int} (h:spec_tiHand.l0 k x0 x8 x9 x10 = some r):q31_l0 r k [(0,.sl (iS35 x0)),(8,.sl (iS35 x8)),(9,vi x9),(10,vi x10)]:=⟨x0,x8,x9,x10,rfl,h⟩
set_option maxRecDepth 100000 in
theorem at31_l0 {r:Bool}:∀ k L,q31_l0 r k L → AtP Try.prog 27 (bodyOf Try.f31) (KR Try.prog Try.f31.results.toList (o31 r) (p31 r)) [true,true,false,true,false] [] (lookA L) :=
 at_loop (by kernel_rfl) (fun _ => by kernel_rfl) (q31_l0 r) (by
  rintro k _ ⟨x0,x8,x9,x10,rfl,h⟩
  cases k with
  | zero => simp [spec_tiHand.l0] at h
  | succ k =>
   rw [spec_tiHand.l0] at h
   rcases ite_ h with ⟨g1,h2⟩ | ⟨g1,h2⟩
   ·obtain ⟨g3,h4⟩:=ip_ h2
    obtain ⟨g5,h6⟩:=ip_ h4
    obtain ⟨t260,c7,h8⟩:=bd_ h6
    rcases ite_ h8 with ⟨g9,h10⟩ | ⟨g9,h10⟩
    ·subst g9
     obtain ⟨g11,h12⟩:=ip_ h10
     obtain ⟨t265,c13,h14⟩:=bd_ h12
     rcases ite_ h14 with ⟨g15,h16⟩ | ⟨g15,h16⟩
     ·obtain rfl:=Option.some.inj h16
      exact leafRet (hn:=hn31) 25 [.val (.bool true),.elem (.agg [vi ((rd_T35 x8 x10).f0),vi ((rd_T35 x8 x10).f1)]),.call (vb true),.elem (.sl (iS35 (x0.take (x10:Int).toNat))),.call (vi t265),.val (.bool true)] [] .ret (.inr rfl) (by kernel_rfl) (And.intro (int_lss (P:=Try.prog) (t:=3) (k:=.i64) (x:=(.tmp 10)) (y:=(.tmp 9)) (a:=x10) (b:=x9) (v:=true) (decide_eq_true g1)) (And.intro (iS35_rd (xs:=x8) (i:=x10) g3 g5) (And.intro (ad_61 c7) (And.intro (iS35_take (xs:=x0) (b:=x10) g3 g11) (And.intro (ad_62 c13) (int_geq (P:=Try.prog) (t:=3) (k:=.i64) (x:=(.tmp 23)) (y:=(.const (.int .i64 0))) (a:=t265) (b:=0) (v:=true) (decide_eq_true g15))))))) (by kernel_rfl)
     ·exact leafBack (hn:=hn31) 20 [.val (.bool true),.elem (.agg [vi ((rd_T35 x8 x10).f0),vi ((rd_T35 x8 x10).f1)]),.call (vb true),.elem (.sl (iS35 (x0.take (x10:Int).toNat))),.call (vi t265),.val (.bool false),.val (.int .i64 (wrap64 (x10 + 1)))] [] (q31_l0_mk h16) (Nat.lt_succ_self k) (And.intro (int_lss (P:=Try.prog) (t:=3) (k:=.i64) (x:=(.tmp 10)) (y:=(.tmp 9)) (a:=x10) (b:=x9) (v:=true) (decide_eq_true g1)) (And.intro (iS35_rd (xs:=x8) (i:=x10) g3 g5) (And.intro (And.intro (ad_61 c7) (And.intro (iS35_take (xs:=x0) (b:=x10) g3 g11) (And.intro (ad_62 c13) (int_geq (P:=Try.prog) (t:=3) (k:=.i64) (x:=(.tmp 23)) (y:=(.const (.int .i64 0))) (a:=t265) (b:=0) (v:=false) (decide_eq_false g15))))) (int_add (P:=Try.prog) (t:=3) (k:=.i64) (x:=(.tmp 10)) (y:=(.const (.int .i64 1))) (a:=x10) (b:=1) (c:=(wrap64 (x10 + 1))) (IntWalk.i64_left _))))) (by kernel_rfl)
    ·obtain rfl:=Bool.eq_false_iff.2 g9
     obtain rfl:=Option.some.inj h10
     exact leafRet (hn:=hn31) 25 [.val (.bool true),.elem (.agg [vi ((rd_T35 x8 x10).f0),vi ((rd_T35 x8 x10).f1)]),.call (vb false)] [] .ret (.inr rfl) (by kernel_rfl) (And.intro (int_lss (P:=Try.prog) (t:=3) (k:=.i64) (x:=(.tmp 10)) (y:=(.tmp 9)) (a:=x10) (b:=x9) (v:=true) (decide_eq_true g1)) (And.intro (iS35_rd (xs:=x8) (i:=x10) g3 g5) (ad_61 c7))) (by kernel_rfl)
   ·obtain rfl:=Option.some.inj h2
    exact leafRet (hn:=hn31) 14 [.val (.bool false)] [] .ret (.inr rfl) (by kernel_rfl) (int_lss (P:=Try.prog) (t:=3) (k:=.i64) (x:=(.tmp 10)) (y:=(.tmp 9)) (a:=x10) (b:=x9) (v:=false) (decide_eq_false g1)) (by kernel_rfl))
set_option maxRecDepth 100000 in
theorem ad_31 {k:Nat} {l0:List (S35)} {r:Bool} (h:spec_tiHand.f k l0 = some r):CallH Try.prog 31 [.sl (iS35 l0)] [] (vb r) []:=by
 unfold spec_tiHand.f at h
 refine call_ok (c:=bodyOf Try.f31) (rs:=o31 r) (post:=p31 r) Try.func31 rfl rfl rfl (by kernel_rfl) ?_
 show AtP Try.prog 27 (bodyOf Try.f31) (KR Try.prog Try.f31.results.toList (o31 r) (p31 r)) [] [] (lookA [(0,.sl (iS35 l0))])
 rcases ite_ h with ⟨g1,h2⟩ | ⟨g1,h2⟩
 ·obtain rfl:=Option.some.inj h2
  exact leafRet (hn:=hn31) 13 [.val (.int .i64 (l0.length:Int)),.val (.bool true)] [] .ret (.inr rfl) (by kernel_rfl) (And.intro (iS35_len (xs:=l0)) (int_gtr (P:=Try.prog) (t:=3) (k:=.i64) (x:=(.tmp 6)) (y:=(.const (.int .i64 55))) (a:=(l0.length:Int)) (b:=55) (v:=true) (decide_eq_true g1))) (by kernel_rfl)
 ·exact leafAt (hn:=hn31) 15 [.val (.int .i64 (l0.length:Int)),.val (.bool false),.val (.int .i64 (l0.length:Int))] [] (at31_l0 _ _ (q31_l0_mk h2)) (And.intro (And.intro (iS35_len (xs:=l0)) (int_gtr (P:=Try.prog) (t:=3) (k:=.i64) (x:=(.tmp 6)) (y:=(.const (.int .i64 55))) (a:=(l0.length:Int)) (b:=55) (v:=false) (decide_eq_false g1))) (iS35_len (xs:=l0))) (by kernel_rfl)

def hn50:Hint:=⟨[(9,[38]),(11,[40]),(23,[36]),(25,[54])],[]⟩
def o50 (r:(List (S35))):List AV:=[.sl (iS35 r)]
def p50 (r:(List (S35))):List (Nat × AV):=[]
def q50_l0 (r:(List (S35))) (k:Nat) (L:List (Nat × AV)):Prop:=∃ (x1:List (S35)) (x2:Bool) (x7:List (S35)) (x11:List (S35)) (x12:Int) (x13:Int),L = [(1,.sl (iS35 x1)),(2,vb x2),(7,.row 36),(11,.row 40),(12,vi x12),(13,vi x13),(36,.ow false 35 (iS35 x7)),(40,.ow false 35 (iS35 x11))] ∧ spec_tiPick.l0 k x1 x2 x7 x11 x12 x13 = some r
theorem q50_l0_mk {r:(List (S35))} {k:Nat} {x1:List (S35)} {x2:Bool} {x7:List (S35)} {x11:List (S35)} {x12:Int} {x13:Int} (h:spec_tiPick.l0 k x1 x2 x7 x11 x12 x13 = some r):q50_l0 r k [(1,.sl (iS35 x1)),(2,vb x2),(7,.row 36),(11,.row 40),(12,vi x12),(13,vi x13),(36,.ow false 35 (iS35 x7)),(40,.ow false 35 (iS35 x11))]:=⟨x1,x2,x7,x11,x12,x13,rfl,h⟩
set_option maxRecDepth 100000 in
theorem at50_l0 {r:(List (S35))}:∀ k L,q50_l0 r k L → AtP Try.prog 29 (bodyOf Try.f50) (KR Try.prog Try.f50.results.toList (o50 r) (p50 r)) [true,true,false,true,false] [] (lookA L) :=
 at_loop (by kernel_rfl) (fun _ => by kernel_rfl) (q50_l0 r) (by
  rintro k _ ⟨x1,x2,x7,x11,x12,x13,rfl,h⟩
  cases k with
  | zero => simp [spec_tiPick.l0] at h
  | succ k =>
   rw [spec_tiPick.l0] at h
   rcases ite_ h with ⟨g1,h2⟩ | ⟨g1,h2⟩
   ·obtain ⟨g3,h4⟩:=ip_ h2
    obtain ⟨g5,h6⟩:=ip_ h4
    obtain ⟨t271,c7,h8⟩:=bd_ h6
    rcases ite_ h8 with ⟨g9,h10⟩ | ⟨g9,h10⟩
    ·obtain ⟨g11,h12⟩:=ip_ h10
     exact leafBack (hn:=hn50) 20 [.val (.bool true),.elem (.agg [vi ((rd_T35 x11 x13).f0),vi ((rd_T35 x11 x13).f1)]),.call (vi t271),.val (.bool (decide (t271 ≥ 0))),.val (.bool true),.go,.elem (.ow false 35 (iS35 (x7 ++ ([(⟨(rd_T35 x11 x13).f0,(rd_T35 x11 x13).f1⟩ : S35)])))),.val (.int .i64 (wrap64 (x13 + 1)))] [(36,55)] (q50_l0_mk h12) (Nat.lt_succ_self k) (And.intro (int_lss (P:=Try.prog) (t:=3) (k:=.i64) (x:=(.tmp 13)) (y:=(.tmp 12)) (a:=x13) (b:=x12) (v:=true) (decide_eq_true g1)) (And.intro (iS35_rd (xs:=x11) (i:=x13) g3 g5) (And.intro (And.intro (ad_62 c7) (And.intro (int_geq (P:=Try.prog) (t:=3) (k:=.i64) (x:=(.tmp 19)) (y:=(.const (.int .i64 0))) (a:=t271) (b:=0) (v:=(decide (t271 ≥ 0))) rfl) (bool_eql (P:=Try.prog) (t:=4) (x:=(.tmp 20)) (y:=(.tmp 21)) (a:=(decide (t271 ≥ 0))) (b:=x2) Try.underlying4 (v:=true) g9))) (And.intro (iS35_app (N:=8796093022208) (b:=16) (xs:=x7) (ys:=[(⟨(rd_T35 x11 x13).f0,(rd_T35 x11 x13).f1⟩ : S35)]) (by decide) (Nat.succ_le_of_lt g11)) (int_add (P:=Try.prog) (t:=3) (k:=.i64) (x:=(.tmp 13)) (y:=(.const (.int .i64 1))) (a:=x13) (b:=1) (c:=(wrap64 (x13 + 1))) (IntWalk.i64_left _)))))) (by kernel_rfl)
    ·exact leafBack (hn:=hn50) 20 [.val (.bool true),.elem (.agg [vi ((rd_T35 x11 x13).f0),vi ((rd_T35 x11 x13).f1)]),.call (vi t271),.val (.bool (decide (t271 ≥ 0))),.val (.bool false),.val (.int .i64 (wrap64 (x13 + 1)))] [] (q50_l0_mk h10) (Nat.lt_succ_self k) (And.intro (int_lss (P:=Try.prog) (t:=3) (k:=.i64) (x:=(.tmp 13)) (y:=(.tmp 12)) (a:=x13) (b:=x12) (v:=true) (decide_eq_true g1)) (And.intro (iS35_rd (xs:=x11) (i:=x13) g3 g5) (And.intro (And.intro (ad_62 c7) (And.intro (int_geq (P:=Try.prog) (t:=3) (k:=.i64) (x:=(.tmp 19)) (y:=(.const (.int .i64 0))) (a:=t271) (b:=0) (v:=(decide (t271 ≥ 0))) rfl) (bool_eql (P:=Try.prog) (t:=4) (x:=(.tmp 20)) (y:=(.tmp 21)) (a:=(decide (t271 ≥ 0))) (b:=x2) Try.underlying4 (v:=false) (Bool.eq_false_iff.2 g9)))) (int_add (P:=Try.prog) (t:=3) (k:=.i64) (x:=(.tmp 13)) (y:=(.const (.int .i64 1))) (a:=x13) (b:=1) (c:=(wrap64 (x13 + 1))) (IntWalk.i64_left _))))) (by kernel_rfl)
   ·obtain rfl:=Option.some.inj h2
    exact leafRet (hn:=hn50) 14 [.val (.bool false)] [] .ret (.inr rfl) (by kernel_rfl) (int_lss (P:=Try.prog) (t:=3) (k:=.i64) (x:=(.tmp 13)) (y:=(.tmp 12)) (a:=x13) (b:=x12) (v:=false) (decide_eq_false g1)) (by kernel_rfl))
set_option maxRecDepth 100000 in
theorem ad_50 {k:Nat} {a0:Int} {l1:List (S35)} {a2:Bool} {r:List (S35)} (h:spec_tiPick.f k a0 l1 a2 = some r):CallH Try.prog 50 [vi a0,.sl (iS35 l1),vb a2] [] (.sl (iS35 r)) []:=by
 unfold spec_tiPick.f at h
 refine call_ok (c:=bodyOf Try.f50) (rs:=o50 r) (post:=p50 r) Try.func50 rfl rfl rfl (by kernel_rfl) ?_
 show AtP Try.prog 29 (bodyOf Try.f50) (KR Try.prog Try.f50.results.toList (o50 r) (p50 r)) [] [] (lookA [(0,vi a0),(1,.sl (iS35 l1)),(2,vb a2)])
 obtain ⟨t266,c1,h2⟩:=bd_ h
 exact leafAt (hn:=hn50) 11 [.goT,.nil false 35,.callH [] (.row 40) [(40,.ow false 35 (iS35 t266))],.val (.int .i64 (t266.length:Int))] [] (at50_l0 _ _ (q50_l0_mk h2)) (And.intro (CallH.ren [(500000,40)] rfl rfl (ad_56 c1)) (iS35_len (xs:=t266))) (by kernel_rfl)

def hn32:Hint:=⟨[],[]⟩
def o32 (r:(List (S35))):List AV:=[.sl (iS35 r)]
def p32 (r:(List (S35))):List (Nat × AV):=[]
set_option maxRecDepth 100000 in
theorem ad_32 {k:Nat} {l0:List (S35)} {r:List (S35)} (h:spec_tiSort.f k l0 = some r):CallH Try.prog 32 [.sl (iS35 l0)] [] (.sl (iS35 r)) []:=by
 unfold spec_tiSort.f at h
 refine call_ok (c:=bodyOf Try.f32) (rs:=o32 r) (post:=p32 r) Try.func32 rfl rfl rfl (by kernel_rfl) ?_
 show AtP Try.prog 5 (bodyOf Try.f32) (KR Try.prog Try.f32.results.toList (o32 r) (p32 r)) [] [] (lookA [(0,.sl (iS35 l0))])
 obtain ⟨t275,c1,h2⟩:=bd_ h
 obtain rfl:=Option.some.inj h2
 exact leafRet (hn:=hn32) 7 [.goT,.call (.sl (iS35 t275))] [] .ret (.inr rfl) (by kernel_rfl) (ad_50 c1) (by kernel_rfl)

def hn7:Hint:=⟨[(14,[34]),(16,[36]),(18,[38])],[]⟩
def o7 (r:(List (S35)) × Bool):List AV:=[.sl (iS35 r.1),vb r.2]
def p7 (r:(List (S35)) × Bool):List (Nat × AV):=[]
set_option maxRecDepth 100000 in
theorem ad_7 {k:Nat} {l0:List (S35)} {l1:List (S35)} {r1:List (S35)} {r2:Bool} (h:spec_JoinHands.f k l0 l1 = some (r1,r2)):CallH Try.prog 7 [.sl (iS35 l0),.sl (iS35 l1)] [] (.tup [.sl (iS35 r1),vb r2]) []:=by
 unfold spec_JoinHands.f at h
 refine call_ok (c:=bodyOf Try.f7) (rs:=o7 (r1,r2)) (post:=p7 (r1,r2)) Try.func7 rfl rfl rfl (by kernel_rfl) ?_
 show AtP Try.prog 20 (bodyOf Try.f7) (KR Try.prog Try.f7.results.toList (o7 (r1,r2)) (p7 (r1,r2))) [] [] (lookA [(0,.sl (iS35 l0)),(1,.sl (iS35 l1))])
 obtain ⟨t278,c1,h2⟩:=bd_ h
 rcases ite_ h2 with ⟨g3,h4⟩ | ⟨g3,h4⟩
 ·subst g3
  obtain ⟨t279,c5,h6⟩:=bd_ h4
  rcases ite_ h6 with ⟨g7,h8⟩ | ⟨g7,h8⟩
  ·subst g7
   obtain ⟨y280,c9,h10⟩:=bd_ h8
   obtain rfl:=Option.some.inj c9
   obtain ⟨g11,h12⟩:=ip_ h10
   obtain ⟨y283,c13,h14⟩:=bd_ h12
   obtain rfl:=Option.some.inj c13
   obtain ⟨g15,h16⟩:=ip_ h14
   obtain ⟨t289,c17,h18⟩:=bd_ h16
   obtain ⟨rfl,rfl⟩:=pr2_ h18
   exact leafRet (hn:=hn7) 14 [.goT,.call (vb true),.call (vb true),.go,.elem (.ow false 35 (iS35 (([] : List S35) ++ l0))),.elem (.ow false 35 (iS35 ((([] : List S35) ++ l0) ++ l1))),.call (.sl (iS35 t289))] [] .ret (.inr rfl) (by kernel_rfl) (And.intro (And.intro (ad_31 c1) (ad_31 c5)) (And.intro (iS35_app (N:=8796093022208) (b:=16) (xs:=([] : List S35)) (ys:=l0) (by decide) (Nat.le_of_lt g11)) (And.intro (iS35_app (N:=8796093022208) (b:=16) (xs:=(([] : List S35) ++ l0)) (ys:=l1) (by decide) (Nat.le_of_lt g15)) (ad_32 c17)))) (by kernel_rfl)
  ·obtain rfl:=Bool.eq_false_iff.2 g7
   obtain ⟨rfl,rfl⟩:=pr2_ h8
   exact leafRet (hn:=hn7) 13 [.goT,.call (vb true),.call (vb false),.goT] [] .ret (.inr rfl) (by kernel_rfl) (And.intro (ad_31 c1) (ad_31 c5)) (by kernel_rfl)
 ·obtain rfl:=Bool.eq_false_iff.2 g3
  obtain ⟨rfl,rfl⟩:=pr2_ h4
  exact leafRet (hn:=hn7) 13 [.goT,.call (vb false),.goT] [] .ret (.inr rfl) (by kernel_rfl) (ad_31 c1) (by kernel_rfl)

def hn36:Hint:=⟨[(9,[38]),(23,[36]),(25,[54])],[]⟩
def o36 (r:(List (S35))):List AV:=[.sl (iS35 r)]
def p36 (r:(List (S35))):List (Nat × AV):=[]
def q36_l0 (r:(List (S35))) (k:Nat) (L:List (Nat × AV)):Prop:=∃ (x1:List (S35)) (x2:Bool) (x7:List (S35)) (x11:List (S35)) (x12:Int) (x13:Int),L = [(1,.sl (iS35 x1)),(2,vb x2),(7,.row 36),(11,.sl (iS35 x11)),(12,vi x12),(13,vi x13),(36,.ow false 35 (iS35 x7))] ∧ spec_tiThose.l0 k x1 x2 x7 x11 x12 x13 = some r
theorem q36_l0_mk {r:(List (S35))} {k:Nat} {x1:List (S35)} {x2:Bool} {x7:List (S35)} {x11:List (S35)} {x12:Int} {x13:Int} (h:spec_tiThose.l0 k x1 x2 x7 x11 x12 x13 = some r):q36_l0 r k [(1,.sl (iS35 x1)),(2,vb x2),(7,.row 36),(11,.sl (iS35 x11)),(12,vi x12),(13,vi x13),(36,.ow false 35 (iS35 x7))]:=⟨x1,x2,x7,x11,x12,x13,rfl,h⟩
set_option maxRecDepth 100000 in
theorem at36_l0 {r:(List (S35))}:∀ k L,q36_l0 r k L → AtP Try.prog 29 (bodyOf Try.f36) (KR Try.prog Try.f36.results.toList (o36 r) (p36 r)) [true,true,false,true,false] [] (lookA L) :=
 at_loop (by kernel_rfl) (fun _ => by kernel_rfl) (q36_l0 r) (by
  rintro k _ ⟨x1,x2,x7,x11,x12,x13,rfl,h⟩
  cases k with
  | zero => simp [spec_tiThose.l0] at h
  | succ k =>
   rw [spec_tiThose.l0] at h
   rcases ite_ h with ⟨g1,h2⟩ | ⟨g1,h2⟩
   ·obtain ⟨g3,h4⟩:=ip_ h2
    obtain ⟨g5,h6⟩:=ip_ h4
    obtain ⟨t297,c7,h8⟩:=bd_ h6
    rcases ite_ h8 with ⟨g9,h10⟩ | ⟨g9,h10⟩
    ·obtain ⟨g11,h12⟩:=ip_ h10
     exact leafBack (hn:=hn36) 20 [.val (.bool true),.elem (.agg [vi ((rd_T35 x11 x13).f0),vi ((rd_T35 x11 x13).f1)]),.call (vi t297),.val (.bool (decide (t297 ≥ 0))),.val (.bool true),.go,.elem (.ow false 35 (iS35 (x7 ++ ([(⟨(rd_T35 x11 x13).f0,(rd_T35 x11 x13).f1⟩ : S35)])))),.val (.int .i64 (wrap64 (x13 + 1)))] [(36,55)] (q36_l0_mk h12) (Nat.lt_succ_self k) (And.intro (int_lss (P:=Try.prog) (t:=3) (k:=.i64) (x:=(.tmp 13)) (y:=(.tmp 12)) (a:=x13) (b:=x12) (v:=true) (decide_eq_true g1)) (And.intro (iS35_rd (xs:=x11) (i:=x13) g3 g5) (And.intro (And.intro (ad_62 c7) (And.intro (int_geq (P:=Try.prog) (t:=3) (k:=.i64) (x:=(.tmp 19)) (y:=(.const (.int .i64 0))) (a:=t297) (b:=0) (v:=(decide (t297 ≥ 0))) rfl) (bool_eql (P:=Try.prog) (t:=4) (x:=(.tmp 20)) (y:=(.tmp 21)) (a:=(decide (t297 ≥ 0))) (b:=x2) Try.underlying4 (v:=true) g9))) (And.intro (iS35_app (N:=8796093022208) (b:=16) (xs:=x7) (ys:=[(⟨(rd_T35 x11 x13).f0,(rd_T35 x11 x13).f1⟩ : S35)]) (by decide) (Nat.succ_le_of_lt g11)) (int_add (P:=Try.prog) (t:=3) (k:=.i64) (x:=(.tmp 13)) (y:=(.const (.int .i64 1))) (a:=x13) (b:=1) (c:=(wrap64 (x13 + 1))) (IntWalk.i64_left _)))))) (by kernel_rfl)
    ·exact leafBack (hn:=hn36) 20 [.val (.bool true),.elem (.agg [vi ((rd_T35 x11 x13).f0),vi ((rd_T35 x11 x13).f1)]),.call (vi t297),.val (.bool (decide (t297 ≥ 0))),.val (.bool false),.val (.int .i64 (wrap64 (x13 + 1)))] [] (q36_l0_mk h10) (Nat.lt_succ_self k) (And.intro (int_lss (P:=Try.prog) (t:=3) (k:=.i64) (x:=(.tmp 13)) (y:=(.tmp 12)) (a:=x13) (b:=x12) (v:=true) (decide_eq_true g1)) (And.intro (iS35_rd (xs:=x11) (i:=x13) g3 g5) (And.intro (And.intro (ad_62 c7) (And.intro (int_geq (P:=Try.prog) (t:=3) (k:=.i64) (x:=(.tmp 19)) (y:=(.const (.int .i64 0))) (a:=t297) (b:=0) (v:=(decide (t297 ≥ 0))) rfl) (bool_eql (P:=Try.prog) (t:=4) (x:=(.tmp 20)) (y:=(.tmp 21)) (a:=(decide (t297 ≥ 0))) (b:=x2) Try.underlying4 (v:=false) (Bool.eq_false_iff.2 g9)))) (int_add (P:=Try.prog) (t:=3) (k:=.i64) (x:=(.tmp 13)) (y:=(.const (.int .i64 1))) (a:=x13) (b:=1) (c:=(wrap64 (x13 + 1))) (IntWalk.i64_left _))))) (by kernel_rfl)
   ·obtain rfl:=Option.some.inj h2
    exact leafRet (hn:=hn36) 14 [.val (.bool false)] [] .ret (.inr rfl) (by kernel_rfl) (int_lss (P:=Try.prog) (t:=3) (k:=.i64) (x:=(.tmp 13)) (y:=(.tmp 12)) (a:=x13) (b:=x12) (v:=false) (decide_eq_false g1)) (by kernel_rfl))
set_option maxRecDepth 100000 in
theorem ad_36 {k:Nat} {l0:List (S35)} {l1:List (S35)} {a2:Bool} {r:List (S35)} (h:spec_tiThose.f k l0 l1 a2 = some r):CallH Try.prog 36 [.sl (iS35 l0),.sl (iS35 l1),vb a2] [] (.sl (iS35 r)) []:=by
 unfold spec_tiThose.f at h
 refine call_ok (c:=bodyOf Try.f36) (rs:=o36 r) (post:=p36 r) Try.func36 rfl rfl rfl (by kernel_rfl) ?_
 show AtP Try.prog 29 (bodyOf Try.f36) (KR Try.prog Try.f36.results.toList (o36 r) (p36 r)) [] [] (lookA [(0,.sl (iS35 l0)),(1,.sl (iS35 l1)),(2,vb a2)])
 obtain ⟨t292,c1,h2⟩:=bd_ h
 exact leafAt (hn:=hn36) 11 [.goT,.nil false 35,.call (.sl (iS35 t292)),.val (.int .i64 (t292.length:Int))] [] (at36_l0 _ _ (q36_l0_mk h2)) (And.intro (ad_32 c1) (iS35_len (xs:=t292))) (by kernel_rfl)

def hn9:Hint:=⟨[],[]⟩
def o9 (r:(List (S35)) × Bool):List AV:=[.sl (iS35 r.1),vb r.2]
def p9 (r:(List (S35)) × Bool):List (Nat × AV):=[]
set_option maxRecDepth 100000 in
theorem ad_9 {k:Nat} {l0:List (S35)} {l1:List (S35)} {r1:List (S35)} {r2:Bool} (h:spec_BothHands.f k l0 l1 = some (r1,r2)):CallH Try.prog 9 [.sl (iS35 l0),.sl (iS35 l1)] [] (.tup [.sl (iS35 r1),vb r2]) []:=by
 unfold spec_BothHands.f at h
 refine call_ok (c:=bodyOf Try.f9) (rs:=o9 (r1,r2)) (post:=p9 (r1,r2)) Try.func9 rfl rfl rfl (by kernel_rfl) ?_
 show AtP Try.prog 17 (bodyOf Try.f9) (KR Try.prog Try.f9.results.toList (o9 (r1,r2)) (p9 (r1,r2))) [] [] (lookA [(0,.sl (iS35 l0)),(1,.sl (iS35 l1))])
 obtain ⟨t301,c1,h2⟩:=bd_ h
 rcases ite_ h2 with ⟨g3,h4⟩ | ⟨g3,h4⟩
 ·subst g3
  obtain ⟨t302,c5,h6⟩:=bd_ h4
  rcases ite_ h6 with ⟨g7,h8⟩ | ⟨g7,h8⟩
  ·subst g7
   obtain ⟨t303,c9,h10⟩:=bd_ h8
   obtain ⟨rfl,rfl⟩:=pr2_ h10
   exact leafRet (hn:=hn9) 14 [.goT,.call (vb true),.call (vb true),.call (.sl (iS35 t303))] [] .ret (.inr rfl) (by kernel_rfl) (And.intro (And.intro (ad_31 c1) (ad_31 c5)) (ad_36 c9)) (by kernel_rfl)
  ·obtain rfl:=Bool.eq_false_iff.2 g7
   obtain ⟨rfl,rfl⟩:=pr2_ h8
   exact leafRet (hn:=hn9) 13 [.goT,.call (vb true),.call (vb false),.goT] [] .ret (.inr rfl) (by kernel_rfl) (And.intro (ad_31 c1) (ad_31 c5)) (by kernel_rfl)
 ·obtain rfl:=Bool.eq_false_iff.2 g3
  obtain ⟨rfl,rfl⟩:=pr2_ h4
  exact leafRet (hn:=hn9) 13 [.goT,.call (vb false),.goT] [] .ret (.inr rfl) (by kernel_rfl) (ad_31 c1) (by kernel_rfl)

def hn11:Hint:=⟨[],[]⟩
def o11 (r:(List (S35)) × Bool):List AV:=[.sl (iS35 r.1),vb r.2]
def p11 (r:(List (S35)) × Bool):List (Nat × AV):=[]
set_option maxRecDepth 100000 in
theorem ad_11 {k:Nat} {l0:List (S35)} {l1:List (S35)} {r1:List (S35)} {r2:Bool} (h:spec_LessHand.f k l0 l1 = some (r1,r2)):CallH Try.prog 11 [.sl (iS35 l0),.sl (iS35 l1)] [] (.tup [.sl (iS35 r1),vb r2]) []:=by
 unfold spec_LessHand.f at h
 refine call_ok (c:=bodyOf Try.f11) (rs:=o11 (r1,r2)) (post:=p11 (r1,r2)) Try.func11 rfl rfl rfl (by kernel_rfl) ?_
 show AtP Try.prog 17 (bodyOf Try.f11) (KR Try.prog Try.f11.results.toList (o11 (r1,r2)) (p11 (r1,r2))) [] [] (lookA [(0,.sl (iS35 l0)),(1,.sl (iS35 l1))])
 obtain ⟨t308,c1,h2⟩:=bd_ h
 rcases ite_ h2 with ⟨g3,h4⟩ | ⟨g3,h4⟩
 ·subst g3
  obtain ⟨t309,c5,h6⟩:=bd_ h4
  rcases ite_ h6 with ⟨g7,h8⟩ | ⟨g7,h8⟩
  ·subst g7
   obtain ⟨t310,c9,h10⟩:=bd_ h8
   obtain ⟨rfl,rfl⟩:=pr2_ h10
   exact leafRet (hn:=hn11) 14 [.goT,.call (vb true),.call (vb true),.call (.sl (iS35 t310))] [] .ret (.inr rfl) (by kernel_rfl) (And.intro (And.intro (ad_31 c1) (ad_31 c5)) (ad_36 c9)) (by kernel_rfl)
  ·obtain rfl:=Bool.eq_false_iff.2 g7
   obtain ⟨rfl,rfl⟩:=pr2_ h8
   exact leafRet (hn:=hn11) 13 [.goT,.call (vb true),.call (vb false),.goT] [] .ret (.inr rfl) (by kernel_rfl) (And.intro (ad_31 c1) (ad_31 c5)) (by kernel_rfl)
 ·obtain rfl:=Bool.eq_false_iff.2 g3
  obtain ⟨rfl,rfl⟩:=pr2_ h4
  exact leafRet (hn:=hn11) 13 [.goT,.call (vb false),.goT] [] .ret (.inr rfl) (by kernel_rfl) (ad_31 c1) (by kernel_rfl)

def hn12:Hint:=⟨[],[]⟩
def o12 (r:Bool):List AV:=[vb r]
def p12 (r:Bool):List (Nat × AV):=[]
def q12_l0 (r:Bool) (k:Nat) (L:List (Nat × AV)):Prop:=∃ (x0:List (S35)) (x1:List (S35)) (x12:Int) (x13:Int),L = [(0,.sl (iS35 x0)),(1,.sl (iS35 x1)),(12,vi x12),(13,vi x13)] ∧ laws_mTiles.l0 k x0 x1 x12 x13 = some r
theorem q12_l0_mk {r:Bool} {k:Nat} {x0:List (S35)} {x1:List (S35)} {x12:Int} {x13:Int} (h:laws_mTiles.l0 k x0 x1 x12 x13 = some r):q12_l0 r k [(0,.sl (iS35 x0)),(1,.sl (iS35 x1)),(12,vi x12),(13,vi x13)]:=⟨x0,x1,x12,x13,rfl,h⟩
set_option maxRecDepth 100000 in
theorem at12_l0 {r:Bool}:∀ k L,q12_l0 r k L → AtP Try.prog 26 (bodyOf Try.f12) (KR Try.prog Try.f12.results.toList (o12 r) (p12 r)) [true,true,false,true,false] [] (lookA L) :=
 at_loop (by kernel_rfl) (fun _ => by kernel_rfl) (q12_l0 r) (by
  rintro k _ ⟨x0,x1,x12,x13,rfl,h⟩
  cases k with
  | zero => simp [laws_mTiles.l0] at h
  | succ k =>
   rw [laws_mTiles.l0] at h
   rcases ite_ h with ⟨g1,h2⟩ | ⟨g1,h2⟩
   ·obtain ⟨g3,h4⟩:=ip_ h2
    obtain ⟨g5,h6⟩:=ip_ h4
    obtain ⟨g7,h8⟩:=ip_ h6
    rcases ite_ h8 with ⟨g9,h10⟩ | ⟨g9,h10⟩
    ·obtain rfl:=Option.some.inj h10
     exact leafRet (hn:=hn12) 25 [.val (.bool true),.elem (.agg [vi ((rd_T35 x0 x13).f0),vi ((rd_T35 x0 x13).f1)]),.elem (.agg [vi ((rd_T35 x1 x13).f0),vi ((rd_T35 x1 x13).f1)]),.val (.bool true)] [] .ret (.inr rfl) (by kernel_rfl) (And.intro (int_lss (P:=Try.prog) (t:=3) (k:=.i64) (x:=(.tmp 13)) (y:=(.tmp 12)) (a:=x13) (b:=x12) (v:=true) (decide_eq_true g1)) (And.intro (iS35_rd (xs:=x0) (i:=x13) g3 g5) (And.intro (iS35_rd (xs:=x1) (i:=x13) g3 g7) (agg_35_neq (x:=(.tmp 19)) (y:=(.tmp 23)) (a0:=((rd_T35 x0 x13).f0)) (b0:=((rd_T35 x1 x13).f0)) (a1:=((rd_T35 x0 x13).f1)) (b1:=((rd_T35 x1 x13).f1)) (v:=true) (by simp only [Bool.not_and]; exact g9))))) (by kernel_rfl)
    ·exact leafBack (hn:=hn12) 20 [.val (.bool true),.elem (.agg [vi ((rd_T35 x0 x13).f0),vi ((rd_T35 x0 x13).f1)]),.elem (.agg [vi ((rd_T35 x1 x13).f0),vi ((rd_T35 x1 x13).f1)]),.val (.bool false),.val (.int .i64 (wrap64 (x13 + 1)))] [] (q12_l0_mk h10) (Nat.lt_succ_self k) (And.intro (int_lss (P:=Try.prog) (t:=3) (k:=.i64) (x:=(.tmp 13)) (y:=(.tmp 12)) (a:=x13) (b:=x12) (v:=true) (decide_eq_true g1)) (And.intro (And.intro (iS35_rd (xs:=x0) (i:=x13) g3 g5) (And.intro (iS35_rd (xs:=x1) (i:=x13) g3 g7) (agg_35_neq (x:=(.tmp 19)) (y:=(.tmp 23)) (a0:=((rd_T35 x0 x13).f0)) (b0:=((rd_T35 x1 x13).f0)) (a1:=((rd_T35 x0 x13).f1)) (b1:=((rd_T35 x1 x13).f1)) (v:=false) (by simp only [Bool.not_and]; exact (Bool.eq_false_iff.2 g9))))) (int_add (P:=Try.prog) (t:=3) (k:=.i64) (x:=(.tmp 13)) (y:=(.const (.int .i64 1))) (a:=x13) (b:=1) (c:=(wrap64 (x13 + 1))) (IntWalk.i64_left _)))) (by kernel_rfl)
   ·obtain rfl:=Option.some.inj h2
    exact leafRet (hn:=hn12) 14 [.val (.bool false)] [] .ret (.inr rfl) (by kernel_rfl) (int_lss (P:=Try.prog) (t:=3) (k:=.i64) (x:=(.tmp 13)) (y:=(.tmp 12)) (a:=x13) (b:=x12) (v:=false) (decide_eq_false g1)) (by kernel_rfl))
set_option maxRecDepth 100000 in
theorem ad_12 {k:Nat} {l0:List (S35)} {l1:List (S35)} {r:Bool} (h:laws_mTiles.f k l0 l1 = some r):CallH Try.prog 12 [.sl (iS35 l0),.sl (iS35 l1)] [] (vb r) []:=by
 unfold laws_mTiles.f at h
 refine call_ok (c:=bodyOf Try.f12) (rs:=o12 r) (post:=p12 r) Try.func12 rfl rfl rfl (by kernel_rfl) ?_
 show AtP Try.prog 26 (bodyOf Try.f12) (KR Try.prog Try.f12.results.toList (o12 r) (p12 r)) [] [] (lookA [(0,.sl (iS35 l0)),(1,.sl (iS35 l1))])
 rcases ite_ h with ⟨g1,h2⟩ | ⟨g1,h2⟩
 ·exact leafAt (hn:=hn12) 15 [.val (.int .i64 (l0.length:Int)),.val (.int .i64 (l1.length:Int)),.val (.bool false),.val (.int .i64 (l0.length:Int))] [] (at12_l0 _ _ (q12_l0_mk h2)) (And.intro (And.intro (iS35_len (xs:=l0)) (And.intro (iS35_len (xs:=l1)) (int_neq (P:=Try.prog) (t:=3) (k:=.i64) (x:=(.tmp 7)) (y:=(.tmp 9)) (a:=(l0.length:Int)) (b:=(l1.length:Int)) (v:=false) (nbeq_f g1)))) (iS35_len (xs:=l0))) (by kernel_rfl)
 ·obtain rfl:=Option.some.inj h2
  exact leafRet (hn:=hn12) 13 [.val (.int .i64 (l0.length:Int)),.val (.int .i64 (l1.length:Int)),.val (.bool true)] [] .ret (.inr rfl) (by kernel_rfl) (And.intro (iS35_len (xs:=l0)) (And.intro (iS35_len (xs:=l1)) (int_neq (P:=Try.prog) (t:=3) (k:=.i64) (x:=(.tmp 7)) (y:=(.tmp 9)) (a:=(l0.length:Int)) (b:=(l1.length:Int)) (v:=true) (nbeq_t g1)))) (by kernel_rfl)

def hn42:Hint:=⟨[(5,[26]),(13,[26]),(15,[26])],[]⟩
def o42 (r:Int):List AV:=[vi r]
def p42 (r:Int):List (Nat × AV):=[]
def q42_l0 (r:Int) (k:Nat) (L:List (Nat × AV)):Prop:=∃ (x3:Int) (x6:List (S35)) (x7:Int) (x8:Int),L = [(3,vi x3),(6,.sl (iS35 x6)),(7,vi x7),(8,vi x8)] ∧ impl_pips.l0 k x3 x6 x7 x8 = some r
theorem q42_l0_mk {r:Int} {k:Nat} {x3:Int} {x6:List (S35)} {x7:Int} {x8:Int} (h:impl_pips.l0 k x3 x6 x7 x8 = some r):q42_l0 r k [(3,vi x3),(6,.sl (iS35 x6)),(7,vi x7),(8,vi x8)]:=⟨x3,x6,x7,x8,rfl,h⟩
set_option maxRecDepth 100000 in
theorem at42_l0 {r:Int}:∀ k L,q42_l0 r k L → AtP Try.prog 21 (bodyOf Try.f42) (KR Try.prog Try.f42.results.toList (o42 r) (p42 r)) [true,true,false,true,false] [] (lookA L) :=
 at_loop (by kernel_rfl) (fun _ => by kernel_rfl) (q42_l0 r) (by
  rintro k _ ⟨x3,x6,x7,x8,rfl,h⟩
  cases k with
  | zero => simp [impl_pips.l0] at h
  | succ k =>
   rw [impl_pips.l0] at h
   rcases ite_ h with ⟨g1,h2⟩ | ⟨g1,h2⟩
   ·obtain ⟨g3,h4⟩:=ip_ h2
    obtain ⟨g5,h6⟩:=ip_ h4
    exact leafBack (hn:=hn42) 16 [.val (.bool true),.elem (.agg [vi ((rd_T35 x6 x8).f0),vi ((rd_T35 x6 x8).f1)]),.val (.int .i64 (wrap64 (((rd_T35 x6 x8).f0) + ((rd_T35 x6 x8).f1)))),.val (.int .i64 (wrap64 (x3 + (wrap64 (((rd_T35 x6 x8).f0) + ((rd_T35 x6 x8).f1)))))),.val (.int .i64 (wrap64 (x8 + 1)))] [] (q42_l0_mk h6) (Nat.lt_succ_self k) (And.intro (int_lss (P:=Try.prog) (t:=3) (k:=.i64) (x:=(.tmp 8)) (y:=(.tmp 7)) (a:=x8) (b:=x7) (v:=true) (decide_eq_true g1)) (And.intro (iS35_rd (xs:=x6) (i:=x8) g3 g5) (And.intro (And.intro (int_add (P:=Try.prog) (t:=3) (k:=.i64) (x:=(.tmp 14)) (y:=(.tmp 16)) (a:=((rd_T35 x6 x8).f0)) (b:=((rd_T35 x6 x8).f1)) (c:=(wrap64 (((rd_T35 x6 x8).f0) + ((rd_T35 x6 x8).f1)))) (IntWalk.i64_left _)) (int_add (P:=Try.prog) (t:=3) (k:=.i64) (x:=(.tmp 12)) (y:=(.tmp 17)) (a:=x3) (b:=(wrap64 (((rd_T35 x6 x8).f0) + ((rd_T35 x6 x8).f1)))) (c:=(wrap64 (x3 + (wrap64 (((rd_T35 x6 x8).f0) + ((rd_T35 x6 x8).f1)))))) (IntWalk.i64_left _))) (int_add (P:=Try.prog) (t:=3) (k:=.i64) (x:=(.tmp 8)) (y:=(.const (.int .i64 1))) (a:=x8) (b:=1) (c:=(wrap64 (x8 + 1))) (IntWalk.i64_left _))))) (by kernel_rfl)
   ·obtain rfl:=Option.some.inj h2
    exact leafRet (hn:=hn42) 14 [.val (.bool false)] [] .ret (.inr rfl) (by kernel_rfl) (int_lss (P:=Try.prog) (t:=3) (k:=.i64) (x:=(.tmp 8)) (y:=(.tmp 7)) (a:=x8) (b:=x7) (v:=false) (decide_eq_false g1)) (by kernel_rfl))
set_option maxRecDepth 100000 in
theorem ad_42 {k:Nat} {l0:List (S35)} {r:Int} (h:impl_pips.f k l0 = some r):CallH Try.prog 42 [.sl (iS35 l0)] [] (vi r) []:=by
 unfold impl_pips.f at h
 refine call_ok (c:=bodyOf Try.f42) (rs:=o42 r) (post:=p42 r) Try.func42 rfl rfl rfl (by kernel_rfl) ?_
 show AtP Try.prog 21 (bodyOf Try.f42) (KR Try.prog Try.f42.results.toList (o42 r) (p42 r)) [] [] (lookA [(0,.sl (iS35 l0))])
 exact leafAt (hn:=hn42) 11 [.val (.int .i64 (l0.length:Int))] [] (at42_l0 _ _ (q42_l0_mk h)) (iS35_len (xs:=l0)) (by kernel_rfl)

def hn14:Hint:=⟨[],[]⟩
def o14 (r:Int × Bool):List AV:=[vi r.1,vb r.2]
def p14 (r:Int × Bool):List (Nat × AV):=[]
set_option maxRecDepth 100000 in
theorem ad_14 {k:Nat} {l0:List (S35)} {r1:Int} {r2:Bool} (h:impl_PipsOf.f k l0 = some (r1,r2)):CallH Try.prog 14 [.sl (iS35 l0)] [] (.tup [vi r1,vb r2]) []:=by
 unfold impl_PipsOf.f at h
 refine call_ok (c:=bodyOf Try.f14) (rs:=o14 (r1,r2)) (post:=p14 (r1,r2)) Try.func14 rfl rfl rfl (by kernel_rfl) ?_
 show AtP Try.prog 9 (bodyOf Try.f14) (KR Try.prog Try.f14.results.toList (o14 (r1,r2)) (p14 (r1,r2))) [] [] (lookA [(0,.sl (iS35 l0))])
 obtain ⟨t317,c1,h2⟩:=bd_ h
 rcases ite_ h2 with ⟨g3,h4⟩ | ⟨g3,h4⟩
 ·subst g3
  obtain ⟨t318,c5,h6⟩:=bd_ h4
  obtain ⟨rfl,rfl⟩:=pr2_ h6
  exact leafRet (hn:=hn14) 14 [.call (vb true),.call (vi t318)] [] .ret (.inr rfl) (by kernel_rfl) (And.intro (ad_13 c1) (ad_42 c5)) (by kernel_rfl)
 ·obtain rfl:=Bool.eq_false_iff.2 g3
  obtain ⟨rfl,rfl⟩:=pr2_ h4
  exact leafRet (hn:=hn14) 13 [.call (vb false)] [] .ret (.inr rfl) (by kernel_rfl) (ad_13 c1) (by kernel_rfl)

def hn15:Hint:=⟨[],[]⟩
def o15 (r:(List (S35)) × Bool):List AV:=[.sl (iS35 r.1),vb r.2]
def p15 (r:(List (S35)) × Bool):List (Nat × AV):=[]
set_option maxRecDepth 100000 in
theorem ad_15 {k:Nat} {l0:List (S35)} {r1:List (S35)} {r2:Bool} (h:impl_SortHand.f k l0 = some (r1,r2)):CallH Try.prog 15 [.sl (iS35 l0)] [] (.tup [.sl (iS35 r1),vb r2]) []:=by
 unfold impl_SortHand.f at h
 refine call_ok (c:=bodyOf Try.f15) (rs:=o15 (r1,r2)) (post:=p15 (r1,r2)) Try.func15 rfl rfl rfl (by kernel_rfl) ?_
 show AtP Try.prog 9 (bodyOf Try.f15) (KR Try.prog Try.f15.results.toList (o15 (r1,r2)) (p15 (r1,r2))) [] [] (lookA [(0,.sl (iS35 l0))])
 obtain ⟨t319,c1,h2⟩:=bd_ h
 rcases ite_ h2 with ⟨g3,h4⟩ | ⟨g3,h4⟩
 ·subst g3
  obtain ⟨t320,c5,h6⟩:=bd_ h4
  obtain ⟨rfl,rfl⟩:=pr2_ h6
  exact leafRet (hn:=hn15) 14 [.goT,.call (vb true),.callH [] (.row 17) [(17,.ow true 35 (iS35 t320))],.fz 17] [] .ret (.inr rfl) (by kernel_rfl) (And.intro (ad_13 c1) (CallH.ren [(500000,17)] rfl rfl (ad_29 c5))) (by kernel_rfl)
 ·obtain rfl:=Bool.eq_false_iff.2 g3
  obtain ⟨rfl,rfl⟩:=pr2_ h4
  exact leafRet (hn:=hn15) 13 [.goT,.call (vb false),.goT] [] .ret (.inr rfl) (by kernel_rfl) (ad_13 c1) (by kernel_rfl)

def hn16:Hint:=⟨[(3,[20]),(6,[23])],[]⟩
def o16 (r:Bool):List AV:=[vb r]
def p16 (r:Bool):List (Nat × AV):=[]
def q16_l0 (r:Bool) (k:Nat) (L:List (Nat × AV)):Prop:=∃ (x7:List (S35)) (x8:Int) (x9:Int) (x324000:Int) (x324001:Int),L = [(3,.loc 20 0),(7,.sl (iS35 x7)),(8,vi x8),(9,vi x9),(20,.box (.agg [vi x324000,vi x324001]))] ∧ laws_mHas.l0 k x7 x8 x9 x324000 x324001 = some r
theorem q16_l0_mk {r:Bool} {k:Nat} {x7:List (S35)} {x8:Int} {x9:Int} {x324000:Int} {x324001:Int} (h:laws_mHas.l0 k x7 x8 x9 x324000 x324001 = some r):q16_l0 r k [(3,.loc 20 0),(7,.sl (iS35 x7)),(8,vi x8),(9,vi x9),(20,.box (.agg [vi x324000,vi x324001]))]:=⟨x7,x8,x9,x324000,x324001,rfl,h⟩
set_option maxRecDepth 100000 in
theorem at16_l0 {r:Bool}:∀ k L,q16_l0 r k L → AtP Try.prog 17 (bodyOf Try.f16) (KR Try.prog Try.f16.results.toList (o16 r) (p16 r)) [true,false,true,false] [] (lookA L) :=
 at_loop (by kernel_rfl) (fun _ => by kernel_rfl) (q16_l0 r) (by
  rintro k _ ⟨x7,x8,x9,x324000,x324001,rfl,h⟩
  cases k with
  | zero => simp [laws_mHas.l0] at h
  | succ k =>
   rw [laws_mHas.l0] at h
   rcases ite_ h with ⟨g1,h2⟩ | ⟨g1,h2⟩
   ·obtain ⟨g3,h4⟩:=ip_ h2
    obtain ⟨g5,h6⟩:=ip_ h4
    rcases ite_ h6 with ⟨g7,h8⟩ | ⟨g7,h8⟩
    ·obtain rfl:=Option.some.inj h8
     exact leafRet (hn:=hn16) 25 [.val (.bool true),.elem (.agg [vi ((rd_T35 x7 x9).f0),vi ((rd_T35 x7 x9).f1)]),.val (.bool true)] [] .ret (.inr rfl) (by kernel_rfl) (And.intro (int_lss (P:=Try.prog) (t:=3) (k:=.i64) (x:=(.tmp 9)) (y:=(.tmp 8)) (a:=x9) (b:=x8) (v:=true) (decide_eq_true g1)) (And.intro (iS35_rd (xs:=x7) (i:=x9) g3 g5) (agg_35_eql (x:=(.tmp 13)) (y:=(.tmp 14)) (a0:=((rd_T35 x7 x9).f0)) (b0:=x324000) (a1:=((rd_T35 x7 x9).f1)) (b1:=x324001) (v:=true) g7))) (by kernel_rfl)
    ·exact leafBack (hn:=hn16) 20 [.val (.bool true),.elem (.agg [vi ((rd_T35 x7 x9).f0),vi ((rd_T35 x7 x9).f1)]),.val (.bool false),.val (.int .i64 (wrap64 (x9 + 1)))] [] (q16_l0_mk h8) (Nat.lt_succ_self k) (And.intro (int_lss (P:=Try.prog) (t:=3) (k:=.i64) (x:=(.tmp 9)) (y:=(.tmp 8)) (a:=x9) (b:=x8) (v:=true) (decide_eq_true g1)) (And.intro (iS35_rd (xs:=x7) (i:=x9) g3 g5) (And.intro (agg_35_eql (x:=(.tmp 13)) (y:=(.tmp 14)) (a0:=((rd_T35 x7 x9).f0)) (b0:=x324000) (a1:=((rd_T35 x7 x9).f1)) (b1:=x324001) (v:=false) (Bool.eq_false_iff.2 g7)) (int_add (P:=Try.prog) (t:=3) (k:=.i64) (x:=(.tmp 9)) (y:=(.const (.int .i64 1))) (a:=x9) (b:=1) (c:=(wrap64 (x9 + 1))) (IntWalk.i64_left _))))) (by kernel_rfl)
   ·obtain rfl:=Option.some.inj h2
    exact leafRet (hn:=hn16) 14 [.val (.bool false)] [] .ret (.inr rfl) (by kernel_rfl) (int_lss (P:=Try.prog) (t:=3) (k:=.i64) (x:=(.tmp 9)) (y:=(.tmp 8)) (a:=x9) (b:=x8) (v:=false) (decide_eq_false g1)) (by kernel_rfl))
set_option maxRecDepth 100000 in
theorem ad_16 {k:Nat} {l0:List (S35)} {a1_0:Int} {a1_1:Int} {r:Bool} (h:laws_mHas.f k l0 a1_0 a1_1 = some r):CallH Try.prog 16 [.sl (iS35 l0),.agg [vi a1_0,vi a1_1]] [] (vb r) []:=by
 unfold laws_mHas.f at h
 refine call_ok (c:=bodyOf Try.f16) (rs:=o16 r) (post:=p16 r) Try.func16 rfl rfl rfl (by kernel_rfl) ?_
 show AtP Try.prog 17 (bodyOf Try.f16) (KR Try.prog Try.f16.results.toList (o16 r) (p16 r)) [] [] (lookA [(0,.sl (iS35 l0)),(1,.agg [vi a1_0,vi a1_1])])
 exact leafAt (hn:=hn16) 8 [.val (.int .i64 (l0.length:Int))] [] (at16_l0 _ _ (q16_l0_mk h)) (iS35_len (xs:=l0)) (by kernel_rfl)

def hn47:Hint:=⟨[(18,[32]),(22,[48])],[]⟩
def o47 (r:(List (S35))):List AV:=[.sl (iS35 r)]
def p47 (r:(List (S35))):List (Nat × AV):=[]
def q47_l0 (r:(List (S35))) (k:Nat) (L:List (Nat × AV)):Prop:=∃ (x0:Int) (x3:List (S35)) (x8:Int) (x9:Int),L = [(0,vi x0),(3,.row 32),(8,vi x8),(9,vi x9),(32,.ow false 35 (iS35 x3))] ∧ impl_setOf.l0 k x0 x3 x8 x9 = some r
theorem q47_l0_mk {r:(List (S35))} {k:Nat} {x0:Int} {x3:List (S35)} {x8:Int} {x9:Int} (h:impl_setOf.l0 k x0 x3 x8 x9 = some r):q47_l0 r k [(0,vi x0),(3,.row 32),(8,vi x8),(9,vi x9),(32,.ow false 35 (iS35 x3))]:=⟨x0,x3,x8,x9,rfl,h⟩
def q47_l1 (r:(List (S35))) (K0:Nat) (k:Nat) (L:List (Nat × AV)):Prop:=k < K0 ∧ ∃ (x0:Int) (x3:List (S35)) (x4:Int) (x5:Int) (x8:Int) (x9:Int),L = [(0,vi x0),(3,.row 32),(4,vi x4),(5,vi x5),(8,vi x8),(9,vi x9),(32,.ow false 35 (iS35 x3))] ∧ impl_setOf.l1 k x0 x3 x4 x5 x8 x9 = some r
theorem q47_l1_mk {r:(List (S35))} {K0:Nat} {k:Nat} {x0:Int} {x3:List (S35)} {x4:Int} {x5:Int} {x8:Int} {x9:Int} (hk0:k < K0) (h:impl_setOf.l1 k x0 x3 x4 x5 x8 x9 = some r):q47_l1 r K0 k [(0,vi x0),(3,.row 32),(4,vi x4),(5,vi x5),(8,vi x8),(9,vi x9),(32,.ow false 35 (iS35 x3))]:=⟨hk0,x0,x3,x4,x5,x8,x9,rfl,h⟩
set_option maxRecDepth 100000 in
theorem at47_l1 {r:(List (S35))} {K0:Nat}:∀ k L,q47_l1 r K0 k L → AtP Try.prog 26 (bodyOf Try.f47) (KR Try.prog Try.f47.results.toList (o47 r) (p47 r)) [true,true,false,true,false,false,true,true,false,false,true,true,false] [upto (q47_l0 r) K0] (lookA L) :=
 at_loop (by kernel_rfl) (fun _ => by kernel_rfl) (q47_l1 r K0) (by
  rintro k _ ⟨hk0,x0,x3,x4,x5,x8,x9,rfl,h⟩
  cases k with
  | zero => simp [impl_setOf.l1] at h
  | succ k =>
   rw [impl_setOf.l1] at h
   have hk0:=Nat.lt_of_succ_lt hk0
   rcases ite_ h with ⟨g1,h2⟩ | ⟨g1,h2⟩
   ·obtain ⟨g3,h4⟩:=ip_ h2
    exact leafBack (hn:=hn47) 13 [.val (.bool true),.elem (.agg [vi x4,vi x5]),.go,.elem (.ow false 35 (iS35 (x3 ++ ([(⟨x4,x5⟩ : S35)])))),.val (.int .i64 (wrap64 (x5 + 1)))] [(32,49)] (q47_l1_mk hk0 h4) (Nat.lt_succ_self k) (And.intro (int_leq (P:=Try.prog) (t:=3) (k:=.i64) (x:=(.tmp 13)) (y:=(.tmp 14)) (a:=x5) (b:=x0) (v:=true) (decide_eq_true g1)) (And.intro (And.intro (build_35_2 (p0:=x4) (p1:=x5)) (iS35_app (N:=8796093022208) (b:=16) (xs:=x3) (ys:=[(⟨x4,x5⟩ : S35)]) (by decide) (Nat.succ_le_of_lt g3))) (int_add (P:=Try.prog) (t:=3) (k:=.i64) (x:=(.tmp 16)) (y:=(.const (.int .i64 1))) (a:=x5) (b:=1) (c:=(wrap64 (x5 + 1))) (IntWalk.i64_left _)))) (by kernel_rfl)
   ·exact leafBack (hn:=hn47) 12 [.val (.bool false),.val (.int .i64 (wrap64 (x9 + 1)))] [] (q47_l0_mk h2) hk0 (And.intro (int_leq (P:=Try.prog) (t:=3) (k:=.i64) (x:=(.tmp 13)) (y:=(.tmp 14)) (a:=x5) (b:=x0) (v:=false) (decide_eq_false g1)) (int_add (P:=Try.prog) (t:=3) (k:=.i64) (x:=(.tmp 9)) (y:=(.const (.int .i64 1))) (a:=x9) (b:=1) (c:=(wrap64 (x9 + 1))) (IntWalk.i64_left _))) (by kernel_rfl))
set_option maxRecDepth 100000 in
theorem at47_l0 {r:(List (S35))}:∀ k L,q47_l0 r k L → AtP Try.prog 26 (bodyOf Try.f47) (KR Try.prog Try.f47.results.toList (o47 r) (p47 r)) [true,true,false,true,false] [] (lookA L) :=
 at_loop (by kernel_rfl) (fun _ => by kernel_rfl) (q47_l0 r) (by
  rintro k _ ⟨x0,x3,x8,x9,rfl,h⟩
  cases k with
  | zero => simp [impl_setOf.l0] at h
  | succ k =>
   rw [impl_setOf.l0] at h
   rcases ite_ h with ⟨g1,h2⟩ | ⟨g1,h2⟩
   ·exact leafAt (hn:=hn47) 16 [.val (.bool true)] [] (at47_l1 _ _ (q47_l1_mk (Nat.lt_succ_self k) h2)) (int_lss (P:=Try.prog) (t:=3) (k:=.i64) (x:=(.tmp 9)) (y:=(.tmp 8)) (a:=x9) (b:=x8) (v:=true) (decide_eq_true g1)) (by kernel_rfl)
   ·obtain rfl:=Option.some.inj h2
    exact leafRet (hn:=hn47) 14 [.val (.bool false)] [] .ret (.inr rfl) (by kernel_rfl) (int_lss (P:=Try.prog) (t:=3) (k:=.i64) (x:=(.tmp 9)) (y:=(.tmp 8)) (a:=x9) (b:=x8) (v:=false) (decide_eq_false g1)) (by kernel_rfl))
set_option maxRecDepth 100000 in
theorem ad_47 {k:Nat} {a0:Int} {r:List (S35)} (h:impl_setOf.f k a0 = some r):CallH Try.prog 47 [vi a0] [] (.sl (iS35 r)) []:=by
 unfold impl_setOf.f at h
 refine call_ok (c:=bodyOf Try.f47) (rs:=o47 r) (post:=p47 r) Try.func47 rfl rfl rfl (by kernel_rfl) ?_
 show AtP Try.prog 26 (bodyOf Try.f47) (KR Try.prog Try.f47.results.toList (o47 r) (p47 r)) [] [] (lookA [(0,vi a0)])
 exact leafAt (hn:=hn47) 11 [.goT,.go,.val (.int .i64 (wrap64 (a0 + 1)))] [] (at47_l0 _ _ (q47_l0_mk h)) (int_add (P:=Try.prog) (t:=3) (k:=.i64) (x:=(.tmp 7)) (y:=(.const (.int .i64 1))) (a:=a0) (b:=1) (c:=(wrap64 (a0 + 1))) (IntWalk.i64_left _)) (by kernel_rfl)

def hn43:Hint:=⟨[(1,[7])],[]⟩
def o43 (r:Int):List AV:=[vi r]
def p43 (r:Int):List (Nat × AV):=[]
set_option maxRecDepth 100000 in
theorem ad_43 {k:Nat} {a0_0:Int} {a0_1:Int} {r:Int} (h:impl_rank.f k a0_0 a0_1 = some r):CallH Try.prog 43 [.agg [vi a0_0,vi a0_1]] [] (vi r) []:=by
 unfold impl_rank.f at h
 refine call_ok (c:=bodyOf Try.f43) (rs:=o43 r) (post:=p43 r) Try.func43 rfl rfl rfl (by kernel_rfl) ?_
 show AtP Try.prog 6 (bodyOf Try.f43) (KR Try.prog Try.f43.results.toList (o43 r) (p43 r)) [] [] (lookA [(0,.agg [vi a0_0,vi a0_1])])
 obtain ⟨t333,c1,h2⟩:=bd_ h
 obtain ⟨t336,c3,h4⟩:=bd_ h2
 obtain rfl:=Option.some.inj h4
 exact leafRet (hn:=hn43) 7 [.call (.sl (iS35 t333)),.call (vi t336)] [] .ret (.inr rfl) (by kernel_rfl) (And.intro (ad_47 c1) (ad_65 c3)) (by kernel_rfl)

def hn17:Hint:=⟨[(1,[10])],[]⟩
def o17 (r:Int × Bool):List AV:=[vi r.1,vb r.2]
def p17 (r:Int × Bool):List (Nat × AV):=[]
set_option maxRecDepth 100000 in
theorem ad_17 {k:Nat} {a0_0:Int} {a0_1:Int} {r1:Int} {r2:Bool} (h:impl_RankOf.f k a0_0 a0_1 = some (r1,r2)):CallH Try.prog 17 [.agg [vi a0_0,vi a0_1]] [] (.tup [vi r1,vb r2]) []:=by
 unfold impl_RankOf.f at h
 refine call_ok (c:=bodyOf Try.f17) (rs:=o17 (r1,r2)) (post:=p17 (r1,r2)) Try.func17 rfl rfl rfl (by kernel_rfl) ?_
 show AtP Try.prog 9 (bodyOf Try.f17) (KR Try.prog Try.f17.results.toList (o17 (r1,r2)) (p17 (r1,r2))) [] [] (lookA [(0,.agg [vi a0_0,vi a0_1])])
 obtain ⟨t338,c1,h2⟩:=bd_ h
 rcases ite_ h2 with ⟨g3,h4⟩ | ⟨g3,h4⟩
 ·subst g3
  obtain ⟨t339,c5,h6⟩:=bd_ h4
  obtain ⟨rfl,rfl⟩:=pr2_ h6
  exact leafRet (hn:=hn17) 14 [.call (vb true),.call (vi t339)] [] .ret (.inr rfl) (by kernel_rfl) (And.intro (ad_40 c1) (ad_43 c5)) (by kernel_rfl)
 ·obtain rfl:=Bool.eq_false_iff.2 g3
  obtain ⟨rfl,rfl⟩:=pr2_ h4
  exact leafRet (hn:=hn17) 13 [.call (vb false)] [] .ret (.inr rfl) (by kernel_rfl) (ad_40 c1) (by kernel_rfl)

def hn69:Hint:=⟨[(3,[1000000]),(5,[1000000]),(6,[16]),(8,[1000000])],[]⟩
def o69 (r:Int × Int × Int) (s0_0:List Int) (s0_1:Int) (s0_2:Int):List AV:=[vi r.1]
def p69 (r:Int × Int × Int) (s0_0:List Int) (s0_1:Int) (s0_2:Int):List (Nat × AV):=[(1000000,.box (.agg [.sl (iI .u8 s0_0),vi r.2.1,.val (.int .u64 r.2.2)]))]
set_option maxRecDepth 100000 in
theorem ad_69 {s0_0:List Int} {s0_1:Int} {s0_2:Int} {r1:Int} {r2:Int} {r3:Int} (h:spec_l1Cur_number.f s0_0 s0_1 s0_2 = some (r1,r2,r3)):CallH Try.prog 69 [.loc 1000000 0] [(1000000,.box (.agg [.sl (iI .u8 s0_0),vi s0_1,.val (.int .u64 s0_2)]))] (vi r1) [(1000000,.box (.agg [.sl (iI .u8 s0_0),vi r2,.val (.int .u64 r3)]))]:=by
 unfold spec_l1Cur_number.f at h
 refine call_ok (c:=bodyOf Try.f69) (rs:=o69 (r1,r2,r3) s0_0 s0_1 s0_2) (post:=p69 (r1,r2,r3) s0_0 s0_1 s0_2) Try.func69 rfl rfl rfl (by kernel_rfl) ?_
 show AtP Try.prog 10 (bodyOf Try.f69) (KR Try.prog Try.f69.results.toList (o69 (r1,r2,r3) s0_0 s0_1 s0_2) (p69 (r1,r2,r3) s0_0 s0_1 s0_2)) [] [] (lookA [(0,.loc 1000000 0),(1000000,.box (.agg [.sl (iI .u8 s0_0),vi s0_1,.val (.int .u64 s0_2)]))])
 obtain ⟨⟨bt340_1,bt340_2,bt340_3⟩,c1,h2⟩:=bd_ h
 try dsimp only at h2
 rcases ite_ h2 with ⟨g3,h4⟩ | ⟨g3,h4⟩
 ·subst g3
  obtain ⟨⟨bt346_1,bt346_2,bt346_3⟩,c5,h6⟩:=bd_ h4
  try dsimp only at h6
  obtain ⟨rfl,rfl,rfl⟩:=pr3_ h6
  exact leafRet (hn:=hn69) 13 [.callH [1000000] (vb true) [(1000000,.box (.agg [.sl (iI .u8 s0_0),vi bt340_2,.val (.int .u64 bt340_3)]))],.go,.callH [1000000] (vi bt346_1) [(1000000,.box (.agg [.sl (iI .u8 s0_0),vi bt346_2,.val (.int .u64 bt346_3)]))]] [] .ret (.inr rfl) (by kernel_rfl) (And.intro (CallH.ren [(1000000,1000000)] rfl rfl (ad_74 c1)) (CallH.ren [(1000000,1000000)] rfl rfl (ad_75 c5))) (by kernel_rfl)
 ·obtain rfl:=Bool.eq_false_iff.2 g3
  obtain ⟨⟨bt349_1,bt349_2,bt349_3⟩,c7,h8⟩:=bd_ h4
  try dsimp only at h8
  obtain ⟨rfl,rfl,rfl⟩:=pr3_ h8
  exact leafRet (hn:=hn69) 14 [.callH [1000000] (vb false) [(1000000,.box (.agg [.sl (iI .u8 s0_0),vi bt340_2,.val (.int .u64 bt340_3)]))],.callH [1000000] (vi bt349_1) [(1000000,.box (.agg [.sl (iI .u8 s0_0),vi bt349_2,.val (.int .u64 bt349_3)]))]] [] .ret (.inr rfl) (by kernel_rfl) (And.intro (CallH.ren [(1000000,1000000)] rfl rfl (ad_74 c1)) (CallH.ren [(1000000,1000000)] rfl rfl (ad_54 c7))) (by kernel_rfl)

def hn44:Hint:=⟨[(8,[19]),(10,[19])],[]⟩
def o44 (r:(List (S35)) × Int):List AV:=[.sl (iS35 r.1),vi r.2]
def p44 (r:(List (S35)) × Int):List (Nat × AV):=[]
set_option maxRecDepth 100000 in
theorem ad_44 {k:Nat} {l0:List Int} {r1:List (S35)} {r2:Int} (h:spec_DrawTimesOf.f k l0 = some (r1,r2)):CallH Try.prog 44 [.sl (iI .u8 l0)] [] (.tup [.sl (iS35 r1),vi r2]) []:=by
 unfold spec_DrawTimesOf.f at h
 refine call_ok (c:=bodyOf Try.f44) (rs:=o44 (r1,r2)) (post:=p44 (r1,r2)) Try.func44 rfl rfl rfl (by kernel_rfl) ?_
 show AtP Try.prog 12 (bodyOf Try.f44) (KR Try.prog Try.f44.results.toList (o44 (r1,r2)) (p44 (r1,r2))) [] [] (lookA [(0,.sl (iI .u8 l0))])
 obtain ⟨⟨bt353_1,bt353_2,bt353_3⟩,c1,h2⟩:=bd_ h
 try dsimp only at h2
 obtain ⟨⟨bt358_1,bt358_2,bt358_3⟩,c3,h4⟩:=bd_ h2
 try dsimp only at h4
 obtain ⟨rfl,rfl⟩:=pr2_ h4
 exact leafRet (hn:=hn44) 10 [.goT,.go,.callH [19] (.sl (iS35 bt353_1)) [(19,.box (.agg [.sl (iI .u8 l0),vi bt353_2,.val (.int .u64 bt353_3)]))],.callH [19] (vi bt358_1) [(19,.box (.agg [.sl (iI .u8 l0),vi bt358_2,.val (.int .u64 bt358_3)]))]] [] .ret (.inr rfl) (by kernel_rfl) (And.intro (CallH.ren [(1000000,19)] rfl rfl (ad_27 c1)) (CallH.ren [(1000000,19)] rfl rfl (ad_69 c3))) (by kernel_rfl)

def hn18:Hint:=⟨[],[]⟩
def o18 (r:(List (S35)) × Int):List AV:=[.sl (iS35 r.1),vi r.2]
def p18 (r:(List (S35)) × Int):List (Nat × AV):=[]
set_option maxRecDepth 100000 in
theorem ad_18 {k:Nat} {l0:List Int} {r1:List (S35)} {r2:Int} (h:spec_DrawMissingFrom.f k l0 = some (r1,r2)):CallH Try.prog 18 [.sl (iI .u8 l0)] [] (.tup [.sl (iS35 r1),vi r2]) []:=by
 unfold spec_DrawMissingFrom.f at h
 refine call_ok (c:=bodyOf Try.f18) (rs:=o18 (r1,r2)) (post:=p18 (r1,r2)) Try.func18 rfl rfl rfl (by kernel_rfl) ?_
 show AtP Try.prog 8 (bodyOf Try.f18) (KR Try.prog Try.f18.results.toList (o18 (r1,r2)) (p18 (r1,r2))) [] [] (lookA [(0,.sl (iI .u8 l0))])
 obtain ⟨⟨bt361_1,bt361_2⟩,c1,h2⟩:=bd_ h
 try dsimp only at h2
 obtain ⟨rfl,rfl⟩:=pr2_ h2
 exact leafRet (hn:=hn18) 7 [.goT,.call (.tup [.sl (iS35 bt361_1),vi bt361_2])] [] .ret (.inr rfl) (by kernel_rfl) (ad_44 c1) (by kernel_rfl)

def hn45:Hint:=⟨[],[]⟩
def o45 (r:Bool):List AV:=[vb r]
def p45 (r:Bool):List (Nat × AV):=[]
set_option maxRecDepth 100000 in
theorem ad_45 {a0:Int} {r:Bool} (h:impl_isNumber.f a0 = some r):CallH Try.prog 45 [vi a0] [] (vb r) []:=by
 unfold impl_isNumber.f at h
 refine call_ok (c:=bodyOf Try.f45) (rs:=o45 r) (post:=p45 r) Try.func45 rfl rfl rfl (by kernel_rfl) ?_
 show AtP Try.prog 5 (bodyOf Try.f45) (KR Try.prog Try.f45.results.toList (o45 r) (p45 r)) [] [] (lookA [(0,vi a0)])
 obtain ⟨t365,c1,h2⟩:=bd_ h
 obtain rfl:=Option.some.inj h2
 exact leafRet (hn:=hn45) 7 [.call (vb t365)] [] .ret (.inr rfl) (by kernel_rfl) (ad_68 c1) (by kernel_rfl)

def hn48:Hint:=⟨[],[]⟩
def o48 (r:Bool):List AV:=[vb r]
def p48 (r:Bool):List (Nat × AV):=[]
set_option maxRecDepth 100000 in
theorem ad_48 {a0:Int} {r:Bool} (h:spec_tiNumber.f a0 = some r):CallH Try.prog 48 [vi a0] [] (vb r) []:=by
 unfold spec_tiNumber.f at h
 refine call_ok (c:=bodyOf Try.f48) (rs:=o48 r) (post:=p48 r) Try.func48 rfl rfl rfl (by kernel_rfl) ?_
 show AtP Try.prog 5 (bodyOf Try.f48) (KR Try.prog Try.f48.results.toList (o48 r) (p48 r)) [] [] (lookA [(0,vi a0)])
 obtain ⟨t372,c1,h2⟩:=bd_ h
 obtain rfl:=Option.some.inj h2
 exact leafRet (hn:=hn48) 7 [.call (vb t372)] [] .ret (.inr rfl) (by kernel_rfl) (ad_71 c1) (by kernel_rfl)

def hn49:Hint:=⟨[(6,[24]),(13,[24])],[]⟩
def o49 (r:Bool):List AV:=[vb r]
def p49 (r:Bool):List (Nat × AV):=[]
def q49_l0 (r:Bool) (k:Nat) (L:List (Nat × AV)):Prop:=∃ (x1:Int) (x7:List (S35)) (x8:Int) (x9:Int),L = [(1,vi x1),(7,.sl (iS35 x7)),(8,vi x8),(9,vi x9)] ∧ spec_tiWithin.l0 k x1 x7 x8 x9 = some r
theorem q49_l0_mk {r:Bool} {k:Nat} {x1:Int} {x7:List (S35)} {x8:Int} {x9:Int} (h:spec_tiWithin.l0 k x1 x7 x8 x9 = some r):q49_l0 r k [(1,vi x1),(7,.sl (iS35 x7)),(8,vi x8),(9,vi x9)]:=⟨x1,x7,x8,x9,rfl,h⟩
set_option maxRecDepth 100000 in
theorem at49_l0 {r:Bool}:∀ k L,q49_l0 r k L → AtP Try.prog 18 (bodyOf Try.f49) (KR Try.prog Try.f49.results.toList (o49 r) (p49 r)) [true,false,true,false] [] (lookA L) :=
 at_loop (by kernel_rfl) (fun _ => by kernel_rfl) (q49_l0 r) (by
  rintro k _ ⟨x1,x7,x8,x9,rfl,h⟩
  cases k with
  | zero => simp [spec_tiWithin.l0] at h
  | succ k =>
   rw [spec_tiWithin.l0] at h
   rcases ite_ h with ⟨g1,h2⟩ | ⟨g1,h2⟩
   ·obtain ⟨g3,h4⟩:=ip_ h2
    obtain ⟨g5,h6⟩:=ip_ h4
    rcases ite_ h6 with ⟨g7,h8⟩ | ⟨g7,h8⟩
    ·obtain rfl:=Option.some.inj h8
     exact leafRet (hn:=hn49) 25 [.val (.bool true),.elem (.agg [vi ((rd_T35 x7 x9).f0),vi ((rd_T35 x7 x9).f1)]),.val (.bool true)] [] .ret (.inr rfl) (by kernel_rfl) (And.intro (int_lss (P:=Try.prog) (t:=3) (k:=.i64) (x:=(.tmp 9)) (y:=(.tmp 8)) (a:=x9) (b:=x8) (v:=true) (decide_eq_true g1)) (And.intro (iS35_rd (xs:=x7) (i:=x9) g3 g5) (int_gtr (P:=Try.prog) (t:=3) (k:=.i64) (x:=(.tmp 14)) (y:=(.tmp 15)) (a:=((rd_T35 x7 x9).f1)) (b:=x1) (v:=true) (decide_eq_true g7)))) (by kernel_rfl)
    ·exact leafBack (hn:=hn49) 20 [.val (.bool true),.elem (.agg [vi ((rd_T35 x7 x9).f0),vi ((rd_T35 x7 x9).f1)]),.val (.bool false),.val (.int .i64 (wrap64 (x9 + 1)))] [] (q49_l0_mk h8) (Nat.lt_succ_self k) (And.intro (int_lss (P:=Try.prog) (t:=3) (k:=.i64) (x:=(.tmp 9)) (y:=(.tmp 8)) (a:=x9) (b:=x8) (v:=true) (decide_eq_true g1)) (And.intro (iS35_rd (xs:=x7) (i:=x9) g3 g5) (And.intro (int_gtr (P:=Try.prog) (t:=3) (k:=.i64) (x:=(.tmp 14)) (y:=(.tmp 15)) (a:=((rd_T35 x7 x9).f1)) (b:=x1) (v:=false) (decide_eq_false g7)) (int_add (P:=Try.prog) (t:=3) (k:=.i64) (x:=(.tmp 9)) (y:=(.const (.int .i64 1))) (a:=x9) (b:=1) (c:=(wrap64 (x9 + 1))) (IntWalk.i64_left _))))) (by kernel_rfl)
   ·obtain rfl:=Option.some.inj h2
    exact leafRet (hn:=hn49) 14 [.val (.bool false)] [] .ret (.inr rfl) (by kernel_rfl) (int_lss (P:=Try.prog) (t:=3) (k:=.i64) (x:=(.tmp 9)) (y:=(.tmp 8)) (a:=x9) (b:=x8) (v:=false) (decide_eq_false g1)) (by kernel_rfl))
set_option maxRecDepth 100000 in
theorem ad_49 {k:Nat} {l0:List (S35)} {a1:Int} {r:Bool} (h:spec_tiWithin.f k l0 a1 = some r):CallH Try.prog 49 [.sl (iS35 l0),vi a1] [] (vb r) []:=by
 unfold spec_tiWithin.f at h
 refine call_ok (c:=bodyOf Try.f49) (rs:=o49 r) (post:=p49 r) Try.func49 rfl rfl rfl (by kernel_rfl) ?_
 show AtP Try.prog 18 (bodyOf Try.f49) (KR Try.prog Try.f49.results.toList (o49 r) (p49 r)) [] [] (lookA [(0,.sl (iS35 l0)),(1,vi a1)])
 exact leafAt (hn:=hn49) 8 [.val (.int .i64 (l0.length:Int))] [] (at49_l0 _ _ (q49_l0_mk h)) (iS35_len (xs:=l0)) (by kernel_rfl)

def hn20:Hint:=⟨[],[]⟩
def o20 (r:(List (S35)) × Bool):List AV:=[.sl (iS35 r.1),vb r.2]
def p20 (r:(List (S35)) × Bool):List (Nat × AV):=[]
set_option maxRecDepth 100000 in
theorem ad_20 {k:Nat} {l0:List (S35)} {a1:Int} {r1:List (S35)} {r2:Bool} (h:spec_MissingFrom.f k l0 a1 = some (r1,r2)):CallH Try.prog 20 [.sl (iS35 l0),vi a1] [] (.tup [.sl (iS35 r1),vb r2]) []:=by
 unfold spec_MissingFrom.f at h
 refine call_ok (c:=bodyOf Try.f20) (rs:=o20 (r1,r2)) (post:=p20 (r1,r2)) Try.func20 rfl rfl rfl (by kernel_rfl) ?_
 show AtP Try.prog 23 (bodyOf Try.f20) (KR Try.prog Try.f20.results.toList (o20 (r1,r2)) (p20 (r1,r2))) [] [] (lookA [(0,.sl (iS35 l0)),(1,vi a1)])
 obtain ⟨t375,c1,h2⟩:=bd_ h
 rcases ite_ h2 with ⟨g3,h4⟩ | ⟨g3,h4⟩
 ·subst g3
  obtain ⟨t376,c5,h6⟩:=bd_ h4
  rcases ite_ h6 with ⟨g7,h8⟩ | ⟨g7,h8⟩
  ·subst g7
   obtain ⟨t377,c9,h10⟩:=bd_ h8
   rcases ite_ h10 with ⟨g11,h12⟩ | ⟨g11,h12⟩
   ·subst g11
    obtain ⟨t378,c13,h14⟩:=bd_ h12
    obtain ⟨rfl,rfl⟩:=pr2_ h14
    exact leafRet (hn:=hn20) 14 [.goT,.call (vb true),.call (vb true),.call (vb true),.call (.sl (iS35 t378))] [] .ret (.inr rfl) (by kernel_rfl) (And.intro (And.intro (ad_31 c1) (And.intro (ad_48 c5) (ad_49 c9))) (ad_50 c13)) (by kernel_rfl)
   ·obtain rfl:=Bool.eq_false_iff.2 g11
    obtain ⟨rfl,rfl⟩:=pr2_ h12
    exact leafRet (hn:=hn20) 13 [.goT,.call (vb true),.call (vb true),.call (vb false),.goT] [] .ret (.inr rfl) (by kernel_rfl) (And.intro (ad_31 c1) (And.intro (ad_48 c5) (ad_49 c9))) (by kernel_rfl)
  ·obtain rfl:=Bool.eq_false_iff.2 g7
   obtain ⟨rfl,rfl⟩:=pr2_ h8
   exact leafRet (hn:=hn20) 13 [.goT,.call (vb true),.call (vb false),.goT] [] .ret (.inr rfl) (by kernel_rfl) (And.intro (ad_31 c1) (ad_48 c5)) (by kernel_rfl)
 ·obtain rfl:=Bool.eq_false_iff.2 g3
  obtain ⟨rfl,rfl⟩:=pr2_ h4
  exact leafRet (hn:=hn20) 13 [.goT,.call (vb false),.goT] [] .ret (.inr rfl) (by kernel_rfl) (ad_31 c1) (by kernel_rfl)

def hn21:Hint:=⟨[],[]⟩
def o21 (r:(List (S35)) × Bool):List AV:=[.sl (iS35 r.1),vb r.2]
def p21 (r:(List (S35)) × Bool):List (Nat × AV):=[]
set_option maxRecDepth 100000 in
theorem ad_21 {k:Nat} {a0:Int} {r1:List (S35)} {r2:Bool} (h:impl_SetOf.f k a0 = some (r1,r2)):CallH Try.prog 21 [vi a0] [] (.tup [.sl (iS35 r1),vb r2]) []:=by
 unfold impl_SetOf.f at h
 refine call_ok (c:=bodyOf Try.f21) (rs:=o21 (r1,r2)) (post:=p21 (r1,r2)) Try.func21 rfl rfl rfl (by kernel_rfl) ?_
 show AtP Try.prog 9 (bodyOf Try.f21) (KR Try.prog Try.f21.results.toList (o21 (r1,r2)) (p21 (r1,r2))) [] [] (lookA [(0,vi a0)])
 obtain ⟨t381,c1,h2⟩:=bd_ h
 rcases ite_ h2 with ⟨g3,h4⟩ | ⟨g3,h4⟩
 ·subst g3
  obtain ⟨t382,c5,h6⟩:=bd_ h4
  obtain ⟨rfl,rfl⟩:=pr2_ h6
  exact leafRet (hn:=hn21) 14 [.goT,.call (vb true),.call (.sl (iS35 t382))] [] .ret (.inr rfl) (by kernel_rfl) (And.intro (ad_45 c1) (ad_47 c5)) (by kernel_rfl)
 ·obtain rfl:=Bool.eq_false_iff.2 g3
  obtain ⟨rfl,rfl⟩:=pr2_ h4
  exact leafRet (hn:=hn21) 13 [.goT,.call (vb false),.goT] [] .ret (.inr rfl) (by kernel_rfl) (ad_45 c1) (by kernel_rfl)

def hn22:Hint:=⟨[],[]⟩
def o22 (r:Int × Bool):List AV:=[vi r.1,vb r.2]
def p22 (r:Int × Bool):List (Nat × AV):=[]
set_option maxRecDepth 100000 in
theorem ad_22 {k:Nat} {a0:Int} {r1:Int} {r2:Bool} (h:impl_CountSet.f k a0 = some (r1,r2)):CallH Try.prog 22 [vi a0] [] (.tup [vi r1,vb r2]) []:=by
 unfold impl_CountSet.f at h
 refine call_ok (c:=bodyOf Try.f22) (rs:=o22 (r1,r2)) (post:=p22 (r1,r2)) Try.func22 rfl rfl rfl (by kernel_rfl) ?_
 show AtP Try.prog 14 (bodyOf Try.f22) (KR Try.prog Try.f22.results.toList (o22 (r1,r2)) (p22 (r1,r2))) [] [] (lookA [(0,vi a0)])
 obtain ⟨⟨bt385_1,bt385_2⟩,c1,h2⟩:=bd_ h
 try dsimp only at h2
 obtain ⟨rfl,rfl⟩:=pr2_ h2
 exact leafRet (hn:=hn22) 10 [.call (.tup [.sl (iS35 bt385_1),vb bt385_2]),.val (.int .i64 (bt385_1.length:Int))] [] .ret (.inr rfl) (by kernel_rfl) (And.intro (ad_21 c1) (iS35_len (xs:=bt385_1))) (by kernel_rfl)

def hn51:Hint:=⟨[(7,[15])],[]⟩
def o51 (r:(List (S35))):List AV:=[.sl (iS35 r)]
def p51 (r:(List (S35))):List (Nat × AV):=[]
set_option maxRecDepth 100000 in
theorem ad_51 {k:Nat} {l0:List Int} {r:List (S35)} (h:spec_DrawIsHand.f k l0 = some r):CallH Try.prog 51 [.sl (iI .u8 l0)] [] (.sl (iS35 r)) []:=by
 unfold spec_DrawIsHand.f at h
 refine call_ok (c:=bodyOf Try.f51) (rs:=o51 r) (post:=p51 r) Try.func51 rfl rfl rfl (by kernel_rfl) ?_
 show AtP Try.prog 9 (bodyOf Try.f51) (KR Try.prog Try.f51.results.toList (o51 r) (p51 r)) [] [] (lookA [(0,.sl (iI .u8 l0))])
 obtain ⟨⟨bt390_1,bt390_2,bt390_3⟩,c1,h2⟩:=bd_ h
 try dsimp only at h2
 obtain rfl:=Option.some.inj h2
 exact leafRet (hn:=hn51) 10 [.goT,.go,.callH [15] (.sl (iS35 bt390_1)) [(15,.box (.agg [.sl (iI .u8 l0),vi bt390_2,.val (.int .u64 bt390_3)]))]] [] .ret (.inr rfl) (by kernel_rfl) (CallH.ren [(1000000,15)] rfl rfl (ad_27 c1)) (by kernel_rfl)

def hn23:Hint:=⟨[],[]⟩
def o23 (r:(List (S35))):List AV:=[.sl (iS35 r)]
def p23 (r:(List (S35))):List (Nat × AV):=[]
set_option maxRecDepth 100000 in
theorem ad_23 {k:Nat} {l0:List Int} {r:List (S35)} (h:spec_DrawSortHand.f k l0 = some r):CallH Try.prog 23 [.sl (iI .u8 l0)] [] (.sl (iS35 r)) []:=by
 unfold spec_DrawSortHand.f at h
 refine call_ok (c:=bodyOf Try.f23) (rs:=o23 r) (post:=p23 r) Try.func23 rfl rfl rfl (by kernel_rfl) ?_
 show AtP Try.prog 5 (bodyOf Try.f23) (KR Try.prog Try.f23.results.toList (o23 r) (p23 r)) [] [] (lookA [(0,.sl (iI .u8 l0))])
 obtain ⟨t395,c1,h2⟩:=bd_ h
 obtain rfl:=Option.some.inj h2
 exact leafRet (hn:=hn23) 7 [.goT,.call (.sl (iS35 t395))] [] .ret (.inr rfl) (by kernel_rfl) (ad_51 c1) (by kernel_rfl)

def hn24:Hint:=⟨[],[]⟩
def o24 (r:(List (S35)) × Bool):List AV:=[.sl (iS35 r.1),vb r.2]
def p24 (r:(List (S35)) × Bool):List (Nat × AV):=[]
set_option maxRecDepth 100000 in
theorem ad_24 {k:Nat} {l0:List (S35)} {r1:List (S35)} {r2:Bool} (h:spec_SortHand.f k l0 = some (r1,r2)):CallH Try.prog 24 [.sl (iS35 l0)] [] (.tup [.sl (iS35 r1),vb r2]) []:=by
 unfold spec_SortHand.f at h
 refine call_ok (c:=bodyOf Try.f24) (rs:=o24 (r1,r2)) (post:=p24 (r1,r2)) Try.func24 rfl rfl rfl (by kernel_rfl) ?_
 show AtP Try.prog 9 (bodyOf Try.f24) (KR Try.prog Try.f24.results.toList (o24 (r1,r2)) (p24 (r1,r2))) [] [] (lookA [(0,.sl (iS35 l0))])
 obtain ⟨t398,c1,h2⟩:=bd_ h
 rcases ite_ h2 with ⟨g3,h4⟩ | ⟨g3,h4⟩
 ·subst g3
  obtain ⟨t399,c5,h6⟩:=bd_ h4
  obtain ⟨rfl,rfl⟩:=pr2_ h6
  exact leafRet (hn:=hn24) 14 [.goT,.call (vb true),.call (.sl (iS35 t399))] [] .ret (.inr rfl) (by kernel_rfl) (And.intro (ad_31 c1) (ad_32 c5)) (by kernel_rfl)
 ·obtain rfl:=Bool.eq_false_iff.2 g3
  obtain ⟨rfl,rfl⟩:=pr2_ h4
  exact leafRet (hn:=hn24) 13 [.goT,.call (vb false),.goT] [] .ret (.inr rfl) (by kernel_rfl) (ad_31 c1) (by kernel_rfl)

def hn52:Hint:=⟨[(5,[26]),(13,[26]),(15,[26])],[]⟩
def o52 (r:Int):List AV:=[vi r]
def p52 (r:Int):List (Nat × AV):=[]
def q52_l0 (r:Int) (k:Nat) (L:List (Nat × AV)):Prop:=∃ (x3:Int) (x6:List (S35)) (x7:Int) (x8:Int),L = [(3,vi x3),(6,.sl (iS35 x6)),(7,vi x7),(8,vi x8)] ∧ spec_tiPips.l0 k x3 x6 x7 x8 = some r
theorem q52_l0_mk {r:Int} {k:Nat} {x3:Int} {x6:List (S35)} {x7:Int} {x8:Int} (h:spec_tiPips.l0 k x3 x6 x7 x8 = some r):q52_l0 r k [(3,vi x3),(6,.sl (iS35 x6)),(7,vi x7),(8,vi x8)]:=⟨x3,x6,x7,x8,rfl,h⟩
set_option maxRecDepth 100000 in
theorem at52_l0 {r:Int}:∀ k L,q52_l0 r k L → AtP Try.prog 21 (bodyOf Try.f52) (KR Try.prog Try.f52.results.toList (o52 r) (p52 r)) [true,true,false,true,false] [] (lookA L) :=
 at_loop (by kernel_rfl) (fun _ => by kernel_rfl) (q52_l0 r) (by
  rintro k _ ⟨x3,x6,x7,x8,rfl,h⟩
  cases k with
  | zero => simp [spec_tiPips.l0] at h
  | succ k =>
   rw [spec_tiPips.l0] at h
   rcases ite_ h with ⟨g1,h2⟩ | ⟨g1,h2⟩
   ·obtain ⟨g3,h4⟩:=ip_ h2
    obtain ⟨g5,h6⟩:=ip_ h4
    exact leafBack (hn:=hn52) 16 [.val (.bool true),.elem (.agg [vi ((rd_T35 x6 x8).f0),vi ((rd_T35 x6 x8).f1)]),.val (.int .i64 (wrap64 (((rd_T35 x6 x8).f0) + ((rd_T35 x6 x8).f1)))),.val (.int .i64 (wrap64 (x3 + (wrap64 (((rd_T35 x6 x8).f0) + ((rd_T35 x6 x8).f1)))))),.val (.int .i64 (wrap64 (x8 + 1)))] [] (q52_l0_mk h6) (Nat.lt_succ_self k) (And.intro (int_lss (P:=Try.prog) (t:=3) (k:=.i64) (x:=(.tmp 8)) (y:=(.tmp 7)) (a:=x8) (b:=x7) (v:=true) (decide_eq_true g1)) (And.intro (iS35_rd (xs:=x6) (i:=x8) g3 g5) (And.intro (And.intro (int_add (P:=Try.prog) (t:=3) (k:=.i64) (x:=(.tmp 14)) (y:=(.tmp 16)) (a:=((rd_T35 x6 x8).f0)) (b:=((rd_T35 x6 x8).f1)) (c:=(wrap64 (((rd_T35 x6 x8).f0) + ((rd_T35 x6 x8).f1)))) (IntWalk.i64_left _)) (int_add (P:=Try.prog) (t:=3) (k:=.i64) (x:=(.tmp 12)) (y:=(.tmp 17)) (a:=x3) (b:=(wrap64 (((rd_T35 x6 x8).f0) + ((rd_T35 x6 x8).f1)))) (c:=(wrap64 (x3 + (wrap64 (((rd_T35 x6 x8).f0) + ((rd_T35 x6 x8).f1)))))) (IntWalk.i64_left _))) (int_add (P:=Try.prog) (t:=3) (k:=.i64) (x:=(.tmp 8)) (y:=(.const (.int .i64 1))) (a:=x8) (b:=1) (c:=(wrap64 (x8 + 1))) (IntWalk.i64_left _))))) (by kernel_rfl)
   ·obtain rfl:=Option.some.inj h2
    exact leafRet (hn:=hn52) 14 [.val (.bool false)] [] .ret (.inr rfl) (by kernel_rfl) (int_lss (P:=Try.prog) (t:=3) (k:=.i64) (x:=(.tmp 8)) (y:=(.tmp 7)) (a:=x8) (b:=x7) (v:=false) (decide_eq_false g1)) (by kernel_rfl))
set_option maxRecDepth 100000 in
theorem ad_52 {k:Nat} {l0:List (S35)} {r:Int} (h:spec_tiPips.f k l0 = some r):CallH Try.prog 52 [.sl (iS35 l0)] [] (vi r) []:=by
 unfold spec_tiPips.f at h
 refine call_ok (c:=bodyOf Try.f52) (rs:=o52 r) (post:=p52 r) Try.func52 rfl rfl rfl (by kernel_rfl) ?_
 show AtP Try.prog 21 (bodyOf Try.f52) (KR Try.prog Try.f52.results.toList (o52 r) (p52 r)) [] [] (lookA [(0,.sl (iS35 l0))])
 exact leafAt (hn:=hn52) 11 [.val (.int .i64 (l0.length:Int))] [] (at52_l0 _ _ (q52_l0_mk h)) (iS35_len (xs:=l0)) (by kernel_rfl)

def hn25:Hint:=⟨[],[]⟩
def o25 (r:Int × Bool):List AV:=[vi r.1,vb r.2]
def p25 (r:Int × Bool):List (Nat × AV):=[]
set_option maxRecDepth 100000 in
theorem ad_25 {k:Nat} {l0:List (S35)} {r1:Int} {r2:Bool} (h:spec_PipsOf.f k l0 = some (r1,r2)):CallH Try.prog 25 [.sl (iS35 l0)] [] (.tup [vi r1,vb r2]) []:=by
 unfold spec_PipsOf.f at h
 refine call_ok (c:=bodyOf Try.f25) (rs:=o25 (r1,r2)) (post:=p25 (r1,r2)) Try.func25 rfl rfl rfl (by kernel_rfl) ?_
 show AtP Try.prog 9 (bodyOf Try.f25) (KR Try.prog Try.f25.results.toList (o25 (r1,r2)) (p25 (r1,r2))) [] [] (lookA [(0,.sl (iS35 l0))])
 obtain ⟨t404,c1,h2⟩:=bd_ h
 rcases ite_ h2 with ⟨g3,h4⟩ | ⟨g3,h4⟩
 ·subst g3
  obtain ⟨t405,c5,h6⟩:=bd_ h4
  obtain ⟨rfl,rfl⟩:=pr2_ h6
  exact leafRet (hn:=hn25) 14 [.call (vb true),.call (vi t405)] [] .ret (.inr rfl) (by kernel_rfl) (And.intro (ad_31 c1) (ad_52 c5)) (by kernel_rfl)
 ·obtain rfl:=Bool.eq_false_iff.2 g3
  obtain ⟨rfl,rfl⟩:=pr2_ h4
  exact leafRet (hn:=hn25) 13 [.call (vb false)] [] .ret (.inr rfl) (by kernel_rfl) (ad_31 c1) (by kernel_rfl)

def hn26:Hint:=⟨[],[]⟩
def o26 (r:Bool):List AV:=[vb r]
def p26 (r:Bool):List (Nat × AV):=[]
set_option maxRecDepth 100000 in
theorem ad_26 {k:Nat} {l0:List (S35)} {r:Bool} (h:spec_IsHand.f k l0 = some r):CallH Try.prog 26 [.sl (iS35 l0)] [] (vb r) []:=by
 unfold spec_IsHand.f at h
 refine call_ok (c:=bodyOf Try.f26) (rs:=o26 r) (post:=p26 r) Try.func26 rfl rfl rfl (by kernel_rfl) ?_
 show AtP Try.prog 5 (bodyOf Try.f26) (KR Try.prog Try.f26.results.toList (o26 r) (p26 r)) [] [] (lookA [(0,.sl (iS35 l0))])
 obtain ⟨t406,c1,h2⟩:=bd_ h
 obtain rfl:=Option.some.inj h2
 exact leafRet (hn:=hn26) 7 [.call (vb t406)] [] .ret (.inr rfl) (by kernel_rfl) (ad_31 c1) (by kernel_rfl)

mutual
def g28_impl_Tile.l0:Nat → List (S35) → Int → Option (List (S35))
  | 0,_,_ => none
  | k + 1,x0,x3 => if x3 < (x0.length:Int) then (if 0 ≤ x3 then (if 0 ≤ (wrap64 (x3 - 1)) then (if (wrap64 (x3 - 1)) < (x0.length:Int) then (if (((rd_T35 x0 x3).f0) == ((rd_T35 x0 (wrap64 (x3 - 1))).f0) && ((rd_T35 x0 x3).f1) == ((rd_T35 x0 (wrap64 (x3 - 1))).f1)) = true then (g28_impl_Tile.l1 k x0 x3 x3 1) else (g28_impl_Tile.l0 k x0 (wrap64 (x3 + 1)))) else (none)) else (none)) else (none)) else (some (x0))
def g28_impl_Tile.l1:Nat → List (S35) → Int → Int → Int → Option (List (S35))
  | 0,_,_,_,_ => none
  | k + 1,x0,x3,t4,x5 => if x5 < ((x0.length - (t4:Int).toNat:Nat):Int) then (if 0 ≤ x5 then (if ((((t4:Int).toNat + (x5:Int).toNat):Nat):Int) < (x0.length:Int) then (if 0 ≤ ((((t4:Int).toNat + (x5:Int).toNat):Nat):Int) then (if 0 ≤ (wrap64 (x5 - 1)) then (if ((((t4:Int).toNat + ((wrap64 (x5 - 1)):Int).toNat):Nat):Int) < (x0.length:Int) then (if 0 ≤ ((((t4:Int).toNat + ((wrap64 (x5 - 1)):Int).toNat):Nat):Int) then (if (((rd_T35 x0 ((((t4:Int).toNat + (x5:Int).toNat):Nat):Int)).f0) == ((rd_T35 x0 ((((t4:Int).toNat + ((wrap64 (x5 - 1)):Int).toNat):Nat):Int)).f0) && ((rd_T35 x0 ((((t4:Int).toNat + (x5:Int).toNat):Nat):Int)).f1) == ((rd_T35 x0 ((((t4:Int).toNat + ((wrap64 (x5 - 1)):Int).toNat):Nat):Int)).f1)) = true then (g28_impl_Tile.l1 k x0 x3 t4 (wrap64 (x5 + 1))) else (if 0 ≤ x3 then (if x3 < (x0.length:Int) then (g28_impl_Tile.l1 k (x0.set ((x3:Int).toNat) (⟨(rd_T35 x0 ((((t4:Int).toNat + (x5:Int).toNat):Nat):Int)).f0,(rd_T35 x0 ((((t4:Int).toNat + (x5:Int).toNat):Nat):Int)).f1⟩ : S35)) (wrap64 (x3 + 1)) t4 (wrap64 (x5 + 1))) else (none)) else (none))) else (none)) else (none)) else (none)) else (none)) else (none)) else (none)) else (if 0 ≤ x3 then (if x3 < (x0.length:Int) then (if x3 ≤ ((x0.take (x3:Int).toNat ++ List.replicate (x0.length - (x3:Int).toNat) z35).length:Int) then (some (((x0.take (x3:Int).toNat ++ List.replicate (x0.length - (x3:Int).toNat) z35).take (x3:Int).toNat))) else (none)) else (none)) else (none))
end
def g28_impl_Tile.f (k:Nat) (l0:List (S35)):Option (List (S35)):=if (l0.length:Int) < 2 then (some (l0)) else (g28_impl_Tile.l0 k l0 1)

def hn28:Hint:=⟨[(6,[1000000]),(11,[1000000]),(16,[1000000]),(18,[1000000]),(20,[1000000]),(23,[1000000]),(26,[1000000]),(30,[1000000]),(35,[1000000]),(37,[1000000]),(39,[1000000]),(42,[1000000]),(45,[1000000]),(47,[1000000]),(49,[1000000]),(51,[1000000]),(54,[1000000]),(56,[1000000]),(57,[1000000])],[]⟩
def o28 (r:List (S35)):List AV:=[.sl (iS35 r)]
def p28 (r:List (S35)):List (Nat × AV):=[]
def q28_l0 (r:List (S35)) (k:Nat) (L:List (Nat × AV)):Prop:=∃ (x0:List (S35)) (x3:Int),L = [(0,.row 1000000),(3,vi x3),(1000000,.ow true 35 (iS35 x0))] ∧ g28_impl_Tile.l0 k x0 x3 = some r
theorem q28_l0_mk {r:List (S35)} {k:Nat} {x0:List (S35)} {x3:Int} (h:g28_impl_Tile.l0 k x0 x3 = some r):q28_l0 r k [(0,.row 1000000),(3,vi x3),(1000000,.ow true 35 (iS35 x0))]:=⟨x0,x3,rfl,h⟩
def q28_l1 (r:List (S35)) (K0:Nat) (k:Nat) (L:List (Nat × AV)):Prop:=k < K0 ∧ ∃ (x0:List (S35)) (x3:Int) (t4:Int) (x5:Int),L = [(0,.row 1000000),(3,vi x3),(4,.tl 1000000 ((t4:Int).toNat) 2),(5,vi x5),(1000000,.ow true 35 (iS35 x0))] ∧ g28_impl_Tile.l1 k x0 x3 t4 x5 = some r
theorem q28_l1_mk {r:List (S35)} {K0:Nat} {k:Nat} {x0:List (S35)} {x3:Int} {t4:Int} {x5:Int} (hk0:k < K0) (h:g28_impl_Tile.l1 k x0 x3 t4 x5 = some r):q28_l1 r K0 k [(0,.row 1000000),(3,vi x3),(4,.tl 1000000 ((t4:Int).toNat) 2),(5,vi x5),(1000000,.ow true 35 (iS35 x0))]:=⟨hk0,x0,x3,t4,x5,rfl,h⟩
set_option maxRecDepth 100000 in
theorem at28_l1 {r:List (S35)} {K0:Nat}:∀ k L,q28_l1 r K0 k L → AtP Try.prog 61 (bodyOf Try.f28) (KR Try.prog Try.f28.results.toList (o28 r) (p28 r)) [true,true,false,true,false,false,true,false,false,true,false,true,false,true,false] [upto (q28_l0 r) K0] (lookA L) :=
 at_loop (by kernel_rfl) (fun _ => by kernel_rfl) (q28_l1 r K0) (by
  rintro k _ ⟨hk0,x0,x3,t4,x5,rfl,h⟩
  cases k with
  | zero => simp [g28_impl_Tile.l1] at h
  | succ k =>
   rw [g28_impl_Tile.l1] at h
   have hk0:=Nat.lt_of_succ_lt hk0
   rcases ite_ h with ⟨g1,h2⟩ | ⟨g1,h2⟩
   ·obtain ⟨g3,h4⟩:=ip_ h2
    obtain ⟨g5,h6⟩:=ip_ h4
    obtain ⟨g7,h8⟩:=ip_ h6
    obtain ⟨g9,h10⟩:=ip_ h8
    obtain ⟨g11,h12⟩:=ip_ h10
    obtain ⟨g13,h14⟩:=ip_ h12
    rcases ite_ h14 with ⟨g15,h16⟩ | ⟨g15,h16⟩
    ·exact leafBack (hn:=hn28) 17 [.val (.int .i64 ((x0.length - (t4:Int).toNat:Nat):Int)),.val (.bool true),.go,.elem (.agg [vi ((rd_T35 x0 ((((t4:Int).toNat + (x5:Int).toNat):Nat):Int)).f0),vi ((rd_T35 x0 ((((t4:Int).toNat + (x5:Int).toNat):Nat):Int)).f1)]),.val (.int .i64 (wrap64 (x5 - 1))),.go,.elem (.agg [vi ((rd_T35 x0 ((((t4:Int).toNat + ((wrap64 (x5 - 1)):Int).toNat):Nat):Int)).f0),vi ((rd_T35 x0 ((((t4:Int).toNat + ((wrap64 (x5 - 1)):Int).toNat):Nat):Int)).f1)]),.val (.bool false),.val (.int .i64 (wrap64 (x5 + 1)))] [] (q28_l1_mk hk0 h16) (Nat.lt_succ_self k) (And.intro (And.intro (tl_len (i:=(t4:Int).toNat) (iS35_len (xs:=x0))) (int_lss (P:=Try.prog) (t:=3) (k:=.i64) (x:=(.tmp 29)) (y:=(.tmp 31)) (a:=x5) (b:=((x0.length - (t4:Int).toNat:Nat):Int)) (v:=true) (decide_eq_true g1))) (And.intro (And.intro (tl_lt g3 (iS35_lt (xs:=x0) (i:=((((t4:Int).toNat + (x5:Int).toNat):Nat):Int)) (by omega) g5)) (And.intro (And.right (iS35_rd (xs:=x0) (i:=((((t4:Int).toNat + (x5:Int).toNat):Nat):Int)) g7 g5)) (And.intro (int_sub (P:=Try.prog) (t:=3) (k:=.i64) (x:=(.tmp 40)) (y:=(.const (.int .i64 1))) (a:=x5) (b:=1) (c:=(wrap64 (x5 - 1))) (IntWalk.i64_left _)) (And.intro (tl_lt g9 (iS35_lt (xs:=x0) (i:=((((t4:Int).toNat + ((wrap64 (x5 - 1)):Int).toNat):Nat):Int)) (by omega) g11)) (And.intro (And.right (iS35_rd (xs:=x0) (i:=((((t4:Int).toNat + ((wrap64 (x5 - 1)):Int).toNat):Nat):Int)) g13 g11)) (agg_35_neq (x:=(.tmp 38)) (y:=(.tmp 43)) (a0:=((rd_T35 x0 ((((t4:Int).toNat + (x5:Int).toNat):Nat):Int)).f0)) (b0:=((rd_T35 x0 ((((t4:Int).toNat + ((wrap64 (x5 - 1)):Int).toNat):Nat):Int)).f0)) (a1:=((rd_T35 x0 ((((t4:Int).toNat + (x5:Int).toNat):Nat):Int)).f1)) (b1:=((rd_T35 x0 ((((t4:Int).toNat + ((wrap64 (x5 - 1)):Int).toNat):Nat):Int)).f1)) (v:=false) (by rw [g15]; rfl))))))) (int_add (P:=Try.prog) (t:=3) (k:=.i64) (x:=(.tmp 33)) (y:=(.const (.int .i64 1))) (a:=x5) (b:=1) (c:=(wrap64 (x5 + 1))) (IntWalk.i64_left _)))) (by kernel_rfl)
    ·obtain ⟨g17,h18⟩:=ip_ h16
     obtain ⟨g19,h20⟩:=ip_ h18
     exact leafBack (hn:=hn28) 20 [.val (.int .i64 ((x0.length - (t4:Int).toNat:Nat):Int)),.val (.bool true),.go,.elem (.agg [vi ((rd_T35 x0 ((((t4:Int).toNat + (x5:Int).toNat):Nat):Int)).f0),vi ((rd_T35 x0 ((((t4:Int).toNat + (x5:Int).toNat):Nat):Int)).f1)]),.val (.int .i64 (wrap64 (x5 - 1))),.go,.elem (.agg [vi ((rd_T35 x0 ((((t4:Int).toNat + ((wrap64 (x5 - 1)):Int).toNat):Nat):Int)).f0),vi ((rd_T35 x0 ((((t4:Int).toNat + ((wrap64 (x5 - 1)):Int).toNat):Nat):Int)).f1)]),.val (.bool true),.go,.elem (.agg [vi ((rd_T35 x0 ((((t4:Int).toNat + (x5:Int).toNat):Nat):Int)).f0),vi ((rd_T35 x0 ((((t4:Int).toNat + (x5:Int).toNat):Nat):Int)).f1)]),.go,.elem (.agg [vi ((rd_T35 x0 x3).f0),vi ((rd_T35 x0 x3).f1)]),.elem (.ow true 35 (iS35 (x0.set ((x3:Int).toNat) (⟨(rd_T35 x0 ((((t4:Int).toNat + (x5:Int).toNat):Nat):Int)).f0,(rd_T35 x0 ((((t4:Int).toNat + (x5:Int).toNat):Nat):Int)).f1⟩ : S35)))),.val (.int .i64 (wrap64 (x3 + 1))),.val (.int .i64 (wrap64 (x5 + 1)))] [] (q28_l1_mk hk0 h20) (Nat.lt_succ_self k) (And.intro (And.intro (tl_len (i:=(t4:Int).toNat) (iS35_len (xs:=x0))) (int_lss (P:=Try.prog) (t:=3) (k:=.i64) (x:=(.tmp 29)) (y:=(.tmp 31)) (a:=x5) (b:=((x0.length - (t4:Int).toNat:Nat):Int)) (v:=true) (decide_eq_true g1))) (And.intro (And.intro (tl_lt g3 (iS35_lt (xs:=x0) (i:=((((t4:Int).toNat + (x5:Int).toNat):Nat):Int)) (by omega) g5)) (And.intro (And.right (iS35_rd (xs:=x0) (i:=((((t4:Int).toNat + (x5:Int).toNat):Nat):Int)) g7 g5)) (And.intro (int_sub (P:=Try.prog) (t:=3) (k:=.i64) (x:=(.tmp 40)) (y:=(.const (.int .i64 1))) (a:=x5) (b:=1) (c:=(wrap64 (x5 - 1))) (IntWalk.i64_left _)) (And.intro (tl_lt g9 (iS35_lt (xs:=x0) (i:=((((t4:Int).toNat + ((wrap64 (x5 - 1)):Int).toNat):Nat):Int)) (by omega) g11)) (And.intro (And.right (iS35_rd (xs:=x0) (i:=((((t4:Int).toNat + ((wrap64 (x5 - 1)):Int).toNat):Nat):Int)) g13 g11)) (agg_35_neq (x:=(.tmp 38)) (y:=(.tmp 43)) (a0:=((rd_T35 x0 ((((t4:Int).toNat + (x5:Int).toNat):Nat):Int)).f0)) (b0:=((rd_T35 x0 ((((t4:Int).toNat + ((wrap64 (x5 - 1)):Int).toNat):Nat):Int)).f0)) (a1:=((rd_T35 x0 ((((t4:Int).toNat + (x5:Int).toNat):Nat):Int)).f1)) (b1:=((rd_T35 x0 ((((t4:Int).toNat + ((wrap64 (x5 - 1)):Int).toNat):Nat):Int)).f1)) (v:=true) (by rw [(Bool.eq_false_iff.2 g15)]; rfl))))))) (And.intro (And.intro (tl_lt g3 (iS35_lt (xs:=x0) (i:=((((t4:Int).toNat + (x5:Int).toNat):Nat):Int)) (by omega) g5)) (And.intro (And.right (iS35_rd (xs:=x0) (i:=((((t4:Int).toNat + (x5:Int).toNat):Nat):Int)) g7 g5)) (And.intro (iS35_lt (xs:=x0) (i:=x3) g17 g19) (iS35_set (xs:=x0) (i:=x3) (x:=(⟨(rd_T35 x0 ((((t4:Int).toNat + (x5:Int).toNat):Nat):Int)).f0,(rd_T35 x0 ((((t4:Int).toNat + (x5:Int).toNat):Nat):Int)).f1⟩ : S35)) g17 g19)))) (And.intro (int_add (P:=Try.prog) (t:=3) (k:=.i64) (x:=(.tmp 52)) (y:=(.const (.int .i64 1))) (a:=x3) (b:=1) (c:=(wrap64 (x3 + 1))) (IntWalk.i64_left _)) (int_add (P:=Try.prog) (t:=3) (k:=.i64) (x:=(.tmp 33)) (y:=(.const (.int .i64 1))) (a:=x5) (b:=1) (c:=(wrap64 (x5 + 1))) (IntWalk.i64_left _)))))) (by kernel_rfl)
   ·obtain ⟨g21,h22⟩:=ip_ h2
    obtain ⟨g23,h24⟩:=ip_ h22
    obtain ⟨g25,h26⟩:=ip_ h24
    obtain rfl:=Option.some.inj h26
    exact leafRet (hn:=hn28) 22 [.val (.int .i64 ((x0.length - (t4:Int).toNat:Nat):Int)),.val (.bool false),.mut,.elem (.ow true 35 (iS35 (x0.take (x3:Int).toNat ++ List.replicate (x0.length - (x3:Int).toNat) z35))),.fz 1000000,.elem (.sl (iS35 ((x0.take (x3:Int).toNat ++ List.replicate (x0.length - (x3:Int).toNat) z35).take (x3:Int).toNat)))] [] .ret (.inr rfl) (by kernel_rfl) (And.intro (And.intro (tl_len (i:=(t4:Int).toNat) (iS35_len (xs:=x0))) (int_lss (P:=Try.prog) (t:=3) (k:=.i64) (x:=(.tmp 29)) (y:=(.tmp 31)) (a:=x5) (b:=((x0.length - (t4:Int).toNat:Nat):Int)) (v:=false) (decide_eq_false g1))) (And.intro (And.intro (iS35_lt (xs:=x0) (i:=x3) g21 g23) (iS35_clr (xs:=x0) (i:=x3) g21 g23)) (iS35_take (xs:=(x0.take (x3:Int).toNat ++ List.replicate (x0.length - (x3:Int).toNat) z35)) (b:=x3) g21 g25))) (by kernel_rfl))
set_option maxRecDepth 100000 in
theorem at28_l0 {r:List (S35)}:∀ k L,q28_l0 r k L → AtP Try.prog 61 (bodyOf Try.f28) (KR Try.prog Try.f28.results.toList (o28 r) (p28 r)) [true,true,false,true,false] [] (lookA L) :=
 at_loop (by kernel_rfl) (fun _ => by kernel_rfl) (q28_l0 r) (by
  rintro k _ ⟨x0,x3,rfl,h⟩
  cases k with
  | zero => simp [g28_impl_Tile.l0] at h
  | succ k =>
   rw [g28_impl_Tile.l0] at h
   rcases ite_ h with ⟨g1,h2⟩ | ⟨g1,h2⟩
   ·obtain ⟨g3,h4⟩:=ip_ h2
    obtain ⟨g5,h6⟩:=ip_ h4
    obtain ⟨g7,h8⟩:=ip_ h6
    rcases ite_ h8 with ⟨g9,h10⟩ | ⟨g9,h10⟩
    ·exact leafAt (hn:=hn28) 21 [.val (.int .i64 (x0.length:Int)),.val (.bool true),.go,.elem (.agg [vi ((rd_T35 x0 x3).f0),vi ((rd_T35 x0 x3).f1)]),.val (.int .i64 (wrap64 (x3 - 1))),.go,.elem (.agg [vi ((rd_T35 x0 (wrap64 (x3 - 1))).f0),vi ((rd_T35 x0 (wrap64 (x3 - 1))).f1)]),.val (.bool true),.mut] [] (at28_l1 _ _ (q28_l1_mk (Nat.lt_succ_self k) h10)) (And.intro (And.intro (iS35_len (xs:=x0)) (int_lss (P:=Try.prog) (t:=3) (k:=.i64) (x:=(.tmp 10)) (y:=(.tmp 12)) (a:=x3) (b:=(x0.length:Int)) (v:=true) (decide_eq_true g1))) (And.intro (And.intro (iS35_lt (xs:=x0) (i:=x3) g3 g1) (And.intro (And.right (iS35_rd (xs:=x0) (i:=x3) g3 g1)) (And.intro (int_sub (P:=Try.prog) (t:=3) (k:=.i64) (x:=(.tmp 21)) (y:=(.const (.int .i64 1))) (a:=x3) (b:=1) (c:=(wrap64 (x3 - 1))) (IntWalk.i64_left _)) (And.intro (iS35_lt (xs:=x0) (i:=(wrap64 (x3 - 1))) g5 g7) (And.intro (And.right (iS35_rd (xs:=x0) (i:=(wrap64 (x3 - 1))) g5 g7)) (agg_35_eql (x:=(.tmp 19)) (y:=(.tmp 24)) (a0:=((rd_T35 x0 x3).f0)) (b0:=((rd_T35 x0 (wrap64 (x3 - 1))).f0)) (a1:=((rd_T35 x0 x3).f1)) (b1:=((rd_T35 x0 (wrap64 (x3 - 1))).f1)) (v:=true) g9)))))) (iS35_lt (xs:=x0) (i:=x3) g3 g1))) (by kernel_rfl)
    ·exact leafBack (hn:=hn28) 17 [.val (.int .i64 (x0.length:Int)),.val (.bool true),.go,.elem (.agg [vi ((rd_T35 x0 x3).f0),vi ((rd_T35 x0 x3).f1)]),.val (.int .i64 (wrap64 (x3 - 1))),.go,.elem (.agg [vi ((rd_T35 x0 (wrap64 (x3 - 1))).f0),vi ((rd_T35 x0 (wrap64 (x3 - 1))).f1)]),.val (.bool false),.val (.int .i64 (wrap64 (x3 + 1)))] [] (q28_l0_mk h10) (Nat.lt_succ_self k) (And.intro (And.intro (iS35_len (xs:=x0)) (int_lss (P:=Try.prog) (t:=3) (k:=.i64) (x:=(.tmp 10)) (y:=(.tmp 12)) (a:=x3) (b:=(x0.length:Int)) (v:=true) (decide_eq_true g1))) (And.intro (And.intro (iS35_lt (xs:=x0) (i:=x3) g3 g1) (And.intro (And.right (iS35_rd (xs:=x0) (i:=x3) g3 g1)) (And.intro (int_sub (P:=Try.prog) (t:=3) (k:=.i64) (x:=(.tmp 21)) (y:=(.const (.int .i64 1))) (a:=x3) (b:=1) (c:=(wrap64 (x3 - 1))) (IntWalk.i64_left _)) (And.intro (iS35_lt (xs:=x0) (i:=(wrap64 (x3 - 1))) g5 g7) (And.intro (And.right (iS35_rd (xs:=x0) (i:=(wrap64 (x3 - 1))) g5 g7)) (agg_35_eql (x:=(.tmp 19)) (y:=(.tmp 24)) (a0:=((rd_T35 x0 x3).f0)) (b0:=((rd_T35 x0 (wrap64 (x3 - 1))).f0)) (a1:=((rd_T35 x0 x3).f1)) (b1:=((rd_T35 x0 (wrap64 (x3 - 1))).f1)) (v:=false) (Bool.eq_false_iff.2 g9))))))) (int_add (P:=Try.prog) (t:=3) (k:=.i64) (x:=(.tmp 14)) (y:=(.const (.int .i64 1))) (a:=x3) (b:=1) (c:=(wrap64 (x3 + 1))) (IntWalk.i64_left _)))) (by kernel_rfl)
   ·obtain rfl:=Option.some.inj h2
    exact leafRet (hn:=hn28) 14 [.val (.int .i64 (x0.length:Int)),.val (.bool false),.fz 1000000] [] .ret (.inr rfl) (by kernel_rfl) (And.intro (iS35_len (xs:=x0)) (int_lss (P:=Try.prog) (t:=3) (k:=.i64) (x:=(.tmp 10)) (y:=(.tmp 12)) (a:=x3) (b:=(x0.length:Int)) (v:=false) (decide_eq_false g1))) (by kernel_rfl))
set_option maxRecDepth 100000 in
theorem ad_28 {k:Nat} {l0:List (S35)} {r:List (S35)} (h:g28_impl_Tile.f k l0 = some r):CallH Try.prog 28 [.row 1000000] [(1000000,.ow true 35 (iS35 l0))] (.sl (iS35 r)) []:=by
 unfold g28_impl_Tile.f at h
 refine call_ok (c:=bodyOf Try.f28) (rs:=o28 r) (post:=p28 r) Try.func28 rfl rfl rfl (by kernel_rfl) ?_
 show AtP Try.prog 61 (bodyOf Try.f28) (KR Try.prog Try.f28.results.toList (o28 r) (p28 r)) [] [] (lookA [(0,.row 1000000),(1000000,.ow true 35 (iS35 l0))])
 rcases ite_ h with ⟨g1,h2⟩ | ⟨g1,h2⟩
 ·obtain rfl:=Option.some.inj h2
  exact leafRet (hn:=hn28) 13 [.goT,.val (.int .i64 (l0.length:Int)),.val (.bool true),.fz 1000000] [] .ret (.inr rfl) (by kernel_rfl) (And.intro (iS35_len (xs:=l0)) (int_lss (P:=Try.prog) (t:=3) (k:=.i64) (x:=(.tmp 7)) (y:=(.const (.int .i64 2))) (a:=(l0.length:Int)) (b:=2) (v:=true) (decide_eq_true g1))) (by kernel_rfl)
 ·exact leafAt (hn:=hn28) 15 [.goT,.val (.int .i64 (l0.length:Int)),.val (.bool false)] [] (at28_l0 _ _ (q28_l0_mk h2)) (And.intro (iS35_len (xs:=l0)) (int_lss (P:=Try.prog) (t:=3) (k:=.i64) (x:=(.tmp 7)) (y:=(.const (.int .i64 2))) (a:=(l0.length:Int)) (b:=2) (v:=false) (decide_eq_false g1))) (by kernel_rfl)

def g6_impl_JoinHands.f (k:Nat) (l0:List (S35)) (l1:List (S35)):Option (List (S35) × Bool):=(impl_IsHand.f k l0).bind fun b1 => (if b1 = true then ((impl_IsHand.f k l1).bind fun b2 => (if b2 = true then ((slices_Concat_impl_Tile_impl_Tile.f k ([l0,l1])).bind fun b3 => ((impl_sorted.f b3).bind fun b4 => ((g28_impl_Tile.f k b4).bind fun b5 => (some (b5,true))))) else (some (([] : List (S35)),false)))) else (some (([] : List (S35)),false)))

def hn6:Hint:=⟨[(16,[36]),(18,[38])],[]⟩
def o6 (r:List (S35) × Bool):List AV:=[.sl (iS35 r.1),vb r.2]
def p6 (r:List (S35) × Bool):List (Nat × AV):=[]
set_option maxRecDepth 100000 in
theorem ad_6 {k:Nat} {l0:List (S35)} {l1:List (S35)} {r1:List (S35)} {r2:Bool} (h:g6_impl_JoinHands.f k l0 l1 = some (r1,r2)):CallH Try.prog 6 [.sl (iS35 l0),.sl (iS35 l1)] [] (.tup [.sl (iS35 r1),vb r2]) []:=by
 unfold g6_impl_JoinHands.f at h
 refine call_ok (c:=bodyOf Try.f6) (rs:=o6 (r1,r2)) (post:=p6 (r1,r2)) Try.func6 rfl rfl rfl (by kernel_rfl) ?_
 show AtP Try.prog 20 (bodyOf Try.f6) (KR Try.prog Try.f6.results.toList (o6 (r1,r2)) (p6 (r1,r2))) [] [] (lookA [(0,.sl (iS35 l0)),(1,.sl (iS35 l1))])
 obtain ⟨b1,c1,h2⟩:=bd_ h
 rcases ite_ h2 with ⟨g3,h4⟩ | ⟨g3,h4⟩
 ·subst g3
  obtain ⟨b2,c5,h6⟩:=bd_ h4
  rcases ite_ h6 with ⟨g7,h8⟩ | ⟨g7,h8⟩
  ·subst g7
   obtain ⟨b3,c9,h10⟩:=bd_ h8
   obtain ⟨b4,c11,h12⟩:=bd_ h10
   obtain ⟨b5,c13,h14⟩:=bd_ h12
   obtain ⟨rfl,rfl⟩:=pr2_ h14
   exact leafRet (hn:=hn6) 14 [.goT,.call (vb true),.call (vb true),.go,.call (.sl (iS35 b3)),.callH [] (.row 38) [(38,.ow true 35 (iS35 b4))],.callH [38] (.sl (iS35 b5)) []] [] .ret (.inr rfl) (by kernel_rfl) (And.intro (And.intro (ad_13 c1) (ad_13 c5)) (And.intro (ad_30 c9) (And.intro (CallH.ren [(500000,38)] rfl rfl (ad_29 c11)) (CallH.ren [(1000000,38)] rfl rfl (ad_28 c13))))) (by kernel_rfl)
  ·obtain rfl:=Bool.eq_false_iff.2 g7
   obtain ⟨rfl,rfl⟩:=pr2_ h8
   exact leafRet (hn:=hn6) 13 [.goT,.call (vb true),.call (vb false),.goT] [] .ret (.inr rfl) (by kernel_rfl) (And.intro (ad_13 c1) (ad_13 c5)) (by kernel_rfl)
 ·obtain rfl:=Bool.eq_false_iff.2 g3
  obtain ⟨rfl,rfl⟩:=pr2_ h4
  exact leafRet (hn:=hn6) 13 [.goT,.call (vb false),.goT] [] .ret (.inr rfl) (by kernel_rfl) (ad_13 c1) (by kernel_rfl)

def g34_impl_BothHands_1.f (k:Nat) (a0:Int) (a1:Int) (l2:List (S35)):Option (Bool):=(slices_Contains_impl_Tile_impl_Tile.f k l2 a0 a1).bind fun b1 => (some (b1))

def hn34:Hint:=⟨[(2,[9])],[]⟩
def o34 (r:Bool):List AV:=[vb r]
def p34 (r:Bool):List (Nat × AV):=[]
set_option maxRecDepth 100000 in
theorem ad_34 {k:Nat} {a0:Int} {a1:Int} {l2:List (S35)} {r:Bool} (h:g34_impl_BothHands_1.f k a0 a1 l2 = some r):CallH Try.prog 34 [.agg [vi a0,vi a1],.ptr (.sl (iS35 l2))] [] (vb r) []:=by
 unfold g34_impl_BothHands_1.f at h
 refine call_ok (c:=bodyOf Try.f34) (rs:=o34 r) (post:=p34 r) Try.func34 rfl rfl rfl (by kernel_rfl) ?_
 show AtP Try.prog 7 (bodyOf Try.f34) (KR Try.prog Try.f34.results.toList (o34 r) (p34 r)) [] [] (lookA [(0,.agg [vi a0,vi a1]),(1,.ptr (.sl (iS35 l2)))])
 obtain ⟨b1,c1,h2⟩:=bd_ h
 obtain rfl:=Option.some.inj h2
 exact leafRet (hn:=hn34) 7 [.call (vb b1)] [] .ret (.inr rfl) (by kernel_rfl) (ad_35 c1) (by kernel_rfl)

def g64_impl_kept_1.f (k:Nat) (a0:Int) (a1:Int) (l2:List (S35)):Option (Bool):=(g34_impl_BothHands_1.f k a0 a1 l2).bind fun b1 => (some ((!b1)))

def hn64:Hint:=⟨[(2,[10])],[]⟩
def o64 (r:Bool):List AV:=[vb r]
def p64 (r:Bool):List (Nat × AV):=[]
set_option maxRecDepth 100000 in
theorem ad_64 {k:Nat} {a0:Int} {a1:Int} {l2:List (S35)} {r:Bool} (h:g64_impl_kept_1.f k a0 a1 l2 = some r):CallH Try.prog 64 [.agg [vi a0,vi a1],.ptr (.fn 34 [.ptr (.sl (iS35 l2))])] [] (vb r) []:=by
 unfold g64_impl_kept_1.f at h
 refine call_ok (c:=bodyOf Try.f64) (rs:=o64 r) (post:=p64 r) Try.func64 rfl rfl rfl (by kernel_rfl) ?_
 show AtP Try.prog 8 (bodyOf Try.f64) (KR Try.prog Try.f64.results.toList (o64 r) (p64 r)) [] [] (lookA [(0,.agg [vi a0,vi a1]),(1,.ptr (.fn 34 [.ptr (.sl (iS35 l2))]))])
 obtain ⟨b1,c1,h2⟩:=bd_ h
 obtain rfl:=Option.some.inj h2
 exact leafRet (hn:=hn64) 7 [.call (vb b1)] [] .ret (.inr rfl) (by kernel_rfl) (ad_34 c1) (by kernel_rfl)

mutual
def g67_impl_Tile.l0:Nat → List (S35) → Int → Int → List (S35) → Option (Int)
  | 0,_,_,_,_ => none
  | k + 1,x0,x7,x8,l1 => if x8 < x7 then (if 0 ≤ x8 then (if x8 < (x0.length:Int) then ((g64_impl_kept_1.f k ((rd_T35 x0 x8).f0) ((rd_T35 x0 x8).f1) l1).bind fun b1 => (if b1 = true then (some (x8)) else (g67_impl_Tile.l0 k x0 x7 (wrap64 (x8 + 1)) l1))) else (none)) else (none)) else (some (-1))
end
def g67_impl_Tile.f (k:Nat) (l0:List (S35)) (l1:List (S35)):Option (Int):=g67_impl_Tile.l0 k l0 (l0.length:Int) 0 l1

def hn67:Hint:=⟨[],[]⟩
def o67 (r:Int):List AV:=[vi r]
def p67 (r:Int):List (Nat × AV):=[]
def q67_l0 (r:Int) (k:Nat) (L:List (Nat × AV)):Prop:=∃ (x0:List (S35)) (x7:Int) (x8:Int) (l1:List (S35)),L = [(0,.sl (iS35 x0)),(1,.fn 64 [.ptr (.fn 34 [.ptr (.sl (iS35 l1))])]),(7,vi x7),(8,vi x8)] ∧ g67_impl_Tile.l0 k x0 x7 x8 l1 = some r
theorem q67_l0_mk {r:Int} {k:Nat} {x0:List (S35)} {x7:Int} {x8:Int} {l1:List (S35)} (h:g67_impl_Tile.l0 k x0 x7 x8 l1 = some r):q67_l0 r k [(0,.sl (iS35 x0)),(1,.fn 64 [.ptr (.fn 34 [.ptr (.sl (iS35 l1))])]),(7,vi x7),(8,vi x8)]:=⟨x0,x7,x8,l1,rfl,h⟩
set_option maxRecDepth 100000 in
theorem at67_l0 {r:Int}:∀ k L,q67_l0 r k L → AtP Try.prog 19 (bodyOf Try.f67) (KR Try.prog Try.f67.results.toList (o67 r) (p67 r)) [true,false,true,false] [] (lookA L) :=
 at_loop (by kernel_rfl) (fun _ => by kernel_rfl) (q67_l0 r) (by
  rintro k _ ⟨x0,x7,x8,l1,rfl,h⟩
  cases k with
  | zero => simp [g67_impl_Tile.l0] at h
  | succ k =>
   rw [g67_impl_Tile.l0] at h
   rcases ite_ h with ⟨g1,h2⟩ | ⟨g1,h2⟩
   ·obtain ⟨g3,h4⟩:=ip_ h2
    obtain ⟨g5,h6⟩:=ip_ h4
    obtain ⟨b1,c7,h8⟩:=bd_ h6
    rcases ite_ h8 with ⟨g9,h10⟩ | ⟨g9,h10⟩
    ·subst g9
     obtain rfl:=Option.some.inj h10
     exact leafRet (hn:=hn67) 25 [.val (.bool true),.elem (.agg [vi ((rd_T35 x0 x8).f0),vi ((rd_T35 x0 x8).f1)]),.call (vb true)] [] .ret (.inr rfl) (by kernel_rfl) (And.intro (int_lss (P:=Try.prog) (t:=3) (k:=.i64) (x:=(.tmp 8)) (y:=(.tmp 7)) (a:=x8) (b:=x7) (v:=true) (decide_eq_true g1)) (And.intro (iS35_rd (xs:=x0) (i:=x8) g3 g5) (ad_64 c7))) (by kernel_rfl)
    ·obtain rfl:=Bool.eq_false_iff.2 g9
     exact leafBack (hn:=hn67) 20 [.val (.bool true),.elem (.agg [vi ((rd_T35 x0 x8).f0),vi ((rd_T35 x0 x8).f1)]),.call (vb false),.val (.int .i64 (wrap64 (x8 + 1)))] [] (q67_l0_mk h10) (Nat.lt_succ_self k) (And.intro (int_lss (P:=Try.prog) (t:=3) (k:=.i64) (x:=(.tmp 8)) (y:=(.tmp 7)) (a:=x8) (b:=x7) (v:=true) (decide_eq_true g1)) (And.intro (And.intro (iS35_rd (xs:=x0) (i:=x8) g3 g5) (ad_64 c7)) (int_add (P:=Try.prog) (t:=3) (k:=.i64) (x:=(.tmp 8)) (y:=(.const (.int .i64 1))) (a:=x8) (b:=1) (c:=(wrap64 (x8 + 1))) (IntWalk.i64_left _)))) (by kernel_rfl)
   ·obtain rfl:=Option.some.inj h2
    exact leafRet (hn:=hn67) 14 [.val (.bool false)] [] .ret (.inr rfl) (by kernel_rfl) (int_lss (P:=Try.prog) (t:=3) (k:=.i64) (x:=(.tmp 8)) (y:=(.tmp 7)) (a:=x8) (b:=x7) (v:=false) (decide_eq_false g1)) (by kernel_rfl))
set_option maxRecDepth 100000 in
theorem ad_67 {k:Nat} {l0:List (S35)} {l1:List (S35)} {r:Int} (h:g67_impl_Tile.f k l0 l1 = some r):CallH Try.prog 67 [.sl (iS35 l0),.fn 64 [.ptr (.fn 34 [.ptr (.sl (iS35 l1))])]] [] (vi r) []:=by
 unfold g67_impl_Tile.f at h
 refine call_ok (c:=bodyOf Try.f67) (rs:=o67 r) (post:=p67 r) Try.func67 rfl rfl rfl (by kernel_rfl) ?_
 show AtP Try.prog 19 (bodyOf Try.f67) (KR Try.prog Try.f67.results.toList (o67 r) (p67 r)) [] [] (lookA [(0,.sl (iS35 l0)),(1,.fn 64 [.ptr (.fn 34 [.ptr (.sl (iS35 l1))])])])
 exact leafAt (hn:=hn67) 8 [.val (.int .i64 (l0.length:Int))] [] (at67_l0 _ _ (q67_l0_mk h)) (iS35_len (xs:=l0)) (by kernel_rfl)

mutual
def g63_impl_Tile.l0:Nat → List (S35) → Int → Int → List (S35) → Option (List (S35))
  | 0,_,_,_,_ => none
  | k + 1,x0,x5,x6,l1 => if x6 < (x0.length:Int) then (if 0 ≤ x6 then ((g64_impl_kept_1.f k ((rd_T35 x0 x6).f0) ((rd_T35 x0 x6).f1) l1).bind fun b2 => (if b2 = true then (g63_impl_Tile.l0 k x0 x5 (wrap64 (x6 + 1)) l1) else (if 0 ≤ x5 then (if x5 < (x0.length:Int) then (g63_impl_Tile.l0 k (x0.set ((x5:Int).toNat) (⟨(rd_T35 x0 x6).f0,(rd_T35 x0 x6).f1⟩ : S35)) (wrap64 (x5 + 1)) (wrap64 (x6 + 1)) l1) else (none)) else (none)))) else (none)) else (if 0 ≤ x5 then (if x5 < (x0.length:Int) then (if x5 ≤ ((x0.take (x5:Int).toNat ++ List.replicate (x0.length - (x5:Int).toNat) z35).length:Int) then (some (((x0.take (x5:Int).toNat ++ List.replicate (x0.length - (x5:Int).toNat) z35).take (x5:Int).toNat))) else (none)) else (none)) else (none))
end
def g63_impl_Tile.f (k:Nat) (l0:List (S35)) (l1:List (S35)):Option (List (S35)):=(g67_impl_Tile.f k l0 l1).bind fun b1 => (if b1 = (-1) then (some (l0)) else (g63_impl_Tile.l0 k l0 b1 (wrap64 (b1 + 1)) l1))

def hn63:Hint:=⟨[(7,[49]),(8,[1000000]),(17,[1000000]),(22,[1000000]),(24,[1000000]),(30,[1000000]),(33,[1000000]),(36,[1000000]),(38,[1000000]),(39,[1000000])],[]⟩
def o63 (r:List (S35)):List AV:=[.sl (iS35 r)]
def p63 (r:List (S35)):List (Nat × AV):=[]
def q63_l0 (r:List (S35)) (k:Nat) (L:List (Nat × AV)):Prop:=∃ (x0:List (S35)) (x5:Int) (x6:Int) (l1:List (S35)),L = [(0,.row 1000000),(1,.fn 64 [.ptr (.fn 34 [.ptr (.sl (iS35 l1))])]),(5,vi x5),(6,vi x6),(1000000,.ow true 35 (iS35 x0))] ∧ g63_impl_Tile.l0 k x0 x5 x6 l1 = some r
theorem q63_l0_mk {r:List (S35)} {k:Nat} {x0:List (S35)} {x5:Int} {x6:Int} {l1:List (S35)} (h:g63_impl_Tile.l0 k x0 x5 x6 l1 = some r):q63_l0 r k [(0,.row 1000000),(1,.fn 64 [.ptr (.fn 34 [.ptr (.sl (iS35 l1))])]),(5,vi x5),(6,vi x6),(1000000,.ow true 35 (iS35 x0))]:=⟨x0,x5,x6,l1,rfl,h⟩
set_option maxRecDepth 100000 in
theorem at63_l0 {r:List (S35)}:∀ k L,q63_l0 r k L → AtP Try.prog 42 (bodyOf Try.f63) (KR Try.prog Try.f63.results.toList (o63 r) (p63 r)) [true,true,true,false,true,false] [] (lookA L) :=
 at_loop (by kernel_rfl) (fun _ => by kernel_rfl) (q63_l0 r) (by
  rintro k _ ⟨x0,x5,x6,l1,rfl,h⟩
  cases k with
  | zero => simp [g63_impl_Tile.l0] at h
  | succ k =>
   rw [g63_impl_Tile.l0] at h
   rcases ite_ h with ⟨g1,h2⟩ | ⟨g1,h2⟩
   ·obtain ⟨g3,h4⟩:=ip_ h2
    obtain ⟨b2,c5,h6⟩:=bd_ h4
    rcases ite_ h6 with ⟨g7,h8⟩ | ⟨g7,h8⟩
    ·subst g7
     exact leafBack (hn:=hn63) 20 [.val (.int .i64 (x0.length:Int)),.val (.bool true),.go,.elem (.agg [vi ((rd_T35 x0 x6).f0),vi ((rd_T35 x0 x6).f1)]),.call (vb true),.val (.int .i64 (wrap64 (x6 + 1)))] [] (q63_l0_mk h8) (Nat.lt_succ_self k) (And.intro (And.intro (iS35_len (xs:=x0)) (int_lss (P:=Try.prog) (t:=3) (k:=.i64) (x:=(.tmp 16)) (y:=(.tmp 18)) (a:=x6) (b:=(x0.length:Int)) (v:=true) (decide_eq_true g1))) (And.intro (And.intro (iS35_lt (xs:=x0) (i:=x6) g3 g1) (And.right (iS35_rd (xs:=x0) (i:=x6) g3 g1))) (And.intro (ad_64 c5) (int_add (P:=Try.prog) (t:=3) (k:=.i64) (x:=(.tmp 20)) (y:=(.const (.int .i64 1))) (a:=x6) (b:=1) (c:=(wrap64 (x6 + 1))) (IntWalk.i64_left _))))) (by kernel_rfl)
    ·obtain rfl:=Bool.eq_false_iff.2 g7
     obtain ⟨g9,h10⟩:=ip_ h8
     obtain ⟨g11,h12⟩:=ip_ h10
     exact leafBack (hn:=hn63) 23 [.val (.int .i64 (x0.length:Int)),.val (.bool true),.go,.elem (.agg [vi ((rd_T35 x0 x6).f0),vi ((rd_T35 x0 x6).f1)]),.call (vb false),.go,.elem (.agg [vi ((rd_T35 x0 x5).f0),vi ((rd_T35 x0 x5).f1)]),.elem (.ow true 35 (iS35 (x0.set ((x5:Int).toNat) (⟨(rd_T35 x0 x6).f0,(rd_T35 x0 x6).f1⟩ : S35)))),.val (.int .i64 (wrap64 (x5 + 1))),.val (.int .i64 (wrap64 (x6 + 1)))] [] (q63_l0_mk h12) (Nat.lt_succ_self k) (And.intro (And.intro (iS35_len (xs:=x0)) (int_lss (P:=Try.prog) (t:=3) (k:=.i64) (x:=(.tmp 16)) (y:=(.tmp 18)) (a:=x6) (b:=(x0.length:Int)) (v:=true) (decide_eq_true g1))) (And.intro (And.intro (iS35_lt (xs:=x0) (i:=x6) g3 g1) (And.right (iS35_rd (xs:=x0) (i:=x6) g3 g1))) (And.intro (ad_64 c5) (And.intro (And.intro (iS35_lt (xs:=x0) (i:=x5) g9 g11) (iS35_set (xs:=x0) (i:=x5) (x:=(⟨(rd_T35 x0 x6).f0,(rd_T35 x0 x6).f1⟩ : S35)) g9 g11)) (And.intro (int_add (P:=Try.prog) (t:=3) (k:=.i64) (x:=(.tmp 34)) (y:=(.const (.int .i64 1))) (a:=x5) (b:=1) (c:=(wrap64 (x5 + 1))) (IntWalk.i64_left _)) (int_add (P:=Try.prog) (t:=3) (k:=.i64) (x:=(.tmp 20)) (y:=(.const (.int .i64 1))) (a:=x6) (b:=1) (c:=(wrap64 (x6 + 1))) (IntWalk.i64_left _))))))) (by kernel_rfl)
   ·obtain ⟨g13,h14⟩:=ip_ h2
    obtain ⟨g15,h16⟩:=ip_ h14
    obtain ⟨g17,h18⟩:=ip_ h16
    obtain rfl:=Option.some.inj h18
    exact leafRet (hn:=hn63) 17 [.val (.int .i64 (x0.length:Int)),.val (.bool false),.mut,.elem (.ow true 35 (iS35 (x0.take (x5:Int).toNat ++ List.replicate (x0.length - (x5:Int).toNat) z35))),.fz 1000000,.elem (.sl (iS35 ((x0.take (x5:Int).toNat ++ List.replicate (x0.length - (x5:Int).toNat) z35).take (x5:Int).toNat)))] [] .ret (.inr rfl) (by kernel_rfl) (And.intro (And.intro (iS35_len (xs:=x0)) (int_lss (P:=Try.prog) (t:=3) (k:=.i64) (x:=(.tmp 16)) (y:=(.tmp 18)) (a:=x6) (b:=(x0.length:Int)) (v:=false) (decide_eq_false g1))) (And.intro (And.intro (iS35_lt (xs:=x0) (i:=x5) g13 g15) (iS35_clr (xs:=x0) (i:=x5) g13 g15)) (iS35_take (xs:=(x0.take (x5:Int).toNat ++ List.replicate (x0.length - (x5:Int).toNat) z35)) (b:=x5) g13 g17))) (by kernel_rfl))
set_option maxRecDepth 100000 in
theorem ad_63 {k:Nat} {l0:List (S35)} {l1:List (S35)} {r:List (S35)} (h:g63_impl_Tile.f k l0 l1 = some r):CallH Try.prog 63 [.row 1000000,.fn 64 [.ptr (.fn 34 [.ptr (.sl (iS35 l1))])]] [(1000000,.ow true 35 (iS35 l0))] (.sl (iS35 r)) []:=by
 unfold g63_impl_Tile.f at h
 refine call_ok (c:=bodyOf Try.f63) (rs:=o63 r) (post:=p63 r) Try.func63 rfl rfl rfl (by kernel_rfl) ?_
 show AtP Try.prog 42 (bodyOf Try.f63) (KR Try.prog Try.f63.results.toList (o63 r) (p63 r)) [] [] (lookA [(0,.row 1000000),(1,.fn 64 [.ptr (.fn 34 [.ptr (.sl (iS35 l1))])]),(1000000,.ow true 35 (iS35 l0))])
 obtain ⟨b1,c1,h2⟩:=bd_ h
 rcases ite_ h2 with ⟨g3,h4⟩ | ⟨g3,h4⟩
 ·obtain rfl:=Option.some.inj h4
  exact leafRet (hn:=hn63) 16 [.goT,.callT (vi b1),.val (.bool true),.fz 1000000] [] .ret (.inr rfl) (by kernel_rfl) (And.intro (ad_67 c1) (int_eql (P:=Try.prog) (t:=3) (k:=.i64) (x:=(.tmp 11)) (y:=(.const (.int .i64 (-1)))) (a:=b1) (b:=(-1)) (v:=true) (beq_iff_eq.2 g3))) (by kernel_rfl)
 ·exact leafAt (hn:=hn63) 18 [.goT,.callT (vi b1),.val (.bool false),.val (.int .i64 (wrap64 (b1 + 1)))] [] (at63_l0 _ _ (q63_l0_mk h4)) (And.intro (ad_67 c1) (And.intro (int_eql (P:=Try.prog) (t:=3) (k:=.i64) (x:=(.tmp 11)) (y:=(.const (.int .i64 (-1)))) (a:=b1) (b:=(-1)) (v:=false) (beq_false_of_ne g3)) (int_add (P:=Try.prog) (t:=3) (k:=.i64) (x:=(.tmp 14)) (y:=(.const (.int .i64 1))) (a:=b1) (b:=1) (c:=(wrap64 (b1 + 1))) (IntWalk.i64_left _)))) (by kernel_rfl)

def g33_impl_kept.f (k:Nat) (l0:List (S35)) (l1:List (S35)):Option (List (S35)):=(impl_sorted.f l0).bind fun b1 => ((g63_impl_Tile.f k b1 l1).bind fun b2 => (some (b2)))

def hn33:Hint:=⟨[(6,[15]),(7,[12])],[]⟩
def o33 (r:List (S35)):List AV:=[.sl (iS35 r)]
def p33 (r:List (S35)):List (Nat × AV):=[]
set_option maxRecDepth 100000 in
theorem ad_33 {k:Nat} {l0:List (S35)} {l1:List (S35)} {r:List (S35)} (h:g33_impl_kept.f k l0 l1 = some r):CallH Try.prog 33 [.sl (iS35 l0),.fn 34 [.ptr (.sl (iS35 l1))]] [] (.sl (iS35 r)) []:=by
 unfold g33_impl_kept.f at h
 refine call_ok (c:=bodyOf Try.f33) (rs:=o33 r) (post:=p33 r) Try.func33 rfl rfl rfl (by kernel_rfl) ?_
 show AtP Try.prog 9 (bodyOf Try.f33) (KR Try.prog Try.f33.results.toList (o33 r) (p33 r)) [] [] (lookA [(0,.sl (iS35 l0)),(1,.fn 34 [.ptr (.sl (iS35 l1))])])
 obtain ⟨b1,c1,h2⟩:=bd_ h
 obtain ⟨b2,c3,h4⟩:=bd_ h2
 obtain rfl:=Option.some.inj h4
 exact leafRet (hn:=hn33) 7 [.goT,.fz 12,.callH [] (.row 15) [(15,.ow true 35 (iS35 b1))],.callH [15] (.sl (iS35 b2)) []] [] .ret (.inr rfl) (by kernel_rfl) (And.intro (CallH.ren [(500000,15)] rfl rfl (ad_29 c1)) (CallH.ren [(1000000,15)] rfl rfl (ad_63 c3))) (by kernel_rfl)

def g8_impl_BothHands.f (k:Nat) (l0:List (S35)) (l1:List (S35)):Option (List (S35) × Bool):=(impl_IsHand.f k l0).bind fun b1 => (if b1 = true then ((impl_IsHand.f k l1).bind fun b2 => (if b2 = true then ((g33_impl_kept.f k l0 l1).bind fun b3 => (some (b3,true))) else (some (([] : List (S35)),false)))) else (some (([] : List (S35)),false)))

def hn8:Hint:=⟨[(3,[20]),(15,[20])],[]⟩
def o8 (r:List (S35) × Bool):List AV:=[.sl (iS35 r.1),vb r.2]
def p8 (r:List (S35) × Bool):List (Nat × AV):=[]
set_option maxRecDepth 100000 in
theorem ad_8 {k:Nat} {l0:List (S35)} {l1:List (S35)} {r1:List (S35)} {r2:Bool} (h:g8_impl_BothHands.f k l0 l1 = some (r1,r2)):CallH Try.prog 8 [.sl (iS35 l0),.sl (iS35 l1)] [] (.tup [.sl (iS35 r1),vb r2]) []:=by
 unfold g8_impl_BothHands.f at h
 refine call_ok (c:=bodyOf Try.f8) (rs:=o8 (r1,r2)) (post:=p8 (r1,r2)) Try.func8 rfl rfl rfl (by kernel_rfl) ?_
 show AtP Try.prog 17 (bodyOf Try.f8) (KR Try.prog Try.f8.results.toList (o8 (r1,r2)) (p8 (r1,r2))) [] [] (lookA [(0,.sl (iS35 l0)),(1,.sl (iS35 l1))])
 obtain ⟨b1,c1,h2⟩:=bd_ h
 rcases ite_ h2 with ⟨g3,h4⟩ | ⟨g3,h4⟩
 ·subst g3
  obtain ⟨b2,c5,h6⟩:=bd_ h4
  rcases ite_ h6 with ⟨g7,h8⟩ | ⟨g7,h8⟩
  ·subst g7
   obtain ⟨b3,c9,h10⟩:=bd_ h8
   obtain ⟨rfl,rfl⟩:=pr2_ h10
   exact leafRet (hn:=hn8) 14 [.goT,.call (vb true),.call (vb true),.fz 20,.call (.sl (iS35 b3))] [] .ret (.inr rfl) (by kernel_rfl) (And.intro (And.intro (ad_13 c1) (ad_13 c5)) (ad_33 c9)) (by kernel_rfl)
  ·obtain rfl:=Bool.eq_false_iff.2 g7
   obtain ⟨rfl,rfl⟩:=pr2_ h8
   exact leafRet (hn:=hn8) 13 [.goT,.call (vb true),.call (vb false),.goT] [] .ret (.inr rfl) (by kernel_rfl) (And.intro (ad_13 c1) (ad_13 c5)) (by kernel_rfl)
 ·obtain rfl:=Bool.eq_false_iff.2 g3
  obtain ⟨rfl,rfl⟩:=pr2_ h4
  exact leafRet (hn:=hn8) 13 [.goT,.call (vb false),.goT] [] .ret (.inr rfl) (by kernel_rfl) (ad_13 c1) (by kernel_rfl)

def g66_impl_less_1.f (k:Nat) (a0:Int) (a1:Int) (l2:List (S35)):Option (Bool):=(slices_Contains_impl_Tile_impl_Tile.f k l2 a0 a1).bind fun b1 => (some ((!b1)))

def hn66:Hint:=⟨[(2,[10])],[]⟩
def o66 (r:Bool):List AV:=[vb r]
def p66 (r:Bool):List (Nat × AV):=[]
set_option maxRecDepth 100000 in
theorem ad_66 {k:Nat} {a0:Int} {a1:Int} {l2:List (S35)} {r:Bool} (h:g66_impl_less_1.f k a0 a1 l2 = some r):CallH Try.prog 66 [.agg [vi a0,vi a1],.ptr (.sl (iS35 l2))] [] (vb r) []:=by
 unfold g66_impl_less_1.f at h
 refine call_ok (c:=bodyOf Try.f66) (rs:=o66 r) (post:=p66 r) Try.func66 rfl rfl rfl (by kernel_rfl) ?_
 show AtP Try.prog 8 (bodyOf Try.f66) (KR Try.prog Try.f66.results.toList (o66 r) (p66 r)) [] [] (lookA [(0,.agg [vi a0,vi a1]),(1,.ptr (.sl (iS35 l2)))])
 obtain ⟨b1,c1,h2⟩:=bd_ h
 obtain rfl:=Option.some.inj h2
 exact leafRet (hn:=hn66) 7 [.call (vb b1)] [] .ret (.inr rfl) (by kernel_rfl) (ad_35 c1) (by kernel_rfl)

def g100064_impl_kept_1_v1.f (k:Nat) (a0:Int) (a1:Int) (l2:List (S35)):Option (Bool):=(g66_impl_less_1.f k a0 a1 l2).bind fun b1 => (some ((!b1)))

def hn100064:Hint:=⟨[(2,[10])],[]⟩
def o100064 (r:Bool):List AV:=[vb r]
def p100064 (r:Bool):List (Nat × AV):=[]
set_option maxRecDepth 100000 in
theorem ad_100064 {k:Nat} {a0:Int} {a1:Int} {l2:List (S35)} {r:Bool} (h:g100064_impl_kept_1_v1.f k a0 a1 l2 = some r):CallH Try.prog 64 [.agg [vi a0,vi a1],.ptr (.fn 66 [.ptr (.sl (iS35 l2))])] [] (vb r) []:=by
 unfold g100064_impl_kept_1_v1.f at h
 refine call_ok (c:=bodyOf Try.f64) (rs:=o100064 r) (post:=p100064 r) Try.func64 rfl rfl rfl (by kernel_rfl) ?_
 show AtP Try.prog 8 (bodyOf Try.f64) (KR Try.prog Try.f64.results.toList (o100064 r) (p100064 r)) [] [] (lookA [(0,.agg [vi a0,vi a1]),(1,.ptr (.fn 66 [.ptr (.sl (iS35 l2))]))])
 obtain ⟨b1,c1,h2⟩:=bd_ h
 obtain rfl:=Option.some.inj h2
 exact leafRet (hn:=hn100064) 7 [.call (vb b1)] [] .ret (.inr rfl) (by kernel_rfl) (ad_66 c1) (by kernel_rfl)

mutual
def g100067_impl_Tile__v1.l0:Nat → List (S35) → Int → Int → List (S35) → Option (Int)
  | 0,_,_,_,_ => none
  | k + 1,x0,x7,x8,l1 => if x8 < x7 then (if 0 ≤ x8 then (if x8 < (x0.length:Int) then ((g100064_impl_kept_1_v1.f k ((rd_T35 x0 x8).f0) ((rd_T35 x0 x8).f1) l1).bind fun b1 => (if b1 = true then (some (x8)) else (g100067_impl_Tile__v1.l0 k x0 x7 (wrap64 (x8 + 1)) l1))) else (none)) else (none)) else (some (-1))
end
def g100067_impl_Tile__v1.f (k:Nat) (l0:List (S35)) (l1:List (S35)):Option (Int):=g100067_impl_Tile__v1.l0 k l0 (l0.length:Int) 0 l1

def hn100067:Hint:=⟨[],[]⟩
def o100067 (r:Int):List AV:=[vi r]
def p100067 (r:Int):List (Nat × AV):=[]
def q100067_l0 (r:Int) (k:Nat) (L:List (Nat × AV)):Prop:=∃ (x0:List (S35)) (x7:Int) (x8:Int) (l1:List (S35)),L = [(0,.sl (iS35 x0)),(1,.fn 64 [.ptr (.fn 66 [.ptr (.sl (iS35 l1))])]),(7,vi x7),(8,vi x8)] ∧ g100067_impl_Tile__v1.l0 k x0 x7 x8 l1 = some r
theorem q100067_l0_mk {r:Int} {k:Nat} {x0:List (S35)} {x7:Int} {x8:Int} {l1:List (S35)} (h:g100067_impl_Tile__v1.l0 k x0 x7 x8 l1 = some r):q100067_l0 r k [(0,.sl (iS35 x0)),(1,.fn 64 [.ptr (.fn 66 [.ptr (.sl (iS35 l1))])]),(7,vi x7),(8,vi x8)]:=⟨x0,x7,x8,l1,rfl,h⟩
set_option maxRecDepth 100000 in
theorem at100067_l0 {r:Int}:∀ k L,q100067_l0 r k L → AtP Try.prog 19 (bodyOf Try.f67) (KR Try.prog Try.f67.results.toList (o100067 r) (p100067 r)) [true,false,true,false] [] (lookA L) :=
 at_loop (by kernel_rfl) (fun _ => by kernel_rfl) (q100067_l0 r) (by
  rintro k _ ⟨x0,x7,x8,l1,rfl,h⟩
  cases k with
  | zero => simp [g100067_impl_Tile__v1.l0] at h
  | succ k =>
   rw [g100067_impl_Tile__v1.l0] at h
   rcases ite_ h with ⟨g1,h2⟩ | ⟨g1,h2⟩
   ·obtain ⟨g3,h4⟩:=ip_ h2
    obtain ⟨g5,h6⟩:=ip_ h4
    obtain ⟨b1,c7,h8⟩:=bd_ h6
    rcases ite_ h8 with ⟨g9,h10⟩ | ⟨g9,h10⟩
    ·subst g9
     obtain rfl:=Option.some.inj h10
     exact leafRet (hn:=hn100067) 25 [.val (.bool true),.elem (.agg [vi ((rd_T35 x0 x8).f0),vi ((rd_T35 x0 x8).f1)]),.call (vb true)] [] .ret (.inr rfl) (by kernel_rfl) (And.intro (int_lss (P:=Try.prog) (t:=3) (k:=.i64) (x:=(.tmp 8)) (y:=(.tmp 7)) (a:=x8) (b:=x7) (v:=true) (decide_eq_true g1)) (And.intro (iS35_rd (xs:=x0) (i:=x8) g3 g5) (ad_100064 c7))) (by kernel_rfl)
    ·obtain rfl:=Bool.eq_false_iff.2 g9
     exact leafBack (hn:=hn100067) 20 [.val (.bool true),.elem (.agg [vi ((rd_T35 x0 x8).f0),vi ((rd_T35 x0 x8).f1)]),.call (vb false),.val (.int .i64 (wrap64 (x8 + 1)))] [] (q100067_l0_mk h10) (Nat.lt_succ_self k) (And.intro (int_lss (P:=Try.prog) (t:=3) (k:=.i64) (x:=(.tmp 8)) (y:=(.tmp 7)) (a:=x8) (b:=x7) (v:=true) (decide_eq_true g1)) (And.intro (And.intro (iS35_rd (xs:=x0) (i:=x8) g3 g5) (ad_100064 c7)) (int_add (P:=Try.prog) (t:=3) (k:=.i64) (x:=(.tmp 8)) (y:=(.const (.int .i64 1))) (a:=x8) (b:=1) (c:=(wrap64 (x8 + 1))) (IntWalk.i64_left _)))) (by kernel_rfl)
   ·obtain rfl:=Option.some.inj h2
    exact leafRet (hn:=hn100067) 14 [.val (.bool false)] [] .ret (.inr rfl) (by kernel_rfl) (int_lss (P:=Try.prog) (t:=3) (k:=.i64) (x:=(.tmp 8)) (y:=(.tmp 7)) (a:=x8) (b:=x7) (v:=false) (decide_eq_false g1)) (by kernel_rfl))
set_option maxRecDepth 100000 in
theorem ad_100067 {k:Nat} {l0:List (S35)} {l1:List (S35)} {r:Int} (h:g100067_impl_Tile__v1.f k l0 l1 = some r):CallH Try.prog 67 [.sl (iS35 l0),.fn 64 [.ptr (.fn 66 [.ptr (.sl (iS35 l1))])]] [] (vi r) []:=by
 unfold g100067_impl_Tile__v1.f at h
 refine call_ok (c:=bodyOf Try.f67) (rs:=o100067 r) (post:=p100067 r) Try.func67 rfl rfl rfl (by kernel_rfl) ?_
 show AtP Try.prog 19 (bodyOf Try.f67) (KR Try.prog Try.f67.results.toList (o100067 r) (p100067 r)) [] [] (lookA [(0,.sl (iS35 l0)),(1,.fn 64 [.ptr (.fn 66 [.ptr (.sl (iS35 l1))])])])
 exact leafAt (hn:=hn100067) 8 [.val (.int .i64 (l0.length:Int))] [] (at100067_l0 _ _ (q100067_l0_mk h)) (iS35_len (xs:=l0)) (by kernel_rfl)

mutual
def g100063_impl_Tile__v1.l0:Nat → List (S35) → Int → Int → List (S35) → Option (List (S35))
  | 0,_,_,_,_ => none
  | k + 1,x0,x5,x6,l1 => if x6 < (x0.length:Int) then (if 0 ≤ x6 then ((g100064_impl_kept_1_v1.f k ((rd_T35 x0 x6).f0) ((rd_T35 x0 x6).f1) l1).bind fun b2 => (if b2 = true then (g100063_impl_Tile__v1.l0 k x0 x5 (wrap64 (x6 + 1)) l1) else (if 0 ≤ x5 then (if x5 < (x0.length:Int) then (g100063_impl_Tile__v1.l0 k (x0.set ((x5:Int).toNat) (⟨(rd_T35 x0 x6).f0,(rd_T35 x0 x6).f1⟩ : S35)) (wrap64 (x5 + 1)) (wrap64 (x6 + 1)) l1) else (none)) else (none)))) else (none)) else (if 0 ≤ x5 then (if x5 < (x0.length:Int) then (if x5 ≤ ((x0.take (x5:Int).toNat ++ List.replicate (x0.length - (x5:Int).toNat) z35).length:Int) then (some (((x0.take (x5:Int).toNat ++ List.replicate (x0.length - (x5:Int).toNat) z35).take (x5:Int).toNat))) else (none)) else (none)) else (none))
end
def g100063_impl_Tile__v1.f (k:Nat) (l0:List (S35)) (l1:List (S35)):Option (List (S35)):=(g100067_impl_Tile__v1.f k l0 l1).bind fun b1 => (if b1 = (-1) then (some (l0)) else (g100063_impl_Tile__v1.l0 k l0 b1 (wrap64 (b1 + 1)) l1))

def hn100063:Hint:=⟨[(7,[49]),(8,[1000000]),(17,[1000000]),(22,[1000000]),(24,[1000000]),(30,[1000000]),(33,[1000000]),(36,[1000000]),(38,[1000000]),(39,[1000000])],[]⟩
def o100063 (r:List (S35)):List AV:=[.sl (iS35 r)]
def p100063 (r:List (S35)):List (Nat × AV):=[]
def q100063_l0 (r:List (S35)) (k:Nat) (L:List (Nat × AV)):Prop:=∃ (x0:List (S35)) (x5:Int) (x6:Int) (l1:List (S35)),L = [(0,.row 1000000),(1,.fn 64 [.ptr (.fn 66 [.ptr (.sl (iS35 l1))])]),(5,vi x5),(6,vi x6),(1000000,.ow true 35 (iS35 x0))] ∧ g100063_impl_Tile__v1.l0 k x0 x5 x6 l1 = some r
theorem q100063_l0_mk {r:List (S35)} {k:Nat} {x0:List (S35)} {x5:Int} {x6:Int} {l1:List (S35)} (h:g100063_impl_Tile__v1.l0 k x0 x5 x6 l1 = some r):q100063_l0 r k [(0,.row 1000000),(1,.fn 64 [.ptr (.fn 66 [.ptr (.sl (iS35 l1))])]),(5,vi x5),(6,vi x6),(1000000,.ow true 35 (iS35 x0))]:=⟨x0,x5,x6,l1,rfl,h⟩
set_option maxRecDepth 100000 in
theorem at100063_l0 {r:List (S35)}:∀ k L,q100063_l0 r k L → AtP Try.prog 42 (bodyOf Try.f63) (KR Try.prog Try.f63.results.toList (o100063 r) (p100063 r)) [true,true,true,false,true,false] [] (lookA L) :=
 at_loop (by kernel_rfl) (fun _ => by kernel_rfl) (q100063_l0 r) (by
  rintro k _ ⟨x0,x5,x6,l1,rfl,h⟩
  cases k with
  | zero => simp [g100063_impl_Tile__v1.l0] at h
  | succ k =>
   rw [g100063_impl_Tile__v1.l0] at h
   rcases ite_ h with ⟨g1,h2⟩ | ⟨g1,h2⟩
   ·obtain ⟨g3,h4⟩:=ip_ h2
    obtain ⟨b2,c5,h6⟩:=bd_ h4
    rcases ite_ h6 with ⟨g7,h8⟩ | ⟨g7,h8⟩
    ·subst g7
     exact leafBack (hn:=hn100063) 20 [.val (.int .i64 (x0.length:Int)),.val (.bool true),.go,.elem (.agg [vi ((rd_T35 x0 x6).f0),vi ((rd_T35 x0 x6).f1)]),.call (vb true),.val (.int .i64 (wrap64 (x6 + 1)))] [] (q100063_l0_mk h8) (Nat.lt_succ_self k) (And.intro (And.intro (iS35_len (xs:=x0)) (int_lss (P:=Try.prog) (t:=3) (k:=.i64) (x:=(.tmp 16)) (y:=(.tmp 18)) (a:=x6) (b:=(x0.length:Int)) (v:=true) (decide_eq_true g1))) (And.intro (And.intro (iS35_lt (xs:=x0) (i:=x6) g3 g1) (And.right (iS35_rd (xs:=x0) (i:=x6) g3 g1))) (And.intro (ad_100064 c5) (int_add (P:=Try.prog) (t:=3) (k:=.i64) (x:=(.tmp 20)) (y:=(.const (.int .i64 1))) (a:=x6) (b:=1) (c:=(wrap64 (x6 + 1))) (IntWalk.i64_left _))))) (by kernel_rfl)
    ·obtain rfl:=Bool.eq_false_iff.2 g7
     obtain ⟨g9,h10⟩:=ip_ h8
     obtain ⟨g11,h12⟩:=ip_ h10
     exact leafBack (hn:=hn100063) 23 [.val (.int .i64 (x0.length:Int)),.val (.bool true),.go,.elem (.agg [vi ((rd_T35 x0 x6).f0),vi ((rd_T35 x0 x6).f1)]),.call (vb false),.go,.elem (.agg [vi ((rd_T35 x0 x5).f0),vi ((rd_T35 x0 x5).f1)]),.elem (.ow true 35 (iS35 (x0.set ((x5:Int).toNat) (⟨(rd_T35 x0 x6).f0,(rd_T35 x0 x6).f1⟩ : S35)))),.val (.int .i64 (wrap64 (x5 + 1))),.val (.int .i64 (wrap64 (x6 + 1)))] [] (q100063_l0_mk h12) (Nat.lt_succ_self k) (And.intro (And.intro (iS35_len (xs:=x0)) (int_lss (P:=Try.prog) (t:=3) (k:=.i64) (x:=(.tmp 16)) (y:=(.tmp 18)) (a:=x6) (b:=(x0.length:Int)) (v:=true) (decide_eq_true g1))) (And.intro (And.intro (iS35_lt (xs:=x0) (i:=x6) g3 g1) (And.right (iS35_rd (xs:=x0) (i:=x6) g3 g1))) (And.intro (ad_100064 c5) (And.intro (And.intro (iS35_lt (xs:=x0) (i:=x5) g9 g11) (iS35_set (xs:=x0) (i:=x5) (x:=(⟨(rd_T35 x0 x6).f0,(rd_T35 x0 x6).f1⟩ : S35)) g9 g11)) (And.intro (int_add (P:=Try.prog) (t:=3) (k:=.i64) (x:=(.tmp 34)) (y:=(.const (.int .i64 1))) (a:=x5) (b:=1) (c:=(wrap64 (x5 + 1))) (IntWalk.i64_left _)) (int_add (P:=Try.prog) (t:=3) (k:=.i64) (x:=(.tmp 20)) (y:=(.const (.int .i64 1))) (a:=x6) (b:=1) (c:=(wrap64 (x6 + 1))) (IntWalk.i64_left _))))))) (by kernel_rfl)
   ·obtain ⟨g13,h14⟩:=ip_ h2
    obtain ⟨g15,h16⟩:=ip_ h14
    obtain ⟨g17,h18⟩:=ip_ h16
    obtain rfl:=Option.some.inj h18
    exact leafRet (hn:=hn100063) 17 [.val (.int .i64 (x0.length:Int)),.val (.bool false),.mut,.elem (.ow true 35 (iS35 (x0.take (x5:Int).toNat ++ List.replicate (x0.length - (x5:Int).toNat) z35))),.fz 1000000,.elem (.sl (iS35 ((x0.take (x5:Int).toNat ++ List.replicate (x0.length - (x5:Int).toNat) z35).take (x5:Int).toNat)))] [] .ret (.inr rfl) (by kernel_rfl) (And.intro (And.intro (iS35_len (xs:=x0)) (int_lss (P:=Try.prog) (t:=3) (k:=.i64) (x:=(.tmp 16)) (y:=(.tmp 18)) (a:=x6) (b:=(x0.length:Int)) (v:=false) (decide_eq_false g1))) (And.intro (And.intro (iS35_lt (xs:=x0) (i:=x5) g13 g15) (iS35_clr (xs:=x0) (i:=x5) g13 g15)) (iS35_take (xs:=(x0.take (x5:Int).toNat ++ List.replicate (x0.length - (x5:Int).toNat) z35)) (b:=x5) g13 g17))) (by kernel_rfl))
set_option maxRecDepth 100000 in
theorem ad_100063 {k:Nat} {l0:List (S35)} {l1:List (S35)} {r:List (S35)} (h:g100063_impl_Tile__v1.f k l0 l1 = some r):CallH Try.prog 63 [.row 1000000,.fn 64 [.ptr (.fn 66 [.ptr (.sl (iS35 l1))])]] [(1000000,.ow true 35 (iS35 l0))] (.sl (iS35 r)) []:=by
 unfold g100063_impl_Tile__v1.f at h
 refine call_ok (c:=bodyOf Try.f63) (rs:=o100063 r) (post:=p100063 r) Try.func63 rfl rfl rfl (by kernel_rfl) ?_
 show AtP Try.prog 42 (bodyOf Try.f63) (KR Try.prog Try.f63.results.toList (o100063 r) (p100063 r)) [] [] (lookA [(0,.row 1000000),(1,.fn 64 [.ptr (.fn 66 [.ptr (.sl (iS35 l1))])]),(1000000,.ow true 35 (iS35 l0))])
 obtain ⟨b1,c1,h2⟩:=bd_ h
 rcases ite_ h2 with ⟨g3,h4⟩ | ⟨g3,h4⟩
 ·obtain rfl:=Option.some.inj h4
  exact leafRet (hn:=hn100063) 16 [.goT,.callT (vi b1),.val (.bool true),.fz 1000000] [] .ret (.inr rfl) (by kernel_rfl) (And.intro (ad_100067 c1) (int_eql (P:=Try.prog) (t:=3) (k:=.i64) (x:=(.tmp 11)) (y:=(.const (.int .i64 (-1)))) (a:=b1) (b:=(-1)) (v:=true) (beq_iff_eq.2 g3))) (by kernel_rfl)
 ·exact leafAt (hn:=hn100063) 18 [.goT,.callT (vi b1),.val (.bool false),.val (.int .i64 (wrap64 (b1 + 1)))] [] (at100063_l0 _ _ (q100063_l0_mk h4)) (And.intro (ad_100067 c1) (And.intro (int_eql (P:=Try.prog) (t:=3) (k:=.i64) (x:=(.tmp 11)) (y:=(.const (.int .i64 (-1)))) (a:=b1) (b:=(-1)) (v:=false) (beq_false_of_ne g3)) (int_add (P:=Try.prog) (t:=3) (k:=.i64) (x:=(.tmp 14)) (y:=(.const (.int .i64 1))) (a:=b1) (b:=1) (c:=(wrap64 (b1 + 1))) (IntWalk.i64_left _)))) (by kernel_rfl)

def g100033_impl_kept_v1.f (k:Nat) (l0:List (S35)) (l1:List (S35)):Option (List (S35)):=(impl_sorted.f l0).bind fun b1 => ((g100063_impl_Tile__v1.f k b1 l1).bind fun b2 => (some (b2)))

def hn100033:Hint:=⟨[(6,[15]),(7,[12])],[]⟩
def o100033 (r:List (S35)):List AV:=[.sl (iS35 r)]
def p100033 (r:List (S35)):List (Nat × AV):=[]
set_option maxRecDepth 100000 in
theorem ad_100033 {k:Nat} {l0:List (S35)} {l1:List (S35)} {r:List (S35)} (h:g100033_impl_kept_v1.f k l0 l1 = some r):CallH Try.prog 33 [.sl (iS35 l0),.fn 66 [.ptr (.sl (iS35 l1))]] [] (.sl (iS35 r)) []:=by
 unfold g100033_impl_kept_v1.f at h
 refine call_ok (c:=bodyOf Try.f33) (rs:=o100033 r) (post:=p100033 r) Try.func33 rfl rfl rfl (by kernel_rfl) ?_
 show AtP Try.prog 9 (bodyOf Try.f33) (KR Try.prog Try.f33.results.toList (o100033 r) (p100033 r)) [] [] (lookA [(0,.sl (iS35 l0)),(1,.fn 66 [.ptr (.sl (iS35 l1))])])
 obtain ⟨b1,c1,h2⟩:=bd_ h
 obtain ⟨b2,c3,h4⟩:=bd_ h2
 obtain rfl:=Option.some.inj h4
 exact leafRet (hn:=hn100033) 7 [.goT,.fz 12,.callH [] (.row 15) [(15,.ow true 35 (iS35 b1))],.callH [15] (.sl (iS35 b2)) []] [] .ret (.inr rfl) (by kernel_rfl) (And.intro (CallH.ren [(500000,15)] rfl rfl (ad_29 c1)) (CallH.ren [(1000000,15)] rfl rfl (ad_100063 c3))) (by kernel_rfl)

def g37_impl_less.f (k:Nat) (l0:List (S35)) (l1:List (S35)):Option (List (S35)):=(g100033_impl_kept_v1.f k l0 l1).bind fun b1 => (some (b1))

def hn37:Hint:=⟨[(6,[11])],[]⟩
def o37 (r:List (S35)):List AV:=[.sl (iS35 r)]
def p37 (r:List (S35)):List (Nat × AV):=[]
set_option maxRecDepth 100000 in
theorem ad_37 {k:Nat} {l0:List (S35)} {l1:List (S35)} {r:List (S35)} (h:g37_impl_less.f k l0 l1 = some r):CallH Try.prog 37 [.sl (iS35 l0),.sl (iS35 l1)] [] (.sl (iS35 r)) []:=by
 unfold g37_impl_less.f at h
 refine call_ok (c:=bodyOf Try.f37) (rs:=o37 r) (post:=p37 r) Try.func37 rfl rfl rfl (by kernel_rfl) ?_
 show AtP Try.prog 8 (bodyOf Try.f37) (KR Try.prog Try.f37.results.toList (o37 r) (p37 r)) [] [] (lookA [(0,.sl (iS35 l0)),(1,.sl (iS35 l1))])
 obtain ⟨b1,c1,h2⟩:=bd_ h
 obtain rfl:=Option.some.inj h2
 exact leafRet (hn:=hn37) 7 [.goT,.fz 11,.call (.sl (iS35 b1))] [] .ret (.inr rfl) (by kernel_rfl) (ad_100033 c1) (by kernel_rfl)

def g10_impl_LessHand.f (k:Nat) (l0:List (S35)) (l1:List (S35)):Option (List (S35) × Bool):=(impl_IsHand.f k l0).bind fun b1 => (if b1 = true then ((impl_IsHand.f k l1).bind fun b2 => (if b2 = true then ((g37_impl_less.f k l0 l1).bind fun b3 => (some (b3,true))) else (some (([] : List (S35)),false)))) else (some (([] : List (S35)),false)))

def hn10:Hint:=⟨[],[]⟩
def o10 (r:List (S35) × Bool):List AV:=[.sl (iS35 r.1),vb r.2]
def p10 (r:List (S35) × Bool):List (Nat × AV):=[]
set_option maxRecDepth 100000 in
theorem ad_10 {k:Nat} {l0:List (S35)} {l1:List (S35)} {r1:List (S35)} {r2:Bool} (h:g10_impl_LessHand.f k l0 l1 = some (r1,r2)):CallH Try.prog 10 [.sl (iS35 l0),.sl (iS35 l1)] [] (.tup [.sl (iS35 r1),vb r2]) []:=by
 unfold g10_impl_LessHand.f at h
 refine call_ok (c:=bodyOf Try.f10) (rs:=o10 (r1,r2)) (post:=p10 (r1,r2)) Try.func10 rfl rfl rfl (by kernel_rfl) ?_
 show AtP Try.prog 17 (bodyOf Try.f10) (KR Try.prog Try.f10.results.toList (o10 (r1,r2)) (p10 (r1,r2))) [] [] (lookA [(0,.sl (iS35 l0)),(1,.sl (iS35 l1))])
 obtain ⟨b1,c1,h2⟩:=bd_ h
 rcases ite_ h2 with ⟨g3,h4⟩ | ⟨g3,h4⟩
 ·subst g3
  obtain ⟨b2,c5,h6⟩:=bd_ h4
  rcases ite_ h6 with ⟨g7,h8⟩ | ⟨g7,h8⟩
  ·subst g7
   obtain ⟨b3,c9,h10⟩:=bd_ h8
   obtain ⟨rfl,rfl⟩:=pr2_ h10
   exact leafRet (hn:=hn10) 14 [.goT,.call (vb true),.call (vb true),.call (.sl (iS35 b3))] [] .ret (.inr rfl) (by kernel_rfl) (And.intro (And.intro (ad_13 c1) (ad_13 c5)) (ad_37 c9)) (by kernel_rfl)
  ·obtain rfl:=Bool.eq_false_iff.2 g7
   obtain ⟨rfl,rfl⟩:=pr2_ h8
   exact leafRet (hn:=hn10) 13 [.goT,.call (vb true),.call (vb false),.goT] [] .ret (.inr rfl) (by kernel_rfl) (And.intro (ad_13 c1) (ad_13 c5)) (by kernel_rfl)
 ·obtain rfl:=Bool.eq_false_iff.2 g3
  obtain ⟨rfl,rfl⟩:=pr2_ h4
  exact leafRet (hn:=hn10) 13 [.goT,.call (vb false),.goT] [] .ret (.inr rfl) (by kernel_rfl) (ad_13 c1) (by kernel_rfl)

def g19_impl_MissingFrom.f (k:Nat) (l0:List (S35)) (a1:Int):Option (List (S35) × Bool):=(impl_IsHand.f k l0).bind fun b1 => (if b1 = true then ((impl_isNumber.f a1).bind fun b2 => (if b2 = true then ((impl_isUpTo.f l0 a1).bind fun b3 => (if b3 = true then ((impl_setOf.f k a1).bind fun b4 => ((g37_impl_less.f k b4 l0).bind fun b5 => (some (b5,true)))) else (some (([] : List (S35)),false)))) else (some (([] : List (S35)),false)))) else (some (([] : List (S35)),false)))

def hn19:Hint:=⟨[],[]⟩
def o19 (r:List (S35) × Bool):List AV:=[.sl (iS35 r.1),vb r.2]
def p19 (r:List (S35) × Bool):List (Nat × AV):=[]
set_option maxRecDepth 100000 in
theorem ad_19 {k:Nat} {l0:List (S35)} {a1:Int} {r1:List (S35)} {r2:Bool} (h:g19_impl_MissingFrom.f k l0 a1 = some (r1,r2)):CallH Try.prog 19 [.sl (iS35 l0),vi a1] [] (.tup [.sl (iS35 r1),vb r2]) []:=by
 unfold g19_impl_MissingFrom.f at h
 refine call_ok (c:=bodyOf Try.f19) (rs:=o19 (r1,r2)) (post:=p19 (r1,r2)) Try.func19 rfl rfl rfl (by kernel_rfl) ?_
 show AtP Try.prog 24 (bodyOf Try.f19) (KR Try.prog Try.f19.results.toList (o19 (r1,r2)) (p19 (r1,r2))) [] [] (lookA [(0,.sl (iS35 l0)),(1,vi a1)])
 obtain ⟨b1,c1,h2⟩:=bd_ h
 rcases ite_ h2 with ⟨g3,h4⟩ | ⟨g3,h4⟩
 ·subst g3
  obtain ⟨b2,c5,h6⟩:=bd_ h4
  rcases ite_ h6 with ⟨g7,h8⟩ | ⟨g7,h8⟩
  ·subst g7
   obtain ⟨b3,c9,h10⟩:=bd_ h8
   rcases ite_ h10 with ⟨g11,h12⟩ | ⟨g11,h12⟩
   ·subst g11
    obtain ⟨b4,c13,h14⟩:=bd_ h12
    obtain ⟨b5,c15,h16⟩:=bd_ h14
    obtain ⟨rfl,rfl⟩:=pr2_ h16
    exact leafRet (hn:=hn19) 14 [.goT,.call (vb true),.call (vb true),.call (vb true),.call (.sl (iS35 b4)),.call (.sl (iS35 b5))] [] .ret (.inr rfl) (by kernel_rfl) (And.intro (And.intro (ad_13 c1) (And.intro (ad_45 c5) (ad_46 c9))) (And.intro (ad_47 c13) (ad_37 c15))) (by kernel_rfl)
   ·obtain rfl:=Bool.eq_false_iff.2 g11
    obtain ⟨rfl,rfl⟩:=pr2_ h12
    exact leafRet (hn:=hn19) 13 [.goT,.call (vb true),.call (vb true),.call (vb false),.goT] [] .ret (.inr rfl) (by kernel_rfl) (And.intro (ad_13 c1) (And.intro (ad_45 c5) (ad_46 c9))) (by kernel_rfl)
  ·obtain rfl:=Bool.eq_false_iff.2 g7
   obtain ⟨rfl,rfl⟩:=pr2_ h8
   exact leafRet (hn:=hn19) 13 [.goT,.call (vb true),.call (vb false),.goT] [] .ret (.inr rfl) (by kernel_rfl) (And.intro (ad_13 c1) (ad_45 c5)) (by kernel_rfl)
 ·obtain rfl:=Bool.eq_false_iff.2 g3
  obtain ⟨rfl,rfl⟩:=pr2_ h4
  exact leafRet (hn:=hn19) 13 [.goT,.call (vb false),.goT] [] .ret (.inr rfl) (by kernel_rfl) (ad_13 c1) (by kernel_rfl)

mutual
def laws_FnHandsAsSets.l0:Nat → List Int → List (S35) → List (S35) → List (S35) → List (S35) → List (S35) → List (S35) → Int → Int → Option (Bool)
  | 0,_,_,_,_,_,_,_,_,_ => none
  | k + 1,x1,x5,x6,x7,x11,x15,x253,x254,x255 => if x255 < x254 then (if 0 ≤ x255 then (if x255 < (x253.length:Int) then ((laws_mHas.f k x5 ((rd_T35 x253 x255).f0) ((rd_T35 x253 x255).f1)).bind fun b23 => (if b23 = true then ((laws_mHas.f k x11 ((rd_T35 x253 x255).f0) ((rd_T35 x253 x255).f1)).bind fun b24 => ((laws_mHas.f k x5 ((rd_T35 x253 x255).f0) ((rd_T35 x253 x255).f1)).bind fun b25 => (if b25 = true then ((laws_mHas.f k x6 ((rd_T35 x253 x255).f0) ((rd_T35 x253 x255).f1)).bind fun b26 => (if b24 = b26 then ((laws_mHas.f k x15 ((rd_T35 x253 x255).f0) ((rd_T35 x253 x255).f1)).bind fun b27 => ((laws_mHas.f k x5 ((rd_T35 x253 x255).f0) ((rd_T35 x253 x255).f1)).bind fun b28 => (if b28 = true then ((laws_mHas.f k x6 ((rd_T35 x253 x255).f0) ((rd_T35 x253 x255).f1)).bind fun b29 => (laws_FnHandsAsSets.j0 k x1 x5 x6 x7 x11 x15 x255 ((rd_T35 x253 x255).f0) ((rd_T35 x253 x255).f1) x253 x254 x255 (!(b27 == (!b29))))) else (laws_FnHandsAsSets.j0 k x1 x5 x6 x7 x11 x15 x255 ((rd_T35 x253 x255).f0) ((rd_T35 x253 x255).f1) x253 x254 x255 (!(b27 == false)))))) else (laws_FnHandsAsSets.j0 k x1 x5 x6 x7 x11 x15 x255 ((rd_T35 x253 x255).f0) ((rd_T35 x253 x255).f1) x253 x254 x255 true))) else (if b24 = false then ((laws_mHas.f k x15 ((rd_T35 x253 x255).f0) ((rd_T35 x253 x255).f1)).bind fun b32 => ((laws_mHas.f k x5 ((rd_T35 x253 x255).f0) ((rd_T35 x253 x255).f1)).bind fun b33 => (if b33 = true then ((laws_mHas.f k x6 ((rd_T35 x253 x255).f0) ((rd_T35 x253 x255).f1)).bind fun b34 => (laws_FnHandsAsSets.j0 k x1 x5 x6 x7 x11 x15 x255 ((rd_T35 x253 x255).f0) ((rd_T35 x253 x255).f1) x253 x254 x255 (!(b32 == (!b34))))) else (laws_FnHandsAsSets.j0 k x1 x5 x6 x7 x11 x15 x255 ((rd_T35 x253 x255).f0) ((rd_T35 x253 x255).f1) x253 x254 x255 (!(b32 == false)))))) else (laws_FnHandsAsSets.j0 k x1 x5 x6 x7 x11 x15 x255 ((rd_T35 x253 x255).f0) ((rd_T35 x253 x255).f1) x253 x254 x255 true))))) else ((laws_mHas.f k x6 ((rd_T35 x253 x255).f0) ((rd_T35 x253 x255).f1)).bind fun b35 => (if b35 = true then ((laws_mHas.f k x11 ((rd_T35 x253 x255).f0) ((rd_T35 x253 x255).f1)).bind fun b36 => ((laws_mHas.f k x5 ((rd_T35 x253 x255).f0) ((rd_T35 x253 x255).f1)).bind fun b37 => (if b37 = true then ((laws_mHas.f k x6 ((rd_T35 x253 x255).f0) ((rd_T35 x253 x255).f1)).bind fun b38 => (if b36 = b38 then ((laws_mHas.f k x15 ((rd_T35 x253 x255).f0) ((rd_T35 x253 x255).f1)).bind fun b39 => ((laws_mHas.f k x5 ((rd_T35 x253 x255).f0) ((rd_T35 x253 x255).f1)).bind fun b40 => (if b40 = true then ((laws_mHas.f k x6 ((rd_T35 x253 x255).f0) ((rd_T35 x253 x255).f1)).bind fun b41 => (laws_FnHandsAsSets.j0 k x1 x5 x6 x7 x11 x15 x255 ((rd_T35 x253 x255).f0) ((rd_T35 x253 x255).f1) x253 x254 x255 (!(b39 == (!b41))))) else (laws_FnHandsAsSets.j0 k x1 x5 x6 x7 x11 x15 x255 ((rd_T35 x253 x255).f0) ((rd_T35 x253 x255).f1) x253 x254 x255 (!(b39 == false)))))) else (laws_FnHandsAsSets.j0 k x1 x5 x6 x7 x11 x15 x255 ((rd_T35 x253 x255).f0) ((rd_T35 x253 x255).f1) x253 x254 x255 true))) else (if b36 = false then ((laws_mHas.f k x15 ((rd_T35 x253 x255).f0) ((rd_T35 x253 x255).f1)).bind fun b42 => ((laws_mHas.f k x5 ((rd_T35 x253 x255).f0) ((rd_T35 x253 x255).f1)).bind fun b43 => (if b43 = true then ((laws_mHas.f k x6 ((rd_T35 x253 x255).f0) ((rd_T35 x253 x255).f1)).bind fun b44 => (laws_FnHandsAsSets.j0 k x1 x5 x6 x7 x11 x15 x255 ((rd_T35 x253 x255).f0) ((rd_T35 x253 x255).f1) x253 x254 x255 (!(b42 == (!b44))))) else (laws_FnHandsAsSets.j0 k x1 x5 x6 x7 x11 x15 x255 ((rd_T35 x253 x255).f0) ((rd_T35 x253 x255).f1) x253 x254 x255 (!(b42 == false)))))) else (laws_FnHandsAsSets.j0 k x1 x5 x6 x7 x11 x15 x255 ((rd_T35 x253 x255).f0) ((rd_T35 x253 x255).f1) x253 x254 x255 true))))) else (laws_FnHandsAsSets.j0 k x1 x5 x6 x7 x11 x15 x255 ((rd_T35 x253 x255).f0) ((rd_T35 x253 x255).f1) x253 x254 x255 true))))) else (none)) else (none)) else (laws_FnHandsAsSets.j3 k x1)
def laws_FnHandsAsSets.j0:Nat → List Int → List (S35) → List (S35) → List (S35) → List (S35) → List (S35) → Int → Int → Int → List (S35) → Int → Int → Bool → Option (Bool)
  | 0,_,_,_,_,_,_,_,_,_,_,_,_,_ => none
  | k + 1,x1,x5,x6,x7,x11,x15,x33,x35000,x35001,x253,x254,x255,x298 => if x298 = true then (none) else (laws_FnHandsAsSets.j1 k x1 x5 x6 x7 x11 x15 x33 x35000 x35001 x253 x254 x255)
def laws_FnHandsAsSets.j1:Nat → List Int → List (S35) → List (S35) → List (S35) → List (S35) → List (S35) → Int → Int → Int → List (S35) → Int → Int → Option (Bool)
  | 0,_,_,_,_,_,_,_,_,_,_,_,_ => none
  | k + 1,x1,x5,x6,x7,x11,x15,x33,x35000,x35001,x253,x254,x255 => if x33 > 0 then (if 0 ≤ (wrap64 (x33 - 1)) then (if (wrap64 (x33 - 1)) < (x7.length:Int) then ((impl_RankOf.f k ((rd_T35 x7 (wrap64 (x33 - 1))).f0) ((rd_T35 x7 (wrap64 (x33 - 1))).f1)).bind fun b30 => ((impl_RankOf.f k x35000 x35001).bind fun b31 => (if b30.2 = true then (if b31.2 = true then (if b30.1 ≥ b31.1 then (none) else (laws_FnHandsAsSets.j2 k x1 x5 x6 x7 x11 x15 x253 x254 x255)) else (none)) else (none)))) else (none)) else (none)) else (laws_FnHandsAsSets.j2 k x1 x5 x6 x7 x11 x15 x253 x254 x255)
def laws_FnHandsAsSets.j2:Nat → List Int → List (S35) → List (S35) → List (S35) → List (S35) → List (S35) → List (S35) → Int → Int → Option (Bool)
  | 0,_,_,_,_,_,_,_,_,_ => none
  | k + 1,x1,x5,x6,x7,x11,x15,x253,x254,x255 => laws_FnHandsAsSets.l0 k x1 x5 x6 x7 x11 x15 x253 x254 (wrap64 (x255 + 1))
def laws_FnHandsAsSets.j3:Nat → List Int → Option (Bool)
  | 0,_ => none
  | k + 1,x1 => (spec_DrawMissingFrom.f k x1).bind fun b45 => ((g19_impl_MissingFrom.f k b45.1 b45.2).bind fun b46 => ((spec_MissingFrom.f k b45.1 b45.2).bind fun b47 => (if b46.2 = b47.2 then ((laws_mTiles.f k b46.1 b47.1).bind fun b48 => (if b48 = true then (if b46.2 = true then (if true = b47.2 then ((impl_SetOf.f k b45.2).bind fun b49 => ((g6_impl_JoinHands.f k b46.1 b45.1).bind fun b50 => ((impl_CountSet.f k b45.2).bind fun b51 => (if b49.2 = true then (if b50.2 = true then ((laws_mTiles.f k b50.1 b49.1).bind fun b52 => (if b52 = true then (if b51.2 = true then (if (wrap64 ((b46.1.length:Int) + (b45.1.length:Int))) = b51.1 then (laws_FnHandsAsSets.j4 k x1) else (none)) else (none)) else (none))) else (none)) else (none))))) else (none)) else (if false = b47.2 then (laws_FnHandsAsSets.j4 k x1) else (none))) else (none))) else (none))))
def laws_FnHandsAsSets.j4:Nat → List Int → Option (Bool)
  | 0,_ => none
  | k + 1,x1 => (spec_DrawSortHand.f k x1).bind fun b53 => ((impl_SortHand.f k b53).bind fun b54 => ((spec_SortHand.f k b53).bind fun b55 => ((impl_PipsOf.f k b53).bind fun b56 => ((spec_PipsOf.f k b53).bind fun b57 => (if b54.2 = b55.2 then ((laws_mTiles.f k b54.1 b55.1).bind fun b58 => (if b58 = true then (if b56.2 = b57.2 then (if b56.1 = b57.1 then ((impl_IsHand.f k b53).bind fun b59 => ((spec_IsHand.f k b53).bind fun b60 => (if b59 = b60 then ((impl_IsHand.f k b53).bind fun b61 => (some ((b54.2 == b61)))) else (none)))) else (none)) else (none)) else (none))) else (none))))))
end
def laws_FnHandsAsSets.f (k:Nat) (l0:List Int) (l1:List Int):Option (Bool):=(laws_big.f l0 l1).bind fun b1 => (if b1 = true then (some (true)) else ((spec_DrawJoinHands.f k l0).bind fun b2 => ((g6_impl_JoinHands.f k b2.1 b2.2).bind fun b3 => ((spec_JoinHands.f k b2.1 b2.2).bind fun b4 => ((g8_impl_BothHands.f k b2.1 b2.2).bind fun b5 => ((spec_BothHands.f k b2.1 b2.2).bind fun b6 => ((g10_impl_LessHand.f k b2.1 b2.2).bind fun b7 => ((spec_LessHand.f k b2.1 b2.2).bind fun b8 => (if b3.2 = b4.2 then ((laws_mTiles.f k b3.1 b4.1).bind fun b9 => (if b9 = true then (if b5.2 = b6.2 then ((laws_mTiles.f k b5.1 b6.1).bind fun b10 => (if b10 = true then (if b7.2 = b8.2 then ((laws_mTiles.f k b7.1 b8.1).bind fun b11 => (if b11 = true then ((impl_IsHand.f k b2.1).bind fun b12 => (if b12 = true then ((impl_IsHand.f k b2.2).bind fun b13 => (if b3.2 = b13 then (if b5.2 = b3.2 then (if b7.2 = b3.2 then (if b3.2 = true then (if true = b4.2 then (if true = b13 then (if b5.2 = true then (if true = b6.2 then (if b7.2 = true then (if true = b8.2 then ((impl_PipsOf.f k b2.1).bind fun b14 => ((impl_PipsOf.f k b2.2).bind fun b15 => ((impl_PipsOf.f k b3.1).bind fun b16 => ((impl_PipsOf.f k b5.1).bind fun b17 => ((g6_impl_JoinHands.f k b7.1 b5.1).bind fun b18 => ((impl_SortHand.f k b2.1).bind fun b19 => ((g6_impl_JoinHands.f k b2.2 b2.1).bind fun b20 => (if b14.2 = true then (if b15.2 = true then (if b16.2 = true then (if b17.2 = true then (if (wrap64 (b14.1 + b15.1)) = (wrap64 (b16.1 + b17.1)) then (if (wrap64 ((b2.1.length:Int) + (b2.2.length:Int))) = (wrap64 ((b3.1.length:Int) + (b5.1.length:Int))) then (if b18.2 = true then (if b19.2 = true then ((laws_mTiles.f k b18.1 b19.1).bind fun b21 => (if b21 = true then (if b20.2 = true then ((laws_mTiles.f k b20.1 b3.1).bind fun b22 => (if b22 = true then (laws_FnHandsAsSets.l0 k l1 b2.1 b2.2 b3.1 b5.1 b7.1 b3.1 (b3.1.length:Int) 0) else (none))) else (none)) else (none))) else (none)) else (none)) else (none)) else (none)) else (none)) else (none)) else (none)) else (none))))))))) else (none)) else (if false = b8.2 then (none) else (none))) else (none)) else (if false = b6.2 then (none) else (none))) else (none)) else (none)) else (if false = b4.2 then (if false = b13 then (if b5.2 = false then (if b7.2 = false then (laws_FnHandsAsSets.j3 k l1) else (none)) else (none)) else (none)) else (none))) else (none)) else (none)) else (none))) else (if b3.2 = false then (if b5.2 = b3.2 then (if b7.2 = b3.2 then (if b3.2 = true then (if true = b4.2 then (none) else (none)) else (if false = b4.2 then (if b5.2 = false then (if b7.2 = false then (laws_FnHandsAsSets.j3 k l1) else (none)) else (none)) else (none))) else (none)) else (none)) else (none)))) else (none))) else (none)) else (none))) else (none)) else (none))) else (none))))))))))
end Go.Proofs.Ytkaafmnfcbgafaa.QFnHandsAsSets
